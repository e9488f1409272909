/- DebtNets: a part (3 of 9) of the proof of its row. -/
import Derived.Test.YtmeophcclkejkaaGreatNea
import Derived.Test.YtmeophcclkejkaaGreatNeb
import Derived.Test.YtmeophcclkejkaaGreatRows
import Derived.Test.YtmeophcclkejkaaGreatChecked
import Derived.Conc.LeavingOf
import Derived.Conc.HoldsTime
import Derived.Carry
import Derived.ChangeSame
import Derived.ChangeVars
import Derived.ChangeSlices
import Derived.JoinedOf
import Derived.RowKit
import Derived.Deep.Strs
import Derived.Stop.Joined
import Derived.Test.YtmeophcclkejkaaGreatProg
set_option linter.all false
set_option maxRecDepth 100000
namespace Pal
open Go Go.Conc
open Go.ConcN (sumTo upd sumTo_upd upd_ne upd_same)
def LC(P:Program)(R:Value->St->Prop):GP:=λg s=>
 g.status= .running/\∃v,R v s/\∀w,stepG P true g w= .ended (.done v) w #[]
section
variable {P:Program}{R:Value->St->Prop}{J:Judge P}{n:Nat}{L:Env}{s:St}{b:Frame}
theorem JO.end{fn:Func}{t:Tmp}{v:Value}(K:b.kind= .normal)(hi:P.inits.idxOf? b.fn=none)(O:P.funcs[b.fn]? =some fn)(U:fn.results= #[.tmp t])(Y:look L t=some v)(Z:R v s):JO J (LC P R) b n L [] [] s:=λT ac todo=>by
 refine J.stop ⟨rfl,v,Z,λw=>?_⟩
 have e:results fn T=Sem.pure v:=by
  have:=ac.at_ t v Y;simp only [results,U,Array.mapM_eq_mapM_toList];show Sem.pure (T.getD t undef)=_;rw [this]
 have ag:(results fn T).run P w= .ok v w:=by rw [e];rfl
 have e2:(results fn T).events P w #[]= #[]:=by rw [e];simp [Sem.events_pure']
 simp [G,stepG,unwind,Eo,O,ag,e2,doReturn,K,GStep.after,hi,seen_none]
end
section
variable {P:Program}{R:Value->St->Prop}
def After(P:Program)(R:Value->St->Prop)(K:World)(s₀:St)(v:Value)(w':World):Prop:=
 ∃s,R v s/\Fits s w'/\(∀b o,s₀.E b=some o->s.E b=some o)/\w'.tape=K.tape/\Gf K.os w'.os/\w'.output=K.output
def P7(P:Program)(R:Value->St->Prop)(K:World)(s₀:St)(O:Nat)(m:Machine)(t:Trace):Prop:=
 ∃gs w sl q Sh g s,m=crowd gs w sl/\Hi P gs w t q Sh g s/\LC P R g s/\O=sumTo gs.size q/\(∀b o,s₀.E b=some o->s.E b=some o)/\w.tape=K.tape/\Gf K.os w.os/\w.output=K.output
theorem We{ap:World}{s₀:St}(az:Nat)(m:Machine)(t:Trace)(h:P7 P R ap s₀ az m t):
  (∃o w ops,stepT P m=(.ended o w,ops)/\Good P (After P R ap s₀) m o w (t++ops))∨(∃m' ops a0,stepT P m=(.next m',ops)/\a0<az/\P7 P R ap s₀ a0 m' (t++ops)):=by
 obtain⟨gs,w,sl,q,Sh,g,s,rfl,hC,bn,rfl,a1,a2,a3,a4⟩:=h;obtain⟨ac,v,a5,a6⟩:=bn;have bo:∀x∈gs,awake x:=by
  intro x Y;obtain⟨i,hi,rfl⟩:=Array.mem_iff_getElem.1 Y;rcases Nat.eq_zero_or_pos i with rfl | aq
  ·have:gs[0]=g:=by simpa [Array.getElem?_eq_getElem hi] using hC.main
   rw [this];exact awake_of (.inl ac)
  ·exact awake_of ((hC.lv.old i _ aq (Array.getElem?_eq_getElem hi)).status.elim .inl λx=> .inr (.inr x))
 obtain⟨i,x,d,a7,hi,Y,a8⟩:=crowd_pick (P:=P) (w:=w) (sl:=sl) bo ⟨0,g,hC.main,ac⟩;have a9:=hC.at_ d;have bq:0<gs.size:=(Array.getElem?_eq_some_iff.1 hC.main).1;have br:∀(a:Nat) (fn:FuncId) (pos:String),MemOp.ofEvents a fn pos #[]= #[]:=λa fn pos=>by rw [ofEvents_eq];simp
 rcases Nat.eq_zero_or_pos i with rfl | aq
 ·obtain rfl:x=g:=by rw [hC.main] at hi;exact(Option.some.inj hi).symm
  have ag:=runT_many_ended (P:=P) (sl:=a7) (i:=0) hi (show stepG P (0==0) x (w.at d)=_ from a6 (w.at d));rw [br] at ag;refine .inl ⟨_,_,_,a8.trans ag,v,rfl,⟨s,a5,a9.Cd.fits 0 bq,a1,a2,a3,a4⟩,?_,?_,⟨λy K=>?_,rfl⟩,λj y K O=>?_⟩
  ·simpa using hC.Cd.clean
  ·simpa using hC.over
  ·obtain⟨j,O⟩:=List.mem_iff_getElem?.1 K;rw [List.getElem?_drop] at O;exact⟨_,(hC.lv.old (1+j) y (by omega) (by simpa [crowd] using O)).leaves⟩
  ·have Z:=hC.lv.old j y (by omega) K;exact⟨q j,by simp only [Array.append_empty];exact Z.hears w⟩
 ·have Z:=hC.lv.old i x aq hi;have bu:(i==0)=false:=by simp;omega
  have bb:i<gs.size:=(Array.getElem?_eq_some_iff.1 hi).1;cases aw:q i with
  | zero=>rw [aw] at Z;rw [Z.1] at Y;cases Y
  | succ k=>
   rw [aw] at Z;rcases Z with⟨bv,_⟩ | ⟨_,x',es,hm,bw,bx⟩
   ·rw [bv] at Y;cases Y
   have bC:sumTo gs.size (upd q i k)+(k+1)=sumTo gs.size q+k:=by
    have:=sumTo_upd q k id bb;simpa [aw] using this
   have ag:=runT_crowd_go (P:=P) (sl:=a7) (i:=i) hi (by rw [bu];exact bw (w.at d));have ay:((gs.map (woken P x x' (w.at d))).setIfInBounds i x').size=gs.size:=by simp
   have al:∀op∈MemOp.ofEvents i x.frame.fn x.frame.place es,op.g=i:=λop U=>by obtain⟨e,_,rfl⟩:=mem_ofEvents U;rfl
   have be:∀op∈MemOp.ofEvents i x.frame.fn x.frame.place es,op.act.touch? =none:=λop U=>by obtain⟨e,he,rfl⟩:=mem_ofEvents U;exact touch_mute (hm e he)
   have bz:Hi P ((gs.map (woken P x x' (w.at d))).setIfInBounds i x') (w.at d) (t++MemOp.ofEvents i x.frame.fn x.frame.place es) (upd q i k) Sh g s:=by
    refine⟨?_,⟨λj y O K=>?_,λj O=>?_⟩,?_,?_,?_⟩
    ·have bA:i≠0:=by omega
     rw [Array.getElem?_setIfInBounds_ne bA,Array.getElem?_map,hC.main];simp [woken_run ac]
    ·by_cases am:i=j
     ·subst am;rw [Array.getElem?_setIfInBounds_self_of_lt (by simpa using bb)] at K;obtain rfl:=Option.some.inj K;rw [upd_same,Deaf_own];exact bx
     ·rw [Array.getElem?_setIfInBounds_ne am,Array.getElem?_map] at K;obtain⟨z,bB,rfl⟩:=Option.map_eq_some_iff.1 K;have bi:=hC.lv.old j z O bB;rw [woken_quitsD bi,upd_ne q k (Ne.symm am),Deaf_other t am _ al];exact bi
    ·rw [Deaf_other t (g':=i) (by simp at O;omega) _ al];exact hC.lv.above j (by simpa using O)
    ·rw [ay];exact a9.Cd.mute al be (λop U=>by obtain⟨e,he,rfl⟩:=mem_ofEvents U;exact low_mute (hm e he) _) rfl
    ·exact handedOver_app hC.over λop U=> .inr (be op U)
    ·rw [Deaf_other t (by omega) _ al];exact hC.hears
   exact .inr ⟨_,_,_,a8.trans ag,by rw [← ay];rw [ay];omega,_,_,_,_,_,_,_,rfl,bz,⟨ac,v,a5,a6⟩,rfl,a1,a2,a3,a4⟩
theorem ends{gs:Array Goroutine}{w:World}{sl:Option (Nat×Nat)}{t:Trace}{q:Nat->Nat}{Sh:Nat->Prop}{g:Goroutine}{s:St}(hC:Hi P gs w t q Sh g s)(O:LC P R g s):
  ∃N last o w' K,runNT P (N+1) (crowd gs w sl) t=(.ended o w',K)/\runN P N (crowd gs w sl)= .next last/\step P last= .ended o w'/\Good P (After P R w s) last o w' K:=
 run_of_inv Nat.lt_wfRel.wf (P7 P R w s) (Good P (After P R w s)) We _ _ _ ⟨gs,w,sl,q,Sh,g,s,rfl,hC,O,rfl,λ_ _ h=>h,rfl,.refl _,rfl⟩
theorem US{m m':Machine}{t K:Trace}{n:Nat}(h:runNT P n m t=(.next m',K)):runN P n m= .next m':=by rw [← runNT_fst P n m t,h]
def FM(W:World):St:=⟨λb=>W.heap[b]?,λ_=>none,false⟩
theorem WE{W:World}{g:Goroutine}(h:(GI P).ok (LC P R) g (FM W)):
  ∃M last o w' K,runNT P (M+1) (solo g W) #[]=(.ended o w',K)/\runN P M (solo g W)= .next last/\step P last= .ended o w'/\Good P (After P R W (FM W)) last o w' K:=by
 have hC:Hi P #[g] W #[] (λ_=>0) (λ_=>False) g (FM W):=by
  have Y:∀{i:Nat} {a:Touch},touchAt #[] i=some a->False:=λ{i a} h=>by simp [touchAt,Trace.act?] at h
  refine⟨rfl,leavers_one P g,⟨λi hi=>?_,λi j hi ac bn=>by simp at hi ac;omega,λi hi b hb=>hb.elim,λb hb=>hb.elim,λsaid=>?_,by simp,λi _ b _ x a O=>(Y O).elim,λi _ b _ x a O=>(Y O).elim⟩,λi g ag=>by simp [Trace.g?] at ag,rfl⟩
  ·have:i=0:=by simp at hi;exact hi
   subst this;exact⟨λb o U=>U,λb o U=>(by cases U),λb _=>rfl⟩
  ·rintro⟨i,j,_,⟨a,b,al,_⟩,_⟩;simp [Trace.act?] at al
 obtain⟨n,gs',w',am,K,q',bo,g',s',Z,ap,aq,aw,ay,az,a0⟩:=h #[g] W none #[] _ _ hC;obtain⟨N,last,o,a2,a3,k1,a4,a5,a6⟩:=ends (sl:=am) ap aq;refine⟨n+N,last,o,a2,a3,?_,?_,a5,?_⟩
 ·rw [solo_eq_crowd,Nat.add_assoc,runNT_add,Z];exact k1
 ·have a7:=US Z;rw [solo_eq_crowd,runN_add,a7];exact a4
 ·obtain⟨v,e,⟨s2,a1,a8,a9,bb,be,bi⟩,r⟩:=a6;exact⟨v,e,⟨s2,a1,a8,λb o hb=>a9 b o (aw b o hb),bb.trans ay,az.trans be,bi.trans a0⟩,r⟩
end
end Pal
namespace Pal
open Go Go.Conc
theorem VX{P:Program}{Q:Gs_}{E H:LH}{f:FuncId}{fn:Func}{c:Code}{vs:Lv_}(U:P.funcs[f]? =some fn)(hb:fn.body=some c)(ag:fn.ntmps=fn.ntmps)(al:vs.length<=fn.ntmps)
  (h:JL (GI P) Q (base f) fn.ntmps (Ga 0 vs) [] [.code c] [] (Ak E H [[]])):(GI P).ok Q (G (Frame.enter P f vs.toArray .normal) []) (mk E H []):=by
 have he:Frame.enter P f vs.toArray .normal=fr (base f) (vs.toArray++Array.replicate (fn.ntmps - vs.length) undef) [] [.code c]:=by
  simp [Frame.enter,fr,U,hb,base];rfl
 rw [he];have Y:mk E H []=Ak E H [[]]:=by unfold Ak;simp
 rw [Y];refine h _ ⟨by simp;omega,λt v Z=>?_⟩;obtain⟨_,K⟩:=Jj Z;have ac:t<vs.length:=by
  rcases Nat.lt_or_ge t vs.length with O | O
  ·exact O
  ·simp at K;have:=(List.getElem?_eq_some_iff.1 K).1;omega
 rw [Array.getD_eq_getD_getElem?,Array.getElem?_append_left (by simpa using ac)];simp at K;simp [K]
end Pal
namespace Pal
open Go Go.Conc Go.Proofs Go.ChangeShapes Go.WideShapes Go.ChangeAt Go.RowKit
open Go.Proofs.YtmeophcclkejkaaGreat
theorem Tryz.own:ownKnob Tryz.prog.godebug=none:=by kernel_rfl
theorem Tryz.laidOut:laidOutB Tryz.prog=true:=by kernel_rfl
theorem Tryz.Tw:Tryz.prog.cellsOf 3=1:=by kernel_rfl
theorem Tryz.Xx:Tryz.prog.cellsOf 28=1:=by kernel_rfl
theorem Tryz.XJ:Tryz.prog.cellsOf 22=1:=by kernel_rfl
theorem Tryz.XF:Tryz.prog.cellsOf 23=1:=by kernel_rfl
theorem Tryz.XL:Tryz.prog.cellsOf 25=2:=by kernel_rfl
theorem Tryz.Si:Tryz.prog.cellsOf 27=3:=by kernel_rfl
theorem UE{R:Value->St->Prop}{W w':World}{v:Value}(h:After Tryz.prog R W (FM W) v w'):(∃s,R v s)/\Below W.heap.size W {w' with os:=W.os}/\Go.ConcM.OsLater W.os w'.os:=by
 obtain⟨s,Y,Z,ac,ag,al,am⟩:=h;have hb:∀k,k<W.heap.size->w'.heap[k]? =W.heap[k]? :=λk O=>by
  have K:(FM W).E k=some W.heap[k]:=Array.getElem?_eq_getElem O;have U:=Z.e k _ (ac k _ K);rw [U,Array.getElem?_eq_getElem O]
 refine⟨⟨s,Y⟩,⟨rfl,ag,am,?_,hb⟩,al⟩;show W.heap.size<=w'.heap.size;rcases Nat.eq_zero_or_pos W.heap.size with ap | ap
 ·omega
 ·have K:=hb (W.heap.size - 1) (by omega);have aq:W.heap[W.heap.size - 1]? =some W.heap[W.heap.size - 1]:=Array.getElem?_eq_getElem (by omega);rw [aq] at K;have U:=(Array.getElem?_eq_some_iff.1 K).1;omega
theorem QW(a:Addr):a.add 0=a:=by unfold Addr.add;rw [if_pos rfl]
section
variable {H:Type}{enc:TypeId×Value->H}{W:World}{fuel:Nat}{cs:Lv_}{x:DataW H×List MemPlace}
theorem W1{b off:Nat}{v:Value}(h:W.cell? ⟨b,off,none⟩=some v):At (FM W).E b off [v]:=by
 unfold World.cell? at h;split at h
 ·rename_i c e f hW;simp only [Option.isSome_none,Bool.false_eq_true,if_false] at h;refine⟨c,e,f,hW,λj w K=>?_⟩
  match j,K with
  | 0,K=>simp at K;subst K;simpa using h
  | j+1,K=>simp at K
 ·cases h
theorem VE{b off:Nat}(O:0<cs.length)(h:∀j,j<cs.length->W.cell? ⟨b,off+j,none⟩=cs[j]?):At (FM W).E b off cs:=by
 have U:=h 0 O;rw [List.getElem?_eq_getElem O] at U;obtain⟨f,e,fr,Y,_⟩:=W1 U;have hW:W.heap[b]? =some (.cells f e fr):=Y;refine⟨f,e,fr,Y,λj w Z=>?_⟩;have ac:=(List.getElem?_eq_some_iff.1 Z).1;have K:=h j ac;rw [Z] at K;unfold World.cell? at K;simp only [hW] at K;simpa using K
theorem Pn{α:Type}{p:Rp α}{t e:TypeId}(a2:Tryz.prog.underlying t=some (.slice e))(a3:Tryz.prog.cellsOf e=p.n)(a4:0<p.n)
  (a5:∀n cs x,DataW.trod enc Tryz.prog W 0 (λ_=>true) true n e cs=some x->∃v,p.r (FM W).E cs v)
  (a6:DataW.trod enc Tryz.prog W 0 (λ_=>true) true fuel t cs=some x):∃(a:Option Addr) (c:Nat) (aq:List α),cs= [.slice a aq.length c]/\Al p (FM W).E a c aq:=by
 rcases DataW.trod_slice a2 a6 with⟨ac,a7⟩ | ⟨a,len,cap,elems,rest,n,_,ac,a7,_,a8,_,hlen,aw,ay,_⟩
 ·exact⟨none,0,[],ac,Al.nil⟩
 ·rw [a3] at aw ay;rcases Nat.eq_zero_or_pos cap with az | az
  ·have:len=0:=by omega
   subst this;subst az;exact⟨some a,0,[],ac,Nat.le_refl _,.inl ⟨rfl,λ_ _=> .inr rfl⟩⟩
  ·have a0:∀i,i<len->∃vs y,vs.length=p.n/\(∀j,j<p.n->W.cell? ((a.add (i*p.n)).add j)=vs[j]?)/\DataW.trod enc Tryz.prog W 0 (λ_=>true) true n e vs=some y:=λi hi=>by
    have K:=aw i hi;rw [List.getElem?_eq_getElem (by omega)] at K;obtain⟨vs,al,Y⟩:=Option.bind_eq_some_iff.1 K;obtain⟨_,O,am⟩:=World.cells?_some al;exact⟨vs,_,O,am,Y⟩
   have ap:a.spot=none:=by
    have key:∀vs:Lv_,vs.length=p.n->(∀j,j<p.n->W.cell? ((a.add (0*p.n)).add j)=vs[j]?)->a.spot=none:=λvs ag U=>by
     have:=U 0 a4;rw [List.getElem?_eq_getElem (by omega),QW,Nat.zero_mul,QW] at this;exact World.cell?_spot this
    rcases Nat.eq_zero_or_pos len with K | K
    ·obtain⟨al,Y⟩:=ay rfl;have O:=Y 0 (by omega);rw [List.getElem?_eq_getElem (by omega)] at O;obtain⟨vs,am,_⟩:=Option.bind_eq_some_iff.1 O;obtain⟨_,ag,U⟩:=World.cells?_some am;rw [K] at U;exact key vs ag U
    ·obtain⟨vs,y,ag,U,_⟩:=a0 0 K;exact key vs ag U
   have a1:∀i:Fin len,∃z:α,∃vs,p.r (FM W).E vs z/\At (FM W).E a.block (a.off+i*p.n) vs:=λi=>by
    obtain⟨vs,y,al,Y,O⟩:=a0 i i.2;obtain⟨z,Z⟩:=a5 _ _ _ O;refine⟨z,vs,Z,VE (by omega) λj a9=>?_⟩;have:=Y j (by omega);rw [Ec ap,Ec rfl] at this;exact this
   refine⟨some a,cap,List.ofFn λi=>Classical.choose (a1 i),by simpa using ac,by simpa using a8,.inr ⟨a.block,a.off,?_,λi z Z=>?_⟩⟩
   ·obtain⟨b,o,s⟩:=a;simp only at ap;subst ap;rfl
   ·have hi:i<len:=by have:=(List.getElem?_eq_some_iff.1 Z).1;simpa using this
    simp [hi] at Z;have:=Classical.choose_spec (a1 ⟨i,hi⟩);rw [Z] at this;exact this
theorem M3(h:DataW.trod enc Tryz.prog W 0 (λ_=>true) true fuel 3 cs=some x):∃z:Int,cs= [iV z]:=by
 obtain⟨n1,K,_⟩:=DataW.trod_int Tryz.underlying3 h;exact⟨n1,K⟩
theorem Rt(O:DataW.trod enc Tryz.prog W 0 (λ_=>true) true fuel 28 cs=some x):∃(a:Option Addr) (c:Nat) (K:List Int),cs= [.slice a K.length c]/\Al rI (FM W).E a c K:=
 Pn (p:=rI) Tryz.underlying28 Tryz.Tw Nat.one_pos (λn cs x h=>by
  obtain⟨z,rfl⟩:=M3 h
  exact⟨z,rfl⟩) O
theorem Wx(O:DataW.trod enc Tryz.prog W 0 (λ_=>true) true fuel 22 cs=some x):∃(a:Option Addr) (c:Nat) (K:List (List Int)),cs= [.slice a K.length c]/\Al (rL rI) (FM W).E a c K:=
 Pn (p:=rL rI) Tryz.underlying22 Tryz.Xx Nat.one_pos (λn cs x h=>by
  obtain⟨a,c,K,e,g⟩:=Rt h
  exact⟨K,a,c,e,g⟩) O
theorem QZ(h:DataW.trod enc Tryz.prog W 0 (λ_=>true) true fuel 27 cs=some x):∃v:Int×Int×Int,cs= [iV v.1,iV v.2.1,iV v.2.2]:=by
 obtain⟨y0,al,am,n,_,U,Y,Z,ac⟩:=Go.Deep.trod_struct3 Tryz.underlying27 h;obtain⟨n1,K⟩:=M3 Y;obtain⟨n2,e2⟩:=M3 Z;obtain⟨ag,O⟩:=M3 ac;rw [Tryz.Si] at U;rw [Pal.Tryz.Tw] at K e2 O;refine⟨(n1,n2,ag),?_⟩
 match cs,U with
 | [u,w,z],_=>simp at K e2 O;rw [K,e2,O]
theorem Vt(O:DataW.trod enc Tryz.prog W 0 (λ_=>true) true fuel 23 cs=some x):∃(a:Option Addr) (c:Nat) (K:List (Int×Int×Int)),cs= [.slice a K.length c]/\Al (rP rI (rP rI rI)) (FM W).E a c K:=
 Pn (p:=rP rI (rP rI rI)) Tryz.underlying23 Tryz.Si (by decide) (λn cs x h=>by
  obtain⟨v,rfl⟩:=QZ h
  exact⟨v,[iV v.1],[iV v.2.1,iV v.2.2],rfl,rfl,[iV v.2.1],[iV v.2.2],rfl,rfl,rfl⟩) O
theorem Vi{v:Value}{Y:Nat}{d:DataW H}{p:List MemPlace}(Z:Value.okWide Tryz.prog W .any Y 25 v)(hd:DataW.Trod enc Tryz.prog W 0 (λ_=>true) true 25 v d p):
  ∃(a1:Option Addr) (c1:Nat) (K:Option Addr) (c2:Nat) (o:List (List Int)×List (Int×Int×Int)),v= .agg #[.slice a1 o.1.length c1,.slice K o.2.length c2]/\Al (rL rI) (FM W).E a1 c1 o.1/\Al (rP rI (rP rI rI)) (FM W).E K c2 o.2:=by
 obtain⟨cs,rfl,U⟩:=okWide_struct Tryz.underlying25 Z;obtain⟨fuel,ac⟩:=hd;obtain⟨y0,aq,n,_,aw,ag,al⟩:=trod_struct2 Tryz.underlying25 ac;obtain⟨a1,c1,z1,O,am⟩:=Wx ag;obtain⟨K,c2,ap,e2,g2⟩:=Vt al;refine⟨a1,c1,K,c2,(z1,ap),?_,am,g2⟩;rw [Tryz.XJ] at O;rw [Tryz.XL] at U;rw [Tryz.XF] at e2;simp only [Value.cells,List.drop_zero] at O e2;obtain⟨l⟩:=cs
 match l,U with
 | [u,w],_=>
  simp at O e2;rw [O,e2]
theorem WX{v:Value}{O:Nat}{d:DataW H}{p:List MemPlace}(U:Value.okWide Tryz.prog W .any O 28 v)(hd:DataW.Trod enc Tryz.prog W 0 (λ_=>true) true 28 v d p):
  ∃(a:Option Addr) (c:Nat) (K:List Int),v= .slice a K.length c/\Al rI (FM W).E a c K:=by
 obtain⟨Z,len,cap,rfl⟩:=okWide_slice Tryz.underlying28 U;obtain⟨fuel,Y⟩:=hd;obtain⟨a,c,K,e,g⟩:=Rt Y;simp [Value.cells] at e;obtain⟨rfl,rfl,rfl⟩:=e;exact⟨_,_,_,rfl,g⟩
theorem WZ{v:Value}{K:Nat}{d:DataW H}{p:List MemPlace}(O:Value.okWide Tryz.prog W .any K 27 v)(hd:DataW.Trod enc Tryz.prog W 0 (λ_=>true) true 27 v d p):∃l:Int×Int×Int,v= .agg #[iV l.1,iV l.2.1,iV l.2.2]:=by
 obtain⟨cs,rfl,Y⟩:=okWide_struct Tryz.underlying27 O;obtain⟨fuel,U⟩:=hd;obtain⟨l,e⟩:=QZ U;simp only [Value.cells] at e;refine⟨l,?_⟩;obtain⟨k⟩:=cs;simp only at e;rw [e]
end
end Pal
namespace Pal
open Go Go.Conc
def Hh(K:Bool)(ws:Lv_):Value:=if K then .agg ws.toArray else ws.headD undef
def Vr{α:Type}(pp:Rp α)(K:Bool)(E:LH)(v:Value)(x:α):Prop:=∃ws,pp.r E ws x/\v=Hh K ws
theorem Vr.Ag{α:Type}{pp:Rp α}{K:Bool}{E E':LH}{v:Value}{x:α}(h:Vr pp K E v x)(hle:Le E E'):Vr pp K E' v x:=
 let ⟨ws,O,U⟩:=h;⟨ws,pp.Ag hle O,U⟩
structure FK (P:Program) (t:TypeId) {κ:Type} [DecidableEq κ] (pk:Rp κ) (ka:Bool):Prop where
 BL:∀{em:Bool} {E:LH} {v:Value} {x:κ} {s:St} {Q:Unit->St->Prop} {X:Halt->St->Prop},Vr pk ka E v x->Q () s->lp P (Instr.checkKey em 10000 t v) s Q X
 kind:∃kd,P.underlying t=some kd/\((∀v w,Instr.sameNow kd v w=none)∨∀{E:LH} {v w:Value} {x y:κ},Vr pk ka E v x->Vr pk ka E w y->Instr.sameNow kd v w=some (decide (x=y)))
 eq:∀{E:LH} {v w:Value} {x y:κ} {s:St} {Q:Bool->St->Prop} {X:Halt->St->Prop},Vr pk ka E v x->Vr pk ka E w y->Q (decide (x=y)) s->lp P (Op.equal t v w) s Q X
 same:∀{E:LH} {v:Value} {x:κ},Vr pk ka E v x->Instr.sameBits 10000 v v=true
 uniq:∀{E:LH} {v w:Value} {x:κ},Vr pk ka E v x->Vr pk ka E w x->v=w
section
variable {κ ν:Type} [DecidableEq κ] {pk:Rp κ}{pv:Rp ν}{ka va:Bool}{E E':LH}
def C8(pk:Rp κ)(ka:Bool)(pv:Rp ν)(va:Bool)(E:LH):List MapEntry->List (κ×ν)->Prop
 | [],[]=>True
 | e::es,x::xs=>Vr pk ka E e.key x.1/\Vr pv va E e.val x.2/\C8 pk ka pv va E es xs
 | _,_=>False
theorem C8.Ag(hle:Le E E'):∀{es:List MapEntry} {xs:List (κ×ν)},C8 pk ka pv va E es xs->C8 pk ka pv va E' es xs
 | [],[],_=>trivial
 | e::es,x::xs,h=>⟨h.1.Ag hle,h.2.1.Ag hle,C8.Ag hle h.2.2⟩
 | [],_::_,h=>h.elim
 | _::_,[],h=>h.elim
theorem C8.len:∀{es:List MapEntry} {xs:List (κ×ν)},C8 pk ka pv va E es xs->es.length=xs.length
 | [],[],_=>rfl
 | e::es,x::xs,h=>by simp [C8.len h.2.2]
 | [],_::_,h=>h.elim
 | _::_,[],h=>h.elim
def Ee(x:κ):List MapEntry->List (κ×ν)->Nat->Option (Nat×Value)
 | e::es,y::ys,i=>if x=y.1 then some (i,e.val) else Ee x es ys (i+1)
 | _,_,_=>none
def Bh(xs:List (κ×ν))(x:κ):Option ν:=(xs.find? λy=>decide (x=y.1)).map (·.2)
def Bo(xs:List (κ×ν))(x:κ)(v:ν):List (κ×ν):=match xs with
 | []=> [(x,v)]
 | y::ys=>if x=y.1 then(x,v)::ys else y::Bo ys x v
theorem O6{x:κ}:∀{es:List MapEntry} {xs:List (κ×ν)} {i:Nat},C8 pk ka pv va E es xs->(Ee x es xs i=none/\Bh xs x=none)∨∃j w v0,Ee x es xs i=some (j,w)/\Bh xs x=some v0/\Vr pv va E w v0
 | [],[],i,_=> .inl ⟨rfl,rfl⟩
 | e::es,y::ys,i,h=>by
  unfold Ee Bh
  by_cases K:x=y.1
  ·exact .inr ⟨i,e.val,y.2,by rw [if_pos K],by simp [K],h.2.1⟩
  ·rcases O6 (x:=x) (i:=i+1) h.2.2 with⟨O,U⟩ | ⟨j,w,v0,O,U,Y⟩
   ·exact .inl ⟨by rw [if_neg K];exact O,by simpa [K,Bh] using U⟩
   ·exact .inr ⟨j,w,v0,by rw [if_neg K];exact O,by simpa [K,Bh] using U,Y⟩
 | [],_::_,_,h=>h.elim
 | _::_,[],_,h=>h.elim
theorem C8.put{x:κ}{v0:ν}{O w:Value}(U:Vr pk ka E O x)(hw:Vr pv va E w v0)(Z:Nat):∀{es:List MapEntry} {xs:List (κ×ν)} {i:Nat},C8 pk ka pv va E es xs->
  (Ee x es xs i=none/\C8 pk ka pv va E (es++ [{key:=O,val:=w,born:=Z}]) (Bo xs x v0))∨
  ∃j u,Ee x es xs i=some (i+j,u)/\j<es.length/\(∀e,es[j]? =some e->Vr pk ka E e.key x)/\C8 pk ka pv va E (es.modify j λe=>{e with key:=O,val:=w}) (Bo xs x v0)
 | [],[],i,_=> .inl ⟨rfl,U,hw,trivial⟩
 | e::es,y::ys,i,h=>by
  unfold Ee Bo
  by_cases K:x=y.1
  ·refine .inr ⟨0,e.val,by rw [if_pos K];rfl,by simp,λac he=>?_,?_⟩
   ·simp at he;subst he;rw [K];exact h.1
   ·rw [if_pos K];exact⟨U,hw,h.2.2⟩
  ·rcases C8.put U hw Z (i:=i+1) h.2.2 with⟨Y,ag⟩ | ⟨j,u,Y,ag,al,am⟩
   ·exact .inl ⟨by rw [if_neg K];exact Y,by rw [if_neg K];exact⟨h.1,h.2.1,ag⟩⟩
   ·refine .inr ⟨j+1,u,by rw [if_neg K,Y];congr 2;omega,by simp;omega,λac he=>al ac (by simpa using he),?_⟩;rw [if_neg K];exact⟨h.1,h.2.1,am⟩
 | [],_::_,_,h=>h.elim
 | _::_,[],_,h=>h.elim
def Kj(pk:Rp κ)(ka:Bool)(pv:Rp ν)(va:Bool)(E:LH)(o:Obj)(xs:List (κ×ν)):Prop:=
 ∃es clock,o= .map es clock/\C8 pk ka pv va E es.toList xs/\(es.toList.map (·.born)).Pairwise (·<·)/\∀e∈es.toList,e.born<clock
theorem Kj.Ag{o:Obj}{xs:List (κ×ν)}(h:Kj pk ka pv va E o xs)(hle:Le E E'):Kj pk ka pv va E' o xs:=
 let ⟨es,c,K,O,U⟩:=h;⟨es,c,K,O.Ag hle,U⟩
variable {P:Program}{s:St}{t tm te:TypeId}{X:Halt->St->Prop}
theorem Qi(U:FK P t pk ka){k:Value}{x:κ}(Y:Vr pk ka E k x){Q:Option (Nat×Value)->St->Prop}:∀{es:List MapEntry} {xs:List (κ×ν)} {i:Nat},C8 pk ka pv va E es xs->Q (Ee x es xs i) s->lp P (Instr.findAsking t k es i) s Q X
 | [],[],i,_,h=>h
 | e::es,y::ys,i,h,K=>by
  unfold Instr.findAsking
  refine Au _ _ (U.eq Y h.1 ?_)
  unfold Ee at K
  by_cases O:x=y.1
  ·rw [decide_eq_true O]
   rw [if_pos O] at K;exact K
  ·rw [decide_eq_false O];rw [if_neg O] at K;exact Qi U Y h.2.2 K
 | [],_::_,_,h,_=>h.elim
 | _::_,[],_,h,_=>h.elim
theorem Qt{kd:TypeDesc}{k:Value}{x:κ}(O:Vr pk ka E k x)(U:∀{E:LH} {v w:Value} {x y:κ},Vr pk ka E v x->Vr pk ka E w y->Instr.sameNow kd v w=some (decide (x=y))):∀{es:List MapEntry} {xs:List (κ×ν)} {i:Nat},C8 pk ka pv va E es xs->Instr.findNow kd k es i=some (Ee x es xs i)
 | [],[],i,_=>rfl
 | e::es,y::ys,i,h=>by
  unfold Instr.findNow Ee
  rw [U O h.1]
  by_cases K:x=y.1
  ·simp [K]
  ·simp only [decide_eq_false K,if_neg K];exact Qt O U h.2.2
 | [],_::_,_,h=>h.elim
 | _::_,[],_,h=>h.elim
theorem Mq(O:FK P t pk ka){k:Value}{x:κ}(U:Vr pk ka E k x){Q:Option (Nat×Value)->St->Prop}{es:List MapEntry}{xs:List (κ×ν)}(h:C8 pk ka pv va E es xs)(K:Q (Ee x es xs 0) s):lp P (Instr.findKey t k es) s Q X:=by
 unfold Instr.findKey;obtain⟨kd,Y,Z | ac⟩:=O.kind
 ·refine Au _ _ (Co Y ?_);cases es with
  | nil=>
   cases xs with
   | nil=>exact K
   | cons y ys=>exact h.elim
  | cons e es=>
   have ag:Instr.findNow kd k (e::es) 0=none:=by unfold Instr.findNow;rw [Z]
   rw [ag];exact Qi O U h K
 ·refine Au _ _ (Co Y ?_);rw [Qt U ac h];exact K
theorem Vh(O:FK P t pk ka)(hm:P.underlying tm=some (.map t te)){z:Value}{z0:ν}(Z:zeroOf P te=some z)(ac:Vr pv va E z z0){bk:Nat}{o:Obj}{xs:List (κ×ν)}{k:Value}{x:κ}(ag:s.get bk=some o)(al:Kj pk ka pv va E o xs)(U:Vr pk ka E k x)(ok:Bool){Q:Value->St->Prop}
  (h:∀w,Vr pv va E w ((Bh xs x).getD z0)->Q (if ok then .tuple #[w,.bool (Bh xs x).isSome] else w) s):lp P (Instr.lookup tm (.map (some bk)) k ok) s Q X:=by
 obtain⟨es,c,rfl,Y,ap,aq⟩:=al;unfold Instr.lookup;refine Au _ _ (Co hm ?_);refine Au _ _ ?_;unfold getObj;simp only [bind,Sem.bind,lp];refine⟨_,ag,rfl,?_⟩;refine Au (x:=Instr.checkKey _ 10000 t k) _ (O.BL U ?_);refine Au (x:=Instr.findKey t k es.toList) _ (Mq O U Y ?_);rcases O6 (x:=x) (i:=0) Y with⟨K,e2⟩ | ⟨j,w,v0,K,e2,am⟩
 ·rw [K];simp only;refine Au (x:=zeroValue te) _ (G2 Z ?_);have:=h z (by rw [e2];exact ac);rw [e2] at this;exact this
 ·rw [K];have:=h w (by rw [e2];exact am);rw [e2] at this;exact this
theorem Uu(O:FK P t pk ka)(hm:P.underlying tm=some (.map t te)){bk:Nat}{o:Obj}{xs:List (κ×ν)}{k w:Value}{x:κ}{v0:ν}(am:s.get bk=some o)(Z:s.H bk=some o)(ap:Kj pk ka pv va E o xs)(K:Vr pk ka E k x)(hw:Vr pv va E w v0){Q:Unit->St->Prop}
  (h:∀o',Kj pk ka pv va E o' (Bo xs x v0)->Q () (s.upd bk o')):lp P (Instr.mapUpdate tm (.map (some bk)) k w) s Q X:=by
 obtain⟨es,c,rfl,ac,ag,U⟩:=ap;unfold Instr.mapUpdate;refine Au _ _ (Co hm ?_);unfold getObj;simp only [bind,Sem.bind,lp];refine⟨_,am,rfl,?_⟩;refine Au (x:=Instr.checkKey false 10000 t k) _ (O.BL K ?_);refine Au (x:=Instr.findKey t k es.toList) _ (Mq O K ac ?_);rcases C8.put K hw c (i:=0) ac with⟨Y,e2⟩ | ⟨j,u,Y,e2,aq,aw⟩
 ·rw [Y];simp only [setObj,lp];refine⟨⟨_,Z,rfl⟩,rfl,h _ ⟨es.push {key:=k,val:=w,born:=c},c+1,rfl,by simpa using e2,?_,?_⟩⟩
  ·rw [Array.toList_push,List.map_append,List.pairwise_append];refine⟨ag,by simp,λa ay b hb=>?_⟩;simp at hb;subst hb;obtain⟨e,he,rfl⟩:=List.mem_map.1 ay;exact U e he
  ·intro e he;rw [Array.toList_push] at he;rcases List.mem_append.1 he with he | he
   ·have:=U e he;omega
   ·simp at he;subst he;simp
 ·rw [Y];have al:es[j]? =some (es[j]'(by simpa using e2)):=Array.getElem?_eq_getElem (by simpa using e2);have az:(es[j]'(by simpa using e2)).key=k:=O.uniq (aq _ (by rw [Array.getElem?_toList];exact al)) K;simp only [Nat.zero_add,al,Option.map_some,Option.getD_some,az];refine Au (x:=Instr.keyThatStays k k) _ ?_;unfold Instr.keyThatStays;rw [if_pos (O.same K)];simp only [lp,pure,setObj];refine⟨⟨_,Z,rfl⟩,rfl,h _ ⟨_,c,rfl,by simpa using aw,?_,?_⟩⟩
  ·have:(es.modify j λe=>{e with key:=k,val:=w}).toList.map (·.born)=es.toList.map (·.born):=by
    rw [Array.toList_modify];apply List.ext_getElem?;intro q;simp only [List.getElem?_map,List.getElem?_modify];split <;> cases es.toList[q]? <;> rfl
   rw [this];exact ag
  ·intro e he;rw [Array.toList_modify] at he;obtain⟨q,a0,rfl⟩:=List.mem_iff_getElem.1 he;rw [List.getElem_modify];have a1:q<es.toList.length:=by simpa using a0
   split
   ·show(es.toList[q]'a1).born<c;exact U _ (List.getElem_mem _)
   ·exact U _ (List.getElem_mem _)
end
end Pal
namespace Pal
open Go Go.Conc
theorem R2{l us r:Lv_}:∀j w,us[j]? =some w->(l++us++r).toArray[l.length+j]? =some w:=λj w h=>by
 have K:j<us.length:=(List.getElem?_eq_some_iff.1 h).1
 rw [List.getElem?_toArray,List.append_assoc,List.getElem?_append_right (by omega),show l.length+j - l.length=j by omega,List.getElem?_append_left K]
 exact h
section
variable {P:Program}{s:St}{t e:TypeId}{X:Halt->St->Prop}
theorem KO{c:Av_}{off:Nat}{us:Lv_}{O:Bool}(Y:Ds P e=some O)(Z:Bl P e=some us.length)(ac:O=false->us.length=1)(hw:∀j w,us[j]? =some w->c[off+j]? =some w)
  {Q:Value->St->Prop} (k:Q (Hh O us) s):lp P (Go.part e c off) s Q X:=by
 unfold Go.part;refine Au (x:=isAgg e) _ (MJ Y ?_);cases O with
 | true=>
  simp only [if_true];refine Au (x:=Go.sizeOf e) _ (ED Z ?_);have ag:c.extract off (off+us.length)=us.toArray:=by
   apply Array.ext_getElem?;intro j;by_cases U:j<us.length
   ·have K:=hw j us[j] (List.getElem?_eq_getElem U);have al:off+j<c.size:=(Array.getElem?_eq_some_iff.1 K).1;simp only [Array.getElem?_extract];rw [if_pos (by omega),K];simp [U]
   ·simp only [Array.getElem?_extract];rw [if_neg (by omega)];simp;omega
  show Q (.agg (c.extract off (off+us.length))) s;rw [ag];exact k
 | false=>
  obtain⟨w,rfl⟩:∃w,us= [w]:=by
   match us,ac rfl with
   | [w],_=>exact⟨w,rfl⟩
  have K:=hw 0 w rfl;rw [Nat.add_zero] at K;simp only [Bool.false_eq_true,if_false,K];exact k
end
structure B9 (P:Program) (t:TypeId) {α:Type} [DecidableEq α] (pp:Rp α) (K:Bool) (dep:Nat):Prop where
 agg:Ds P t=some K
 size:Bl P t=some pp.n
 one:K=false->pp.n=1
 eq:∀{n:Nat} {E E':LH} {ws ws':Lv_} {x y:α} {s:St} {Q:Bool->St->Prop} {X:Halt->St->Prop},dep<=n->pp.r E ws x->pp.r E' ws' y->Q (decide (x=y)) s->lp P (Op.equalIn n t (Hh K ws) (Hh K ws')) s Q X
 BL:∀{n:Nat} {em:Bool} {E:LH} {ws:Lv_} {x:α} {s:St} {Q:Unit->St->Prop} {X:Halt->St->Prop},dep<=n->pp.r E ws x->Q () s->lp P (Instr.checkKey em n t (Hh K ws)) s Q X
 uniq:∀{E E':LH} {ws ws':Lv_} {x:α},pp.r E ws x->pp.r E' ws' x->ws=ws'
 same:∀{E:LH} {ws:Lv_} {x:α},pp.r E ws x->∀w∈ws,∀m,Instr.sameBits (m+1) w w=true
 now:∃kd,P.underlying t=some kd/\((∀v w,Instr.sameNow kd v w=none)∨∀{E E':LH} {ws ws':Lv_} {x y:α},pp.r E ws x->pp.r E' ws' y->Instr.sameNow kd (Hh K ws) (Hh K ws')=some (decide (x=y)))
section
variable {P:Program}{t e:TypeId}
theorem B9.int{kd:IntKind}(U:P.underlying t=some (.int kd))(Y:Bl P t=some 1):B9 P t (rK kd) false 1 where
 agg:=by unfold Ds;rw [U]
 size:=Y
 one _:=rfl
 eq {n E E' ws ws' x y s Q X} Z K O k:=by
  obtain⟨m,rfl⟩:∃m,n=m+1:=⟨n - 1,by omega⟩;have K:ws= [.int kd x]:=K;have O:ws'= [.int kd y]:=O;subst K O;refine SV U ?_;have e:(x==y)=decide (x=y):=by by_cases h:x=y <;> simp [h]
  rw [e];exact k
 BL {n em E ws x s Q X} Z K k:=by
  obtain⟨m,rfl⟩:∃m,n=m+1:=⟨n - 1,by omega⟩;have K:ws= [.int kd x]:=K;subst K;unfold Instr.checkKey;refine Au _ _ (Co U ?_);exact k
 uniq K O:=by
  have K:_= [Value.int kd _]:=K;have O:_= [Value.int kd _]:=O;rw [K,O]
 same {E ws x} h w hw m:=by
  have h:ws= [Value.int kd x]:=h;subst h;simp at hw;subst hw;simp [Instr.sameBits]
 now:=⟨_,U,.inr λ{E E' ws ws' x y} K O=>by
  have K:ws= [.int kd x]:=K
  have O:ws'= [.int kd y]:=O
  subst K O
  have e:(x==y)=decide (x=y):=by by_cases h:x=y <;> simp [h]
  show(if kd=kd then some (x==y) else none)=_
  rw [if_pos rfl,e]⟩
theorem B9.nat{kd:IntKind}(U:P.underlying t=some (.int kd))(Z:Bl P t=some 1):B9 P t (rN kd) false 1 where
 agg:=by unfold Ds;rw [U]
 size:=Z
 one _:=rfl
 eq {n E E' ws ws' x y s Q X} ac K O k:=by
  obtain⟨m,rfl⟩:∃m,n=m+1:=⟨n - 1,by omega⟩;have K:ws= [.int kd ((x:Nat):Int)]:=K;have O:ws'= [.int kd ((y:Nat):Int)]:=O;subst K O;refine SV U ?_;have e:((x:Int)==(y:Int))=decide (x=y):=by
   by_cases h:x=y
   ·simp [h]
   ·have Y:¬(x:Int)=(y:Int):=by omega
    simp [h,Y]
  rw [e];exact k
 BL {n em E ws x s Q X} ac K k:=by
  obtain⟨m,rfl⟩:∃m,n=m+1:=⟨n - 1,by omega⟩;have K:ws= [.int kd ((x:Nat):Int)]:=K;subst K;unfold Instr.checkKey;refine Au _ _ (Co U ?_);exact k
 uniq K O:=by
  have K:_= [Value.int kd _]:=K;have O:_= [Value.int kd _]:=O;rw [K,O]
 same {E ws x} h w hw m:=by
  have h:ws= [Value.int kd ((x:Nat):Int)]:=h;subst h;simp at hw;subst hw;simp [Instr.sameBits]
 now:=⟨_,U,.inr λ{E E' ws ws' x y} K O=>by
  have K:ws= [.int kd ((x:Nat):Int)]:=K
  have O:ws'= [.int kd ((y:Nat):Int)]:=O
  subst K O
  have e:((x:Int)==(y:Int))=decide (x=y):=by
   by_cases h:x=y
   ·simp [h]
   ·have Y:¬(x:Int)=(y:Int):=by omega
    simp [h,Y]
  show(if kd=kd then some ((x:Int)==(y:Int)) else none)=_
  rw [if_pos rfl,e]⟩
theorem B9.up{α:Type} [DecidableEq α] {pp:Rp α}{O:Bool}{dep U:Nat}(h:B9 P t pp O dep)(hd:dep<=U):B9 P t pp O U:=
 ⟨h.agg,h.size,h.one,λK=>h.eq (Nat.le_trans hd K),λK=>h.BL (Nat.le_trans hd K),h.uniq,h.same,h.now⟩
theorem O9{α:Type}{kk:Nat}{pp:Rp α}{E:LH}{ws:Lv_}{xs:List α}(K:(rA kk pp).r E ws xs){i:Nat}(hi:i<kk):∃x us,xs[i]? =some x/\pp.r E us x/\us.length=pp.n/\∀j w,us[j]? =some w->ws.toArray[i*pp.n+j]? =some w:=by
 have O:xs[i]? =some (xs[i]'(by rw [K.1];exact hi)):=List.getElem?_eq_getElem (by rw [K.1];exact hi);have Y:ix xs (i:Int)=some (xs[i]'(by rw [K.1];exact hi)):=by unfold ix;rw [if_pos (by omega)];simpa using O
 obtain⟨us,U,_,_,Z⟩:=Hs (m:=(i:Int)) K Y;exact⟨_,us,O,U,pp.len U,λj w ac=>by have:=Z j w ac;rw [List.getElem?_toArray];simpa using this⟩
theorem B9.arr{α:Type} [DecidableEq α] {pp:Rp α}{a7:Bool}{dep kk:Nat}(h:B9 P e pp a7 dep)(Z:P.underlying t=some (.array kk e))(a8:Bl P t=some (kk*pp.n)):B9 P t (rA kk pp) true (dep+1) where
 agg:=by unfold Ds;rw [Z]
 size:=a8
 one:=λh=>by cases h
 eq {n E E' ws ws' xs ys s Q X} a9 ac a2 k:=by
  obtain⟨n,rfl⟩:∃m,n=m+1:=⟨n - 1,by omega⟩;have bv:=ac.1;have bw:=a2.1;unfold Op.equalIn;refine Au _ _ (Co Z ?_);refine Au (x:=Go.sizeOf e) _ (ED h.size ?_);simp only [Hh,if_true];simp only [Std.Legacy.Range.forIn_eq_forIn_range',Std.Legacy.Range.size,Nat.sub_zero,Nat.add_one_sub_one,Nat.div_one];let bd:Nat->Option Bool×Unit->Sem (ForInStep (Option Bool×Unit)):=λi _=>do
   if !(← Op.equalIn n e (← Go.part e ws.toArray (i*pp.n)) (← Go.part e ws'.toArray (i*pp.n))) then pure (ForInStep.done (some false,())) else pure (ForInStep.yield (none,()))
  have key:∀(m st:Nat),st+m=kk->(∀i,i<st->xs[i]? =ys[i]?)->∀{K:Option Bool×Unit->St->Prop},K (if xs=ys then(none,()) else(some false,())) s->lp P (forIn (List.range' st m) (none,()) bd:Sem _) s K X:=by
   intro m
   induction m with
   | zero=>
    intro st al am K O;have U:xs=ys:=by
     apply List.ext_getElem?;intro i;rcases Nat.lt_or_ge i st with hi | hi
     ·exact am i hi
     ·rw [List.getElem?_eq_none (by omega),List.getElem?_eq_none (by omega)]
    rw [if_pos U] at O;simp only [List.range'_zero,List.forIn_nil];exact O
   | succ m ap=>
    intro st al am K O;simp only [List.range'_succ,List.forIn_cons];obtain⟨a,us,ag,aq,Y,aw⟩:=O9 ac (i:=st) (by omega);obtain⟨c,bx,ay,bb,a3,be⟩:=O9 a2 (i:=st) (by omega);refine Au _ _ (Au _ _ (KO h.agg (by rw [Y];exact h.size) (λq=>by rw [Y];exact h.one q) aw ?_));refine Au _ _ (KO h.agg (by rw [a3];exact h.size) (λq=>by rw [a3];exact h.one q) be ?_);refine Au _ _ (h.eq (by omega) aq bb ?_);by_cases az:a=c
    ·subst az;simp only [decide_true,Bool.not_true,Bool.false_eq_true,if_false,lp,pure];exact ap (st+1) (by omega) (λi hi=>by
      rcases Nat.lt_or_ge i st with a4 | a4
      ·exact am i a4
      ·obtain rfl:i=st:=by omega
       rw [ag,ay]) O
    ·have bi:¬xs=ys:=λq=>az (by rw [q] at ag;rw [ag] at ay;exact Option.some.inj ay);rw [if_neg bi] at O;simp only [az,decide_false,Bool.not_false,if_true,lp,pure];exact O
  refine Au _ _ (key kk 0 (by omega) (λi hi=>by omega) ?_);by_cases U:xs=ys
  ·rw [if_pos U];simpa [lp,pure,U] using k
  ·rw [if_neg U];simpa [lp,pure,U] using k
 BL {n em E ws xs s Q X} a9 ac k:=by
  obtain⟨n,rfl⟩:∃m,n=m+1:=⟨n - 1,by omega⟩;unfold Instr.checkKey;refine Au _ _ (Co Z ?_);simp only [Hh,if_true];simp only [Std.Legacy.Range.forIn_eq_forIn_range',Std.Legacy.Range.size,Nat.sub_zero,Nat.add_one_sub_one,Nat.div_one];let bd:Nat->Unit->Sem (ForInStep Unit):=λi _=>do
   Instr.checkKey em n e (← Go.part e ws.toArray (i*(← Go.sizeOf e)))
   pure (ForInStep.yield ())
  have key:∀(m st:Nat),st+m=kk->∀{K:Unit->St->Prop},K () s->lp P (forIn (List.range' st m) () bd:Sem _) s K X:=by
   intro m
   induction m with
   | zero=>
    intro st al K O;simp only [List.range'_zero,List.forIn_nil];exact O
   | succ m ap=>
    intro st al K O;simp only [List.range'_succ,List.forIn_cons];obtain⟨a,us,ag,aq,Y,aw⟩:=O9 ac (i:=st) (by omega);refine Au _ _ (Au (x:=Go.sizeOf e) _ (ED h.size ?_));refine Au _ _ (KO h.agg (by rw [Y];exact h.size) (λq=>by rw [Y];exact h.one q) aw ?_);refine Au _ _ (h.BL (by omega) aq ?_);exact ap (st+1) (by omega) O
  exact Au _ _ (key kk 0 (by omega) k)
 uniq {E E' ws ws' xs} a0 bn:=by
  obtain⟨a1,wss,rfl,a5,c1⟩:=a0;obtain⟨bz,bo,rfl,bA,c2⟩:=bn;have:wss=bo:=by
   apply List.ext_getElem (by omega);intro i hi bq;have a6:xs[i]? =some (xs[i]'(by omega)):=List.getElem?_eq_getElem (by omega);exact h.uniq (c1 i _ _ a6 (List.getElem?_eq_getElem hi)) (c2 i _ _ a6 (List.getElem?_eq_getElem bq))
  rw [this]
 same {E ws xs} a0 w hw m:=by
  obtain⟨a1,wss,rfl,a5,c1⟩:=a0;obtain⟨us,br,hw⟩:=List.mem_flatten.1 hw;obtain⟨i,hi⟩:=List.mem_iff_getElem?.1 br;have bu:i<xs.length:=by rw [a1,← a5];exact(List.getElem?_eq_some_iff.1 hi).1
  exact h.same (c1 i _ us (List.getElem?_eq_getElem bu) hi) w hw m
 now:=⟨_,Z,.inl λv w=>rfl⟩
theorem B9.field{α:Type} [DecidableEq α] {pp:Rp α}{ac:Bool}{dep n:Nat}{f:Field}{s:St}{X:Halt->St->Prop}(h:B9 P f.type pp ac dep)(hd:dep<=n)(ag:f.name≠ "_"){E E':LH}{us Y:Lv_}{x y:α}(r1:pp.r E us x)(r2:pp.r E' Y y){cx Z:Av_}
  (w1:∀j w,us[j]? =some w->cx[f.offset+j]? =some w) (w2:∀j w,Y[j]? =some w->Z[f.offset+j]? =some w) {K:ForInStep (Option Bool×Unit)->St->Prop} (O:K (if x=y then .yield (none,()) else .done (some false,())) s):
  lp P (if f.name≠ "_" then do
   if !(← Op.equalIn n f.type (← Go.part f.type cx f.offset) (← Go.part f.type Z f.offset)) then pure (ForInStep.done (some false,())) else pure (ForInStep.yield (none,()))
   else pure (ForInStep.yield (none,()))) s K X:=by
 rw [if_pos ag]
 refine Au _ _ (KO h.agg (by rw [pp.len r1];exact h.size) (λq=>by rw [pp.len r1];exact h.one q) w1 ?_)
 refine Au _ _ (KO h.agg (by rw [pp.len r2];exact h.size) (λq=>by rw [pp.len r2];exact h.one q) w2 ?_)
 refine Au _ _ (h.eq hd r1 r2 ?_)
 by_cases U:x=y
 ·rw [if_pos U] at O;simpa [lp,pure,U] using O
 ·rw [if_neg U] at O;simpa [lp,pure,U] using O
theorem B9.LJ{α:Type} [DecidableEq α] {pp:Rp α}{O em:Bool}{dep n:Nat}{f:Field}{s:St}{X:Halt->St->Prop}(h:B9 P f.type pp O dep)(hd:dep<=n)(U:f.name≠ "_"){E:LH}{us:Lv_}{x:α}(r1:pp.r E us x){cx:Av_}
  (w1:∀j w,us[j]? =some w->cx[f.offset+j]? =some w) {K:ForInStep Unit->St->Prop} (Y:K (.yield ()) s):
  lp P (if f.name≠ "_" then do
   Instr.checkKey em n f.type (← Go.part f.type cx f.offset)
   pure (ForInStep.yield ())
   else pure (ForInStep.yield ())) s K X:=by
 rw [if_pos U]
 refine Au _ _ (KO h.agg (by rw [pp.len r1];exact h.size) (λq=>by rw [pp.len r1];exact h.one q) w1 ?_)
 refine Au _ _ (h.BL hd r1 ?_)
 exact Y
theorem K5{us r:Lv_}{o:Nat}(K:o=0):∀j w,us[j]? =some w->(us++r).toArray[o+j]? =some w:=λj w h=>by subst K;exact R2 (l:= []) j w h
theorem NO{l us r:Lv_}{o:Nat}(K:o=l.length):∀j w,us[j]? =some w->(l++(us++r)).toArray[o+j]? =some w:=λj w h=>by
 subst K
 have:=R2 (l:=l) (r:=r) j w h
 rwa [List.append_assoc] at this
theorem NF{l us:Lv_}{o:Nat}(K:o=l.length):∀j w,us[j]? =some w->(l++us).toArray[o+j]? =some w:=λj w h=>by
 have:=NO (r:= []) K j w h
 rwa [List.append_nil] at this
theorem Pv{l m us:Lv_}{o:Nat}(K:o=l.length+m.length):∀j w,us[j]? =some w->(l++(m++us)).toArray[o+j]? =some w:=λj w h=>by
 have:=NF (l:=l++m) (o:=o) (by simp [K]) j w h
 rwa [List.append_assoc] at this
theorem B9.two{α β:Type} [DecidableEq α] [DecidableEq β] {K:Rp α}{p2:Rp β}{a1 ay:Bool}{dep:Nat}{f1 f2:Field}(O:P.underlying t=some (.struct #[f1,f2]))(U:B9 P f1.type K a1 dep)(Y:B9 P f2.type p2 ay dep)(az:P.stoodInHeld t=false)
  (n1:f1.name≠ "_") (n2:f2.name≠ "_") (ag:f1.offset=0) (al:f2.offset=K.n) (a0:Bl P t=some (K.n+p2.n)):B9 P t (rP K p2) true (dep+1) where
 agg:=by unfold Ds;rw [O]
 size:=a0
 one:=λh=>by cases h
 eq {n E E' ws ws' x y s Q X} a2 am a3 k:=by
  obtain⟨n,rfl⟩:∃m,n=m+1:=⟨n - 1,by omega⟩;obtain⟨ap,aq,rfl,r1,r2⟩:=am;obtain⟨v1,v2,rfl,Z,aw⟩:=a3;simp only [Hh,if_true];unfold Op.equalIn;refine Au _ _ (Co O ?_);refine Au (x:=program) _ ?_;show lp P (if P.stoodInHeld t=true then _ else _) s _ _
  rw [if_neg (by rw [az];exact Bool.false_ne_true)]
  dsimp only;rw [← Array.forIn_toList];simp only [List.forIn_cons,List.forIn_nil];refine Au _ _ (Au _ _ (U.field (by omega) n1 r1 Z (K5 ag) (K5 ag) ?_));by_cases ac:x.1=y.1
  ·rw [if_pos ac];refine Au _ _ (Y.field (by omega) n2 r2 aw (NF (al.trans (K.len r1).symm)) (NF (al.trans (K.len Z).symm)) ?_);by_cases e2:x.2=y.2
   ·have e:x=y:=Prod.ext ac e2;rw [if_pos e2];simpa [lp,pure,e] using k
   ·have e:¬x=y:=λq=>e2 (by rw [q]);rw [if_neg e2];simpa [lp,pure,e] using k
  ·have e:¬x=y:=λq=>ac (by rw [q]);rw [if_neg ac];simpa [lp,pure,e] using k
 BL {n em E ws x s Q X} a2 am k:=by
  obtain⟨n,rfl⟩:∃m,n=m+1:=⟨n - 1,by omega⟩;obtain⟨ap,aq,rfl,r1,r2⟩:=am;simp only [Hh,if_true];unfold Instr.checkKey;refine Au _ _ (Co O ?_)
  dsimp only;rw [← Array.forIn_toList];simp only [List.forIn_cons,List.forIn_nil];refine Au _ _ (Au _ _ (U.LJ (by omega) n1 r1 (K5 ag) ?_));refine Au _ _ (Y.LJ (by omega) n2 r2 (NF (al.trans (K.len r1).symm)) ?_);exact k
 uniq {E E' ws ws' x} a b:=by
  obtain⟨ap,aq,rfl,r1,r2⟩:=a;obtain⟨v1,v2,rfl,Z,aw⟩:=b;rw [U.uniq r1 Z,Y.uniq r2 aw]
 same {E ws x} a w hw m:=by
  obtain⟨ap,aq,rfl,r1,r2⟩:=a;rcases List.mem_append.1 hw with hw | hw
  ·exact U.same r1 w hw m
  ·exact Y.same r2 w hw m
 now:=⟨_,O,.inl λv w=>rfl⟩
theorem B9.three{α β a4:Type} [DecidableEq α] [DecidableEq β] [DecidableEq a4] {K:Rp α}{p2:Rp β}{p3:Rp a4}{a1 a6 a7:Bool}{dep:Nat}{f1 f2 f3:Field}(U:P.underlying t=some (.struct #[f1,f2,f3]))(Y:B9 P f1.type K a1 dep)(Z:B9 P f2.type p2 a6 dep)(ac:B9 P f3.type p3 a7 dep)(a8:P.stoodInHeld t=false)
  (n1:f1.name≠ "_") (n2:f2.name≠ "_") (a5:f3.name≠ "_") (ap:f1.offset=0) (aq:f2.offset=K.n) (aw:f3.offset=K.n+p2.n) (a9:Bl P t=some (K.n+(p2.n+p3.n))):B9 P t (rP K (rP p2 p3)) true (dep+1) where
 agg:=by unfold Ds;rw [U]
 size:=a9
 one:=λh=>by cases h
 eq {n E E' ws ws' x y s Q X} bb ay be k:=by
  obtain⟨n,rfl⟩:∃m,n=m+1:=⟨n - 1,by omega⟩;obtain⟨az,_,rfl,r1,a0,a2,rfl,r2,r3⟩:=ay;obtain⟨v1,_,rfl,O,v2,bi,rfl,ag,a3⟩:=be;simp only [Hh,if_true];unfold Op.equalIn;refine Au _ _ (Co U ?_);refine Au (x:=program) _ ?_;show lp P (if P.stoodInHeld t=true then _ else _) s _ _
  rw [if_neg (by rw [a8];exact Bool.false_ne_true)]
  dsimp only;rw [← Array.forIn_toList];simp only [List.forIn_cons,List.forIn_nil];refine Au _ _ (Au _ _ (Y.field (by omega) n1 r1 O (K5 ap) (K5 ap) ?_));by_cases al:x.1=y.1
  ·rw [if_pos al];refine Au _ _ (Z.field (by omega) n2 r2 ag (NO (aq.trans (K.len r1).symm)) (NO (aq.trans (K.len O).symm)) ?_);by_cases e2:x.2.1=y.2.1
   ·rw [if_pos e2];refine Au _ _ (ac.field (by omega) a5 r3 a3 (Pv (by rw [aw,K.len r1,p2.len r2])) (Pv (by rw [aw,K.len O,p2.len ag])) ?_);by_cases am:x.2.2=y.2.2
    ·have e:x=y:=Prod.ext al (Prod.ext e2 am);rw [if_pos am];simpa [lp,pure,e] using k
    ·have e:¬x=y:=λq=>am (by rw [q]);rw [if_neg am];simpa [lp,pure,e] using k
   ·have e:¬x=y:=λq=>e2 (by rw [q]);rw [if_neg e2];simpa [lp,pure,e] using k
  ·have e:¬x=y:=λq=>al (by rw [q]);rw [if_neg al];simpa [lp,pure,e] using k
 BL {n em E ws x s Q X} bb ay k:=by
  obtain⟨n,rfl⟩:∃m,n=m+1:=⟨n - 1,by omega⟩;obtain⟨az,_,rfl,r1,a0,a2,rfl,r2,r3⟩:=ay;simp only [Hh,if_true];unfold Instr.checkKey;refine Au _ _ (Co U ?_)
  dsimp only;rw [← Array.forIn_toList];simp only [List.forIn_cons,List.forIn_nil];refine Au _ _ (Au _ _ (Y.LJ (by omega) n1 r1 (K5 ap) ?_));refine Au _ _ (Z.LJ (by omega) n2 r2 (NO (aq.trans (K.len r1).symm)) ?_);refine Au _ _ (ac.LJ (by omega) a5 r3 (Pv (by rw [aw,K.len r1,p2.len r2])) ?_);exact k
 uniq {E E' ws ws' x} a b:=by
  obtain⟨az,_,rfl,r1,a0,a2,rfl,r2,r3⟩:=a;obtain⟨v1,_,rfl,O,v2,bi,rfl,ag,a3⟩:=b;rw [Y.uniq r1 O,Z.uniq r2 ag,ac.uniq r3 a3]
 same {E ws x} a w hw m:=by
  obtain⟨az,_,rfl,r1,a0,a2,rfl,r2,r3⟩:=a;rcases List.mem_append.1 hw with hw | hw
  ·exact Y.same r1 w hw m
  ·rcases List.mem_append.1 hw with hw | hw
   ·exact Z.same r2 w hw m
   ·exact ac.same r3 w hw m
 now:=⟨_,U,.inl λv w=>rfl⟩
theorem B9.key{α:Type} [DecidableEq α] {pp:Rp α}{K:Bool}{dep:Nat}(h:B9 P t pp K dep)(hd:dep<=10000):FK P t pp K where
 BL:=by
  rintro em E v x s Q X ⟨ws,Y,rfl⟩ k;exact h.BL hd Y k
 kind:=by
  obtain⟨kd,O,Z⟩:=h.now;refine⟨kd,O,Z.imp id λac=>?_⟩;rintro E v w x y ⟨ws,r1,rfl⟩ ⟨ws',r2,rfl⟩;exact ac r1 r2
 eq:=by
  rintro E v w x y s Q X ⟨ws,r1,rfl⟩ ⟨ws',r2,rfl⟩ k;exact h.eq hd r1 r2 k
 same:=by
  rintro E v x ⟨ws,r1,rfl⟩;cases K with
  | false=>
   obtain⟨w,rfl⟩:∃w,ws= [w]:=by
    have:=(pp.len r1).trans (h.one rfl)
    match ws,this with
    | [w],_=>exact⟨w,rfl⟩
   exact h.same r1 w (by simp) 9999
  | true=>
   show(ws.toArray.size==ws.toArray.size&&(ws.toArray.toList.zip ws.toArray.toList).all λ(x,y)=>Instr.sameBits 9999 x y)=true;rw [Bool.and_eq_true];refine⟨by simp,List.all_eq_true.2 ?_⟩;rintro⟨a,b⟩ ag;have O:∀(l:Lv_) a b,(a,b)∈l.zip l->a=b/\a∈l:=by
    intro l
    induction l with
    | nil=>intro a b h;simp at h
    | cons c l U=>
     intro a b h;simp only [List.zip_cons_cons,List.mem_cons,Prod.mk.injEq] at h;rcases h with⟨rfl,rfl⟩ | h
     ·exact⟨rfl,by simp⟩
     ·exact⟨(U a b h).1,List.mem_cons_of_mem _ (U a b h).2⟩
   obtain⟨rfl,hm⟩:=O _ a b ag;exact h.same r1 a (by simpa using hm) 9998
 uniq:=by
  rintro E v w x ⟨ws,r1,rfl⟩ ⟨ws',r2,rfl⟩;rw [h.uniq r1 r2]
section
variable {s:St}{ρ:Operand->Value}{x y:Operand}{d:Option Tmp}{u ty:TypeId}{p:String}{af:Ae_}{g:On_}{E E':LH}{ws ws':Lv_}
theorem Sm{α:Type} [DecidableEq α] {pp:Rp α}{dep:Nat}{a b:α}(h:B9 P t pp true dep)(hd:dep<=10000)(K:P.eqGuardType P.depth t=false)(r1:pp.r E ws a)(r2:pp.r E' ws' b)(O:ρ x= .agg ws.toArray)(U:ρ y= .agg ws'.toArray):Yl P ⟨d,.binOp .neq t x y u,ty,p,af,g⟩ ρ s (.bool (decide (a≠b))):=by
 refine FV (sm:=do eqGuard .neq t x y (ρ x) (ρ y);binOp .neq t (ρ x) (ρ y)) rfl ?_
 rw [O,U];refine Au _ _ (Vd (.inr rfl) K ?_);have hb:binOp .neq t (.agg ws.toArray) (.agg ws'.toArray)=(do pure (.bool (!(← Op.equal t (.agg ws.toArray) (.agg ws'.toArray))))):=rfl
 rw [hb];exact Au (x:=Op.equal t _ _) _ (h.eq hd r1 r2 ⟨by simp,rfl⟩)
end
end
end Pal
namespace Pal
open Go Go.Conc
theorem Ux{E H:LH}{B:List (Nat×Obj)}(i:Nat){bk:Nat}{o:Obj}(K:Nd E H B)(h:B[i]? =some (bk,o)):∃E',Le E E'/\E' bk=some o/\Nd E' H (B.eraseIdx i)/\Cl (mk E H B) (mk E' H (B.eraseIdx i)):=by
 have ap:=List.mem_of_getElem? h;have aq:E bk=none/\H bk=none:=by
  have:∀{B:List (Nat×Obj)},Nd E H B->(bk,o)∈B->E bk=none/\H bk=none:=by
   intro B K O
   induction B with
   | nil=>simp at O
   | cons q B Y=>
    rcases List.mem_cons.1 O with rfl | O
    ·exact⟨K.1,K.2.1⟩
    ·exact Y K.2.2.2 O
  exact this K ap
 let E':LH:=λx=>if x=bk then some o else E x
 have ag:E' bk=some o:=by simp [E']
 have hle:Le E E':=λx u U=>by
  have:x≠bk:=λe=>by subst e;rw [aq.1] at U;cases U
  simp [E',this,U]
 have aw:Nd E' H (B.eraseIdx i):=by
  have:∀{B:List (Nat×Obj)} {i:Nat},Nd E H B->B[i]? =some (bk,o)->Nd E' H (B.eraseIdx i)/\∀p∈B.eraseIdx i,p.1≠bk:=by
   intro B
   induction B with
   | nil=>intro i _ h;simp at h
   | cons q B Y=>
    obtain⟨c,v⟩:=q;intro i K h;have up:∀{B:List (Nat×Obj)},Nd E H B->(∀p∈B,p.1≠bk)->Nd E' H B:=by
     intro B K al
     induction B with
     | nil=>trivial
     | cons q B ay=>exact⟨by simpa [E',al q (by simp)] using K.1,K.2.1,K.2.2.1,ay K.2.2.2 λp O=>al p (List.mem_cons_of_mem _ O)⟩
    cases i with
    | zero=>
     simp at h;obtain⟨rfl,rfl⟩:=h;exact⟨up K.2.2.2 K.2.2.1,K.2.2.1⟩
    | succ i=>
     simp at h;obtain⟨Z,ac⟩:=Y K.2.2.2 h;have am:c≠bk:=λe=>K.2.2.1 (bk,o) (List.mem_of_getElem? h) e.symm;refine⟨⟨by simpa [E',am] using K.1,K.2.1,λp O=>K.2.2.1 p (List.mem_of_mem_eraseIdx O),Z⟩,λp O=>?_⟩;rcases List.mem_cons.1 O with rfl | O
     ·exact am
     ·exact ac p O
  exact(this K h).1
 refine⟨E',hle,ag,aw,⟨λx u U=>hle x u U,λx u U=>(Lp K h U).2,λx u U=>?_,rfl⟩⟩;by_cases e:x=bk
 ·subst e;right;have:u=o:=by have:E' x=some u:=U;rw [ag] at this;exact(Option.some.inj this).symm
  subst this;refine⟨IX K h,?_⟩;cases az:(mk E' H (B.eraseIdx i)).H x with
  | none=>rfl
  | some y=>exact absurd rfl (Lp K h az).1
 ·left;have Z:E' x=some u:=U;have ac:E' x=E x:=by simp [E',e]
  show E x=some u;rw [← ac];exact Z
theorem Uj{E H:LH}{B0:List (Nat×Obj)}{e:TypeId}{K l c:Nat}{a:Option Addr}{blk:List (Nat×Obj)}{xs:Lv_}(ag:GS e K a l c blk xs)(U:Nd E H (B0++blk)):∃E',Le E E'/\N3 E' K (.slice a l c) l xs/\Nd E' H B0/\Cl (mk E H (B0++blk)) (mk E' H B0):=by
 rcases ag with⟨rfl,rfl,rfl,rfl,rfl⟩ | ⟨bk,f,rfl,rfl,al,Y,rfl⟩
 ·simp only [List.append_nil] at U ⊢;exact⟨E,Le.refl _,.nil,U,.refl _⟩
 ·have am:(B0++ [(bk,Obj.cells f e (0,0))])[B0.length]? =some (bk,Obj.cells f e (0,0)):=by simp
  obtain⟨E',hle,ap,Z,ac⟩:=Ux B0.length U am;have aq:(B0++ [(bk,Obj.cells f e (0,0))]).eraseIdx B0.length=B0:=by rw [List.eraseIdx_append_of_length_le (Nat.le_refl _)];simp
  rw [aq] at Z ac;refine⟨E',hle,⟨_,c,rfl,Y,?_,.inr ⟨bk,0,f,e,(0,0),rfl,ap,λj w O=>?_⟩⟩,Z,ac⟩
  ·have:l*K<=c*K:=Nat.mul_le_mul_right _ Y;simp [al,Nat.min_eq_left this]
  ·rw [List.getElem?_take] at O;split at O
   ·simpa using O
   ·cases O
theorem Ur{α:Type}{pp:Rp α}{E H:LH}{S:List Seg}{e:TypeId}{a:Option Addr}{c:Nat}{seg:Seg}{xs:List α}(j:Nat)(U:OL e pp E a c seg xs)(ap:Ap E H S)(aq:S[j]? =some seg):∃E',Le E E'/\Al pp E' a c xs/\Ap E' H (S.set j [])/\Cl (Ak E H S) (Ak E' H (S.set j [])):=by
 obtain⟨wss,U,ac,ag⟩:=U;have aw:∀ad:Addr,a=some ad->ad.spot=none:=λad K=>by
  rcases U with⟨O,_⟩ | ⟨bk,f,O,_⟩
  ·rw [O] at K;cases K
  ·rw [O] at K;cases K;rfl
 obtain⟨O,ay⟩:=G5 ap aq;obtain⟨E',hle,az,a0,al⟩:=Uj U ay;rw [← O] at al;refine⟨E',hle,?_,a0,al⟩;obtain⟨a1,a2,Y,a3,a8,Z⟩:=az;obtain⟨rfl,-,rfl⟩:a=a1/\xs.length=xs.length/\c=a2:=by
  simp only [Value.slice.injEq] at Y;exact⟨Y.1,rfl,Y.2.2⟩
 refine⟨a3,?_⟩;rcases Z with Z | ⟨bk,off,f,a4,fr,a5,g2,a6⟩
 ·exact .inl ⟨List.eq_nil_of_length_eq_zero Z,λad K=> .inl (aw ad K)⟩
 ·refine .inr ⟨bk,off,a5,λi x am=>?_⟩;have a7:i<wss.length:=by rw [ac];exact(List.getElem?_eq_some_iff.1 am).1
  have hw:=List.getElem?_eq_getElem a7;refine⟨wss[i],pp.Ag hle (ag i x _ am hw),f,a4,fr,g2,λm w hm=>?_⟩;rw [Nat.add_assoc];exact a6 _ w (J6 (H2 ac ag) hw m w hm)
theorem Cl.get{s s₀:St}(h:Cl s s₀){b:Nat}{o:Obj}(K:s₀.get b=some o):s.get b=some o:=by
 unfold St.get at K ⊢;cases O:s₀.E b with
 | some o'=>
  rw [O] at K;simp only at K;cases K;rcases h.EI _ _ O with U | ⟨U,_⟩
  ·rw [U]
  ·cases he:s.E b with
   | none=>exact U
   | some Y=>
    have:=h.ext _ _ he;rw [O] at this;cases this;rfl
 | none=>
  rw [O] at K;simp only at K;cases he:s.E b with
  | none=>exact h.own _ _ K
  | some Y=>
   have:=h.ext _ _ he;rw [O] at this;cases this
theorem Cl.upd{s s₀:St}(h:Cl s s₀){b:Nat}(o:Obj)(hb:(∃u,s₀.H b=some u)∨s₀.E b=none):Cl (s.upd b o) (s₀.upd b o):=by
 refine⟨h.ext,λx u K=>?_,λx u K=>?_,h.q⟩
 ·simp only [St.upd] at K ⊢;by_cases e:x=b
  ·rw [if_pos e] at K ⊢;exact K
  ·rw [if_neg e] at K ⊢;exact h.own _ _ K
 ·have O:s₀.E x=some u:=K;rcases h.EI _ _ O with U | ⟨U,Y⟩
  ·exact .inl U
  ·refine .inr ?_;have e:x≠b:=λe=>by
    subst e;rcases hb with⟨w,hw⟩ | hb
    ·rw [hw] at Y;cases Y
    ·rw [hb] at O;cases O
   simp only [St.upd,if_neg e];exact⟨U,Y⟩
theorem Cl.none{s s₀:St}(h:Cl s s₀){b:Nat}(U:s.E b=none)(O:s.H b=none):s₀.E b=none/\s₀.H b=none:=by
 constructor
 ·cases he:s₀.E b with
  | none=>rfl
  | some o=>
   rcases h.EI _ _ he with K | ⟨K,_⟩
   ·rw [U] at K;cases K
   ·rw [O] at K;cases K
 ·cases he:s₀.H b with
  | none=>rfl
  | some o=>have:=h.own _ _ he;rw [O] at this;cases this
theorem WW{P:Program}{α:Type}(x:Sem α):∀{s s₀:St} {Q:α->St->Prop} {X:Halt->St->Prop},Cl s s₀->lp P x s₀ Q X->lp P x s (λa s'=>∃Z,Cl s' Z/\Q a Z) (λh s'=>∃Z,Cl s' Z/\X h Z):=by
 induction x with
 | pure a=>intro s s₀ Q X g h;exact⟨s₀,g,h⟩
 | load m a k K=>
  intro s s₀ Q X g h;obtain⟨O,v,U,Y⟩:=h;obtain⟨o,al,am⟩:=Option.bind_eq_some_iff.1 U;exact⟨O,v,by unfold St.cell?;rw [g.get al];exact am,K v g Y⟩
 | store m a v k K=>
  intro s s₀ Q X g h;obtain⟨O,U,o,Y,ap,aq,aw⟩:=h;exact⟨O,U,o,g.own _ _ Y,ap,aq,K (g.upd _ (.inl ⟨o,Y⟩)) aw⟩
 | new o k K=>
  intro s s₀ Q X g h;refine⟨by rw [← g.q];exact h.1,λr O U=>?_⟩;obtain⟨ag,e2⟩:=g.none O U;exact K r (g.upd _ (.inr ag)) (h.2 r ag e2)
 | shape r k K=>intro s s₀ Q X g h;obtain⟨o,O,U⟩:=h;exact⟨o,g.get O,K _ g U⟩
 | freeze a n k K=>intro s s₀ Q X g h;exact h.elim
 | frozen a k K=>intro s s₀ Q X g h;obtain⟨o,O,U⟩:=h;exact⟨o,g.get O,K _ g U⟩
 | getObj r k K=>intro s s₀ Q X g h;obtain⟨o,O,U,Y⟩:=h;exact⟨o,g.get O,U,K _ g Y⟩
 | setObj r o k K=>
  intro s s₀ Q X g h;obtain⟨⟨o',O,ay⟩,U,Y⟩:=h;exact⟨⟨o',g.own _ _ O,ay⟩,U,K (g.upd _ (.inl ⟨o',O⟩)) Y⟩
 | choose q k K=>
  intro s s₀ Q X g h;simp only [lp] at h ⊢;split
  ·rename_i ac;rw [if_pos ac] at h;exact K _ g h
  ·rename_i ac;rw [if_neg ac] at h;exact⟨by rw [← g.q];exact h.1,λt=>K _ g (h.2 t)⟩
 | sys c k K=>intro s s₀ Q X g h;exact h.elim
 | program k K=>intro s s₀ Q X g h;exact K _ g h
 | mark m k K=>
  intro s s₀ Q X g h;refine⟨?_,K g h.2⟩;rcases h.1 with⟨O,U⟩ | O
  ·exact .inl ⟨by rw [← g.q];exact O,U⟩
  ·exact .inr O
 | halt h=>intro s s₀ Q X g az;exact⟨s₀,g,az⟩
section
variable {P:Program}{J:Judge P}{Q:Gs_}{b:Frame}{n:Nat}{ds:Ld_}{ops:Ao_}{k:Li_}{cs:Lf_}{m fuel:Nat}{D:Nat->Bool}{listed:Array Bool}{L:Env}{s:St}{E E' H:LH}{S:List Seg}
variable {d:Option Tmp}{x y:Operand}{t u ty e:TypeId}{p:String}{af:Ae_}{g:On_}{v:Value}{i:Nat}{kd:IntKind}
theorem Q9{f:FuncId}{args:Array Operand}{ats:Array TypeId}{vs:Lv_}{seg:Seg}{R:Value->LH->Seg->Prop}(j:Nat)(a1:∀x,D x=true->∃(O:Nat) (o:Obj),(S.set j [])[O]? =some [(x,o)])(a2:AK J f vs E seg R)(a3:Region.ready .any ops listed= [i])
  (a4:ops[i]? =some ⟨d,.call ⟨.value (.func f),args,ats⟩,ty,p,af,g⟩) (a5:Bf n d=true) (hw:AL L ops ⟨d,.call ⟨.value (.func f),args,ats⟩,ty,p,af,g⟩=some true) (hb:DO P f=true) (a6:evs L args.toList=some vs) (Z:Ap E H S) (ac:S[j]? =some seg)
  (a7:∀v E' seg',Le E E'->R v E' seg'->Ap E' H (S.set j seg')->AJ J Q b n ds ops k cs m D fuel (A8 listed i) (Av L d v) (Ak E' H (S.set j seg'))):
  AJ J Q b n ds ops k cs m D (fuel+1) listed L (Ak E H S):=by
 have al:S.flatten.Perm (seg++(S.set j []).flatten):=(Em (seg':=seg) ac).1.trans List.perm_append_comm;have am:Nd E H (seg++(S.set j []).flatten):=Nd.perm Z al;have a8:Ak E H S=mk E (Bi (S.set j []).flatten H) seg:=by
  rw [show Ak E H S=mk E H S.flatten from rfl,Fg Z al];unfold mk;rw [FW]
 have ap:=EL.Lc (a2 (Bi (S.set j []).flatten H) (Nd.front am)) (by rintro v s' ⟨E',B',_,_,_,rfl⟩;rfl);rw [← a8] at ap;refine AJ.call rfl a3 a4 a5 hw hb a6 ap ?_;rintro v bu ⟨⟨E',B',hle,a9,bb,rfl⟩,w,be⟩;have e2:mk E' (Bi (S.set j []).flatten H) B'=mk E' H (B'++(S.set j []).flatten):=by unfold mk;rw [FW]
 have bi:Nd E H (S.set j []).flatten:=by
  have:=am;rw [Nd.iff] at this ⊢;rw [List.map_append,List.nodup_append] at this;exact⟨this.1.2.1,λq bn=>this.2 q (List.mem_append_right _ bn)⟩
 have bo:Nd E' H (S.set j []).flatten:=bi.grow λx U=>by
  have bq:=be.d x U;have ag:Bi B' (Bi (S.set j []).flatten H) x=none:=bq;exact(HT ag).1
 have aq:Nd E' H (B'++(S.set j []).flatten):=Nd.glue bb bo;have aw:(B'++(S.set j []).flatten).Perm (S.set j B').flatten:=List.perm_append_comm.trans (Em ac).2.symm;have ay:Ap E' H (S.set j B'):=Nd.perm aq aw;rw [e2,Fg aq aw];refine⟨rfl,λx o U=>?_,a7 v E' B' hle a9 ay⟩;by_cases hd:D x=true
 ·obtain⟨O,o',Y⟩:=a1 x hd;have az:j≠O:=λh=>by
   subst h;rw [List.getElem?_set_self (List.getElem?_eq_some_iff.1 ac).1] at Y;cases Y
  have a0:S[O]? =some [(x,o')]:=by rw [List.getElem?_set_ne az] at Y;exact Y
  have ag:(Ak E H S).get x=some o':=Dx (i:=0) Z a0 rfl;have br:(Ak E' H (S.set j B')).get x=some o':=Dx (i:=0) ay (by rw [List.getElem?_set_ne az];exact a0) rfl;have K:(if D x then(Ak E H S).get x else E x)=some o:=U
  show(if D x then(Ak E' H (S.set j B')).get x else E' x)=some o
  rw [if_pos hd] at K ⊢;rw [br,← ag];exact K
 ·have K:(if D x then(Ak E H S).get x else E x)=some o:=U
  show(if D x then(Ak E' H (S.set j B')).get x else E' x)=some o
  rw [if_neg hd] at K ⊢;exact hle _ _ K
theorem AJ.perm{S':List Seg}(K:S.flatten.Perm S'.flatten)(O:Ap E H S)(h:Ap E H S'->AJ J Q b n ds ops k cs m D fuel listed L (Ak E H S')):AJ J Q b n ds ops k cs m D fuel listed L (Ak E H S):=by
 have e:Ak E H S=Ak E H S':=Fg O K;rw [e];exact h (Nd.perm O K)
theorem JA.ghost:∀(fuel:Nat) {listed:Array Bool} {T:Av_} {s s₀:St},Cl s s₀->JA J Q b ds ops k cs m CB fuel listed T s₀->JA J Q b ds ops k cs m CB fuel listed T s
 | 0,listed,T,s,s₀,g,h=>⟨h.1,J.ghost g h.2⟩
 | fuel+1,listed,T,s,s₀,g,h=>by
  rcases h with⟨O,U⟩ | ⟨O,U,ac⟩
  ·exact .inl ⟨O,λt=>J.ghost g (U t)⟩
  ·refine .inr ⟨O,by rw [← g.q];exact U,λi hi o ag=>?_⟩;obtain⟨a1,al,am⟩:=ac i hi o ag;refine⟨a1,λe=>JA.ghost fuel g (al e),λe=>?_⟩;have ap:=WW _ (s:=BA CB s) (s₀:=BA CB s₀) g (am e);refine En _ ap ?_ (λ_ s' ⟨_,_,h⟩=>h);intro aq s' K;obtain⟨Y,Z,K⟩:=K;cases aq with
   | value v=>exact JA.ghost fuel (s:=s') (s₀:=Y) Z K
   | skip=>exact JA.ghost fuel (s:=s') (s₀:=Y) Z K
   | enter f args=>
    obtain⟨R,aw,ay⟩:=K;refine⟨R,λQ c cs az=>J.ghost (s:=s') (s₀:=Y) Z (aw Q c cs az),λv a0 a2=>?_⟩;obtain⟨a3,a4,a5⟩:=ay v a0 a2;exact⟨a3,λx o K=>a4 x o (g.ext x o K),a5⟩
   | _=>exact K.elim
theorem F7{α:Type}{pp:Rp α}{a:Option Addr}{c:Nat}{seg:Seg}{xs:List α}(j:Nat)(K:OL e pp E a c seg xs)(O:Ap E H S)(U:S[j]? =some seg)
  (h:∀E',Le E E'->Al pp E' a c xs->Ap E' H (S.set j [])->AJ J Q b n ds ops k cs m CB fuel listed L (Ak E' H (S.set j []))):AJ J Q b n ds ops k cs m CB fuel listed L (Ak E H S):=λT Y=>by
 obtain⟨E',Z,ac,ag,al⟩:=Ur j K O U
 exact JA.ghost _ al (h E' Z ac ag T Y)
end
end Pal
namespace Pal
open Go Go.Conc
theorem oi{α:Type}{a b:α}(h:some a=some b):a=b:=Option.some.inj h
theorem bs{α β:Type}{o:Option α}{f:α->Option β}{r:β}(h:o.bind f=some r):∃x,o=some x/\f x=some r:=bind_some h
def H8(L:Env):Env->List (Option Value)
 | []=> []
 | (t,_)::L'=>look L t::H8 L L'
def Ib:Env->List (Option Value)
 | []=> []
 | (_,v)::L'=>some v::Ib L'
theorem NC{L:Env}:∀{L':Env},H8 L L'=Ib L'->Sub L' L
 | [],_=>trivial
 | (t,v)::L',h=>by
  simp only [H8,Ib,List.cons.injEq] at h
  exact⟨h.1,NC h.2⟩
section
variable {P:Program}{J:Judge P}{Q:Gs_}{b:Frame}{n:Nat}{L L':Env}{ds:Ld_}{k k':Li_}{cs:Lf_}{s:St}{ops:Ao_}{i:Nat}{rest:List Nat}{v:Value}
variable {d:Option Tmp}{op:Op}{ty:TypeId}{p:String}{af:Ae_}{g:On_}
theorem Ep(L':Env)(h:H8 L L'=Ib L')(k':JL J Q b n L' ds k cs s):JL J Q b n L ds k cs s:=EO (NC h) k'
theorem AA(k':JL J Q b n L' ds k cs s)(h:H8 L L'=Ib L'):JL J Q b n L ds k cs s:=EO (NC h) k'
def Fl(b:Frame)(n:Nat)(L:Env)(ops:Ao_)(i:Nat):Option Oper:=
 match I9 ops.toList i with
 | some ⟨d,op,ty,p,af,g⟩=>match AL L ops ⟨d,op,ty,p,af,g⟩ with
  | some true=>match BL b n ⟨d,op,ty,p,af,g⟩ with
   | true=>some ⟨d,op,ty,p,af,g⟩
   | false=>none
  | _=>none
 | none=>none
theorem J9{o:Oper}(h:Fl b n L ops i=some o):ops[i]? =some o/\AL L ops o=some true/\BL b n o=true:=by
 unfold Fl at h;split at h
 ·rename_i K;rw [KU,Array.getElem?_toList] at K;split at h
  ·rename_i hw;split at h
   ·rename_i O;cases h;exact⟨K,hw,O⟩
   ·cases h
  ·cases h
 ·cases h
theorem Am(K:Fl b n L ops i=some ⟨d,op,ty,p,af,g⟩)(h:∀ρ,EP L ρ->Yl P ⟨d,op,ty,p,af,g⟩ ρ s v)(O:JL J Q b n (Av L d v) ds (.inRegion ops rest::k) cs s):
  JL J Q b n L ds (.inRegion ops (i::rest)::k) cs s:=
 let ⟨U,Y,Z⟩:=J9 K
 A5 U Y Z h O
theorem Nu{f:FuncId}{fn:Func}{c:Code}{E:LH}{vs:Lv_}{B:Seg}{R:Value->LH->Seg->Prop}(O:P.funcs[f]? =some fn)(hb:fn.body=some c)(U:Nat.ble vs.length fn.ntmps=true)
  (h:∀(Q:Gs_) (K:Frame) (cs:Lf_) (H:LH),Ap E H [B]->(∀v E' S' B',Le E E'->S'.flatten=B'->R v E' B'->Ap E' H S'->J.ok Q (G (K.finish v) cs) (Ak E' H S'))->JL J Q (base f) fn.ntmps (Ga 0 vs) [] [.code c] (K::cs) (Ak E H [B])):AK J f vs E B R:=
 AK.enter O hb (Nat.le_of_ble_eq_true U) h
def N5(n:Nat)(L:Env)(ops:Ao_)(i:Nat):Option Env:=
 match I9 ops.toList i with
 | some ⟨d,op,ty,p,af,g⟩=>match AL L ops ⟨d,op,ty,p,af,g⟩ with
  | some true=>match Bf n d with
   | true=>match Ki L op with
    | some v=>match d with
     | some d=>some ((d,v)::L)
     | none=>some L
    | none=>none
   | false=>none
  | some false=>match Bf n d with
   | true=>match d with
    | some d=>some ((d,undef)::L)
    | none=>some L
   | false=>none
  | none=>none
 | none=>none
def GQ(n:Nat)(L:Env)(ops:Ao_)(i:Nat):Option Oper:=
 match I9 ops.toList i with
 | some ⟨d,op,ty,p,af,g⟩=>match AL L ops ⟨d,op,ty,p,af,g⟩ with
  | some true=>match Bf n d with
   | true=>some ⟨d,op,ty,p,af,g⟩
   | false=>none
  | _=>none
 | none=>none
theorem OG{o:Oper}(h:GQ n L ops i=some o):ops[i]? =some o/\AL L ops o=some true/\Bf n o.dst=true:=by
 unfold GQ at h;split at h
 ·rename_i K;rw [KU,Array.getElem?_toList] at K;split at h
  ·rename_i hw;split at h
   ·rename_i O;cases h;exact⟨K,hw,O⟩
   ·cases h
  ·cases h
 ·cases h
theorem WH(h:N5 n L ops i=some L'):∃o,ops[i]? =some o/\Bf n o.dst=true/\((∃v,AL L ops o=some true/\Ki L o.op=some v/\L'=Av L o.dst v)∨(AL L ops o=some false/\L'=Av L o.dst undef)):=by
 unfold N5 at h;split at h
 ·rename_i d op ty p af g O;rw [KU,Array.getElem?_toList] at O;refine⟨_,O,?_⟩;split at h
  ·rename_i hw;split at h
   ·rename_i K;refine⟨K,.inl ?_⟩;split at h
    ·rename_i v U;refine⟨v,hw,U,?_⟩;cases d with
     | none=>cases h;rfl
     | some d=>cases h;rfl
    ·cases h
   ·cases h
  ·rename_i hw;split at h
   ·rename_i K;refine⟨K,.inr ⟨hw,?_⟩⟩;cases d with
    | none=>cases h;rfl
    | some d=>cases h;rfl
   ·cases h
  ·cases h
 ·cases h
variable {m:Nat}{D:Nat->Bool}{fuel:Nat}{listed:Array Bool}
theorem Cs(i:Nat)(K:Ed ops m=true)(O:s.q=false)(h:N5 n L ops i=some L')
  (U:AJ J Q b n ds ops k cs m D fuel (A8 listed i) L' s) (Y:Ge ops listed m i=true:=by decide+kernel):AJ J Q b n ds ops k cs m D (fuel+1) listed L s:=by
 obtain⟨o,Z,ac,⟨v,hw,ag,rfl⟩ | ⟨hw,rfl⟩⟩:=WH h
 ·exact JG.val i Z K Y O hw ac (λρ al s' _=>M1 al ag) U
 ·exact ZJ i Z K Y O hw ac U
theorem AP(i:Nat)(K:Ed ops m=true)(O:s.q=false)(U:GQ n L ops i=some ⟨d,op,ty,p,af,g⟩)
  (Y:∀ρ,EP L ρ->∀s':St,(∀x o,(BA D s).E x=some o->s'.E x=some o)->Yl P ⟨d,op,ty,p,af,g⟩ ρ s' v)
  (Z:AJ J Q b n ds ops k cs m D fuel (A8 listed i) (Av L d v) s) (ac:Ge ops listed m i=true:=by decide+kernel):AJ J Q b n ds ops k cs m D (fuel+1) listed L s:=by
 obtain⟨ag,al,am⟩:=OG U;exact JG.val i ag K ac O al am Y Z
end
end Pal
namespace Pal
open Go Go.Conc
abbrev Jn(E H E':LH)(S:List Seg)(K L:Env)(s:St)(R:Prop):Prop:=L=K/\s=Ak E' H S/\Le E E'/\Ap E' H S/\R
abbrev Jm(E H E':LH)(S:List Seg)(K L:Env)(s:St):Prop:=L=K/\s=Ak E' H S/\Le E E'/\Ap E' H S
def NX(L:Env):List ResultVar->Option (Lv_)
 | []=>some []
 | .tmp t::rs=>match look L t with
  | some v=>match NX L rs with
   | some vs=>some (v::vs)
   | none=>none
  | none=>none
 | _=>none
theorem SL{P:Program}{L:Env}{s:St}:∀{rs:List ResultVar} {vs:Lv_},NX L rs=some vs->RV P L s rs vs
 | [],vs,h=>by cases h;trivial
 | .tmp t::rs,vs,h=>by
  unfold NX at h
  split at h
  ·rename_i v K
   split at h
   ·rename_i ws hw;cases h;exact⟨K,SL hw⟩
   ·cases h
  ·cases h
 | .cell _ _::_,_,h=>by cases h
section
variable {P:Program}{J:Judge P}{Q:Gs_}{b:Frame}{n:Nat}{L L':Env}{ds:Ld_}{k k':Li_}{cs:Lf_}{s:St}{ops:Ao_}{i:Nat}{rest:List Nat}{v:Value}{E H:LH}{S:List Seg}
variable {d:Option Tmp}{op:Op}{x y:Operand}{t ft ty e:TypeId}{p:String}{af:Ae_}{g:On_}
theorem AN{c:Frame}{fn:Func}{vs:Lv_}(O:P.funcs[b.fn]? =some fn)(K:(b.kind== .normal&&b.roundOf.isNone)=true)(U:NX L fn.results.toList=some vs)(h:J.ok Q (G (c.finish (M8 vs)) cs) s):JL J Q b n L [] (.code .ret::k) (c::cs) s:=by
 simp only [Bool.and_eq_true,beq_iff_eq,Option.isNone_iff_eq_none] at K;exact JL.ret K.1 K.2 (Bz.list O rfl (SL U)) h
theorem BU{f:FuncId}{args:Array Operand}{ats:Array TypeId}{vs:Lv_}{R:Value->LH->Seg->Prop}
  (O:AK J f vs E [] R) (U:Fl b n L ops i=some ⟨d,.call ⟨.value (.func f),args,ats⟩,ty,p,af,g⟩) (Y:evs L args.toList=some vs) (hb:DO P f=true)
  (Z:Ap E H S) (ac:∀v E' seg',Le E E'->R v E' seg'->Ap E' H (S++ [seg'])->JL J Q b n (Av L d v) ds (.inRegion ops rest::k) cs (Ak E' H (S++ [seg']))):
  JL J Q b n L ds (.inRegion ops (i::rest)::k) cs (Ak E H S):=by
 obtain⟨ag,al,K⟩:=J9 U;refine JS.call O ag al ?_ hb Y Z ac;simp only [BL,Bool.and_eq_true] at K ⊢;exact⟨K.1,K.2.1⟩
theorem Cn{f:FuncId}{args:Array Operand}{ats:Array TypeId}{vs:Lv_}{v:Value}
  (O:AK J f vs E [] (λw E' B'=>w=v/\B'= [])) (U:Fl b n L ops i=some ⟨d,.call ⟨.value (.func f),args,ats⟩,ty,p,af,g⟩) (Y:evs L args.toList=some vs) (hb:DO P f=true)
  (K:Ap E H S) (Z:∀E',Le E E'->Ap E' H (S++ [[]])->JL J Q b n (Av L d v) ds (.inRegion ops rest::k) cs (Ak E' H (S++ [[]]))):
  JL J Q b n L ds (.inRegion ops (i::rest)::k) cs (Ak E H S):=BU O U Y hb K (by rintro _ E' _ hle ⟨rfl,rfl⟩ K;exact Z E' hle K)
theorem Cv{f:FuncId}{args:Array Operand}{ats:Array TypeId}{vs:Lv_}{seg:Seg}{R:Value->LH->Seg->Prop}(j:Nat)
  (O:AK J f vs E seg R) (U:Fl b n L ops i=some ⟨d,.call ⟨.value (.func f),args,ats⟩,ty,p,af,g⟩) (Y:evs L args.toList=some vs) (hb:DO P f=true)
  (Z:Ap E H S) (ac:S[j]? =some seg) (ag:∀v E' seg',Le E E'->R v E' seg'->Ap E' H (S.set j seg')->JL J Q b n (Av L d v) ds (.inRegion ops rest::k) cs (Ak E' H (S.set j seg'))):
  JL J Q b n L ds (.inRegion ops (i::rest)::k) cs (Ak E H S):=by
 obtain⟨al,am,K⟩:=J9 U;refine RL j O al am ?_ hb Y Z ac ag;simp only [BL,Bool.and_eq_true] at K ⊢;exact⟨K.1,K.2.1⟩
def LK(K:Array Field)(i:Nat):Option (Nat×TypeId):=match K[i]? with
 | some f=>some (f.offset,f.type)
 | none=>none
theorem Bt{r m m':Int}{u:TypeId}(h:Ax (m+m')=some r)(K:Fl b n L ops i=some ⟨d,.binOp .add t x y u,ty,p,af,g⟩)(O:ev L x=some (iV m))(U:ev L y=some (iV m'))
  (Y:JL J Q b n (Av L d (iV r)) ds (.inRegion ops rest::k) cs s):JL J Q b n L ds (.inRegion ops (i::rest)::k) cs s:=Am K (λ_ q=>Fq (q _ _ O) (q _ _ U) h) Y
theorem Cm{r m m':Int}{u:TypeId}(h:Ax (m - m')=some r)(K:Fl b n L ops i=some ⟨d,.binOp .sub t x y u,ty,p,af,g⟩)(O:ev L x=some (iV m))(U:ev L y=some (iV m'))
  (Y:JL J Q b n (Av L d (iV r)) ds (.inRegion ops rest::k) cs s):JL J Q b n L ds (.inRegion ops (i::rest)::k) cs s:=Am K (λ_ q=>DL (q _ _ O) (q _ _ U) h) Y
theorem JL.ln{a:Option Addr}{e:TypeId}{l c:Nat}{ats:Array TypeId}(K:P.underlying t=some (.slice e))(O:Fl b n L ops i=some ⟨d,.call ⟨.builtin .len,#[x],ats⟩,ty,p,af,g⟩)(U:ats[0]? =some t)(Y:ev L x=some (.slice a l c))
  (Z:JL J Q b n (Av L d (.int .i64 l)) ds (.inRegion ops rest::k) cs s):JL J Q b n L ds (.inRegion ops (i::rest)::k) cs s:=Am O (λ_ q=>Yl.len U K (q _ _ Y)) Z
theorem JL.fd{bk o O off:Nat}{U:Array Field}{Y:Nat}(Z:P.underlying t=some (.struct U))(ac:Bl P ft=some (O+1))(ag:Fl b n L ops i=some ⟨d,.fieldAddr t x Y,ty,p,af,g⟩)(al:ev L x=some (.pointer (some ⟨bk,o,none⟩)))(K:LK U Y=some (off,ft))
  (am:JL J Q b n (Av L d (.pointer (some ⟨bk,o+off,none⟩))) ds (.inRegion ops rest::k) cs s):
  JL J Q b n L ds (.inRegion ops (i::rest)::k) cs s:=by
 unfold LK at K;split at K
 ·rename_i f ap;cases K;refine Am ag (λρ h=>Gr (a:=⟨bk,o,none⟩) O f.offset Z ac ap rfl rfl (h _ _ al)) ?_;rw [Ec rfl];exact am
 ·cases K
theorem CL{bk o:Nat}{ws:Lv_}(j:Nat)(K:At E bk o ws)(O:Ds P t=some false)(U:Fl b n L ops i=some ⟨d,.load t x,ty,p,af,g⟩)(Y:ev L x=some (.pointer (some ⟨bk,o+j,none⟩)))(Z:ws[j]? =some v)
  (ac:JL J Q b n (Av L d v) ds (.inRegion ops rest::k) cs (Ak E H S)):
  JL J Q b n L ds (.inRegion ops (i::rest)::k) cs (Ak E H S):=
 Am U (λ_ h=>Yl.load O (h _ _ Y) (At.K0 K Z)) ac
theorem ZI{bk off:Nat}{c:Av_}(j:Nat)(K:Ap E H S)(O:Bl P t=some v.cells.size)(U:Fl b n L ops i=some ⟨d,.store t x y,ty,p,af,g⟩)
  (Y:ev L x=some (.pointer (some ⟨bk,off,none⟩))) (Z:ev L y=some v) (ac:S[j]? =some [(bk,.cells c e (0,0))])
  (h:Ap E H (S.set j [(bk,.cells (Be c off v.cells.toList) e (0,0))])->JL J Q b n (Av L d undef) ds (.inRegion ops rest::k) cs (Ak E H (S.set j [(bk,.cells (Be c off v.cells.toList) e (0,0))])))
  (hle:off+v.cells.size<=c.size:=by exact Nat.le_of_ble_eq_true rfl) (ag:∀u∈v.cells.toList,Dc u=true:=by simp [Value.cells,Dc]):
  JL J Q b n L ds (.inRegion ops (i::rest)::k) cs (Ak E H S):=by
 obtain⟨al,am,ap⟩:=J9 U;exact JS.store j al am ap K Y Z O ag ac hle h
theorem B3{bk o:Nat}{ws:Lv_}(K:At E bk o ws)(O:Ds P t=some true)(U:Bl P t=some ws.length)(Y:Fl b n L ops i=some ⟨d,.load t x,ty,p,af,g⟩)(Z:ev L x=some (.pointer (some ⟨bk,o,none⟩)))
  (ac:JL J Q b n (Av L d (.agg ws.toArray)) ds (.inRegion ops rest::k) cs (Ak E H S)):
  JL J Q b n L ds (.inRegion ops (i::rest)::k) cs (Ak E H S):=
 Am Y (λ_ h=>FE O U (h _ _ Z) (At.Ps K)) ac
variable {m:Nat}{D:Nat->Bool}{fuel:Nat}{listed:Array Bool}
theorem JG.fd{bk o O off:Nat}{U:Array Field}{Y:Nat}(i:Nat)(Z:Ed ops m=true)(ac:P.underlying t=some (.struct U))(ag:Bl P ft=some (O+1))(al:s.q=false)(am:GQ n L ops i=some ⟨d,.fieldAddr t x Y,ty,p,af,g⟩)(ap:ev L x=some (.pointer (some ⟨bk,o,none⟩)))(K:LK U Y=some (off,ft))
  (aq:AJ J Q b n ds ops k cs m D fuel (A8 listed i) (Av L d (.pointer (some ⟨bk,o+off,none⟩))) s) (aw:Ge ops listed m i=true:=by decide+kernel):AJ J Q b n ds ops k cs m D (fuel+1) listed L s:=by
 unfold LK at K;split at K
 ·rename_i f ay;cases K;refine AP i Z al am (λρ h _ _=>Gr (a:=⟨bk,o,none⟩) O f.offset ac ag ay rfl rfl (h _ _ ap)) ?_ aw;rw [Ec rfl];exact aq
 ·cases K
theorem Dj{bk o:Nat}{ws:Lv_}(i:Nat)(K:Ed ops m=true)(j:Nat)(O:At (BA D s).E bk o ws)(U:Ds P t=some false)(Y:s.q=false)(Z:GQ n L ops i=some ⟨d,.load t x,ty,p,af,g⟩)(ac:ev L x=some (.pointer (some ⟨bk,o+j,none⟩)))(ag:ws[j]? =some v)
  (al:AJ J Q b n ds ops k cs m D fuel (A8 listed i) (Av L d v) s) (am:Ge ops listed m i=true:=by decide+kernel):AJ J Q b n ds ops k cs m D (fuel+1) listed L s:=
 AP i K Y Z (λ_ h _ ap=>Yl.load U (h _ _ ac) (At.I6 O ap ag)) al am
theorem Gq{bk o:Nat}{ws:Lv_}(i:Nat)(K:Ed ops m=true)(O:At (BA D s).E bk o ws)(U:Ds P t=some true)(Y:Bl P t=some ws.length)(Z:s.q=false)(ac:GQ n L ops i=some ⟨d,.load t x,ty,p,af,g⟩)(ag:ev L x=some (.pointer (some ⟨bk,o,none⟩)))
  (al:AJ J Q b n ds ops k cs m D fuel (A8 listed i) (Av L d (.agg ws.toArray)) s) (am:Ge ops listed m i=true:=by decide+kernel):AJ J Q b n ds ops k cs m D (fuel+1) listed L s:=
 AP i K Z ac (λ_ h _ ap=>FE U Y (h _ _ ag) (At.YO O ap)) al am
end
end Pal
namespace Pal
open Go Go.Conc
abbrev Qc:=Int×List Int×Nat
abbrev AG:=List (Int×Int)
abbrev Cw:=List Int×Int×Nat
abbrev An:=Option Addr
abbrev Du:Rp (Int×Int):=rP rI rI
theorem ip{α:Type}{p:Prop} [Decidable p] {A B:Option α}{r:α}(h:(if p then A else B)=some r)(c:p):A=some r:=by rwa [if_pos c] at h
theorem im{α:Type}{p:Prop} [Decidable p] {A B:Option α}{r:α}(h:(if p then A else B)=some r)(c:¬p):B=some r:=by rwa [if_neg c] at h
theorem ib{α:Type}{c:Bool}{A B:Option α}{r:α}(h:(if c=true then A else B)=some r)(K:c=false):B=some r:=by subst K;simpa using h
def P4(n:Nat)(ops:Ao_):List Nat->Nat->Env->Option (Nat×Env)
 | [],f,L=>some (f,L)
 | i::l,f+1,L=>match N5 n L ops i with
  | some L'=>P4 n ops l f L'
  | none=>none
 | _::_,0,_=>none
def P0(ops:Ao_)(m:Nat):Array Bool->List Nat->Bool
 | _,[]=>true
 | listed,i::l=>Ge ops listed m i&&P0 ops m (A8 listed i) l
def TV:Array Bool->List Nat->Array Bool
 | listed,[]=>listed
 | listed,i::l=>TV (A8 listed i) l
theorem A6{P:Program}{J:Judge P}{Q:Gs_}{b:Frame}{n:Nat}{ds:Ld_}{k:Li_}{cs:Lf_}{s:St}{ops:Ao_}{m:Nat}{D:Nat->Bool}{L':Env}{U:Nat}(Y:Ed ops m=true)(Z:s.q=false):
  ∀(l:List Nat) {fuel:Nat} {listed:Array Bool} {L:Env},P4 n ops l fuel L=some (U,L')->AJ J Q b n ds ops k cs m D U (TV listed l) L' s->(K:P0 ops m listed l=true:=by decide+kernel)->AJ J Q b n ds ops k cs m D fuel listed L s
 | [],fuel,listed,L,h,O,_=>by cases h;exact O
 | i::l,fuel,listed,L,h,O,K=>by
  cases fuel with
  | zero=>cases h
  | succ fuel=>
   unfold P0 at K;rw [Bool.and_eq_true] at K;unfold P4 at h;split at h
   ·rename_i ac e;exact Cs i Y Z e (A6 Y Z l h O K.2) K.1
   ·cases h
theorem zg{P:Program}{J:Judge P}{Q:Gs_}{b:Frame}{n:Nat}{L L':Env}{ds:Ld_}{k k':Li_}{cs:Lf_}{s:St}(m:Nat)(h:No b n m k L=some (k',L'))(K:JL J Q b n L' ds k' cs s):JL J Q b n L ds k cs s:=JL.go m h K
abbrev bX(r:Nat)(c:Av_)(t:TypeId):Seg:= [(r,.cells c t (0,0))]
end Pal
namespace Pal
open Go Go.Conc
section
variable {P:Program}{J:Judge P}{Q:Gs_}{b:Frame}{n:Nat}{L L':Env}{ds:Ld_}{k:Li_}{cs:Lf_}{s:St}{ops:Ao_}{E H:LH}{S:List Seg}
variable {α:Type}{A B:Option α}{r:α}
theorem AT{c:Operand}{x y:Code}{p:Prop} [Decidable p] (K:(if p then A else B)=some r)(O:p->A=some r->JL J Q b n L ds (.code x::k) cs s)(U:¬p->B=some r->JL J Q b n L ds (.code y::k) cs s)
  (Y:ev L c=some (.bool (decide p)):=by exact rfl):JL J Q b n L ds (.code (.cond c x y)::k) cs s:=FX Y (λh=>O h (ip K h)) λh=>U h (im K h)
theorem Cc{c:Operand}{x y:Code}{t:Bool}(K:(if t=true then A else B)=some r)(O:t=true->A=some r->JL J Q b n L ds (.code x::k) cs s)(U:t=false->B=some r->JL J Q b n L ds (.code y::k) cs s)
  (Y:ev L c=some (.bool t):=by exact rfl):JL J Q b n L ds (.code (.cond c x y)::k) cs s:=OQ Y (λh=>O h (ip K h)) λh=>U h (ib K h)
theorem GL{q:Prop} [Decidable q] (i:Nat)(K:(if q then A else B)=some r)(O:q->A=some r->JL J Q b n (Av L (some i) (.bool true)) ds k cs s)(U:¬q->B=some r->JL J Q b n (Av L (some i) (.bool false)) ds k cs s)
  (Y:look L i=some (.bool (decide q)):=by exact rfl):JL J Q b n L ds k cs s:=Lt Y (λh=>O h (ip K h)) λh=>U h (im K h)
theorem Fh{t:Bool}(i:Nat)(K:(if t=true then A else B)=some r)(O:t=true->A=some r->JL J Q b n (Av L (some i) (.bool true)) ds k cs s)(U:t=false->B=some r->JL J Q b n (Av L (some i) (.bool false)) ds k cs s)
  (Y:look L i=some (.bool t):=by exact rfl):JL J Q b n L ds k cs s:=J7 Y (λh=>O h (ip K h)) λh=>U h (ib K h)
theorem CI{K O:Type}{c:Code}{body:K->Option (Bm K O)}{f:Nat}{U:K}{a:O}(Z:iter body f U=some a)(I:Env->St->K->Prop)(ac:I L' s U)
  (round:∀L s x,I L s x->(∀Y,body x=some (.done Y)->Y=a)->(∃st,body x=some st)->(∀L' s' x',I L' s' x'->body x=some (.more x')->JL J Q b n L' ds (.inLoop c::k) cs s')->JL J Q b n L ds (.code c:: .inLoop c::k) cs s)
  (ag:H8 L L'=Ib L':=by exact rfl):JL J Q b n L ds (.code (.loop c)::k) cs s:=Ep L' ag (Rr Z I ac round)
variable {m:Nat}{D:Nat->Bool}{fuel:Nat}{listed:Array Bool}
def NP(ops:Ao_):Array Bool->List Nat->Bool
 | _,[]=>true
 | l,i::t=>Region.ready .any ops l== [i]&&NP ops (A8 l i) t
theorem RX:∀{t:List Nat} {l:Array Bool},NP ops l t=true->∀u,Region.linearise.go .any ops t.length u l []=t
 | [],_,_,_=>rfl
 | i::t,l,h,u=>by
  unfold NP at h
  rw [Bool.and_eq_true,beq_iff_eq] at h
  exact ZA h.1 (RX h.2) u
theorem Ck(t:List Nat)(O:JL J Q b n L ds (.inRegion ops t::k) cs s)(K:(PQ m listed&&NP ops listed t&&(fuel+1==t.length))=true:=by decide+kernel):AJ J Q b n ds ops k cs m D (fuel+1) listed L s:=by
 rw [Bool.and_eq_true,Bool.and_eq_true,beq_iff_eq] at K;exact AJ.leaf K.1.1 (by rw [K.2];exact RX K.1.2) O
theorem Ei(m:Nat){id:Nat}(h:Ed ops m=true->AJ J Q b n ds ops k cs m CB ops.size (Array.replicate ops.size false) L (Ak E H S))(hm:P.follows .mixedOrders=true:=by exact rfl)(K:(b.kind != .early)=true:=by exact rfl)(O:Ed ops m=true:=by decide+kernel):
  JL J Q b n L ds (.code (.region id ops true)::k) cs (Ak E H S):=Wc m hm K O h
theorem Ft(m:Nat)(bks:List Nat){id:Nat}(K:HE S bks)(O:Ap E H S)(h:Ed ops m=true->AJ J Q b n ds ops k cs m (AZ bks) ops.size (Array.replicate ops.size false) L (Ak E H S))(hm:P.follows .mixedOrders=true:=by exact rfl)(U:(b.kind != .early)=true:=by exact rfl)(Y:Ed ops m=true:=by decide+kernel):
  JL J Q b n L ds (.code (.region id ops true)::k) cs (Ak E H S):=Wn m bks K O hm U Y h
theorem ER{α:Type}{pp:Rp α}{a:Option Addr}{c:Nat}{xs:List α}{xv:α}{K:Int}{d:Option Tmp}{x y:Operand}{t ty e:TypeId}{p:String}{af:Ae_}{g:On_}{kd:IntKind}(i:Nat)(O:Al pp E a c xs)(U:ix xs K=some xv)(Y:Ed ops m=true)(Z:P.underlying t=some (.slice e))(ac:Bl P e=some pp.n)
  (h:∀bk o ws,pp.r E ws xv->At E bk o ws->AJ J Q b n ds ops k cs m D fuel (A8 listed i) (Av L d (.pointer (some ⟨bk,o,none⟩))) s)
  (ag:ops[i]? =some ⟨d,.indexAddr t x y,ty,p,af,g⟩:=by exact rfl) (al:Ge ops listed m i=true:=by decide+kernel) (am:s.q=false:=by exact rfl)
  (hw:AL L ops ⟨d,.indexAddr t x y,ty,p,af,g⟩=some true:=by exact rfl) (ap:Bf n d=true:=by exact rfl)
  (aq:ev L x=some (.slice a xs.length c):=by exact rfl) (aw:ev L y=some (.int kd K):=by exact rfl):
  AJ J Q b n ds ops k cs m D (fuel+1) listed L s:=Zd i O U ag Y al am hw ap aq aw Z ac h
end
end Pal
namespace Pal
open Go Go.Conc
theorem Ex{P:Program}{J:Judge P}{Q:Gs_}{b:Frame}{n:Nat}{ds:Ld_}{ops:Ao_}{k:Li_}{cs:Lf_}{m fuel:Nat}{D:Nat->Bool}{listed:Array Bool}{L L':Env}{s:St}(k':AJ J Q b n ds ops k cs m D fuel listed L' s)(h:H8 L L'=Ib L'):AJ J Q b n ds ops k cs m D fuel listed L s:=CX (NC h) k'
instance {α:Type} [DecidableEq α] (xs:List α):Decidable (xs= []):=inferInstance
section
variable {P:Program}{J:Judge P}{Q:Gs_}{b:Frame}{n:Nat}{L L':Env}{ds:Ld_}{k:Li_}{cs:Lf_}{s:St}{ops:Ao_}{E H:LH}{S:List Seg}{i:Nat}{rest:List Nat}
variable {d:Option Tmp}{x y:Operand}{t u ty e:TypeId}{p:String}{af:Ae_}{g:On_}{v w:Value}
end
section
variable {P:Program}{J:Judge P}{Q:Gs_}{b:Frame}{n:Nat}{ds:Ld_}{ops:Ao_}{k:Li_}{cs:Lf_}{m fuel:Nat}{listed:Array Bool}{L:Env}{E H:LH}{S:List Seg}
variable {d:Option Tmp}{x y:Operand}{t ty e:TypeId}{p:String}{af:Ae_}{g:On_}{v:Value}{i:Nat}
theorem Take.LW{α:Type}{pp:Rp α}(O:Ap E H S)(U:ops[i]? =some ⟨d,.buildSlice t 0 #[],ty,p,af,g⟩)(hw:AL L ops ⟨d,.buildSlice t 0 #[],ty,p,af,g⟩=some true)(Y:Bf n d=true)
  (Z:P.underlying t=some (.slice e)) (ac:Bl P e=some pp.n)
  (h:∀r seg,OL e pp E (some ⟨r,0,none⟩) 0 seg ([]:List α)->Ap E H (S++ [seg])->AJ J Q b n ds ops k cs m CB fuel (A8 listed i) (Av L d (.slice (some ⟨r,0,none⟩) 0 0)) (Ak E H (S++ [seg]))):
  Take J Q b n ds ops k cs m CB fuel listed L (Ak E H S) i:=
 Take.Jd U (by simp [Dw,Y]) hw λρ al=>by
  rw [OH]
  refine Au _ _ ?_
  unfold Instr.buildSlice
  refine Au _ _ (Co Z ?_)
  refine Au _ _ (ED ac ?_)
  rw [if_neg (by omega),if_pos (by omega)]
  refine Au (x:=pure #[]) _ ?_
  simp only [lp,pure,List.map_toArray,List.map_nil,Instr.fill]
  refine Au _ _ (Iw O λr K=>?_)
  rw [(Fe K).1]
  exact h r _ ⟨[],.inr ⟨r,_,rfl,rfl,by simp,Nat.le_refl _,by simp⟩,rfl,λi x ws ag=>by simp at ag⟩ (Fe K).2
theorem Take.Jw{α:Type}{pp:Rp α}{t1:TypeId}{U c cx:Nat}{a ax:Option Addr}{seg:Seg}{xs ys Y:List α}{ats:Array TypeId}{z:Value}(j:Nat)(ac:Ap E H S)(ag:C4 xs ys=some Y)
  (al:ops[i]? =some ⟨d,.call ⟨.builtin .append,#[x,y],ats⟩,ty,p,af,g⟩) (hw:AL L ops ⟨d,.call ⟨.builtin .append,#[x,y],ats⟩,ty,p,af,g⟩=some true) (am:Bf n d=true)
  (ap:ev L x=some (.slice a xs.length c)) (aq:ev L y=some (.slice ax ys.length cx)) (aw:ats[0]? =some t) (ay:ats[1]? =some t1) (az:P.underlying t=some (.slice e)) (a0:P.underlying t1=some (.slice e)) (a1:Bl P e=some pp.n) (hb:Fw P e=some U) (a2:zeroOf P e=some z) (a3:z.cells.size=pp.n)
  (a4:0<U) (a5:U<=64) (a6:OL e pp E a c seg xs) (a7:Al pp E ax cx ys) (a8:S[j]? =some seg)
  (h:∀K O g seg',OL e pp E K O seg' Y->Ap E H (S.set j (g++seg'))->AJ J Q b n ds ops k cs m CB fuel (A8 listed i) (Av L d (.slice K Y.length O)) (Ak E H (S.set j (g++seg')))):
  Take J Q b n ds ops k cs m CB fuel listed L (Ak E H S) i:=
 Take.Jd al (by simp [Dw,am]) hw λρ Z=>Sz j ag (Z _ _ ap) (Z _ _ aq) aw ay az a0 a1 hb a2 a3 a4 a5 a6 (by
  obtain⟨a9,bb,be,bi,_⟩:=a7.KV (H:=H) (B:=S.flatten)
  exact⟨a9,bi,bb,be⟩) ac a8 λK O bn seg' bo bq=>h K O bn seg' bo bq
theorem Lz{s:St}{D:Nat->Bool}{i j l:Nat}(K:s.q=false)(O:Region.ready .any ops listed= [i,j,l])(hi:Take J Q b n ds ops k cs m D fuel listed L s i)(U:Take J Q b n ds ops k cs m D fuel listed L s j)(Y:Take J Q b n ds ops k cs m D fuel listed L s l):AJ J Q b n ds ops k cs m D (fuel+1) listed L s:=
 Ou K O (by simp) (by intro q K;simp at K;rcases K with rfl | rfl | rfl <;> assumption)
end
theorem Al.cut{α:Type}{pp:Rp α}{E:LH}{a:Option Addr}{c:Nat}{xs ys:List α}{lo hi:Int}(Y:Al pp E a c xs)(hC:HH xs lo hi=some ys):
  ∃Z ac,Al pp E Z ac ys/\∀{P:Program} {ρ:Operand->Value} {s:St} {d:Option Tmp} {x:Operand} {t ty e:TypeId} {p:String} {af:Ae_} {g:On_} {olo ohi:Option Operand},P.underlying t=some (.slice e)->Bl P e=some pp.n->ρ x= .slice a xs.length c->
   (match ohi with | some w=>ρ w=iV hi | none=>hi=xs.length)->(match olo with | some w=>ρ w=iV lo | none=>lo=0)->Yl P ⟨d,.slice t x olo ohi none,ty,p,af,g⟩ ρ s (.slice Z ys.length ac):=by
 unfold HH at hC;split at hC
 rotate_left
 ·cases hC
 rename_i hb;obtain⟨a2,a3,ap⟩:=hb;cases hC;obtain⟨lo,rfl⟩:∃l:Nat,lo=l:=⟨lo.toNat,by omega⟩;obtain⟨hi,rfl⟩:∃l:Nat,hi=l:=⟨hi.toNat,by omega⟩;simp only [Int.toNat_natCast] at*;have a4:=Y.1;have hlen:((xs.take hi).drop lo).length=hi - lo:=by simp;omega
 have ag:∀ad:Addr,a=some ad->ad.spot=none∨c=0:=λad K=>by
  rcases Y.2 with⟨_,h⟩ | ⟨bk,off,h,_⟩
  ·exact h ad K
  ·rw [h] at K;cases K;exact .inl rfl
 refine⟨if c=lo then a else a.map (·.add (lo*pp.n)),c - lo,⟨by rw [hlen];omega,?_⟩,?_⟩
 ·by_cases aq:hi - lo=0
  ·left;refine⟨List.eq_nil_of_length_eq_zero (by rw [hlen];exact aq),λad K=>?_⟩;split at K
   ·exact(ag ad K).imp id λh=>by omega
   ·cases a with
    | none=>cases K
    | some aw=>
     simp only [Option.map_some,Option.some.injEq] at K;subst K;exact .inl (by rw [Ec ((ag aw rfl).resolve_right (by omega))])
  ·right;rcases Y.2 with⟨h,_⟩ | ⟨bk,off,rfl,O⟩
   ·subst h;simp at ap;omega
   ·refine⟨bk,off+lo*pp.n,?_,λq z U=>?_⟩
    ·rw [if_neg (by omega),Option.map_some,Ec rfl]
    ·rw [List.getElem?_drop,List.getElem?_take] at U;split at U
     ·obtain⟨ws,ay,al⟩:=O _ z U;refine⟨ws,ay,?_⟩;rw [Nat.add_mul] at al;rw [Nat.add_assoc];exact al
     ·cases U
 ·intro P ρ s d x t ty e p af g olo ohi az a0 a1 O am;rw [hlen];refine Yl.slice (mx:=c) (hi:=hi) (lo:=lo) az a0 a1 rfl ?_ ?_ (Nat.le_refl _) (by omega) (by omega)
  ·cases ohi with
   | none=>exact⟨by simp only at O;omega,rfl⟩
   | some w=>exact O
  ·cases olo with
   | none=>simp only at am;show lo=0;omega
   | some w=>exact am
end Pal
namespace Pal
open Go Go.Conc
section
variable {P:Program}{J:Judge P}{Q:Gs_}{b:Frame}{n:Nat}{ds:Ld_}{ops:Ao_}{k:Li_}{cs:Lf_}{m fuel:Nat}{D:Nat->Bool}{listed:Array Bool}{L:Env}{E H:LH}{S:List Seg}
theorem Hq{S1 S':List Seg}(K:S=S1)(O:S1.Perm S')(U:Ap E H S)(h:Ap E H S'->AJ J Q b n ds ops k cs m D fuel listed L (Ak E H S')):AJ J Q b n ds ops k cs m D fuel listed L (Ak E H S):=by
 subst K;exact AJ.perm O.flatten U h
end
end Pal
namespace Pal
open Go Go.Conc
section
variable {P:Program}{J:Judge P}{Q:Gs_}{b:Frame}{n:Nat}{L L':Env}{ds:Ld_}{k:Li_}{cs:Lf_}{s:St}{ops:Ao_}{E H:LH}{S:List Seg}{i:Nat}{rest:List Nat}
variable {d:Option Tmp}{x y:Operand}{t u ty e e2:TypeId}{p:String}{af:Ae_}{g:On_}{v w:Value}
def JH(E:LH):Nat->Bool:=λx=>(E x).isNone
theorem YB(x:Nat):(BA (JH E) (Ak E H S)).E x=(Ak E H S).get x:=by
 show(if JH E x then(Ak E H S).get x else E x)=_
 unfold JH;cases h:E x with
 | none=>simp
 | some o=>
  rw [if_neg (by simp)];unfold St.get;rw [show(Ak E H S).E x=some o from h]
theorem P3{s':St}(K:∀x o,(BA (JH E) (Ak E H S)).E x=some o->s'.E x=some o){x:Nat}{o:Obj}(h:(Ak E H S).get x=some o):s'.get x=some o:=by
 have:=K x o (by rw [YB];exact h);unfold St.get;rw [this]
theorem LU{s':St}(K:∀x o,(BA (JH E) (Ak E H S)).E x=some o->s'.E x=some o){a:Addr}{v:Value}(h:(Ak E H S).cell? a=some v):s'.cell? a=some v:=by
 obtain⟨o,O,U⟩:=Option.bind_eq_some_iff.1 h;unfold St.cell?;rw [P3 K O];exact U
theorem Ts{s':St}(K:∀x o,(BA (JH E) (Ak E H S)).E x=some o->s'.E x=some o){a:Addr}{vs:Lv_}(h:∀(i:Nat) v,vs[i]? =some v->(Ak E H S).cell? (Addr.add a i)=some v):∀(i:Nat) v,vs[i]? =some v->s'.cell? (Addr.add a i)=some v:=λi v O=>LU K (h i v O)
theorem PU(m:Nat){id:Nat}(h:Ed ops m=true->AJ J Q b n ds ops k cs m (JH E) ops.size (Array.replicate ops.size false) L (Ak E H S))(hm:P.follows .mixedOrders=true:=by exact rfl)(K:(b.kind != .early)=true:=by exact rfl)(O:Ed ops m=true:=by decide+kernel):
  JL J Q b n L ds (.code (.region id ops true)::k) cs (Ak E H S):=OK m (JH E) rfl hm K (h O)
abbrev rs(q:Nat×Obj)(K:Seg)(p:Nat×Obj)(g2:Seg):Seg:=q::(K++ [p]++g2)
end
end Pal
namespace Pal
open Go Go.Conc
section
variable {κ ν:Type} [DecidableEq κ]
def KN(xs:List (κ×ν)):Prop:=(xs.map (·.1)).Nodup
theorem KN.perm{xs ys:List (κ×ν)}(h:KN xs)(p:ys.Perm xs):KN ys:=((p.map (λq:κ×ν=>q.1)).nodup_iff).2 h
theorem OP{xs:List (κ×ν)}(h:KN xs){x:κ}{v:ν}:Bh xs x=some v↔(x,v)∈xs:=by
 induction xs with
 | nil=>simp [Bh]
 | cons y ys U=>
  have O:y.1 ∉ ys.map (·.1)/\KN ys:=by simpa [KN] using h
  by_cases e:x=y.1
  ·subst e;have K:Bh (y::ys) y.1=some y.2:=by simp [Bh]
   rw [K];constructor
   ·intro q;cases q;simp
   ·intro q;rcases List.mem_cons.1 q with q | q
    ·rw [← q]
    ·exact absurd (List.mem_map.2 ⟨_,q,rfl⟩) O.1
  ·have K:Bh (y::ys) x=Bh ys x:=by simp [Bh,e]
   rw [K,U O.2];constructor
   ·intro q;exact List.mem_cons_of_mem _ q
   ·intro q;rcases List.mem_cons.1 q with q | q
    ·exact absurd (by rw [← q]) e
    ·exact q
theorem OA{xs ys:List (κ×ν)}(h:KN xs)(p:ys.Perm xs)(x:κ):Bh ys x=Bh xs x:=by
 apply Option.ext;intro v;rw [OP h,OP (h.perm p),p.mem_iff]
def Ej(xs:List (κ×ν))(x:κ):List (κ×ν):=xs.filter λy=>decide (x≠y.1)
theorem Q5{xs:List (κ×ν)}{x:κ}(h:∀y∈xs,x≠y.1):Ej xs x=xs:=List.filter_eq_self.2 λy K=>by simpa using h y K
theorem MA{x:κ}{v:ν}:∀{xs:List (κ×ν)},KN xs->(Bo xs x v).Perm ((x,v)::Ej xs x)
 | [],_=> .refl _
 | y::ys,h=>by
  have K:y.1 ∉ ys.map (·.1)/\KN ys:=by simpa [KN] using h
  unfold Bo;by_cases e:x=y.1
  ·rw [if_pos e];have e2:Ej (y::ys) x=ys:=by
    have:Ej (y::ys) x=Ej ys x:=by simp [Ej,e]
    rw [this];exact Q5 λz O q=>K.1 (List.mem_map.2 ⟨z,O,by rw [← q,e]⟩)
   rw [e2]
  ·rw [if_neg e];have e2:Ej (y::ys) x=y::Ej ys x:=by simp [Ej,e]
   rw [e2];exact((MA K.2).cons y).trans (List.Perm.swap _ _ _)
theorem OC{xs ys:List (κ×ν)}(p:ys.Perm xs)(x:κ):(Ej ys x).Perm (Ej xs x):=p.filter _
theorem Mt{xs ys:List (κ×ν)}(h:KN xs)(p:ys.Perm xs)(x:κ)(v:ν):(Bo ys x v).Perm (Bo xs x v):=
 (MA (h.perm p)).trans (((OC p x).cons _).trans (MA h).symm)
theorem KN.del{xs:List (κ×ν)}(h:KN xs)(x:κ):KN (Ej xs x):=by
 unfold KN Ej;exact List.Nodup.sublist (List.Sublist.map _ List.filter_sublist) h
theorem KN.put{xs:List (κ×ν)}(h:KN xs)(x:κ)(v:ν):KN (Bo xs x v):=by
 refine KN.perm ?_ (MA h);unfold KN;simp only [List.map_cons,List.nodup_cons];refine⟨λq=>?_,h.del x⟩;obtain⟨z,K,e⟩:=List.mem_map.1 q;have:=(List.mem_filter.1 K).2;simp at this;exact this e.symm
variable {pk:Rp κ}{pv:Rp ν}{ka va:Bool}{E E' H:LH}
def Bx(pk:Rp κ)(ka:Bool)(pv:Rp ν)(va:Bool)(E:LH)(o:Obj)(xs:List (κ×ν)):Prop:=KN xs/\∃ys,ys.Perm xs/\Kj pk ka pv va E o ys
theorem Bx.Ag{o:Obj}{xs:List (κ×ν)}(h:Bx pk ka pv va E o xs)(hle:Le E E'):Bx pk ka pv va E' o xs:=
 let ⟨K,ys,O,U⟩:=h;⟨K,ys,O,U.Ag hle⟩
theorem Bx.perm{o:Obj}{xs ys:List (κ×ν)}(h:Bx pk ka pv va E o xs)(p:ys.Perm xs):Bx pk ka pv va E o ys:=
 let ⟨K,O,U,Y⟩:=h;⟨K.perm p,O,U.trans p.symm,Y⟩
theorem Bx.nil:Bx pk ka pv va E (.map #[] 0) []:=⟨List.nodup_nil,[],.refl _,⟨#[],0,rfl,trivial,.nil,by simp⟩⟩
def rM(pk:Rp κ)(ka:Bool)(pv:Rp ν)(va:Bool):Rp (List (κ×ν)):=⟨1,λE ws xs=>∃bk o,ws= [.map (some bk)]/\E bk=some o/\Bx pk ka pv va E o xs,
 λhle ⟨bk,o,h,K,O⟩=>⟨bk,o,h,hle _ _ K,O.Ag hle⟩,λ⟨bk,o,h,_,_⟩=>by subst h;rfl,λ⟨bk,o,h,_,_⟩ w hw=>by subst h;simp at hw;subst hw;rfl⟩
section
variable {P:Program}{s:St}{t tm te:TypeId}{X:Halt->St->Prop}{bk:Nat}{o:Obj}{xs:List (κ×ν)}{k w:Value}{x:κ}{v0:ν}
theorem Qz(K:FK P t pk ka)(hm:P.underlying tm=some (.map t te)){z:Value}{z0:ν}(O:zeroOf P te=some z)(U:Vr pv va E z z0)(Y:s.get bk=some o)(Z:Bx pk ka pv va E o xs)(ac:Vr pk ka E k x)(ok:Bool){Q:Value->St->Prop}
  (h:∀w,Vr pv va E w ((Bh xs x).getD z0)->Q (if ok then .tuple #[w,.bool (Bh xs x).isSome] else w) s):lp P (Instr.lookup tm (.map (some bk)) k ok) s Q X:=by
 obtain⟨ag,ys,al,am⟩:=Z;refine Vh K hm O U Y am ac ok ?_;rw [OA ag al];exact h
theorem Um(O:FK P t pk ka)(hm:P.underlying tm=some (.map t te))(U:s.get bk=some o)(Y:s.H bk=some o)(Z:Bx pk ka pv va E o xs)(ac:Vr pk ka E k x)(hw:Vr pv va E w v0){Q:Unit->St->Prop}
  (h:∀o',Bx pk ka pv va E o' (Bo xs x v0)->Q () (s.upd bk o')):lp P (Instr.mapUpdate tm (.map (some bk)) k w) s Q X:=by
 obtain⟨K,ys,ag,al⟩:=Z;exact Uu O hm U Y al ac hw λo' am=>h o' ⟨K.put _ _,_,Mt K ag _ _,am⟩
theorem C8.erase(Y:Vr pk ka E k x):∀{es:List MapEntry} {ys:List (κ×ν)} {i:Nat},C8 pk ka pv va E es ys->KN ys->
  (Ee x es ys i=none/\Ej ys x=ys)∨∃j u,Ee x es ys i=some (i+j,u)/\C8 pk ka pv va E (es.eraseIdx j) (Ej ys x)
 | [],[],i,_,_=> .inl ⟨rfl,rfl⟩
 | e::es,y::ys,i,h,Z=>by
  have U:y.1 ∉ ys.map (·.1)/\KN ys:=by simpa [KN] using Z
  unfold Ee;by_cases K:x=y.1
  ·refine .inr ⟨0,e.val,by rw [if_pos K];rfl,?_⟩;have e2:Ej (y::ys) x=ys:=by
    have:Ej (y::ys) x=Ej ys x:=by simp [Ej,K]
    rw [this];exact Q5 λz ac q=>U.1 (List.mem_map.2 ⟨z,ac,by rw [← q,K]⟩)
   rw [e2];exact h.2.2
  ·have e2:Ej (y::ys) x=y::Ej ys x:=by simp [Ej,K]
   rcases C8.erase Y (i:=i+1) h.2.2 U.2 with⟨a1,O⟩ | ⟨j,u,a1,O⟩
   ·exact .inl ⟨by rw [if_neg K];exact a1,by rw [e2,O]⟩
   ·refine .inr ⟨j+1,u,by rw [if_neg K,a1];congr 2;omega,?_⟩;rw [e2];exact⟨h.1,h.2.1,O⟩
 | [],_::_,_,h,_=>h.elim
 | _::_,[],_,h,_=>h.elim
theorem U2(ag:FK P t pk ka)(hm:P.underlying tm=some (.map t te))(aw:s.get bk=some o)(al:s.H bk=some o)(ay:Bx pk ka pv va E o xs)(K:Vr pk ka E k x){u:TypeId}{Q:Value->St->Prop}
  (h:∀o',Bx pk ka pv va E o' (Ej xs x)->Q (.tuple #[]) (s.upd bk o')):lp P (Builtin.delete_ #[tm,t] u #[.map (some bk),k]) s Q X:=by
 obtain⟨O,ys,U,es,c,rfl,Y,am,ap⟩:=ay;unfold Builtin.delete_;simp only [List.getElem?_toArray,List.getElem?_cons_zero,List.getElem?_cons_succ];refine Au _ _ (Co hm ?_)
 dsimp only;refine Au _ _ ?_;unfold getObj;simp only [bind,Sem.bind,lp];refine⟨_,aw,rfl,?_⟩;refine Au (x:=Instr.checkKey _ 10000 t k) _ (ag.BL K ?_);refine Au (x:=Instr.findKey t k es.toList) _ (Mq ag K Y ?_);rcases C8.erase K (i:=0) Y (O.perm U) with⟨Z,e2⟩ | ⟨j,u,Z,e2⟩
 ·rw [Z];simp only [setObj,lp,pure];refine⟨⟨_,al,rfl⟩,rfl,h _ ⟨O.del _,_,OC U x,es,c,rfl,by rw [e2];exact Y,am,ap⟩⟩
 ·rw [Z];simp only [setObj,lp,pure];have aq:(es.toList.eraseIdx j).Sublist es.toList:=List.eraseIdx_sublist _ _;have ac:(es.eraseIdxIfInBounds (0+j)).toList=es.toList.eraseIdx j:=by rw [Nat.zero_add];simp
  refine⟨⟨_,al,rfl⟩,rfl,h _ ⟨O.del _,_,OC U x,_,c,rfl,by rw [ac];exact e2,?_,?_⟩⟩
  ·rw [ac];exact am.sublist (aq.map _)
  ·rw [ac];exact λe he=>ap e (aq.subset he)
end
section
variable {P:Program}{J:Judge P}{Q:Gs_}{b:Frame}{n:Nat}{ds:Ld_}{ops:Ao_}{kk:Li_}{cs:Lf_}{L:Env}{s:St}{S:List Seg}
variable {d:Option Tmp}{x y z:Operand}{t u ty e tm te:TypeId}{p:String}{af:Ae_}{g:On_}{i:Nat}{rest:List Nat}{bk:Nat}{o:Obj}{xs:List (κ×ν)}{k w:Value}{x0:κ}{v0:ν}{ρ:Operand->Value}
theorem Yl.lookup{zv v:Value}{z0:ν}{ok:Bool}(K:FK P t pk ka)(hm:P.underlying tm=some (.map t te))(O:zeroOf P te=some zv)(U:Vr pv va E zv z0)(Y:Bx pk ka pv va E o xs)(Z:Vr pk ka E k x0)
  (ac:∀w,Vr pv va E w ((Bh xs x0).getD z0)->(if ok then .tuple #[w,.bool (Bh xs x0).isSome] else w)=v) (ag:ρ x= .map (some bk)) (al:ρ y=k) (am:s.get bk=some o):Yl P ⟨d,.lookup tm x y ok,ty,p,af,g⟩ ρ s v:=by
 refine FV (sm:=Instr.lookup tm (ρ x) (ρ y) ok) rfl ?_;rw [ag,al];exact Qz K hm O U am Y Z ok λw hw=>⟨ac w hw,rfl⟩
theorem JS.makeMap(K:ops[i]? =some ⟨d,.makeMap t none,ty,p,af,g⟩)(hw:AL L ops ⟨d,.makeMap t none,ty,p,af,g⟩=some true)(O:BL b n ⟨d,.makeMap t none,ty,p,af,g⟩=true)(U:Ap E H S)
  (h:∀r,Ap E H (S++ [[(r,.map #[] 0)]])->JL J Q b n (Av L d (.map (some r))) ds (.inRegion ops rest::kk) cs (Ak E H (S++ [[(r,.map #[] 0)]]))):
  JL J Q b n L ds (.inRegion ops (i::rest)::kk) cs (Ak E H S):=
 JL.op K hw O λρ ap=>by
  show lp P (do pure (Next.value (← Instr.makeMap t none))) _ _ _
  refine Au _ _ ?_
  unfold Instr.makeMap
  simp only [newObj,bind,Sem.bind,pure,lp]
  refine⟨rfl,λr Y Z=>?_⟩
  obtain⟨ac,ag⟩:=Ka Y Z (.map #[] 0) U
  obtain⟨al,p2⟩:=Fe ac
  have am:(Ak E H S).upd r (.map #[] 0)=Ak E H (S++ [[(r,.map #[] 0)]]):=by rw [← al,← ag];rfl
  show JL J Q b n (Av L d (.map (some r))) ds (.inRegion ops rest::kk) cs ((Ak E H S).upd r (.map #[] 0));rw [am];exact h r p2
theorem JS.mapUpdate(j:Nat)(Y:FK P t pk ka)(hm:P.underlying tm=some (.map t te))(Z:Bx pk ka pv va E o xs)(ac:Vr pk ka E k x0)(ag:Vr pv va E w v0)(K:Ap E H S)(O:S[j]? =some [(bk,o)])
  (al:ops[i]? =some ⟨d,.mapUpdate tm x y z,ty,p,af,g⟩) (hw:AL L ops ⟨d,.mapUpdate tm x y z,ty,p,af,g⟩=some true) (am:BL b n ⟨d,.mapUpdate tm x y z,ty,p,af,g⟩=true) (ap:ev L x=some (.map (some bk))) (aq:ev L y=some k) (aw:ev L z=some w)
  (h:∀o',Bx pk ka pv va E o' (Bo xs x0 v0)->Ap E H (S.set j [(bk,o')])->JL J Q b n (Av L d undef) ds (.inRegion ops rest::kk) cs (Ak E H (S.set j [(bk,o')]))):
  JL J Q b n L ds (.inRegion ops (i::rest)::kk) cs (Ak E H S):=
 JL.op al hw am λρ U=>by
  show lp P (do Instr.mapUpdate tm (ρ x) (ρ y) (ρ z);pure Next.skip) _ _ _
  rw [U _ _ ap,U _ _ aq,U _ _ aw]
  refine Au _ _ (Um Y hm (Dx (i:=0) K O rfl) (IK K O) Z ac ag λo' ay=>?_)
  obtain⟨az,a0⟩:=I0 K O o'
  rw [az]
  exact h o' ay a0
theorem Ut{at1:TypeId}(j:Nat)(Y:FK P t pk ka)(hm:P.underlying tm=some (.map t te))(Z:Bx pk ka pv va E o xs)(ac:Vr pk ka E k x0)(K:Ap E H S)(O:S[j]? =some [(bk,o)])
  (ag:ops[i]? =some ⟨d,.call ⟨.builtin .delete,#[x,y],#[tm,t]⟩,ty,p,af,g⟩) (hw:AL L ops ⟨d,.call ⟨.builtin .delete,#[x,y],#[tm,t]⟩,ty,p,af,g⟩=some true) (al:BL b n ⟨d,.call ⟨.builtin .delete,#[x,y],#[tm,t]⟩,ty,p,af,g⟩=true) (am:ev L x=some (.map (some bk))) (ap:ev L y=some k)
  (h:∀o',Bx pk ka pv va E o' (Ej xs x0)->Ap E H (S.set j [(bk,o')])->JL J Q b n (Av L d (.tuple #[])) ds (.inRegion ops rest::kk) cs (Ak E H (S.set j [(bk,o')]))):
  JL J Q b n L ds (.inRegion ops (i::rest)::kk) cs (Ak E H S):=
 JL.op ag hw al λρ U=>by
  have aq:execOp ρ ⟨d,.call ⟨.builtin .delete,#[x,y],#[tm,t]⟩,ty,p,af,g⟩=(do pure (Next.value (← Builtin.delete_ #[tm,t] ty #[ρ x,ρ y]))):=by
   simp [execOp,resolve,Deferred.ofValue,invoke,bind,Sem.bind,pure,Go.builtin]
  rw [aq,U _ _ am,U _ _ ap];refine Au _ _ (U2 Y hm (Dx (i:=0) K O rfl) (IK K O) Z ac λo' aw=>?_);obtain⟨ay,az⟩:=I0 K O o';rw [ay];exact h o' aw az
theorem Mx{todo:Li_}(j:Nat)(O:Ap E H S)(U:S[j]? =some [(bk,o)])
  (h:∀E',Le E E'->E' bk=some o->Ap E' H (S.set j [])->JL J Q b n L ds todo cs (Ak E' H (S.set j []))):JL J Q b n L ds todo cs (Ak E H S):=by
 obtain⟨Y,Z⟩:=G5 O U;rw [Y];have ac:((S.set j []).flatten++ [(bk,o)])[(S.set j []).flatten.length]? =some (bk,o):=by simp
 refine JL.freeze (S.set j []).flatten.length Z ac λE' hle ag K=>?_;have al:((S.set j []).flatten++ [(bk,o)]).eraseIdx (S.set j []).flatten.length=(S.set j []).flatten:=by rw [List.eraseIdx_append_of_length_le (Nat.le_refl _)];simp
 rw [al] at K ⊢;exact h E' hle ag K
theorem Q0{α:Type}{m:Nat}{f:Nat->Sem α}{s:St}{Q:α->St->Prop}{X:Halt->St->Prop}(hm:0<m)(K:s.q=false)(h:∀i,i<m->lp P (f i) s Q X):lp P ((choose (.mapNext m)).bind f) s Q X:=by
 simp only [choose,Sem.bind,lp];split
 ·exact h 0 hm
 ·exact⟨K,λt=>h _ (Nat.mod_lt _ hm)⟩
theorem JS.range{es:Array MapEntry}{c:Nat}(hm:P.underlying tm=some (.map t te))(K:(Ak E H S).get bk=some (.map es c))(O:ops[i]? =some ⟨d,.range tm x,ty,p,af,g⟩)(hw:AL L ops ⟨d,.range tm x,ty,p,af,g⟩=some true)(U:BL b n ⟨d,.range tm x,ty,p,af,g⟩=true)(Y:Ap E H S)
  (Z:ev L x=some (.map (some bk)))
  (h:∀r,Ap E H (S++ [[(r,.mapIter (some bk) c #[] c)]])->JL J Q b n (Av L d (.pointer (some ⟨r,0,none⟩))) ds (.inRegion ops rest::kk) cs (Ak E H (S++ [[(r,.mapIter (some bk) c #[] c)]]))):
  JL J Q b n L ds (.inRegion ops (i::rest)::kk) cs (Ak E H S):=
 JL.op O hw U λρ ac=>by
  show lp P (do pure (Next.value (← Instr.range tm (ρ x)))) _ _ _
  rw [ac _ _ Z]
  refine Au _ _ ?_
  unfold Instr.range
  refine Au _ _ (Co hm ?_)
  simp only [getObj,newObj,bind,Sem.bind,pure,lp]
  refine⟨_,K,rfl,rfl,λr ag al=>?_⟩
  obtain⟨am,ap⟩:=Ka ag al (.mapIter (some bk) c #[] c) Y
  obtain⟨aq,p2⟩:=Fe am
  have aw:(Ak E H S).upd r (.mapIter (some bk) c #[] c)=Ak E H (S++ [[(r,.mapIter (some bk) c #[] c)]]):=by rw [← aq,← ap];rfl
  show JL J Q b n (Av L d (.pointer (some ⟨r,0,none⟩))) ds (.inRegion ops rest::kk) cs ((Ak E H S).upd r (.mapIter (some bk) c #[] c));rw [aw];exact h r p2
theorem JS.next{es:Array MapEntry}{c r:Nat}{seen:Array Nat}(j:Nat)(am:(Ak E H S).get bk=some (.map es c))(hb:∀e∈es.toList,e.born<c)(K:Ap E H S)(O:S[j]? =some [(r,.mapIter (some bk) c seen c)])
  (ap:ops[i]? =some ⟨d,.next x false,ty,p,af,g⟩) (hw:AL L ops ⟨d,.next x false,ty,p,af,g⟩=some true) (aq:BL b n ⟨d,.next x false,ty,p,af,g⟩=true) (U:ev L x=some (.pointer (some ⟨r,0,none⟩)))
  (aw:∀e∈es.toList,e.born ∉ seen->Ap E H (S.set j [(r,.mapIter (some bk) c (seen.push e.born) c)])->JL J Q b n (Av L d (.tuple #[.bool true,e.key,e.val])) ds (.inRegion ops rest::kk) cs (Ak E H (S.set j [(r,.mapIter (some bk) c (seen.push e.born) c)])))
  (ay:(∀e∈es.toList,e.born∈seen)->JL J Q b n (Av L d (.tuple #[.bool false])) ds (.inRegion ops rest::kk) cs (Ak E H S)):
  JL J Q b n L ds (.inRegion ops (i::rest)::kk) cs (Ak E H S):=
 JL.op ap hw aq λρ az=>by
  show lp P (do pure (Next.value (← Instr.next (ρ x) false ty))) _ _ _
  rw [az _ _ U]
  refine Au _ _ ?_
  unfold Instr.next
  simp only [getObj,setObj,bind,Sem.bind,pure,lp]
  refine⟨_,Dx (i:=0) K O rfl,rfl,?_⟩
  simp only [lp]
  refine⟨_,am,rfl,?_⟩
  have a0:(!seen.isEmpty&& !es.isEmpty&&es.all (λe=>decide (e.born>=c)))=false:=by
   by_cases he:es.toList= []
   ·have:es.isEmpty=true:=by simpa [Array.isEmpty_iff] using he
    simp [this]
   ·obtain⟨e,ag⟩:=List.exists_mem_of_ne_nil _ he;have bn:=hb e ag;have:es.all (λe=>decide (e.born>=c))=false:=by
     cases U:es.all (λe=>decide (e.born>=c)) with
     | false=>rfl
     | true=>
      have:=Array.all_eq_true'.1 U e (Array.mem_toList_iff.1 ag);simp at this;omega
    simp [this]
  have a1:Array.filter (λx:MapEntry=>decide (x.born<c)) (Array.filter (λe=> !seen.contains e.born) es)=Array.filter (λe=> !seen.contains e.born) es:=by
   apply Array.toList_inj.1;rw [Array.toList_filter,List.filter_eq_self];intro e he;rw [Array.toList_filter] at he;simpa using hb e (List.mem_filter.1 he).1
  have e2:Array.filter (λx:MapEntry=>decide (x.born>=c)) (Array.filter (λe=> !seen.contains e.born) es)= #[]:=by
   apply Array.toList_inj.1;rw [Array.toList_filter,List.filter_eq_nil_iff];intro e he;rw [Array.toList_filter] at he;have:=hb e (List.mem_filter.1 he).1;simp;omega
  dsimp only;rw [if_neg (by rw [a0];exact Bool.false_ne_true),a1,e2];have Y:∀e,e∈(Array.filter (λe=> !seen.contains e.born) es).toList↔e∈es.toList/\e.born ∉ seen:=by
   intro e;rw [Array.toList_filter,List.mem_filter];simp
  generalize Array.filter (λe:MapEntry=> !seen.contains e.born) es=left at Y ⊢;by_cases Z:left.toList= []
  ·have a2:left= #[]:=Array.toList_inj.1 Z;subst a2;refine Q0 (by simp) rfl λi hi=>?_;obtain rfl:i=0:=by simp at hi;exact hi
   have a3:((if(#[]:Array MapEntry).isEmpty=true then #[none] else #[])++Array.map some ((#[]:Array MapEntry)++ #[]))[0]? =some none:=by simp
   rw [a3];refine ay λe he=>?_;by_cases al:e.born∈seen
   ·exact al
   ·have:=(Y e).2 ⟨he,al⟩;simp at this
  ·have a4:left.isEmpty=false:=by
    cases a5:left.isEmpty with
    | false=>rfl
    | true=>exact absurd (by simpa [Array.isEmpty_iff] using a5) Z
   rw [a4];simp only [Bool.false_eq_true,if_false,Array.append_empty,Array.empty_append];have a6:0<left.size:=by
    rcases Nat.eq_zero_or_pos left.size with ac | ac
    ·exact absurd (by simpa using Array.eq_empty_of_size_eq_zero ac) Z
    ·exact ac
   refine Q0 (by simpa using a6) rfl λi hi=>?_;have a7:i<left.size:=by simpa using hi
   have a8:(Array.map some left)[i]? =some (some left[i]):=by simp [a7]
   rw [a8];simp only [lp];obtain⟨a9,bb⟩:=(Y left[i]).1 (Array.getElem_mem_toList _);refine⟨⟨_,IK K O,rfl⟩,rfl,?_⟩;obtain⟨be,bi⟩:=I0 K O (.mapIter (some bk) c (seen.push left[i].born) c);rw [be];exact aw _ a9 bb bi
theorem JS.entry{es:Array MapEntry}{c r:Nat}{seen:Array Nat}{e:MapEntry}(j:Nat)(U:(Ak E H S).get bk=some (.map es c))(he:e∈es.toList)(hb:(es.toList.map (·.born)).Pairwise (·<·))(Y:Ap E H S)(Z:S[j]? =some [(r,.mapIter (some bk) c (seen.push e.born) c)])
  (ac:ops[i]? =some ⟨d,.entry x,ty,p,af,g⟩) (hw:AL L ops ⟨d,.entry x,ty,p,af,g⟩=some true) (ag:BL b n ⟨d,.entry x,ty,p,af,g⟩=true) (al:ev L x=some (.pointer (some ⟨r,0,none⟩)))
  (h:JL J Q b n (Av L d (.tuple #[e.key,e.val])) ds (.inRegion ops rest::kk) cs (Ak E H S)):
  JL J Q b n L ds (.inRegion ops (i::rest)::kk) cs (Ak E H S):=
 JL.op ac hw ag λρ am=>by
  show lp P (do pure (Next.value (← Instr.entry (ρ x)))) _ _ _
  rw [am _ _ al]
  refine Au _ _ ?_
  unfold Instr.entry
  simp only [getObj,bind,Sem.bind,pure,lp]
  refine⟨_,Dx (i:=0) Y Z rfl,rfl,?_⟩
  simp only [Array.back?_push,bne_self_eq_false,lp]
  refine⟨_,U,rfl,?_⟩
  have ap:es.find? (λx=>x.born==e.born)=some e:=by
   rw [← Array.find?_toList];have key:∀(l:List MapEntry),e∈l->(l.map (·.born)).Pairwise (·<·)->l.find? (λx=>x.born==e.born)=some e:=by
    intro l
    induction l with
    | nil=>intro h;cases h
    | cons y l aq=>
     intro hm K;rw [List.map_cons,List.pairwise_cons] at K;by_cases O:y.born=e.born
     ·rcases List.mem_cons.1 hm with rfl | hm
      ·simp
      ·have:=K.1 e.born (List.mem_map.2 ⟨e,hm,rfl⟩);omega
     ·rw [List.find?_cons_of_neg (by simpa using O)];rcases List.mem_cons.1 hm with rfl | hm
      ·exact absurd rfl O
      ·exact aq hm K.2
   exact key _ he hb
  simp only [bne_self_eq_false,Bool.false_eq_true,if_false,ap,lp];exact h
end
end
end Pal
namespace Pal
open Go Go.Conc
theorem Iv{E H:LH}{S:List Seg}{bk:Nat}{o:Obj}(h:E bk=some o):(Ak E H S).get bk=some o:=by
 show(match E bk with | some o=>some o | none=>_)=some o
 rw [h]
theorem Oj{α β:Type}(f:α->β){l:List α}(h:(l.map f).Nodup):l.Nodup:=by
 unfold List.Nodup at h ⊢;rw [List.pairwise_map] at h;exact h.imp λh e=>h (by rw [e])
theorem RF{α:Type}:∀{l l':List α},l.Nodup->(∀x∈l,x∈l')->l.length<=l'.length
 | [],_,_,_=>Nat.zero_le _
 | x::l,l',h,O=>by
  obtain⟨a,b,rfl⟩:=List.append_of_mem (O x (by simp))
  have U:=List.nodup_cons.1 h
  have:=RF (l:=l) (l':=a++b) U.2 (λy Y=>by
   have K:=O y (List.mem_cons_of_mem _ Y)
   have Z:y≠x:=λe=>U.1 (e▸Y)
   simp at K ⊢
   rcases K with K | K | K
   ·exact .inl K
   ·exact absurd K Z
   ·exact .inr K)
  simp at this ⊢;omega
section
variable {κ ν:Type} [DecidableEq κ] {pk:Rp κ}{pv:Rp ν}{ka va:Bool}{E E' H:LH}
def Hw(es:Array MapEntry)(ys:List (κ×ν))(seen:Array Nat)(done:List (κ×ν)):Prop:=
 ∃K:List (MapEntry×(κ×ν)),done=K.map (·.2)/\seen.toList=K.map (·.1.born)/\K.Nodup/\∀q∈K,q∈es.toList.zip ys
theorem Hw.nil{es:Array MapEntry}{ys:List (κ×ν)}:Hw es ys #[] []:=⟨[],rfl,rfl,.nil,by simp⟩
theorem Rw:∀{es:List MapEntry} {ys:List (κ×ν)},(es.map (·.born)).Pairwise (·<·)->∀{p q:MapEntry×(κ×ν)},p∈es.zip ys->q∈es.zip ys->p.1.born=q.1.born->p=q
 | [],_,_,_,_,h,_,_=>by simp at h
 | _::_,[],_,_,_,h,_,_=>by simp at h
 | e::es,y::ys,U,p,q,K,O,hb=>by
  rw [List.map_cons,List.pairwise_cons] at U
  rw [List.zip_cons_cons] at K O
  have Y:∀{z:MapEntry×(κ×ν)},z∈es.zip ys->z.1.born∈es.map (·.born):=λ{z} Z=>by
   have:=(List.of_mem_zip Z).1
   exact List.mem_map.2 ⟨z.1,this,rfl⟩
  rcases List.mem_cons.1 K with rfl | K <;> rcases List.mem_cons.1 O with rfl | O
  ·rfl
  ·have:=U.1 _ (Y O);simp at hb;omega
  ·have:=U.1 _ (Y K);simp at hb;omega
  ·exact Rw U.2 K O hb
theorem C8.zip:∀{es:List MapEntry} {ys:List (κ×ν)},C8 pk ka pv va E es ys->∀{q:MapEntry×(κ×ν)},q∈es.zip ys->Vr pk ka E q.1.key q.2.1/\Vr pv va E q.1.val q.2.2
 | [],[],_,_,h=>by simp at h
 | e::es,y::ys,h,q,K=>by
  rw [List.zip_cons_cons] at K
  rcases List.mem_cons.1 K with rfl | K
  ·exact⟨h.1,h.2.1⟩
  ·exact C8.zip h.2.2 K
 | [],_::_,h,_,_=>h.elim
 | _::_,[],h,_,_=>h.elim
theorem Rh:∀{es:List MapEntry} {ys:List (κ×ν)},KN ys->(es.map (·.born)).Pairwise (·<·)->∀{p q:MapEntry×(κ×ν)},p∈es.zip ys->q∈es.zip ys->p.2.1=q.2.1->p=q
 | [],_,_,_,_,_,h,_,_=>by simp at h
 | _::_,[],_,_,_,_,h,_,_=>by simp at h
 | e::es,y::ys,ac,Y,p,q,K,O,hb=>by
  have U:y.1 ∉ ys.map (·.1)/\KN ys:=by simpa [KN] using ac
  rw [List.map_cons,List.pairwise_cons] at Y;rw [List.zip_cons_cons] at K O;have Z:∀{z:MapEntry×(κ×ν)},z∈es.zip ys->z.2.1∈ys.map (·.1):=λ{z} ag=>List.mem_map.2 ⟨z.2,(List.of_mem_zip ag).2,rfl⟩;rcases List.mem_cons.1 K with rfl | K <;> rcases List.mem_cons.1 O with rfl | O
  ·rfl
  ·have:=Z O;simp only at hb;rw [← hb] at this;exact absurd this U.1
  ·have:=Z K;simp only at hb;rw [hb] at this;exact absurd this U.1
  ·exact Rh U.2 Y.2 K O hb
theorem Hw.len{es:Array MapEntry}{ys:List (κ×ν)}{seen:Array Nat}{done:List (κ×ν)}(h:Hw es ys seen done):done.length<=ys.length:=by
 obtain⟨Y,rfl,Z,K,O⟩:=h;rw [List.length_map];have U:=RF K O;exact Nat.le_trans U (by rw [List.length_zip];exact Nat.min_le_right _ _)
section
variable {P:Program}{J:Judge P}{Q:Gs_}{b:Frame}{n:Nat}{ds:Ld_}{ops:Ao_}{kk:Li_}{cs:Lf_}{L:Env}{s:St}{S:List Seg}
variable {d:Option Tmp}{x y z:Operand}{t u ty e tm te:TypeId}{p:String}{af:Ae_}{g:On_}{i:Nat}{rest:List Nat}{bk:Nat}{o:Obj}{xs ys:List (κ×ν)}
theorem OS{es:Array MapEntry}{c r:Nat}{seen:Array Nat}{done:List (κ×ν)}(j:Nat)(ag:C8 pk ka pv va E es.toList ys)(Z:(es.toList.map (·.born)).Pairwise (·<·))(hb:∀e∈es.toList,e.born<c)(aw:KN ys)(ay:Hw es ys seen done)(az:(Ak E' H S).get bk=some (.map es c))(a0:Ap E' H S)(a2:S[j]? =some [(r,.mapIter (some bk) c seen c)])
  (a3:ops[i]? =some ⟨d,.next x false,ty,p,af,g⟩) (hw:AL L ops ⟨d,.next x false,ty,p,af,g⟩=some true) (a4:BL b n ⟨d,.next x false,ty,p,af,g⟩=true) (a5:ev L x=some (.pointer (some ⟨r,0,none⟩)))
  (a6:∀e O,Vr pk ka E e.key O.1->Vr pv va E e.val O.2->O∈ys->O.1 ∉ done.map (·.1)->e∈es.toList->Hw es ys (seen.push e.born) (done++ [O])->Ap E' H (S.set j [(r,.mapIter (some bk) c (seen.push e.born) c)])->
   JL J Q b n (Av L d (.tuple #[.bool true,e.key,e.val])) ds (.inRegion ops rest::kk) cs (Ak E' H (S.set j [(r,.mapIter (some bk) c (seen.push e.born) c)])))
  (a7:done.Perm ys->JL J Q b n (Av L d (.tuple #[.bool false])) ds (.inRegion ops rest::kk) cs (Ak E' H S)):
  JL J Q b n L ds (.inRegion ops (i::rest)::kk) cs (Ak E' H S):=by
 obtain⟨ac,rfl,a1,al,Y⟩:=ay;have hlen:=ag.len;refine JS.next j az hb a0 a2 a3 hw a4 a5 (λe he a8 a9=>?_) (λbb=>?_)
 ·obtain⟨m,hm,be⟩:=List.mem_iff_getElem.1 he;have U:(e,ys[m]'(by omega))∈es.toList.zip ys:=by
   rw [← be];have:(es.toList.zip ys)[m]'(by rw [List.length_zip];omega)=(es.toList[m],ys[m]'(by omega)):=List.getElem_zip;rw [← this];exact List.getElem_mem _
  obtain⟨k1,bi⟩:=ag.zip U;have am:(e,ys[m]'(by omega)) ∉ ac:=λq=>a8 (by
   rw [← Array.mem_toList_iff,a1]
   exact List.mem_map.2 ⟨_,q,rfl⟩)
  refine a6 e _ k1 bi (List.getElem_mem _) (λq=>?_) he ⟨ac++ [(e,ys[m]'(by omega))],by simp,by simp [a1],?_,λq K=>?_⟩ a9
  ·obtain⟨O,bn,bo⟩:=List.mem_map.1 q;obtain⟨z,ap,rfl⟩:=List.mem_map.1 bn;have:=Rh aw Z (Y z ap) U bo;exact am (this▸ap)
  ·rw [List.nodup_append];exact⟨al,by simp,by intro q K z aq bq;simp at aq;subst aq bq;exact am K⟩
  ·rcases List.mem_append.1 K with K | K
   ·exact Y q K
   ·simp at K;subst K;exact U
 ·refine a7 ?_;have br:ac.Perm (es.toList.zip ys):=by
   have bu:(es.toList.zip ys).Nodup:=by
    have:((es.toList.zip ys).map (·.1)).Nodup:=by
     rw [List.map_fst_zip (by omega)];exact Oj (λe:MapEntry=>e.born) (Z.imp (λh=>Nat.ne_of_lt h))
    exact Oj _ this
   refine(List.perm_ext_iff_of_nodup al bu).2 λq=>⟨λK=>Y q K,λK=>?_⟩;have:=bb q.1 (List.of_mem_zip K).1;rw [← Array.mem_toList_iff,a1] at this;obtain⟨z,U,bv⟩:=List.mem_map.1 this;have:=Rw Z (Y z U) K bv;exact this▸U
  have:=br.map (·.2)
  rwa [List.map_snd_zip (by omega)] at this
end
end
end Pal
namespace Pal
open Go Go.Conc
section
variable {P:Program}{J:Judge P}{Q:Gs_}{b:Frame}{n:Nat}{ds:Ld_}{ops:Ao_}{k:Li_}{cs:Lf_}{fuel:Nat}{D:Nat->Bool}{listed:Array Bool}{L L':Env}{s:St}{xl:List Nat}
variable {d:Option Tmp}{op:Op}{ty:TypeId}{p:String}{af:Ae_}{g:On_}{v:Value}
theorem Fj(i:Nat)(pure:Bool)(K:s.q=false)(O:GQ n L ops i=some ⟨d,op,ty,p,af,g⟩)
  (U:∀ρ,EP L ρ->∀s':St,(pure=false->∀x o,(BA D s).E x=some o->s'.E x=some o)->Yl P ⟨d,op,ty,p,af,g⟩ ρ s' v)
  (Y:FL J Q b n ds ops k cs (AZ xl) D fuel (A8 listed i) (Av L d v) s) (Z:JF ops listed xl pure i=true:=by decide+kernel):FL J Q b n ds ops k cs (AZ xl) D (fuel+1) listed L s:=by
 obtain⟨ac,ag,al⟩:=OG O;exact JB.val i pure ac Z K ag al U Y
def Qd(n:Nat)(L:Env)(ops:Ao_)(i:Nat):Option Env:=
 match I9 ops.toList i with
 | some ⟨d,op,ty,p,af,g⟩=>match AL L ops ⟨d,op,ty,p,af,g⟩ with
  | some true=>match Bf n d with
   | true=>match Ki L op with
    | some v=>match d with
     | some d=>some ((d,v)::L)
     | none=>some L
    | none=>none
   | false=>none
  | _=>none
 | none=>none
theorem Wd{i:Nat}(h:Qd n L ops i=some L'):∃o v,ops[i]? =some o/\Bf n o.dst=true/\AL L ops o=some true/\Ki L o.op=some v/\L'=Av L o.dst v:=by
 unfold Qd at h;split at h
 ·rename_i d op ty p af g K;rw [KU,Array.getElem?_toList] at K;split at h
  ·rename_i hw;split at h
   ·rename_i O;split at h
    ·rename_i v U;refine⟨_,v,K,O,hw,U,?_⟩;cases d with
     | none=>cases h;rfl
     | some d=>cases h;rfl
    ·cases h
   ·cases h
  ·cases h
 ·cases h
theorem Br(i:Nat)(K:s.q=false)(h:Qd n L ops i=some L')
  (O:FL J Q b n ds ops k cs (AZ xl) D fuel (A8 listed i) L' s) (U:JF ops listed xl true i=true:=by decide+kernel):FL J Q b n ds ops k cs (AZ xl) D (fuel+1) listed L s:=by
 obtain⟨o,v,Y,Z,hw,ac,rfl⟩:=Wd h;exact JB.val i true Y U K hw Z (λρ ag s' _=>M1 ag ac) O
end
end Pal
namespace Pal
open Go Go.Conc
section
variable {P:Program}{J:Judge P}{Q:Gs_}{b:Frame}{n:Nat}{L L':Env}{ds:Ld_}{k:Li_}{cs:Lf_}{s:St}{ops:Ao_}{E H:LH}{S:List Seg}{i i2:Nat}{rest:List Nat}
variable {d d2:Option Tmp}{x y x2:Operand}{t t2 ft u ty ty2 e:TypeId}{p p2:String}{af af2:Ae_}{g g2:On_}{v w:Value}
theorem Cr(O:Ap E H S)(h:∀r E',Le E E'->At E' r 0 v.cells.toList->Ap E' H (S++ [[]])->JL J Q b n (Av L d (.pointer (some ⟨r,0,none⟩))) ds (.inRegion ops rest::k) cs (Ak E' H (S++ [[]])))
  (U:Fl b n L ops i=some ⟨d,.box e x,ty,p,af,g⟩:=by exact rfl) (Y:ev L x=some v:=by exact rfl):JL J Q b n L ds (.inRegion ops (i::rest)::k) cs (Ak E H S):=by
 obtain⟨Z,ac,ag⟩:=J9 U;refine JS.box Z ac ag O Y λr al=>Dr (bk:=r) (c:=v.cells) (e:=e) (f:=(0,0)) S.length al (by simp) λE' hle am K=>?_;have ap:(S++ [[(r,Obj.cells v.cells e (0,0))]]).set S.length []=S++ [[]]:=by simp
 rw [ap] at K ⊢;exact h r E' hle am K
theorem BO{z:Value}(K:Ap E H S)(O:zeroOf P e=some z)(h:∀r,Ap E H (S++ [[(r,.cells z.cells e (0,0))]])->JL J Q b n (Av L d (.pointer (some ⟨r,0,none⟩))) ds (.inRegion ops rest::k) cs (Ak E H (S++ [[(r,.cells z.cells e (0,0))]])))
  (U:Fl b n L ops i=some ⟨d,.alloc e,ty,p,af,g⟩:=by exact rfl):JL J Q b n L ds (.inRegion ops (i::rest)::k) cs (Ak E H S):=by
 obtain⟨Y,Z,ac⟩:=J9 U;exact JS.alloc Y Z ac K O h
theorem Bv{bk off K:Nat}{c:Av_}(j:Nat)(O:Ap E H S)(U:Bl P t=some K)
  (h:Ap E H (S.set j [(bk,.cells (Be c off v.cells.toList) e (0,0))])->JL J Q b n (Av L d undef) ds (.inRegion ops rest::k) cs (Ak E H (S.set j [(bk,.cells (Be c off v.cells.toList) e (0,0))])))
  (Y:Fl b n L ops i=some ⟨d,.store t x y,ty,p,af,g⟩:=by exact rfl) (Z:ev L x=some (.pointer (some ⟨bk,off,none⟩)):=by exact rfl) (ac:ev L y=some v:=by exact rfl) (ag:S[j]? =some [(bk,.cells c e (0,0))]:=by exact rfl)
  (al:K=v.cells.size:=by exact rfl) (hle:off+v.cells.size<=c.size:=by exact Nat.le_of_ble_eq_true rfl) (am:v.cells.toList.all Dc=true:=by first | exact rfl | simp [Value.cells,Dc]):
  JL J Q b n L ds (.inRegion ops (i::rest)::k) cs (Ak E H S):=ZI j O (by rw [← al];exact U) Y Z ac ag h hle (List.all_eq_true.1 am)
theorem Bw{bk o K Y off:Nat}{O:Array Field}{U:Nat}{ws:Lv_}(j:Nat)(Z:At E bk o ws)(ac:P.underlying t=some (.struct O))(ag:Bl P ft=some (Y+1))(al:Ds P t2=some false)
  (am:JL J Q b n (Av (Av L d (.pointer (some ⟨bk,K+off,none⟩))) d2 v) ds (.inRegion ops rest::k) cs (Ak E H S))
  (ap:Fl b n L ops i=some ⟨d,.fieldAddr t x U,ty,p,af,g⟩:=by exact rfl) (aq:ev L x=some (.pointer (some ⟨bk,K,none⟩)):=by exact rfl) (aw:LK O U=some (off,ft):=by exact rfl)
  (ay:Fl b n (Av L d (.pointer (some ⟨bk,K+off,none⟩))) ops i2=some ⟨d2,.load t2 x2,ty2,p2,af2,g2⟩:=by exact rfl) (az:ev (Av L d (.pointer (some ⟨bk,K+off,none⟩))) x2=some (.pointer (some ⟨bk,o+j,none⟩)):=by exact rfl) (a0:ws[j]? =some v:=by exact rfl):
  JL J Q b n L ds (.inRegion ops (i::i2::rest)::k) cs (Ak E H S):=JL.fd ac ag ap aq aw (CL j Z al ay az a0 am)
theorem JS.ix{α:Type}{pp:Rp α}{a:Option Addr}{c:Nat}{xs:List α}{xv:α}{m:Int}{kd:IntKind}(K:Al pp E a c xs)(hm:ix xs m=some xv)(O:P.underlying t=some (.slice e))(U:Bl P e=some pp.n)
  (h:∀bk o ws,pp.r E ws xv->At E bk o ws->JL J Q b n (Av L d (.pointer (some ⟨bk,o,none⟩))) ds (.inRegion ops rest::k) cs (Ak E H S))
  (Y:Fl b n L ops i=some ⟨d,.indexAddr t x y,ty,p,af,g⟩:=by exact rfl) (Z:ev L x=some (.slice a xs.length c):=by exact rfl) (ac:ev L y=some (.int kd m):=by exact rfl):
  JL J Q b n L ds (.inRegion ops (i::rest)::k) cs (Ak E H S):=by
 obtain⟨ag,al,am⟩:=J9 Y;exact RZ K hm ag al am Z ac O U h
theorem Ey(K:List Seg)(O:Env){todo:Li_}{c:Code}(U:∀E',Le E E'->Ap E' H K->JL J Q b n O ds todo cs (Ak E' H K))
  (h:(∀{E':LH} {L:Env},Le E E'->Ap E' H K->H8 L O=Ib O->JL J Q b n L ds todo cs (Ak E' H K))->JL J Q b n L ds (.code c::todo) cs (Ak E H S)):JL J Q b n L ds (.code c::todo) cs (Ak E H S):=
 h λY Z ac=>AA (U _ Y Z) ac
theorem FH{U:List Nat}(Y Z:Nat)(K:List Seg)(O:Env){todo:Li_}(ac:∀E',Le E E'->Ap E' H K->JL J Q b n O ds (.inRegion ops (List.range' Y Z)::todo) cs (Ak E' H K))
  (h:(∀{E':LH} {L:Env},Le E E'->Ap E' H K->H8 L O=Ib O->JL J Q b n L ds (.inRegion ops (List.range' Y Z)::todo) cs (Ak E' H K))->JL J Q b n L ds (.inRegion ops U::todo) cs (Ak E H S)):JL J Q b n L ds (.inRegion ops U::todo) cs (Ak E H S):=
 h λag al am=>AA (ac _ ag al) am
theorem Di{O ag:Type}{c:Code}{body:O->Option (Bm O ag)}{f:Nat}{Y:O}{a:ag}{Z:LH}{k:Li_}(am:iter body f Y=some a)(K:O->List Seg)(U:O->Env)(hle:Le Z E)(ap:Ap E H (K Y))
  (round:∀x E',Le Z E'->Ap E' H (K x)->(∀al,body x=some (.done al)->al=a)->(∃st,body x=some st)->(∀{L':Env} {ac:LH} (x':O),Le Z ac->Ap ac H (K x')->H8 L' (U x')=Ib (U x')->body x=some (.more x')->JL J Q b n L' ds (.inLoop c::k) cs (Ak ac H (K x')))->JL J Q b n (U x) ds (.code c:: .inLoop c::k) cs (Ak E' H (K x)))
  (aq:H8 L (U Y)=Ib (U Y):=by exact rfl) (aw:Ak E H S=Ak E H (K Y):=by exact rfl):JL J Q b n L ds (.code (.loop c)::k) cs (Ak E H S):=by
 rw [aw];refine Ep _ aq (Rr am (λL s x=>∃E',Jm Z H E' (K x) (U x) L s) ⟨E,rfl,rfl,hle,ap⟩ ?_);rintro _ _ x ⟨E',rfl,rfl,ay,az⟩ hd hb a0;exact round x E' ay az hd hb λx' a1 g2 a2 a3=>AA (a0 _ _ x' ⟨_,rfl,rfl,a1,g2⟩ a3) a2
theorem Bd{f:FuncId}{fn:Func}{c:Code}{E:LH}{vs:Lv_}{B:Seg}{R:Value->LH->Seg->Prop}(O:P.funcs[f]? =some fn)
  (h:∀(Q:Gs_) (K:Frame) (cs:Lf_) (H:LH),Ap E H [B]->(∀{v:Value} {E':LH} {S':List Seg} {B':Seg},Le E E'->S'.flatten=B'->R v E' B'->Ap E' H S'->J.ok Q (G (K.finish v) cs) (Ak E' H S'))->JL J Q (base f) fn.ntmps (Ga 0 vs) [] [.code c] (K::cs) (Ak E H [B]))
  (hb:fn.body=some c:=by exact rfl) (U:Nat.ble vs.length fn.ntmps=true:=by exact rfl):AK J f vs E B R:=
 Nu O hb U λQ K cs H Y Z=>h Q K cs H Y λac ag al am=>Z _ _ _ _ ac ag al am
variable {m:Nat}{fuel:Nat}{listed:Array Bool}{bks xl:List Nat}
theorem Kc{bk:Nat}{c:Av_}{f:Nat×Nat}(i:Nat)(K:Ed ops m=true)(o:Nat)(j:Nat)(O:Ap E H S)(U:Ds P t=some false)
  (Y:AJ J Q b n ds ops k cs m (AZ bks) fuel (A8 listed i) (Av L d w) (Ak E H S)) (Z:GQ n L ops i=some ⟨d,.load t x,ty,p,af,g⟩:=by exact rfl) (ac:ev L x=some (.pointer (some ⟨bk,o,none⟩)):=by exact rfl)
  (ag:S[j]? =some [(bk,.cells c e f)]:=by exact rfl) (hw:c[o]? =some w:=by exact rfl) (al:AZ bks bk=true:=by simp [AZ]) (am:Ge ops listed m i=true:=by decide+kernel):AJ J Q b n ds ops k cs m (AZ bks) (fuel+1) listed L (Ak E H S):=
 AP i K rfl Z (λρ h s' ap=>Yl.load U (h _ _ ac) (Ch (o:=o) j O ag al ap hw)) Y am
theorem JG.lp{bk o:Nat}{ws:Lv_}(i:Nat)(K:Ed ops m=true)(j:Nat)(O:At E bk o ws)(U:Ap E H S)(Y:HE S bks)(Z:Ds P t=some false)
  (ac:AJ J Q b n ds ops k cs m (AZ bks) fuel (A8 listed i) (Av L d w) (Ak E H S)) (ag:GQ n L ops i=some ⟨d,.load t x,ty,p,af,g⟩:=by exact rfl) (al:ev L x=some (.pointer (some ⟨bk,o+j,none⟩)):=by exact rfl)
  (hw:ws[j]? =some w:=by exact rfl) (am:Ge ops listed m i=true:=by decide+kernel):AJ J Q b n ds ops k cs m (AZ bks) (fuel+1) listed L (Ak E H S):=
 AP i K rfl ag (λρ h s' ap=>Yl.load Z (h _ _ al) (At.I6 (j:=j) O (aE U ap Y) hw)) ac am
theorem TH{bk o K:Nat}{c:Av_}{f:Nat×Nat}(i:Nat)(O:Ed ops m=true)(vs:Lv_)(j:Nat)(U:Ap E H S)(hw:∀(q:Nat) w,vs[q]? =some w->c[o+q]? =some w)(Y:Ds P t=some true)(Z:Bl P t=some K)
  (ac:AJ J Q b n ds ops k cs m (AZ bks) fuel (A8 listed i) (Av L d (.agg vs.toArray)) (Ak E H S)) (ag:GQ n L ops i=some ⟨d,.load t x,ty,p,af,g⟩:=by exact rfl) (al:ev L x=some (.pointer (some ⟨bk,o,none⟩)):=by exact rfl)
  (am:S[j]? =some [(bk,.cells c e f)]:=by exact rfl) (ap:K=vs.length:=by exact rfl) (aq:AZ bks bk=true:=by simp [AZ]) (aw:Ge ops listed m i=true:=by decide+kernel):AJ J Q b n ds ops k cs m (AZ bks) (fuel+1) listed L (Ak E H S):=
 AP i O rfl ag (λρ h s' ay=>FE (vs:=vs) Y (by rw [← ap];exact Z) (h _ _ al) (λq w az=>by rw [Ec rfl];exact Ch j U am aq ay (hw q w az))) ac aw
theorem JG.ix{D:Nat->Bool}{α:Type}{xs:List α}{xv:α}{K:Int}{bk c O U:Nat}{kd:IntKind}(i:Nat)(Y:Ed ops m=true)(Z:xs.length=U)(hm:ix xs K=some xv)(ac:P.underlying t=some (.slice e))(ag:Bl P e=some O)
  (al:AJ J Q b n ds ops k cs m D fuel (A8 listed i) (Av L d (.pointer (some ⟨bk,K.toNat*O,none⟩))) s) (am:s.q=false:=by exact rfl) (ap:GQ n L ops i=some ⟨d,.indexAddr t x y,ty,p,af,g⟩:=by exact rfl)
  (aq:ev L x=some (.slice (some ⟨bk,0,none⟩) U c):=by exact rfl) (aw:ev L y=some (.int kd K):=by exact rfl) (ay:Ge ops listed m i=true:=by decide+kernel):AJ J Q b n ds ops k cs m D (fuel+1) listed L s:=
 AP i Y am ap (λρ h s' az=>Fp Z hm ac ag (h _ _ aq) (h _ _ aw)) al ay
theorem JB.ix{D:Nat->Bool}{α:Type}{xs:List α}{xv:α}{K:Int}{bk c O U:Nat}{kd:IntKind}(i:Nat)(Y:xs.length=U)(hm:ix xs K=some xv)(Z:P.underlying t=some (.slice e))(ac:Bl P e=some O)
  (ag:FL J Q b n ds ops k cs (AZ xl) D fuel (A8 listed i) (Av L d (.pointer (some ⟨bk,K.toNat*O,none⟩))) s) (al:s.q=false:=by exact rfl) (am:GQ n L ops i=some ⟨d,.indexAddr t x y,ty,p,af,g⟩:=by exact rfl)
  (ap:ev L x=some (.slice (some ⟨bk,0,none⟩) U c):=by exact rfl) (aq:ev L y=some (.int kd K):=by exact rfl) (aw:JF ops listed xl true i=true:=by decide+kernel):FL J Q b n ds ops k cs (AZ xl) D (fuel+1) listed L s:=
 Fj i true al am (λρ h s' ay=>Fp Y hm Z ac (h _ _ ap) (h _ _ aq)) ag aw
theorem TT{bk o K:Nat}{c:Av_}{f:Nat×Nat}(i:Nat)(vs:Lv_)(j:Nat)(O:Ap E H S)(hw:∀(q:Nat) w,vs[q]? =some w->c[o+q]? =some w)(U:Ds P t=some true)(Y:Bl P t=some K)
  (Z:FL J Q b n ds ops k cs (AZ xl) (AZ bks) fuel (A8 listed i) (Av L d (.agg vs.toArray)) (Ak E H S)) (ac:GQ n L ops i=some ⟨d,.load t x,ty,p,af,g⟩:=by exact rfl) (ag:ev L x=some (.pointer (some ⟨bk,o,none⟩)):=by exact rfl)
  (al:S[j]? =some [(bk,.cells c e f)]:=by exact rfl) (am:K=vs.length:=by exact rfl) (ap:AZ bks bk=true:=by simp [AZ]) (aq:JF ops listed xl false i=true:=by decide+kernel):FL J Q b n ds ops k cs (AZ xl) (AZ bks) (fuel+1) listed L (Ak E H S):=
 Fj i false rfl ac (λρ h s' aw=>FE (vs:=vs) U (by rw [← am];exact Y) (h _ _ ag) (λq w ay=>by rw [Ec rfl];exact Ch j O al ap (aw rfl) (hw q w ay))) Z aq
theorem ES{bk off K:Nat}{c:Av_}{D:Nat->Bool}(i j:Nat)(O:Ap E H S)(U:Bl P t=some K)(hle:off+K<=c.size)
  (h:Ap E H (S.set j [(bk,.cells (Be c off v.cells.toList) e (0,0))])->FL J Q b n ds ops k cs (AZ xl) D fuel (A8 listed i) (Av L d undef) (Ak E H (S.set j [(bk,.cells (Be c off v.cells.toList) e (0,0))])))
  (Y:GQ n L ops i=some ⟨d,.store t x y,ty,p,af,g⟩:=by exact rfl) (Z:ev L x=some (.pointer (some ⟨bk,off,none⟩)):=by exact rfl) (ac:ev L y=some v:=by exact rfl) (ag:S[j]? =some [(bk,.cells c e (0,0))]:=by exact rfl)
  (al:K=v.cells.size:=by exact rfl) (am:v.cells.toList.all Dc=true:=by first | exact rfl | simp [Value.cells,Dc]) (ap:Region.ready .any ops listed= [i]:=by decide+kernel) (aq:AZ xl i=true:=by decide+kernel):
  FL J Q b n ds ops k cs (AZ xl) D (fuel+1) listed L (Ak E H S):=by
 obtain⟨aw,ay,az⟩:=OG Y;subst al;exact JB.store i j ap aq aw ay az O Z ac U (List.all_eq_true.1 am) ag hle h
end
end Pal
namespace Pal
open Go Go.Conc
abbrev s8(s:Nat):Value:= .int .u8 (s:Int)
def NG(a:Nat)(n:Int):Option Nat:=if 0<=n/\n<=8 then some (a>>>n.toNat) else none
def K9(a b:Nat):Option Nat:=if a<256/\b<256 then some (a ||| b) else none
def NQ(a b:Nat):Option Nat:=if a<256/\b<256 then some (a&&& b) else none
section
variable {P:Program}{s:St}{ρ:Operand->Value}{d:Option Tmp}{t u ty:TypeId}{x y:Operand}{p:String}{af:Ae_}{g:On_}{a b c r:Nat}{m:Int}
theorem TY{m:Nat}(h:m<256):IntKind.u8.wrap (m:Int)=m:=by
 simp only [IntKind.wrap,IntKind.bits,IntKind.signed];simp;omega
theorem N4{m:Nat}(h:m<256):(BitVec.ofInt IntKind.u8.bits (m:Int)).toNat=m:=by
 simp [IntKind.bits,BitVec.toNat_ofInt];omega
theorem ZX{k:Nat}(a c:Nat)(K:c<=k):((a:Int).fdiv (2 ^ (min c k)))=((a>>>c:Nat):Int):=by
 rw [Nat.min_eq_left K,Nat.shiftRight_eq_div_pow,Int.fdiv_eq_ediv_of_nonneg _ (Int.pow_nonneg (by decide)),Int.natCast_ediv]
 rfl
theorem Rm(K:ρ x=s8 a)(O:ρ y=iV m)(h:NG a m=some r):Yl P ⟨d,.binOp .shr t x y u,ty,p,af,g⟩ ρ s (s8 r):=by
 unfold NG at h;split at h
 ·rename_i U;cases h;have h:=Yl.shr (P:=P) (s:=s) (d:=d) (t:=t) (u:=u) (ty:=ty) (p:=p) (af:=af) (g:=g) K O U.1;rw [show IntKind.u8.bits=8 from rfl,ZX a m.toNat (by omega)] at h;exact h
 ·cases h
theorem MO(O:ρ x=s8 a)(U:ρ y=s8 b)(h:K9 a b=some r):Yl P ⟨d,.binOp .or t x y u,ty,p,af,g⟩ ρ s (s8 r):=by
 unfold K9 at h;split at h
 ·rename_i K;cases h;have h:=Yl.or (P:=P) (s:=s) (d:=d) (t:=t) (u:=u) (ty:=ty) (p:=p) (af:=af) (g:=g) O U;rw [BitVec.toNat_or,N4 K.1,N4 K.2,TY (Nat.or_lt_two_pow (n:=8) K.1 K.2)] at h;exact h
 ·cases h
theorem Rj(O:ρ x=s8 a)(U:ρ y=s8 b)(h:NQ a b=some r):Yl P ⟨d,.binOp .and t x y u,ty,p,af,g⟩ ρ s (s8 r):=by
 unfold NQ at h;split at h
 ·rename_i K;cases h;have h:=Yl.and (P:=P) (s:=s) (d:=d) (t:=t) (u:=u) (ty:=ty) (p:=p) (af:=af) (g:=g) O U;rw [BitVec.toNat_and,N4 K.1,N4 K.2,TY (Nat.lt_of_le_of_lt Nat.and_le_left K.1)] at h;exact h
 ·cases h
end
end Pal
namespace Pal
open Go Go.Conc
def PC(a b:Nat):Option Nat:=if a<4294967296/\b<4294967296 then some (a&&& b) else none
def Pt(a:Nat)(n:Int):Option Nat:=if 0<=n/\n<=32/\a*2 ^ n.toNat<4294967296 then some (a*2 ^ n.toNat) else none
def Ko(n:Int):Option Nat:=if 0<=n/\n<=8 then some ((1<<<n.toNat) % 256) else none
section
variable {P:Program}{s:St}{ρ:Operand->Value}{d:Option Tmp}{t u ty e:TypeId}{x y:Operand}{p:String}{af:Ae_}{g:On_}{a b c r:Nat}{m:Int}
theorem wrap32{m:Nat}(h:m<4294967296):IntKind.u32.wrap (m:Int)=m:=by
 simp only [IntKind.wrap,IntKind.bits,IntKind.signed];simp;omega
theorem T5{m:Nat}(h:m<4294967296):(BitVec.ofInt IntKind.u32.bits (m:Int)).toNat=m:=by
 simp [IntKind.bits,BitVec.toNat_ofInt];omega
theorem Vw(O:ρ x= .int .u32 (a:Int))(U:ρ y= .int .u32 (b:Int))(h:PC a b=some r):Yl P ⟨d,.binOp .and t x y u,ty,p,af,g⟩ ρ s (.int .u32 (r:Int)):=by
 unfold PC at h;split at h
 ·rename_i K;cases h;have h:=Yl.and (P:=P) (s:=s) (d:=d) (t:=t) (u:=u) (ty:=ty) (p:=p) (af:=af) (g:=g) O U;rw [BitVec.toNat_and,T5 K.1,T5 K.2,wrap32 (Nat.lt_of_le_of_lt Nat.and_le_left K.1)] at h;exact h
 ·cases h
theorem Vg(O:ρ x= .int .u32 (a:Int))(U:ρ y=iV m)(h:Pt a m=some r):Yl P ⟨d,.binOp .shl t x y u,ty,p,af,g⟩ ρ s (.int .u32 (r:Int)):=by
 unfold Pt at h;split at h
 ·rename_i K;cases h;have h:=Yl.shl (P:=P) (s:=s) (d:=d) (t:=t) (u:=u) (ty:=ty) (p:=p) (af:=af) (g:=g) O U K.1;have e:IntKind.u32.wrap ((a:Int)*2 ^ (min m.toNat IntKind.u32.bits))=((a*2 ^ m.toNat:Nat):Int):=by
   have Y:min m.toNat IntKind.u32.bits=m.toNat:=by simp [IntKind.bits];omega
   rw [Y,← wrap32 K.2.2];simp
  rw [e] at h;exact h
 ·cases h
theorem LB(K:ρ x=s8 1)(O:ρ y=iV m)(h:Ko m=some r):Yl P ⟨d,.binOp .shl t x y u,ty,p,af,g⟩ ρ s (s8 r):=by
 unfold Ko at h;split at h
 ·rename_i U;cases h;have h:=Yl.shl (P:=P) (s:=s) (d:=d) (t:=t) (u:=u) (ty:=ty) (p:=p) (af:=af) (g:=g) K O U.1;have e:IntKind.u8.wrap (((1:Nat):Int)*2 ^ (min m.toNat IntKind.u8.bits))=(((1<<<m.toNat) % 256:Nat):Int):=
   (by decide:∀k:Fin 9,IntKind.u8.wrap (((1:Nat):Int)*2 ^ (min k.1 IntKind.u8.bits))=(((1<<<k.1) % 256:Nat):Int)) ⟨m.toNat,by omega⟩
  rw [e] at h;exact h
 ·cases h
theorem WB(K:ρ x=s8 a)(O:ρ y=s8 b)(hb:b<=256):Yl P ⟨d,.binOp .sub t x y u,ty,p,af,g⟩ ρ s (s8 ((a+(256 - b)) % 256)):=by
 have h:=Yl.sub (P:=P) (s:=s) (d:=d) (t:=t) (u:=u) (ty:=ty) (p:=p) (af:=af) (g:=g) K O;have e:IntKind.u8.wrap ((a:Int) - (b:Int))=(((a+(256 - b)) % 256:Nat):Int):=by
  simp only [IntKind.wrap,IntKind.bits,IntKind.signed];simp;omega
 rw [e] at h;exact h
theorem XD{kd:IntKind}{E:LH}(xs:List Nat):(rA xs.length (rN kd)).r E (xs.map λx=>Value.int kd ((x:Nat):Int)) xs:=by
 refine⟨rfl,xs.map λx=> [Value.int kd ((x:Nat):Int)],?_,by simp,λi x us K hu=>?_⟩
 ·induction xs with
  | nil=>rfl
  | cons x xs O=>simp [← O]
 ·rw [List.getElem?_map,K] at hu;exact(Option.some.inj hu).symm
theorem MV{α:Type}{kk:Nat}{pp:Rp α}{E:LH}{us:Lv_}{x:α}(h:pp.r E us x):(rA kk pp).r E (List.replicate kk us).flatten (List.replicate kk x):=
 ⟨by simp,List.replicate kk us,rfl,by simp,λi y ws K hw=>by
  rw [List.getElem?_replicate] at K hw
  split at K
  ·rename_i O
   rw [if_pos O] at hw
   cases K;cases hw
   exact h
  ·cases K⟩
theorem WJ{k K:Nat}{z v:Value}(O:P.underlying t=some (.array k e))(U:zeroOf P t=some z)(Y:Bl P e=some K)(Z: .agg z.cells=v):Yl P ⟨d,.build t #[],ty,p,af,g⟩ ρ s v:=by
 refine FV OF ?_;unfold Instr.build;refine Au (x:=zeroValue t) _ (G2 U ?_);refine Au _ _ (Co O ?_);refine Au (x:=Go.sizeOf e) _ (ED Y ?_);subst Z;simp [Instr.fill,lp,pure]
theorem XA{k K:Nat}{z v:Value}{L:Env}{U:Array (Nat×Operand)}{vs:List (Nat×Value)}(h:EP L ρ)(Z:P.underlying t=some (.array k e))(ac:zeroOf P t=some z)(ag:Bl P e=some K)(al:U.toList.mapM (λq=>(ev L q.2).map λv=>(q.1,v))=some vs)(O:(Instr.fill (λi=>some (i*K,K)) z.cells vs).map Value.agg=some v):Yl P ⟨d,.build t U,ty,p,af,g⟩ ρ s v:=by
 refine FV OF ?_;unfold Instr.build;refine Au (x:=zeroValue t) _ (G2 ac ?_);refine Au _ _ (Co Z ?_);refine Au (x:=Go.sizeOf e) _ (ED ag ?_);have am:=Oy h al;have ap:(U.map λ(j,x)=>(j,ρ x)).toList=vs:=by rw [← am,Array.toList_map]
 rw [ap];cases Y:Instr.fill (λi=>some (i*K,K)) z.cells vs with
 | none=>rw [Y] at O;cases O
 | some cells=>rw [Y] at O;cases O;exact⟨rfl,rfl⟩
end
end Pal
namespace Pal
open Go Go.Conc
section
variable {P:Program}{E H:LH}{S:List Seg}{t e:TypeId}
end
section
variable {P:Program}{J:Judge P}{Q:Gs_}{b:Frame}{n:Nat}{ds:Ld_}{ops:Ao_}{k:Li_}{cs:Lf_}{m fuel:Nat}{D:Nat->Bool}{listed:Array Bool}{L:Env}{s:St}{E E' H:LH}{S:List Seg}
variable {d:Option Tmp}{x y:Operand}{t u ty e e2:TypeId}{p:String}{af:Ae_}{g:On_}{v:Value}{i:Nat}{kd:IntKind}
end
end Pal
namespace Pal
open Go Go.Conc
def GY(b:Frame)(T:Av_)(ds:Ld_)(todo:Li_)(ch:List PanicEntry):Frame:={b with tmps:=T,todo:=todo,defers:=ds,mode:= .panicking ch}
def raised(v:Value):List PanicEntry:= [{v,recovered:=false}]
def taken(v:Value):List PanicEntry:= [{v,recovered:=true}]
section
variable {P:Program}(J:Judge P)(Q:Gs_)
def JP(b:Frame)(n:Nat)(L:Env)(ds:Ld_)(cs:Lf_)(ch:List PanicEntry)(s:St):Prop:=
 ∀T,Has n L T->∀todo,J.ok Q (G (GY b T ds todo ch) cs) s
end
section
variable {P:Program}{J:Judge P}{Q:Gs_}{b bc:Frame}{n:Nat}{L L':Env}{ds dsc:Ld_}{k:Li_}{cs:Lf_}{s:St}{ch:List PanicEntry}{T Tc:Av_}{todoc:Li_}
variable {ops:Ao_}{i:Nat}{rest:List Nat}{d:Option Tmp}{x:Operand}{ty:TypeId}{p:String}{af:Ae_}{g:On_}{v:Value}
theorem JL.panic{t:TypeId}(O:ops[i]? =some ⟨d,.panic x,ty,p,af,g⟩)(U:b.roundOf=none)(hw:AL L ops ⟨d,.panic x,ty,p,af,g⟩=some true)(Y:ev L x=some (.iface t v))
  (h:JP J Q b n L ds cs (raised (.iface t v)) s):JL J Q b n L ds (.inRegion ops (i::rest)::k) cs s:=λT K=>
 Judge.Dh rfl (λw=>by
  have he:execOp (BB T) ⟨d,.panic x,ty,p,af,g⟩= .halt (.panic (.iface t v)):=by
   simp [execOp,Instr.panic,K.ev Y,goPanic,bind,Sem.bind]
  rw [stepG_op O (B6 K hw)]
  simp [U,stepG.apply,he,Sem.run,Sem.runT,Sem.events,GStep.after,fr,GY,Frame.raise,G,raised,seen_none]) (h T K (.inRegion ops (i::rest)::k))
theorem JP.pop{fn:Func}(K:P.funcs[b.fn]? =some fn)(h:J.ok Q (G (GY bc Tc dsc todoc ch) cs) s):JP J Q b n L [] (fr bc Tc dsc todoc::cs) ch s:=λT O todo=>
 Judge.Dh rfl (λw=>by simp [G,stepG,unwind,GY,fr,Frame.raise,Frame.catches,K]) h
theorem JP.Pl{f:FuncId}{fn:Func}{c:Code}{vs caps:Lv_}(ap:b.roundOf=none)(O:P.funcs[f]? =some fn)(Y:(fn.name== "runtime.NumGoroutine")=false)(hb:fn.body=some c)(Z:(vs++caps).length<=fn.ntmps)
  (h:∀T,Has n L T->∀todo,JL J Q (baseD f) fn.ntmps (Ga 0 (vs++caps)) [] [.code c] (GY b T ds todo ch::cs) s):JP J Q b n L (Kn f vs.toArray caps.toArray::ds) cs ch s:=λT ac todo=>by
 have ag:¬fn.name= "runtime.NumGoroutine" :=by simpa using Y
 refine Judge.Dh rfl (λw=>?_) (h T ac todo ((vs++caps).toArray++Array.replicate (fn.ntmps - (vs++caps).length) undef) ⟨by simp;simp at Z;omega,λt v al=>?_⟩)
 ·rw [BM (b:=baseD f) rfl];have:=enter_atD (P:=P) (vs++caps).toArray O hb;simp only [List.size_toArray] at this;rw [← this];simp [G,stepG,unwind,callDeferred,GY,Kn,invoke,callFunc,O,ag,hb,GStep.after,seen_none]
 ·obtain⟨_,K⟩:=Jj al;have am:t<(vs++caps).length:=by
   rcases Nat.lt_or_ge t (vs++caps).length with U | U
   ·exact U
   ·simp only [Nat.sub_zero] at K;have:=(List.getElem?_eq_some_iff.1 K).1;omega
  rw [Array.getD_eq_getD_getElem?,Array.getElem?_append_left (by simpa using am)];simp only [Nat.sub_zero] at K;rw [List.getElem?_toArray,K];rfl
theorem UH{ats:Array TypeId}{K:List PanicEntry}(O:ops[i]? =some ⟨d,.call ⟨.builtin .recover,#[],ats⟩,ty,p,af,g⟩)(U:b.roundOf=none)(Y:b.kind= .deferred)(ag:Bf n d=true)(hw:AL L ops ⟨d,.call ⟨.builtin .recover,#[],ats⟩,ty,p,af,g⟩=some true)
  (h:JL J Q b n (Av L d v) ds (.inRegion ops rest::k) (GY bc Tc dsc todoc ({v,recovered:=true}::K)::cs) s):
  JL J Q b n L ds (.inRegion ops (i::rest)::k) (GY bc Tc dsc todoc ({v,recovered:=false}::K)::cs) s:=λT Z=>
 Judge.Dh rfl (λw=>by
  have he:execOp (BB T) ⟨d,.call ⟨.builtin .recover,#[],ats⟩,ty,p,af,g⟩= .pure .recover:=by
   simp [execOp,resolve,Deferred.ofValue,invoke,bind,Sem.bind,pure,Go.builtin]
  have ac:=Gm (b:=b) (ds:=ds) (k:=k) T ops i rest v _ O
  simp only [fr,U,Y] at ac
  rw [stepG_op O (B6 Z hw)]
  simp [U,Y,stepG.apply,he,Sem.run,Sem.runT,Sem.events,GStep.after,fr,GY,tryRecover,G,seen_none,ac]) (h _ (Z.put ag _))
theorem UI{ats:Array TypeId}(K:ops[i]? =some ⟨d,.call ⟨.builtin .recover,#[],ats⟩,ty,p,af,g⟩)(O:b.roundOf=none)(U:b.kind= .deferred)(ac:Bf n d=true)(hw:AL L ops ⟨d,.call ⟨.builtin .recover,#[],ats⟩,ty,p,af,g⟩=some true)
  (h:JL J Q b n (Av L d .nilIface) ds (.inRegion ops rest::k) (Eo bc Tc dsc todoc::cs) s):
  JL J Q b n L ds (.inRegion ops (i::rest)::k) (Eo bc Tc dsc todoc::cs) s:=λT Y=>
 Judge.Dh rfl (λw=>by
  have he:execOp (BB T) ⟨d,.call ⟨.builtin .recover,#[],ats⟩,ty,p,af,g⟩= .pure .recover:=by
   simp [execOp,resolve,Deferred.ofValue,invoke,bind,Sem.bind,pure,Go.builtin]
  have Z:=Gm (b:=b) (ds:=ds) (k:=k) T ops i rest .nilIface _ K
  simp only [fr,O,U] at Z
  rw [stepG_op K (B6 Y hw)]
  simp [O,U,stepG.apply,he,Sem.run,Sem.runT,Sem.events,GStep.after,fr,Eo,tryRecover,G,seen_none,Z]) (h _ (Y.put ac _))
theorem JO.YQ{fn:Func}(O:b.kind= .deferred)(U:P.funcs[b.fn]? =some fn)(K:fn.results= #[])(h:J.ok Q (G (Eo bc Tc dsc todoc) cs) s):JO J Q b n L [] (GY bc Tc dsc todoc (taken v)::cs) s:=λT Z todo=>by
 refine Judge.Dh rfl (λw=>?_) h
 have Y:=results_none K T P w
 have e2:=λ(x:Array Event)=>events_results_none (P:=P) (w:=w) K T x
 simp [G,stepG,unwind,Eo,GY,U,Y,e2,doReturn,O,GStep.after,seen_none,taken]
end
end Pal
namespace Pal
open Go Go.Conc Go.Proofs
abbrev Dq:=Int×Int×Int
abbrev Aw:=List Dq
abbrev A0:=List Aw
abbrev Bb:=List (List Int)
abbrev AQ:=Bb×Aw
abbrev As:=rP rI Du
open Go.Proofs.Tryz
def AB:=AR Tryz.type3
def AV:=AR Tryz.type27
def FB:=AR Tryz.type101
def IS:=AR Tryz.type105
def Mk:=AR Tryz.type227
def A2:=C6 Tryz.underlying3
def Lk:=A3 Tryz.func91 rfl
def Dg:=AR Tryz.type22
def Dy:=C6 Tryz.underlying22
def Cu:=AR Tryz.type23
def Et:=C6 Tryz.underlying23
def Dm:=C6 Tryz.underlying27
def Bp:=Dz Tryz.type27
def Eu:=AR Tryz.type28
def GA:=C6 Tryz.underlying28
def Kv:=Dz Tryz.type105
def Bu:=AR Tryz.type25
def Iu:=C6 Tryz.underlying105
def Hm:=Dz Tryz.type101
def Ho:=Dz Tryz.type77
def B2:=C6 Tryz.underlying25
def DX:=AR Tryz.type77
def F6:=C6 Tryz.underlying77
def Cg:=Dz Tryz.type3
def J0:=A3 Tryz.func70 rfl
def Oe:=A3 Tryz.func84 rfl
def HS:=A3 Tryz.func74 rfl
def Lm:=AR Tryz.type4
def N8:=C6 Tryz.underlying4
def Bj:=AR Tryz.type80
def BI:=C6 Tryz.underlying80
def Hp:=AR Tryz.type197
def Hn:=A3 Tryz.func85 rfl
def Kz:=Dz Tryz.type28
def Ll:=Dz Tryz.type4
def Me:=A3 Tryz.func115 rfl
def Kx:=Dz Tryz.type209
def HR:=A3 Tryz.func204 rfl
def Oi:=Dz Tryz.type80
def Ma:=C6 Tryz.underlying167
def N7:=C6 Tryz.underlying83
def Og:=A3 Tryz.func71 rfl
def Oa:=A3 Tryz.func205 rfl
def Oc:=A3 Tryz.func179 rfl
def Ob:=A3 Tryz.func137 rfl
def Md:=A3 Tryz.func114 rfl
def JZ:=C6 Tryz.underlying197
def Of:=Dz Tryz.type227
def L9:=C6 Tryz.underlying227
def Jh:=AR Tryz.type156
def Mj:=Dz Tryz.type156
def Mb:=C6 Tryz.underlying156
def G1:=C6 Tryz.underlying21
def Ml:=AR Tryz.type85
def GB:=Dz Tryz.type25
def Mi:=A3 Tryz.func67 rfl
def N9:=A3 Tryz.func110 rfl
def Mh:=A3 Tryz.func63 rfl
def Ky:=A3 Tryz.func29 rfl
def Mg:=A3 Tryz.func26 rfl
def Mf:=A3 Tryz.func92 rfl
def Ji:=AR Tryz.type72
def Mc:=C6 Tryz.underlying72
def Kw:=A3 Tryz.func36 rfl
def Oh:=A3 Tryz.func37 rfl
def Od:=A3 Tryz.func48 rfl
theorem mixed:Tryz.prog.follows .mixedOrders=true:=rfl
theorem Z0:B9 Tryz.prog 27 (rP rI (rP rI rI)) true 2:=B9.three underlying27 (B9.int underlying3 AB) (B9.int underlying3 AB) (B9.int underlying3 AB) (by decide+kernel) (by decide) (by decide) (by decide) rfl rfl rfl AV
theorem Y9:B9 Tryz.prog 101 (rP rI rI) true 2:=B9.two underlying101 (B9.int underlying3 AB) (B9.int underlying3 AB) (by decide+kernel) (by decide) (by decide) rfl rfl FB
theorem YN:B9 Tryz.prog 105 (rA 5 rI) true 2:=B9.arr (kk:=5) (B9.int underlying3 AB) underlying105 IS
theorem YU:B9 Tryz.prog 225 (rA 10 rI) true 2:=B9.arr (kk:=10) (B9.int underlying3 AB) underlying225 (AR type225)
theorem Td:B9 Tryz.prog 227 (rA 5 (rA 10 rI)) true 3:=B9.arr (kk:=5) YU underlying227 Mk
theorem ZD:B9 Tryz.prog 249 (rP (rN .u8) (rA 5 (rA 10 rI))) true 4:=B9.two underlying249 ((B9.nat underlying5 (AR type5)).up (by decide)) Td (by decide+kernel) (by decide) (by decide) rfl rfl (AR type249)
theorem IH:FK Tryz.prog 3 rI false:=(B9.int underlying3 AB).key (by decide)
theorem H6:FK Tryz.prog 101 (rP rI rI) true:=Y9.key (by decide)
theorem TA:FK Tryz.prog 227 (rA 5 (rA 10 rI)) true:=Td.key (by decide)
theorem Tb:FK Tryz.prog 249 (rP (rN .u8) (rA 5 (rA 10 rI))) true:=ZD.key (by decide)
end Pal
namespace Pal
open Go Go.Conc Go.Proofs
open Go.Proofs.Tryz
variable {J:Judge Tryz.prog}{E:LH}
def f91(fu_:Nat)(p0:Int)(K:Int)(p2:Int):Option Bool:= Option.bind (if K<=p0 then(some (decide (p0<=p2))) else(some false)) λO=> some O
theorem LM{p0:Int}{K:Int}{p2:Int}{fu_:Nat}{r:Bool}(O:f91 fu_ p0 K p2=some r):AK J 91 [iV p0,iV K,iV p2] E [] (λw E' B'=>w= .bool r/\B'= []):=by
 refine Bd func91 λQ az cs H U Z=>?_;unfold f91 at O;obtain⟨ac,ag,al⟩:=bs O;refine zg 10 rfl (FH 8 1 [] [(14,.bool ac)] (λa0 am ap=>?_) (λY=>?_))
 ·refine zg 2 rfl ?_;obtain rfl:=oi al;exact AN func91 rfl rfl (Z am rfl ⟨rfl,rfl⟩ ap)
 ·refine GL 10 ag (λaq aw=>?_) (λaq ay=>?_)
  ·refine zg 4 rfl ?_;obtain rfl:=oi aw;exact Y Ay U rfl
  ·refine zg 4 rfl ?_;obtain rfl:=oi ay;exact Y Ay U rfl
def f86(fu_:Nat)(p0:Int×Int×Int)(K:Int)(p2:Int):Option Int:= (Ax (K - 1)).bind λO=> (f91 fu_ p0.1 0 O).bind λU=> Option.bind (if(!U)=true then(some true) else((Ax (K - 1)).bind λY=> (f91 fu_ p0.2.1 0 Y).bind λZ=> some (!Z))) λac=> if ac=true then(some 3) else(if p0.1=p0.2.1 then(some 8) else((f91 fu_ p0.2.2 1 p2).bind λag=> if(!ag)=true then(some 1) else(some 0)))
theorem ZN{p0:Int×Int×Int}{ag:Int}{p2:Int}{fu_:Nat}{r:Int}(al:f86 fu_ p0 ag p2=some r):AK J 86 [.agg #[iV p0.1,iV p0.2.1,iV p0.2.2],iV ag,iV p2] E [] (λw E' B'=>w=iV r/\B'= []):=by
 refine Bd func86 λQ bI cs H ay Y=>?_;unfold f86 at al;refine zg 2 rfl (Cr ay λr2 bJ Z U az=>?_);refine zg 6 rfl (Bw 0 U underlying27 AB A2 ?_);obtain⟨bK,a0,a1⟩:=bs al;refine zg 1 rfl (Cm a0 rfl rfl rfl ?_);obtain⟨a2,a3,a4⟩:=bs a1;refine Cn (LM a3) rfl rfl Lk az λbL K am=>Am (v:= .bool (!a2)) rfl (λρ h=>Yl.not (h _ _ rfl)) ?_;obtain⟨a5,a6,a7⟩:=bs a4;refine zg 1 rfl (FH 14 1 [] [(2,iV p2),(3,Aj r2 0),(21,.bool a5)] (λbM O ac=>?_) (λap=>?_))
 ·refine zg 2 rfl (Cc a7 (λa8 a9=>?_) (λa8 bb=>?_))
  ·refine zg 4 rfl ?_;obtain rfl:=oi a9;exact AN func86 rfl rfl (Y ((Z.Ad K).Ad O) rfl ⟨rfl,rfl⟩ ac)
  ·refine zg 2 rfl (Bw 0 (U.Ag (K.Ad O)) underlying27 AB A2 ?_);refine Bw 1 (U.Ag (K.Ad O)) underlying27 AB A2 ?_;refine zg 3 rfl (AT bb (λbe bi=>?_) (λbe bn=>?_))
   ·refine zg 4 rfl ?_;obtain rfl:=oi bi;exact AN func86 rfl rfl (Y ((Z.Ad K).Ad O) rfl ⟨rfl,rfl⟩ ac)
   ·refine zg 2 rfl (Bw 2 (U.Ag (K.Ad O)) underlying27 AB A2 ?_);obtain⟨bo,bq,br⟩:=bs bn;refine zg 1 rfl (Cn (LM bq) rfl rfl Lk ac λbN aq aw=>?_);refine Am (v:= .bool (!bo)) rfl (λρ h=>Yl.not (h _ _ rfl)) (zg 2 rfl ?_);refine Cc br (λbu bv=>?_) (λbu bw=>?_)
    ·refine zg 4 rfl ?_;obtain rfl:=oi bv;exact AN func86 rfl rfl (Y (((Z.Ad K).Ad O).Ad aq) rfl ⟨rfl,rfl⟩ aw)
    ·refine zg 6 rfl ?_;obtain rfl:=oi bw;exact AN func86 rfl rfl (Y (((Z.Ad K).Ad O).Ad aq) rfl ⟨rfl,rfl⟩ aw)
 ·refine Fh 14 a6 (λbx bz=>?_) (λbx bA=>?_)
  ·refine zg 7 rfl ?_;obtain rfl:=oi bz;exact ap Ay am rfl
  ·refine Bw 1 (U.Ag K) underlying27 AB A2 ?_;obtain⟨bO,bB,bC⟩:=bs bA;refine zg 1 rfl (Cm bB rfl rfl rfl ?_);obtain⟨bD,bE,bF⟩:=bs bC;refine Cn (LM bE) rfl rfl Lk am λbP bG bH=>Am (v:= .bool (!bD)) rfl (λρ h=>Yl.not (h _ _ rfl)) (zg 1 rfl ?_);obtain rfl:=oi bF;exact ap bG bH rfl
def Nw(fu_:Nat)(O:List Int)(K:Int):Option (Bm Int ((Int)⊕(Unit))):= if K<(O.length:Int) then((ix O K).bind λU=> (f91 fu_ U 1 9).bind λY=> if(!Y)=true then(some (.done (Sum.inl 1))) else((Ax (K+1)).bind λZ=> some (.more Z))) else(some (.done (Sum.inr ())))
def Nl(fu_:Nat)(p0:AQ)(K:Int):Option (Bm Int ((Int)⊕(Unit))):= if K<(p0.1.length:Int) then((ix p0.1 K).bind λO=> if 3<(O.length:Int) then(some (.done (Sum.inl 6))) else(Option.bind (iter (Nw fu_ O) fu_ 0) λU=> Sum.elim (λr=>some (.done (Sum.inl r))) (λZ=> (Ax (K+1)).bind λY=> some (.more Y)) U)) else(some (.done (Sum.inr ())))
def SQ(fu_:Nat)(p0:AQ)(K:Int):Option (Bm Int ((Int)⊕(Unit))):= if K<(p0.2.length:Int) then((ix p0.2 K).bind λU=> (f86 fu_ U (p0.1.length:Int) 9).bind λO=> if O≠0 then(some (.done (Sum.inl O))) else((Ax (K+1)).bind λY=> some (.more Y))) else(some (.done (Sum.inr ())))
def f47(fu_:Nat)(p0:AQ):Option Int:= if(p0.1.length:Int)<2 then(some 7) else(if 5<(p0.1.length:Int) then(some 6) else(Option.bind (iter (Nl fu_ p0) fu_ 0) λK=> Sum.elim (λr=>some r) (λU=> if 8<(p0.2.length:Int) then(some 6) else(Option.bind (iter (SQ fu_ p0) fu_ 0) λO=> Sum.elim (λr=>some r) (λY=> some 0) O)) K))
theorem TF{a1:An}{c2:Nat}{ay:An}{az:Nat}{p0:AQ}(bM:Al (rL rI) E a1 c2 p0.1)(bN:Al As E ay az p0.2){fu_:Nat}{r:Int}(a9:f47 fu_ p0=some r):AK J 47 [.agg #[sV a1 p0.1 c2,sV ay p0.2 az]] E [] (λw E' B'=>w=iV r/\B'= []):=by
 refine Bd func47 λQ dk cs H bO O=>?_;unfold f47 at a9;refine zg 2 rfl (Cr bO λY bP K Z a0=>?_);refine zg 5 rfl (Bw 0 Z underlying25 Dg Dy ?_);refine JL.ln underlying22 rfl rfl rfl (zg 9 rfl ?_);refine AT a9 (λbQ bR=>?_) (λbQ bS=>?_)
 ·refine zg 4 rfl ?_;obtain rfl:=oi bR;exact AN func47 rfl rfl (O K rfl ⟨rfl,rfl⟩ a0)
 ·refine zg 6 rfl (AT bS (λbT bU=>?_) (λbT bV=>?_))
  ·refine zg 4 rfl ?_;obtain rfl:=oi bU;exact AN func47 rfl rfl (O K rfl ⟨rfl,rfl⟩ a0)
  ·refine zg 5 rfl (Bw 0 Z underlying25 Dg Dy ?_);refine JL.ln underlying22 rfl rfl rfl ?_;obtain⟨bb,bW,a2⟩:=bs bV;refine zg 2 rfl (Bq (λL s=>∃(be:Unit) (a3:LH),bb=Sum.inr be/\Jm bP H a3 [] [(1,Aj Y 0)] L s) ?_ ?_)
   ·rintro _ _ ⟨be,a3,rfl,rfl,rfl,U,bi⟩;have bY:=elim_inr a2;refine zg 3 rfl (Bw 1 (Z.Ag U) underlying25 Cu Et ?_);refine JL.ln underlying23 rfl rfl rfl (zg 2 rfl ?_);refine AT bY (λbZ b0=>?_) (λbZ b1=>?_)
    ·refine zg 4 rfl ?_;obtain rfl:=oi b0;exact AN func47 rfl rfl (O (K.Ad U) rfl ⟨rfl,rfl⟩ bi)
    ·refine zg 4 rfl (Bw 1 (Z.Ag U) underlying25 Cu Et ?_);refine JL.ln underlying23 rfl rfl rfl ?_;obtain⟨bn,b2,bo⟩:=bs b1;refine zg 2 rfl (Bq (λL s=>∃(bq:Unit) (br:LH),bn=Sum.inr bq/\Jm a3 H br [] [] L s) ?_ ?_)
     ·rintro _ _ ⟨bq,br,rfl,rfl,rfl,b3,b4⟩;have b5:=elim_inr bo;refine zg 4 rfl ?_;obtain rfl:=oi b5;exact AN func47 rfl rfl (O ((K.Ad U).Ad b3) rfl ⟨rfl,rfl⟩ b4)
     ·intro b6;refine JL.block (Di b2 (λa4=> []) (λa4=> [(1,Aj Y 0),(46,sV ay p0.2 az),(47,iV (p0.2.length:Int)),(48,iV a4)]) Ay bi ?_);rintro a4 b7 ac bu bv ⟨dn,ap⟩ b8;have bw:=ap;unfold SQ at bw;refine zg 5 rfl (AT bw (λb9 ca=>?_) (λb9 cb=>?_))
      ·obtain⟨dp,cc,cd⟩:=bs ca;refine zg 5 rfl (JS.ix (bN.Ag ((K.Ad U).Ad ac)) cc underlying23 AV ?_);rintro dq dr _ ⟨_,_,rfl,rfl,⟨_,_,rfl,rfl,rfl⟩⟩ ce;refine B3 ce Dm AV rfl rfl (BO bu Bp λdt cf=>?_);refine Bv 0 cf AV λcg=>?_;refine Dr 0 cg rfl λdu a5 ci ck=>zg 3 rfl (B3 ci Dm AV rfl rfl ?_);refine Bw 0 (Z.Ag ((U.Ad ac).Ad a5)) underlying25 Dg Dy ?_;refine JL.ln underlying22 rfl rfl rfl ?_;obtain⟨dv,cm,cn⟩:=bs cd;refine Cn (ZN cm) rfl rfl (A3 func86 rfl) ck λdw bx bz=>zg 7 rfl (AT cn (λco cp=>?_) (λco cq=>?_))
       ·refine zg 5 rfl ?_;obtain rfl:=oi cp;obtain rfl:=bv _ ap;have cr:=elim_inl bo;obtain rfl:=oi cr;exact AN func47 rfl rfl (O ((((K.Ad U).Ad ac).Ad a5).Ad bx) rfl ⟨rfl,rfl⟩ bz)
       ·obtain⟨ct,cu,cv⟩:=bs cq;refine zg 3 rfl (Bt cu rfl rfl rfl ?_);refine zg 2 rfl ?_;obtain rfl:=oi cv;exact b8 ct ((ac.Ad a5).Ad bx) bz rfl ap
      ·refine JL.exit rfl ?_;obtain rfl:=oi cb;have cw:bn=(Sum.inr ()):=(bv _ ap).symm;exact AA (b6 _ _ ⟨(),b7,cw,rfl,rfl,ac,bu⟩) rfl
   ·intro cy;refine JL.block (Di bW (λag=> []) (λag=> [(1,Aj Y 0),(21,sV a1 p0.1 c2),(22,iV (p0.1.length:Int)),(23,iV ag)]) Ay a0 ?_);rintro ag bA al a6 a7 ⟨dx,am⟩ cz;have bB:=am;unfold Nl at bB;refine zg 5 rfl (AT bB (λcA cB=>?_) (λcA cC=>?_))
    ·obtain⟨bC,cD,cE⟩:=bs cB;refine zg 5 rfl (JS.ix (bM.Ag (K.Ad al)) cD underlying22 Eu ?_);rintro dy dz _ ⟨cF,cG,rfl,cH⟩ cI;refine CL 0 cI GA rfl rfl rfl (zg 6 rfl ?_);refine JL.ln underlying28 rfl rfl rfl (zg 2 rfl ?_);refine AT cE (λcJ cK=>?_) (λcJ cM=>?_)
     ·refine zg 4 rfl ?_;obtain rfl:=oi cK;obtain rfl:=a7 _ am;have cN:=elim_inl a2;obtain rfl:=oi cN;exact AN func47 rfl rfl (O (K.Ad al) rfl ⟨rfl,rfl⟩ a6)
     ·refine zg 4 rfl (JL.ln underlying28 rfl rfl rfl ?_);obtain⟨bD,cO,bE⟩:=bs cM;refine zg 2 rfl (Bq (λL s=>∃(bF:Unit) (bG:LH),bD=Sum.inr bF/\Jm bA H bG [] [(1,Aj Y 0),(21,sV a1 p0.1 c2),(22,iV (p0.1.length:Int)),(23,iV ag)] L s) ?_ ?_)
      ·rintro _ _ ⟨bF,bG,rfl,rfl,rfl,cP,cQ⟩;have cR:=elim_inr bE;obtain⟨cT,cV,cW⟩:=bs cR;refine zg 2 rfl (Bt cV rfl rfl rfl ?_);refine zg 2 rfl ?_;obtain rfl:=oi cW;exact cz cT (al.Ad cP) cQ rfl am
      ·intro cX;refine JL.block (Di cO (λa8=> []) (λa8=> [(1,Aj Y 0),(21,sV a1 p0.1 c2),(22,iV (p0.1.length:Int)),(23,iV ag),(30,sV cF bC cG),(31,iV (bC.length:Int)),(32,iV a8)]) Ay a6 ?_);rintro a8 cY aq bH bI ⟨dA,aw⟩ cZ;have bJ:=aw;unfold Nw at bJ;refine zg 5 rfl (AT bJ (λc0 c1=>?_) (λc0 c3=>?_))
       ·obtain⟨dB,c4,c5⟩:=bs c1;refine zg 5 rfl (JS.ix (cH.Ag aq) c4 underlying28 AB ?_);rintro dC dD _ rfl c6;refine CL 0 c6 A2 rfl rfl rfl ?_;obtain⟨c7,c8,c9⟩:=bs c5;refine zg 5 rfl (Cn (LM c8) rfl rfl Lk bH λdE bK bL=>?_);refine Am (v:= .bool (!c7)) rfl (λρ h=>Yl.not (h _ _ rfl)) (JL.done ?_);refine Cc c9 (λda db=>?_) (λda dc=>?_)
        ·refine zg 4 rfl ?_;obtain rfl:=oi db;obtain rfl:=bI _ aw;have dd:=elim_inl bE;obtain rfl:=oi dd;obtain rfl:=a7 _ am;have de:=elim_inl a2;obtain rfl:=oi de;exact AN func47 rfl rfl (O (((K.Ad al).Ad aq).Ad bK) rfl ⟨rfl,rfl⟩ bL)
        ·obtain⟨df,dg,dh⟩:=bs dc;refine zg 3 rfl (Bt dg rfl rfl rfl ?_);refine zg 2 rfl ?_;obtain rfl:=oi dh;exact cZ df (aq.Ad bK) bL rfl aw
       ·refine JL.exit rfl ?_;obtain rfl:=oi c3;have di:bD=(Sum.inr ()):=(bI _ aw).symm;exact AA (cX _ _ ⟨(),cY,di,rfl,rfl,aq,bH⟩) rfl
    ·refine JL.exit rfl ?_;obtain rfl:=oi cC;have dj:bb=(Sum.inr ()):=(a7 _ am).symm;exact AA (cy _ _ ⟨(),bA,dj,rfl,rfl,al,a6⟩) rfl
def Nn(fu_:Nat)(p0:AQ)(O:(List Int)×Int):Option (Bm ((List Int)×Int) ((List Int))):= if O.2<(p0.2.length:Int) then((ix p0.2 O.2).bind λK=> (ix O.1 K.2.1).bind λY=> (Ax (Y+K.2.2)).bind λU=> (ix O.1 K.2.1).bind λal=> (ix (O.1.set (Int.toNat K.2.1) U) K.1).bind λZ=> (Ax (Z - K.2.2)).bind λac=> (ix (O.1.set (Int.toNat K.2.1) U) K.1).bind λam=> (Ax (O.2+1)).bind λag=> some (.more (((O.1.set (Int.toNat K.2.1) U).set (Int.toNat K.1) ac),ag))) else(some (.done O.1))
def f84(fu_:Nat)(p0:AQ):Option ((List Int)):= Option.bind (iter (Nn fu_ p0) fu_ ((List.replicate 5 (0:Int)),0)) λK=> some K
theorem PK{a1:An}{c2:Nat}{a9:An}{bb:Nat}{p0:AQ}(cq:Al (rL rI) E a1 c2 p0.1)(bH:Al As E a9 bb p0.2){fu_:Nat}{r:(List Int)}(bu:f84 fu_ p0=some r):AK J 84 [.agg #[sV a1 p0.1 c2,sV a9 p0.2 bb]] E [] (λw E' B'=>∃(bv:Lv_),w= .agg bv.toArray/\B'= []/\(rA 5 rI).r E' bv r):=by
 refine Bd func84 λQ cr cs H bI bJ=>?_;unfold f84 at bu;refine zg 2 rfl (Cr bI λct a3 bw bK bL=>?_);refine BO bL Kv λa4 bM=>?_;refine zg 3 rfl (BO bM Kv λU bN=>?_);refine zg 4 rfl (JL.fd underlying77 Bu rfl rfl rfl ?_);refine Bw 1 bK underlying25 Cu Et ?_;refine JL.ln underlying23 rfl rfl rfl ?_;obtain⟨bO,bP,bQ⟩:=bs bu;refine zg 2 rfl (Bq (λL s=>∃(ay:LH) (Y:Lv_),Jn a3 H ay [bX a4 (([]:Lv_)++(List.replicate 5 (iV 0):Lv_)).toArray 105,bX U (([]:Lv_)++Y).toArray 105] [(2,Aj a4 0),(3,Aj U 0)] L s ((rA 5 rI).r ay Y bO)) ?_ ?_)
 ·rintro _ _ ⟨ay,Y,rfl,rfl,bR,bx,ac⟩;refine zg 2 rfl (Am (v:= .agg Y.toArray) rfl (λρ h=>H0 (kk:=5) (pp:=rI) ac Iu IS (h _ _ rfl) (GF (l:= []) 1 bx rfl)) ?_);refine Hr (v:= .agg Y.toArray) (l:= []) (ws:=(List.replicate 5 (iV 0):Lv_)) (us:=Y) (o:=0) 0 rfl rfl rfl bx rfl rfl rfl (by rw [Cj (kk:=5) (pp:=rI) ac];exact AR type105) ((rA 5 rI).one ac) rfl (by rw [Cj (kk:=5) (pp:=rI) ac,Cj (kk:=5) (pp:=rI) (GK (E:=ay) (pp:=rI) rfl)];omega) λbz=>?_;rw [Jo (by rw [Cj (kk:=5) (pp:=rI) ac,Cj (kk:=5) (pp:=rI) (GK (E:=ay) (pp:=rI) rfl)])] at bz ⊢;refine JL.done (JS.drop 1 bz rfl λbA=>?_);obtain rfl:=oi bQ;refine JL.ret (v:= .agg Y.toArray) rfl rfl (Bz.list func84 rfl (vs:= [.agg Y.toArray]) ⟨⟨_,rfl,Ld.many (vs:=Y) Iu (by rw [Cj (kk:=5) (pp:=rI) ac];exact AR type105) (GF (l:= []) 0 bA rfl)⟩,trivial⟩) (Db 0 bA rfl λbS=>?_);exact bJ (bw.Ad bR) rfl ⟨Y,rfl,rfl,ac⟩ bS
 ·intro bT;refine JL.block (CI bP (λL s al=>∃(a5:LH) (am:Lv_),Jn a3 H a5 [bX a4 (([]:Lv_)++(List.replicate 5 (iV 0):Lv_)).toArray 105,bX U (([]:Lv_)++am).toArray 105] [(2,Aj a4 0),(3,Aj U 0),(8,sV a9 p0.2 bb),(9,iV (p0.2.length:Int)),(10,iV al.2)] L s ((rA 5 rI).r a5 am al.1)) ⟨a3,(List.replicate 5 (iV 0):Lv_),rfl,rfl,Ay,bN,(GK (E:=a3) (pp:=rI) rfl)⟩ ?_);rintro _ _ al ⟨a5,am,rfl,rfl,be,bB,ap⟩ bU ⟨cu,bi⟩ bV;have bC:=bi;unfold Nn at bC;refine zg 5 rfl (AT bC (λbW bY=>?_) (λbW bZ=>?_))
  ·obtain⟨K,b0,b1⟩:=bs bY;refine zg 5 rfl (JS.ix (bH.Ag (bw.Ad be)) b0 underlying23 AV ?_);rintro cv cw _ ⟨_,_,rfl,rfl,⟨_,_,rfl,rfl,rfl⟩⟩ b2;refine B3 b2 Dm AV rfl rfl (BO bB Bp λcy b3=>?_);refine Bv 2 b3 AV λb4=>?_;refine Dr 2 b4 rfl λbn aq a6 az=>zg 2 rfl (Ft 6 [U] ⟨⟨1,_,rfl⟩,trivial⟩ az λO=>?_);refine JG.fd 0 O underlying27 AB rfl rfl rfl rfl (JG.lp 1 O 1 a6 az ⟨⟨1,_,rfl⟩,trivial⟩ A2 ?_);obtain⟨b5,bD,b6⟩:=bs b1;obtain⟨_,rfl,_,_,b7⟩:=Hs (kk:=5) (pp:=rI) (Rp.Ag _ aq ap) bD;refine AP (v:= .pointer (some ⟨U,0+Int.toNat (K.2.1)*1,none⟩)) 2 O rfl rfl (λρ h s' a0=>IY (kk:=5) (pp:=rI) (Rp.Ag _ aq ap) bD underlying105 AB (h _ _ rfl) (h _ _ rfl)) (AP (v:=iV b5) 3 O rfl rfl (λρ h s' a0=>Yl.load A2 (h _ _ rfl) (MF (l:= []) 1 az rfl (by simp [AZ]) a0 (b7 0 _ rfl))) ?_);refine JG.fd 4 O underlying27 AB rfl rfl rfl rfl (JG.lp 5 O 2 a6 az ⟨⟨1,_,rfl⟩,trivial⟩ A2 ?_);refine Ck [6,7,8] ?_;obtain⟨Z,b8,b9⟩:=bs b6;refine Bt b8 rfl rfl rfl ?_;obtain⟨cz,bo,ca⟩:=bs b9;obtain⟨_,rfl,_,_,cA⟩:=Hs (kk:=5) (pp:=rI) (Rp.Ag _ aq ap) bo;refine Am (v:= .pointer (some ⟨U,0+Int.toNat (K.2.1)*1,none⟩)) rfl (λρ h=>IY (kk:=5) (pp:=rI) (Rp.Ag _ aq ap) bo underlying105 AB (h _ _ rfl) (h _ _ rfl)) ?_;have a7:=NB (us:= [iV Z]) (y:=Z) (Rp.Ag _ aq ap) bo rfl;refine Hr (v:=iV Z) (l:= []) (ws:=am) (us:= [iV Z]) (o:=Int.toNat (K.2.1)*1) 1 rfl rfl rfl az rfl rfl rfl AB (by simp [Value.cells,Dc]) rfl a7.2 λaw=>?_;replace a7:=a7.1;generalize cb:Ih am (Int.toNat (K.2.1)*1) [iV Z]=bq at aw ⊢;have a2:(rA 5 rI).r bn bq (al.1.set (Int.toNat K.2.1) Z):=by rw [← cb];exact a7
   refine JL.done (Ft 6 [U] ⟨⟨1,_,rfl⟩,trivial⟩ aw λO=>?_);refine JG.fd 0 O underlying27 AB rfl rfl rfl rfl (JG.lp 1 O 0 a6 aw ⟨⟨1,_,rfl⟩,trivial⟩ A2 ?_);obtain⟨cc,bE,cd⟩:=bs ca;obtain⟨_,rfl,_,_,ce⟩:=Hs (kk:=5) (pp:=rI) a2 bE;refine AP (v:= .pointer (some ⟨U,0+Int.toNat (K.1)*1,none⟩)) 2 O rfl rfl (λρ h s' a0=>IY (kk:=5) (pp:=rI) a2 bE underlying105 AB (h _ _ rfl) (h _ _ rfl)) (AP (v:=iV cc) 3 O rfl rfl (λρ h s' a0=>Yl.load A2 (h _ _ rfl) (MF (l:= []) 1 aw rfl (by simp [AZ]) a0 (ce 0 _ rfl))) ?_);refine JG.fd 4 O underlying27 AB rfl rfl rfl rfl (JG.lp 5 O 2 a6 aw ⟨⟨1,_,rfl⟩,trivial⟩ A2 ?_);refine Ck [6,7,8] ?_;obtain⟨ag,cf,cg⟩:=bs cd;refine Cm cf rfl rfl rfl ?_;obtain⟨cB,br,ci⟩:=bs cg;obtain⟨_,rfl,_,_,cC⟩:=Hs (kk:=5) (pp:=rI) a2 br;refine Am (v:= .pointer (some ⟨U,0+Int.toNat (K.1)*1,none⟩)) rfl (λρ h=>IY (kk:=5) (pp:=rI) a2 br underlying105 AB (h _ _ rfl) (h _ _ rfl)) ?_;have a8:=NB (us:= [iV ag]) (y:=ag) a2 br rfl;refine Hr (v:=iV ag) (l:= []) (ws:=bq) (us:= [iV ag]) (o:=Int.toNat (K.1)*1) 1 rfl rfl rfl aw rfl rfl rfl AB (by simp [Value.cells,Dc]) rfl a8.2 λbF=>?_;replace a8:=a8.1;generalize ck:Ih bq (Int.toNat (K.1)*1) [iV ag]=bG at bF ⊢;have cm:(rA 5 rI).r bn bG ((al.1.set (Int.toNat K.2.1) Z).set (Int.toNat K.1) ag):=by rw [← ck];exact a8
   obtain⟨cn,co,cp⟩:=bs ci;refine zg 3 rfl (Bt co rfl rfl rfl ?_);refine zg 2 rfl ?_;obtain rfl:=oi cp;exact AA (bV _ _ (((al.1.set (Int.toNat K.2.1) Z).set (Int.toNat K.1) ag),cn) ⟨bn,bG,rfl,rfl,(be.Ad aq),bF,cm⟩ bi) rfl
  ·refine JL.exit rfl ?_;obtain rfl:=oi bZ;obtain rfl:=bU _ bi;exact AA (bT _ _ ⟨a5,am,rfl,rfl,be,bB,ap⟩) rfl
def f204(fu_:Nat)(p0:List Int)(K:Int×Int×Int):Option ((List Int)):= (ix p0 K.1).bind λU=> (Ax (U+K.2.2)).bind λO=> (ix p0 K.1).bind λac=> (ix (p0.set (Int.toNat K.1) O) K.2.1).bind λY=> (Ax (Y - K.2.2)).bind λZ=> (ix (p0.set (Int.toNat K.1) O) K.2.1).bind λag=> some ((p0.set (Int.toNat K.1) O).set (Int.toNat K.2.1) Z)
theorem H5{w1:Lv_}{p0:List Int}{K:Int×Int×Int}(am:(rA 5 rI).r E w1 p0){fu_:Nat}{r:(List Int)}(a6:f204 fu_ p0 K=some r):AK J 204 [.agg w1.toArray,.agg #[iV K.1,iV K.2.1,iV K.2.2]] E [] (λw E' B'=>∃(a7:Lv_),w= .agg a7.toArray/\B'= []/\(rA 5 rI).r E' a7 r):=by
 refine Bd func204 λQ bJ cs H bi bn=>?_;unfold f204 at a6;refine zg 2 rfl (JS.box (v:= .agg w1.toArray) rfl rfl rfl bi rfl λr3 bo=>?_);refine Cr bo λbK ay ac az bq=>?_;refine BO bq Kv λbL ap=>?_;refine zg 2 rfl (Ft 6 [r3] ⟨⟨1,_,rfl⟩,trivial⟩ ap λO=>?_);refine JG.fd 0 O underlying27 AB rfl rfl rfl rfl (JG.lp 1 O 0 az ap ⟨⟨1,_,rfl⟩,trivial⟩ A2 ?_);obtain⟨br,a8,bu⟩:=bs a6;obtain⟨_,rfl,_,_,bv⟩:=Hs (kk:=5) (pp:=rI) (Rp.Ag _ ac am) a8;refine AP (v:= .pointer (some ⟨r3,0+Int.toNat (K.1)*1,none⟩)) 2 O rfl rfl (λρ h s' aq=>IY (kk:=5) (pp:=rI) (Rp.Ag _ ac am) a8 underlying105 AB (h _ _ rfl) (h _ _ rfl)) (AP (v:=iV br) 3 O rfl rfl (λρ h s' aq=>Yl.load A2 (h _ _ rfl) (MF (l:= []) 1 ap rfl (by simp [AZ]) aq (bv 0 _ rfl))) ?_);refine JG.fd 4 O underlying27 AB rfl rfl rfl rfl (JG.lp 5 O 2 az ap ⟨⟨1,_,rfl⟩,trivial⟩ A2 ?_);refine Ck [6,7,8] ?_;obtain⟨Y,bw,bx⟩:=bs bu;refine Bt bw rfl rfl rfl ?_;obtain⟨bM,a2,bz⟩:=bs bx;obtain⟨_,rfl,_,_,bN⟩:=Hs (kk:=5) (pp:=rI) (Rp.Ag _ ac am) a2;refine Am (v:= .pointer (some ⟨r3,0+Int.toNat (K.1)*1,none⟩)) rfl (λρ h=>IY (kk:=5) (pp:=rI) (Rp.Ag _ ac am) a2 underlying105 AB (h _ _ rfl) (h _ _ rfl)) ?_;have a0:=NB (us:= [iV Y]) (y:=Y) (Rp.Ag _ ac am) a2 rfl;refine Hr (v:=iV Y) (l:= []) (ws:=w1) (us:= [iV Y]) (o:=Int.toNat (K.1)*1) 1 rfl rfl rfl ap rfl rfl rfl AB (by simp [Value.cells,Dc]) rfl a0.2 λag=>?_;replace a0:=a0.1;generalize bA:Ih w1 (Int.toNat (K.1)*1) [iV Y]=a3 at ag ⊢;have aw:(rA 5 rI).r ay a3 (p0.set (Int.toNat K.1) Y):=by rw [← bA];exact a0
 refine zg 2 rfl (Ft 6 [r3] ⟨⟨1,_,rfl⟩,trivial⟩ ag λO=>?_);refine JG.fd 0 O underlying27 AB rfl rfl rfl rfl (JG.lp 1 O 1 az ag ⟨⟨1,_,rfl⟩,trivial⟩ A2 ?_);obtain⟨bB,a9,bC⟩:=bs bz;obtain⟨_,rfl,_,_,bD⟩:=Hs (kk:=5) (pp:=rI) aw a9;refine AP (v:= .pointer (some ⟨r3,0+Int.toNat (K.2.1)*1,none⟩)) 2 O rfl rfl (λρ h s' aq=>IY (kk:=5) (pp:=rI) aw a9 underlying105 AB (h _ _ rfl) (h _ _ rfl)) (AP (v:=iV bB) 3 O rfl rfl (λρ h s' aq=>Yl.load A2 (h _ _ rfl) (MF (l:= []) 1 ag rfl (by simp [AZ]) aq (bD 0 _ rfl))) ?_);refine JG.fd 4 O underlying27 AB rfl rfl rfl rfl (JG.lp 5 O 2 az ag ⟨⟨1,_,rfl⟩,trivial⟩ A2 ?_);refine Ck [6,7,8] ?_;obtain⟨al,bE,bF⟩:=bs bC;refine Cm bE rfl rfl rfl ?_;obtain⟨bO,a4,bG⟩:=bs bF;obtain⟨_,rfl,_,_,bP⟩:=Hs (kk:=5) (pp:=rI) aw a4;refine Am (v:= .pointer (some ⟨r3,0+Int.toNat (K.2.1)*1,none⟩)) rfl (λρ h=>IY (kk:=5) (pp:=rI) aw a4 underlying105 AB (h _ _ rfl) (h _ _ rfl)) ?_;have a1:=NB (us:= [iV al]) (y:=al) aw a4 rfl;refine Hr (v:=iV al) (l:= []) (ws:=a3) (us:= [iV al]) (o:=Int.toNat (K.2.1)*1) 1 rfl rfl rfl ag rfl rfl rfl AB (by simp [Value.cells,Dc]) rfl a1.2 λa5=>?_;replace a1:=a1.1;generalize bH:Ih a3 (Int.toNat (K.2.1)*1) [iV al]=U at a5 ⊢;have Z:(rA 5 rI).r ay U ((p0.set (Int.toNat K.1) Y).set (Int.toNat K.2.1) al):=by rw [← bH];exact a1
 refine zg 3 rfl (Am (v:= .agg U.toArray) rfl (λρ h=>H0 (kk:=5) (pp:=rI) Z Iu IS (h _ _ rfl) (GF (l:= []) 1 a5 rfl)) ?_);refine Hr (v:= .agg U.toArray) (l:= []) (ws:=(List.replicate 5 (iV 0):Lv_)) (us:=U) (o:=0) 3 rfl rfl rfl a5 rfl rfl rfl (by rw [Cj (kk:=5) (pp:=rI) Z];exact AR type105) ((rA 5 rI).one Z) rfl (by rw [Cj (kk:=5) (pp:=rI) Z,Cj (kk:=5) (pp:=rI) (GK (E:=ay) (pp:=rI) rfl)];omega) λbb=>?_;rw [Jo (by rw [Cj (kk:=5) (pp:=rI) Z,Cj (kk:=5) (pp:=rI) (GK (E:=ay) (pp:=rI) rfl)])] at bb ⊢;refine JL.done (JS.drop 1 bb rfl λbe=>?_);obtain rfl:=oi bG;refine JL.ret (v:= .agg U.toArray) rfl rfl (Bz.list func204 rfl (vs:= [.agg U.toArray]) ⟨⟨_,rfl,Ld.many (vs:=U) Iu (by rw [Cj (kk:=5) (pp:=rI) Z];exact AR type105) (GF (l:= []) 3 be rfl)⟩,trivial⟩) (Db 3 be rfl λbI=>?_);exact bn ac rfl ⟨U,rfl,rfl,Z⟩ bI
def f106(fu_:Nat)(p0:Int)(K:Int):Option Nat:= (Ax (max p0 K - 1)).bind λO=> (ix ([1,2,4,8]:List Nat) O).bind λU=> (Ax (4*(min p0 K))).bind λY=> (Pt U Y).bind λZ=> some Z
theorem Zp{p0:Int}{K:Int}{fu_:Nat}{r:Nat}(O:f106 fu_ p0 K=some r):AK J 106 [iV p0,iV K] E [] (λw E' B'=>w= .int .u32 ((r:Nat):Int)/\B'= []):=by
 refine Bd func106 λQ az cs H U Y=>?_;unfold f106 at O;refine zg 8 rfl (Am (v:=iV (min p0 K)) rfl (λρ h=>Yl.min2 (h _ _ rfl) (h _ _ rfl)) ?_);refine zg 2 rfl (Am (v:=iV (max p0 K)) rfl (λρ h=>Yl.max2 (h _ _ rfl) (h _ _ rfl)) ?_);refine zg 5 rfl (Am (v:= .agg (([1,2,4,8]:List Nat).map λx=>Value.int .u32 ((x:Nat):Int)).toArray) rfl (λρ h=>XA h underlying164 (Dz type164) (AR type86) rfl rfl) ?_);obtain⟨a0,Z,ac⟩:=bs O;refine zg 1 rfl (Cm Z rfl rfl rfl ?_);obtain⟨a1,ag,al⟩:=bs ac;refine Tf (XD (E:=E) ([1,2,4,8]:List Nat)) ag rfl rfl rfl rfl rfl underlying164 (AR type86) (C6 underlying86) ?_ (λ_=>rfl);rintro _ rfl;obtain⟨a2,am,ap⟩:=bs al;refine zg 1 rfl (Am rfl (λρ h=>M9 (h _ _ rfl) (h _ _ rfl) am) ?_);obtain⟨aq,aw,ay⟩:=bs ap;refine Am (v:= .int .u32 ((aq:Nat):Int)) rfl (λρ h=>Vg (h _ _ rfl) (h _ _ rfl) aw) (zg 2 rfl ?_);obtain rfl:=oi ay;exact AN func106 rfl rfl (Y Ay rfl ⟨rfl,rfl⟩ U)
def f136(fu_:Nat)(p0:Nat)(K:Int)(p2:Int):Option Bool:= (f106 fu_ K p2).bind λO=> (PC p0 O).bind λU=> some (decide ((((U):Nat):Int)≠(((0):Nat):Int)))
theorem Yg{p0:Nat}{K:Int}{p2:Int}{fu_:Nat}{r:Bool}(O:f136 fu_ p0 K p2=some r):AK J 136 [.int .u32 ((p0:Nat):Int),iV K,iV p2] E [] (λw E' B'=>w= .bool r/\B'= []):=by
 refine Bd func136 λQ aw cs H U Y=>?_;unfold f136 at O;obtain⟨ay,Z,ac⟩:=bs O;refine zg 9 rfl (Cn (Zp Z) rfl rfl (A3 func106 rfl) U λaz ag al=>?_);obtain⟨am,ap,aq⟩:=bs ac;refine Am (v:= .int .u32 ((am:Nat):Int)) rfl (λρ h=>Vw (h _ _ rfl) (h _ _ rfl) ap) (zg 3 rfl ?_);obtain rfl:=oi aq;exact AN func136 rfl rfl (Y ag rfl ⟨rfl,rfl⟩ al)
def SA(fu_:Nat)(O:(AG)×Int)(K:(AG)×Int):Option (Bm ((AG)×Int) ((AG))):= if K.2<O.2 then((room K.1 (K.2,O.2)).bind λU=> (Ax (K.2+1)).bind λY=> some (.more (U,Y))) else(some (.done K.1))
def Sb(fu_:Nat)(p0:AQ)(K:(AG)×Int):Option (Bm ((AG)×Int) ((AG))):= if K.2<(p0.1.length:Int) then(Option.bind (iter (SA fu_ K) fu_ (K.1,0)) λO=> (Ax (K.2+1)).bind λU=> some (.more (O,U))) else(some (.done K.1))
def f133(fu_:Nat)(p0:AQ):Option ((AG)):= Option.bind (iter (Sb fu_ p0) fu_ ([],0)) λK=> some K
theorem Yo{a1:An}{c2:Nat}{a9:An}{bb:Nat}{p0:AQ}(cn:Al (rL rI) E a1 c2 p0.1)(co:Al As E a9 bb p0.2){fu_:Nat}{r:(AG)}(be:f133 fu_ p0=some r):AK J 133 [.agg #[sV a1 p0.1 c2,sV a9 p0.2 bb]] E [] (λw E' B'=>∃(bi:An) (bn:Nat),w= sV bi r bn/\B'= []/\Al Du E' bi bn r):=by
 refine Bd func133 λQ cp cs H bB bC=>?_;unfold f133 at be;refine zg 2 rfl (Cr bB λcq a3 bD bE bF=>?_);refine zg 9 rfl (JL.fd underlying77 Bu rfl rfl rfl ?_);refine Bw 0 bE underlying25 Dg Dy ?_;refine JL.ln underlying22 rfl rfl rfl ?_;obtain⟨bo,bG,bH⟩:=bs be;refine zg 2 rfl (Bq (λL s=>∃(a4:LH) (ap:An) (aq:Nat) (a5:Seg),Jn a3 H a4 [a5] [(3,sV ap bo aq)] L s (OL 101 Du a4 ap aq a5 bo)) ?_ ?_)
 ·rintro _ _ ⟨a4,ap,aq,a5,rfl,rfl,bI,bJ,bK⟩;refine zg 5 rfl (BJ 0 bK bJ rfl λcr bL bM bN=>?_);obtain rfl:=oi bH;exact AN func133 rfl rfl (bC ((bD.Ad bI).Ad bL) rfl ⟨ap,aq,rfl,rfl,bM⟩ bN)
 ·intro bO;refine JL.block (CI bG (λL s K=>∃(O:LH) (Y:An) (Z:Nat) (ac:Seg),Jn a3 H O [ac] [(3,sV Y K.1 Z),(9,iV (p0.1.length:Int)),(10,iV K.2)] L s (OL 101 Du O Y Z ac K.1)) ⟨a3,none,0,[],rfl,rfl,Ay,bF,OL.nil⟩ ?_);rintro _ _ K ⟨O,Y,Z,ac,rfl,rfl,bq,br,bu⟩ bP ⟨ct,a6⟩ bQ;have bv:=a6;unfold Sb at bv;refine zg 5 rfl (AT bv (λbR bS=>?_) (λbR bT=>?_))
  ·obtain⟨a7,bU,bV⟩:=bs bS;refine zg 13 rfl (Bq (λL s=>∃(aw:LH) (ay:An) (az:Nat) (a0:Seg),Jn O H aw [a0] [(3,sV ay a7 az),(9,iV (p0.1.length:Int)),(10,iV K.2)] L s (OL 101 Du aw ay az a0 a7)) ?_ ?_)
   ·rintro _ _ ⟨aw,ay,az,a0,rfl,rfl,bW,bY,bZ⟩;obtain⟨b0,b1,b2⟩:=bs bV;refine zg 2 rfl (Bt b1 rfl rfl rfl ?_);refine zg 2 rfl ?_;obtain rfl:=oi b2;exact AA (bQ _ _ (a7,b0) ⟨aw,ay,az,a0,rfl,rfl,(bq.Ad bW),bY,bZ⟩ a6) rfl
   ·intro b3;refine JL.block (CI bU (λL s U=>∃(ag:LH) (al:An) (am:Nat) (a2:Seg),Jn O H ag [a2] [(3,sV al U.1 am),(4,iV K.2),(9,iV (p0.1.length:Int)),(10,iV K.2),(13,iV K.2),(14,iV U.2)] L s (OL 101 Du ag al am a2 U.1)) ⟨O,Y,Z,ac,rfl,rfl,Ay,br,bu⟩ ?_);rintro _ _ U ⟨ag,al,am,a2,rfl,rfl,bw,bx,bz⟩ b4 ⟨cu,a8⟩ b5;have bA:=a8;unfold SA at bA;refine zg 5 rfl (AT bA (λb6 b7=>?_) (λb6 b8=>?_))
    ·refine zg 12 rfl (Am (v:= .agg #[iV U.2,iV K.2]) rfl (λρ h=>C3 [(0,1),(1,1)] h Hm underlying101 ⟨rfl,AR type3,rfl,AR type3,trivial⟩ rfl rfl) ?_);obtain⟨b9,ca,cb⟩:=bs b7;refine JS.app (pp:=Du) (v:= .agg #[iV U.2,iV K.2]) (a:=al) (c:=am) 0 ca rfl rfl rfl rfl (λ_=>rfl) rfl (λ_=>rfl) rfl rfl rfl underlying167 underlying167 underlying167 FB (B8 type101) Hm rfl (by decide) (by decide) (by decide) (by decide) bz ⟨_,_,rfl,rfl,rfl⟩ bx rfl λcv cc cd ce cf cg=>?_;obtain⟨ci,ck,cm⟩:=bs cb;refine zg 4 rfl (Bt ck rfl rfl rfl ?_);refine zg 2 rfl ?_;obtain rfl:=oi cm;exact AA (b5 _ _ (b9,ci) ⟨ag,cc,cd,ce,rfl,rfl,bw,cg,cf⟩ a8) rfl
    ·refine JL.exit rfl ?_;obtain rfl:=oi b8;obtain rfl:=b4 _ a8;exact AA (b3 _ _ ⟨ag,al,am,a2,rfl,rfl,bw,bx,bz⟩) rfl
  ·refine JL.exit rfl ?_;obtain rfl:=oi bT;obtain rfl:=bP _ a6;exact AA (bO _ _ ⟨O,Y,Z,ac,rfl,rfl,bq,br,bu⟩) rfl
def f113(fu_:Nat)(p0:Int×Int×Int)(K:Int×Int×Int):Option Int:= if p0.1≠K.1 then((Ax (p0.1 - K.1)).bind λO=> some O) else(if p0.2.1≠K.2.1 then((Ax (p0.2.1 - K.2.1)).bind λU=> some U) else((Ax (p0.2.2 - K.2.2)).bind λY=> some Y))
theorem S7{p0:Int×Int×Int}{Y:Int×Int×Int}{fu_:Nat}{r:Int}(al:f113 fu_ p0 Y=some r):AK J 113 [.agg #[iV p0.1,iV p0.2.1,iV p0.2.2],.agg #[iV Y.1,iV Y.2.1,iV Y.2.2]] E [] (λw E' B'=>w=iV r/\B'= []):=by
 refine Bd func113 λQ a8 cs H am Z=>?_;unfold f113 at al;refine zg 2 rfl (Cr am λr2 a9 ac O ap=>?_);refine Cr ap λbb be K U ag=>?_;refine zg 6 rfl (Bw 0 (O.Ag K) underlying27 AB A2 ?_);refine Bw 0 U underlying27 AB A2 ?_;refine zg 3 rfl (AT al (λaq aw=>?_) (λaq ay=>?_))
 ·refine zg 2 rfl (Bw 0 (O.Ag K) underlying27 AB A2 ?_);refine Bw 0 U underlying27 AB A2 ?_;obtain⟨bi,az,a0⟩:=bs aw;refine Cm az rfl rfl rfl (zg 2 rfl ?_);obtain rfl:=oi a0;exact AN func113 rfl rfl (Z (ac.Ad K) rfl ⟨rfl,rfl⟩ ag)
 ·refine zg 2 rfl (Bw 1 (O.Ag K) underlying27 AB A2 ?_);refine Bw 1 U underlying27 AB A2 ?_;refine zg 3 rfl (AT ay (λa1 a2=>?_) (λa1 a3=>?_))
  ·refine zg 2 rfl (Bw 1 (O.Ag K) underlying27 AB A2 ?_);refine Bw 1 U underlying27 AB A2 ?_;obtain⟨bn,a4,a5⟩:=bs a2;refine Cm a4 rfl rfl rfl (zg 2 rfl ?_);obtain rfl:=oi a5;exact AN func113 rfl rfl (Z (ac.Ad K) rfl ⟨rfl,rfl⟩ ag)
  ·refine zg 4 rfl (Bw 2 (O.Ag K) underlying27 AB A2 ?_);refine Bw 2 U underlying27 AB A2 ?_;obtain⟨bo,a6,a7⟩:=bs a3;refine Cm a6 rfl rfl rfl (zg 2 rfl ?_);obtain rfl:=oi a7;exact AN func113 rfl rfl (Z (ac.Ad K) rfl ⟨rfl,rfl⟩ ag)
def SW(fu_:Nat)(p0:List Int)(K:Int×Int):Option (Bm (Int×Int) Int):= if K.2<(p0.length:Int) then((ix p0 K.2).bind λO=> (Ax (K.1+O)).bind λU=> (Ax (K.2+1)).bind λY=> some (.more (U,Y))) else(some (.done K.1))
def f85(fu_:Nat)(p0:List Int):Option Int:= Option.bind (iter (SW fu_ p0) fu_ (0,0)) λK=> some K
theorem HC{a1:An}{c2:Nat}{p0:List Int}(ag:Al rI E a1 c2 p0){fu_:Nat}{r:Int}(Y:f85 fu_ p0=some r):AK J 85 [sV a1 p0 c2] E [] (λw E' B'=>w=iV r/\B'= []):=by
 refine Bd func85 λQ br cs H al am=>?_;unfold f85 at Y;refine zg 12 rfl (JL.ln underlying28 rfl rfl rfl ?_);obtain⟨ap,aq,aw⟩:=bs Y;refine zg 2 rfl (Ey [] [(3,iV ap)] (λbu ay az=>?_) (λa0=>?_))
 ·refine zg 5 rfl ?_;obtain rfl:=oi aw;exact AN func85 rfl rfl (am ay rfl ⟨rfl,rfl⟩ az)
 ·refine JL.block (Di aq (λK=> []) (λK=> [(3,iV K.1),(6,sV a1 p0 c2),(7,iV (p0.length:Int)),(8,iV K.2)]) Ay al ?_);rintro K bv O Z a2 ⟨bw,U⟩ a3;have ac:=U;unfold SW at ac;refine zg 5 rfl (AT ac (λa4 a5=>?_) (λa4 a6=>?_))
  ·obtain⟨bx,a7,a8⟩:=bs a5;refine zg 5 rfl (JS.ix (ag.Ag O) a7 underlying28 AB ?_);rintro bz bA _ rfl a9;refine CL 0 a9 A2 rfl rfl rfl ?_;obtain⟨bb,be,bi⟩:=bs a8;refine zg 5 rfl (Bt be rfl rfl rfl ?_);obtain⟨bn,bo,bq⟩:=bs bi;refine zg 4 rfl (Bt bo rfl rfl rfl ?_);refine zg 2 rfl ?_;obtain rfl:=oi bq;exact a3 (bb,bn) O Z rfl U
  ·refine JL.exit rfl ?_;obtain rfl:=oi a6;obtain rfl:=a2 _ U;exact a0 O Z rfl
end Pal
namespace Pal
open Go Go.Conc
section
variable {P:Program}{J:Judge P}{Q:Gs_}{b:Frame}{n:Nat}{ds:Ld_}{ops:Ao_}{k:Li_}{cs:Lf_}{L:Env}{E H:LH}{S:List Seg}
variable {d:Option Tmp}{x y w:Operand}{t u ty e:TypeId}{p:String}{af:Ae_}{g:On_}{i:Nat}{rest:List Nat}{s:St}{ρ:Operand->Value}
theorem Al.aZ{α:Type}{pp:Rp α}{kk bk o:Nat}{ws:Lv_}{xs ys:List α}{hi:Int}(U:At E bk o ws)(O:(rA kk pp).r E ws xs)(hC:HH xs 0 hi=some ys):Al pp E (some ⟨bk,o,none⟩) kk ys:=by
 have ag:=O.1;unfold HH at hC;split at hC
 ·rename_i hb;cases hC;refine⟨by simp;omega,.inr ⟨bk,o,rfl,λq z K=>?_⟩⟩;simp only [Int.toNat_zero,List.drop_zero,List.getElem?_take] at K;split at K
  ·have Y:ix xs (q:Int)=some z:=by unfold ix;rw [if_pos (by omega)];simpa using K
   obtain⟨us,Z,ac,_,_⟩:=ak O U Y;exact⟨us,Z,by simpa using ac⟩
  ·cases K
 ·cases hC
theorem Xu{α:Type}{pp:Rp α}{kk bk o:Nat}{ws:Lv_}{xs ys:List α}{hi:Int}(U:At E bk o ws)(K:(rA kk pp).r E ws xs)(hC:HH xs 0 hi=some ys)
  (Y:ops[i]? =some ⟨d,.slice t x none (some w) none,ty,p,af,g⟩) (hw:AL L ops ⟨d,.slice t x none (some w) none,ty,p,af,g⟩=some true) (Z:BL b n ⟨d,.slice t x none (some w) none,ty,p,af,g⟩=true)
  (ac:ev L x=some (.pointer (some ⟨bk,o,none⟩))) (ag:ev L w=some (iV hi)) (al:P.underlying t=some (.array kk e)) (am:Bl P e=some pp.n)
  (h:Al pp E (some ⟨bk,o,none⟩) kk ys->JL J Q b n (Av L d (.slice (some ⟨bk,o,none⟩) ys.length kk)) ds (.inRegion ops rest::k) cs s):
  JL J Q b n L ds (.inRegion ops (i::rest)::k) cs s:=by
 have ap:=Al.aZ U K hC;have ay:=K.1;refine A5 Y hw Z (λρ O=>?_) (h ap);refine FV (sm:=Instr.sliceAt t (ρ x) none (some (ρ w)) none) rfl ?_;rw [O _ _ ac,O _ _ ag];unfold HH at hC;split at hC
 ·rename_i hb;cases hC;obtain⟨az,a0,a1⟩:=hb;unfold Instr.sliceAt;refine Au _ _ (Co al ?_);simp only [Instr.sureAddr,bind,Sem.bind,pure];have aq:Instr.sliceBounds false kk kk none (some (iV hi)) none=(pure (0,hi.toNat,kk):Sem _):=by
   simp only [Instr.sliceBounds,Instr.sliceBound,asIntOf,bind,Sem.bind,pure];rw [if_pos (by omega)];rfl
  rw [aq];simp only [pure,Sem.bind];refine Au (x:=Go.sizeOf e) _ (ED am ?_);have aw:(if kk=0 then(⟨bk,o,none⟩:Addr) else Addr.add ⟨bk,o,none⟩ (0*pp.n))=⟨bk,o,none⟩:=by
   split
   ·rfl
   ·rw [Ec rfl];simp
  rw [aw];have e2:((xs.take hi.toNat).drop (0:Int).toNat).length=hi.toNat - 0:=by simp;omega
  rw [e2];exact⟨rfl,rfl⟩
 ·cases hC
theorem Vp{a:Option Addr}{l c:Nat}(K:P.underlying t=some (.slice e))(O:ρ x= .slice a l c)(U:ρ (.const (.slice none 0 0))= .slice none 0 0):Yl P ⟨d,.binOp .neq t x (.const (.slice none 0 0)) u,ty,p,af,g⟩ ρ s (.bool (!a.isNone)):=by
 have Y:∀o,eqGuard o t x (.const (.slice none 0 0)) (.slice a l c) (.slice none 0 0)=Sem.pure ():=λo=>by cases o <;> rfl
 refine FV (sm:=do eqGuard .neq t x (.const (.slice none 0 0)) (ρ x) (ρ (.const (.slice none 0 0)));binOp .neq t (ρ x) (ρ (.const (.slice none 0 0)))) rfl ?_
 rw [O,U,Y];simp only [bind,Sem.bind];have hb:binOp .neq t (.slice a l c) (.slice none 0 0)=(do pure (.bool (!(← Op.equal t (.slice a l c) (.slice none 0 0))))):=rfl
 rw [hb];refine Au (x:=Op.equal t _ _) _ ?_;unfold Op.equal Op.maxDepth Op.equalIn;refine Au _ _ (Co K ?_);cases a with
 | none=>exact⟨rfl,rfl⟩
 | some ad=>exact⟨rfl,rfl⟩
end
end Pal
namespace Pal
open Go Go.Conc Go.Proofs
open Go.Proofs.Tryz
variable {J:Judge Tryz.prog}{E:LH}
def Tq(fu_:Nat)(p0:AQ)(O:List Int)(K:Int):Option (Bm Int ((AQ×Int)⊕(Unit))):= if K<(O.length:Int) then((ix O K).bind λU=> (Ax ((p0.1.length:Int) - 1)).bind λY=> (f91 fu_ U 0 Y).bind λZ=> if(!Z)=true then(some (.done (Sum.inl (([],[]),3)))) else((Ax (K+1)).bind λac=> some (.more ac))) else(some (.done (Sum.inr ())))
def f70(fu_:Nat)(p0:AQ)(K:List Int):Option (AQ×Int):= (f47 fu_ p0).bind λO=> if O≠0 then(some (([],[]),O)) else(Option.bind (iter (Tq fu_ p0 K) fu_ 0) λU=> Sum.elim (λr=>some r) (λag=> Option.bind (if(K.length:Int)=2 then((ix K (0)).bind λY=> (ix K (1)).bind λZ=> some (decide (Y=Z))) else(some false)) λac=> if ac=true then(some (([],[]),8)) else(some (p0,0))) U)
theorem Ke{a1:An}{c2:Nat}{Z:An}{ac:Nat}{am:An}{ap:Nat}{p0:AQ}{Y:List Int}(a6:Al (rL rI) E a1 c2 p0.1)(a7:Al As E Z ac p0.2)(az:Al rI E am ap Y){fu_:Nat}{r:AQ×Int}(a8:f70 fu_ p0 Y=some r):AK J 70 [.agg #[sV a1 p0.1 c2,sV Z p0.2 ac],sV am Y ap] E [] (λw E' B'=>∃(a9:An) (bb:Nat) (be:An) (bi:Nat),w= .tuple #[.agg #[sV a9 r.1.1 bb,sV be r.1.2 bi],iV r.2]/\B'= []/\Al (rL rI) E' a9 bb r.1.1/\Al As E' be bi r.1.2):=by
 refine Bd func70 λQ cC cs H bI aw=>?_;unfold f70 at a8;refine zg 2 rfl (Cr bI λa0 cD K a2 bJ=>?_);refine BO bJ Ho λal bK=>?_;refine zg 5 rfl (B3 a2 B2 Bu rfl rfl ?_);obtain⟨bn,bL,bM⟩:=bs a8;refine Cn (TF (a6.Ag K) (a7.Ag K) bL) rfl rfl (A3 func47 rfl) bK λbN O bo=>zg 7 rfl (AT bM (λbO bP=>?_) (λbO bQ=>?_))
 ·refine zg 2 rfl (Am (v:= .agg #[nS,nS]) rfl (λρ h=>C3 [(0,2)] h Ho underlying77 ⟨rfl,AR type25,trivial⟩ rfl rfl) ?_);refine zg 1 rfl (Bv 2 bo DX λbq=>?_);refine zg 2 rfl ?_;obtain rfl:=oi bP;refine JL.ret (v:= .tuple #[.agg #[nS,nS],iV bn]) rfl rfl (Bz.list func70 rfl (vs:= [.agg #[nS,nS],iV bn]) ⟨⟨_,rfl,Ld.many (vs:= [nS,nS]) F6 DX (Dp (off:=0) 2 bq rfl rfl)⟩,rfl,trivial⟩) (Db 2 bq rfl λbR=>?_);exact aw (K.Ad O) rfl ⟨none,0,none,0,rfl,rfl,Al.nil,Al.nil⟩ bR
 ·refine zg 5 rfl (JL.ln underlying28 rfl rfl rfl ?_);obtain⟨br,bS,bu⟩:=bs bQ;refine zg 2 rfl (Bq (λL s=>∃(bv:Unit) (a3:LH),br=Sum.inr bv/\Jm bN H a3 [bX al #[nS,nS] 77] [(1,sV am Y ap),(2,Aj a0 0),(4,Aj al 0)] L s) ?_ ?_)
  ·rintro _ _ ⟨bv,a3,rfl,rfl,rfl,ag,bw⟩;have bT:=elim_inr bu;refine zg 2 rfl (Ei 12 λU=>?_);refine Cs 0 U rfl rfl (AP 1 U rfl rfl (λρ h s' cE=>Yl.len rfl underlying28 (h _ _ rfl)) ?_);refine A6 U rfl [2,3] rfl ?_;obtain⟨bU,bx,bV⟩:=bs bT;refine Fc 0 #[true,true,true,true,true,true,true,true,true,true,true,true] (λL s=>L= [(2,Aj a0 0),(4,Aj al 0),(41,.bool bU)]/\s=Ak a3 H [bX al #[nS,nS] 77]) ?_ ?_
   ·rintro _ _ ⟨rfl,rfl⟩;refine AJ.fin (by decide+kernel) (Cc bV (λbW bY=>?_) (λbW bZ=>?_))
    ·refine zg 2 rfl (Am (v:= .agg #[nS,nS]) rfl (λρ h=>C3 [(0,2)] h Ho underlying77 ⟨rfl,AR type25,trivial⟩ rfl rfl) ?_);refine Bv 0 bw DX λbz=>?_;refine zg 2 rfl ?_;obtain rfl:=oi bY;refine JL.ret (v:= .tuple #[.agg #[nS,nS],iV 8]) rfl rfl (Bz.list func70 rfl (vs:= [.agg #[nS,nS],iV 8]) ⟨⟨_,rfl,Ld.many (vs:= [nS,nS]) F6 DX (Dp (off:=0) 0 bz rfl rfl)⟩,rfl,trivial⟩) (Db 0 bz rfl λb0=>?_);exact aw ((K.Ad O).Ad ag) rfl ⟨none,0,none,0,rfl,rfl,Al.nil,Al.nil⟩ b0
    ·refine zg 3 rfl (B3 (a2.Ag (O.Ad ag)) B2 Bu rfl rfl ?_);refine Am (v:= .agg #[sV a1 p0.1 c2,sV Z p0.2 ac]) rfl (λρ h=>C3 [(0,2)] h Ho underlying77 ⟨rfl,AR type25,trivial⟩ rfl rfl) (Bv 0 bw DX λbA=>?_);refine zg 2 rfl ?_;obtain rfl:=oi bZ;refine JL.ret (v:= .tuple #[.agg #[sV a1 p0.1 c2,sV Z p0.2 ac],iV 0]) rfl rfl (Bz.list func70 rfl (vs:= [.agg #[sV a1 p0.1 c2,sV Z p0.2 ac],iV 0]) ⟨⟨_,rfl,Ld.many (vs:= [sV a1 p0.1 c2,sV Z p0.2 ac]) F6 DX (Dp (off:=0) 0 bA rfl rfl)⟩,rfl,trivial⟩) (Db 0 bA rfl λb1=>?_);exact aw ((K.Ad O).Ad ag) rfl ⟨a1,c2,Z,ac,rfl,rfl,(a6.Ag ((K.Ad O).Ad ag)),(a7.Ag ((K.Ad O).Ad ag))⟩ b1
   ·intro bB;refine GC (q:=(Y.length:Int)=2) (i:=33) rfl (λa4=>?_) (λa4=>?_)
    ·have b2:=ip bx a4;refine Cs 4 U rfl rfl ?_;obtain⟨cF,b3,b4⟩:=bs b2;refine ER 5 (az.Ag ((K.Ad O).Ad ag)) b3 U underlying28 AB ?_;rintro cG cH _ rfl b5;refine Dj 6 U 0 b5 A2 rfl rfl rfl rfl ?_;refine Cs 7 U rfl rfl ?_;obtain⟨cI,b6,b7⟩:=bs b4;refine ER 8 (az.Ag ((K.Ad O).Ad ag)) b6 U underlying28 AB ?_;rintro cJ cK _ rfl b8;refine Dj 9 U 0 b8 A2 rfl rfl rfl rfl ?_;refine A6 U rfl [10,11] rfl ?_;obtain rfl:=oi b7;refine CX ?_ (bB _ _ ⟨rfl,rfl⟩);exact⟨rfl,rfl,rfl,trivial⟩
    ·have b9:=im bx a4;refine A6 U rfl [4,5,6,7,8,9,10,11] rfl ?_;obtain rfl:=oi b9;refine CX ?_ (bB _ _ ⟨rfl,rfl⟩);exact⟨rfl,rfl,rfl,trivial⟩
  ·intro ca;refine JL.block (Di bS (λa5=> [bX al #[nS,nS] 77]) (λa5=> [(1,sV am Y ap),(2,Aj a0 0),(4,Aj al 0),(15,sV am Y ap),(16,iV (Y.length:Int)),(17,iV a5)]) Ay bo ?_);rintro a5 cb aq bC bD ⟨cM,ay⟩ cc;have bE:=ay;unfold Tq at bE;refine zg 5 rfl (AT bE (λcd ce=>?_) (λcd cf=>?_))
   ·obtain⟨cN,cg,ci⟩:=bs ce;refine zg 5 rfl (JS.ix (az.Ag ((K.Ad O).Ad aq)) cg underlying28 AB ?_);rintro cO cP _ rfl ck;refine CL 0 ck A2 rfl rfl rfl (zg 5 rfl ?_);refine Bw 0 (a2.Ag (O.Ad aq)) underlying25 Dg Dy ?_;refine JL.ln underlying22 rfl rfl rfl ?_;obtain⟨cQ,cm,cn⟩:=bs ci;refine Cm cm rfl rfl rfl ?_;obtain⟨co,cp,cq⟩:=bs cn;refine Cn (LM cp) rfl rfl Lk bC λcR bF bG=>Am (v:= .bool (!co)) rfl (λρ h=>Yl.not (h _ _ rfl)) (JL.done ?_);refine Cc cq (λcr ct=>?_) (λcr cu=>?_)
    ·refine zg 2 rfl (Am (v:= .agg #[nS,nS]) rfl (λρ h=>C3 [(0,2)] h Ho underlying77 ⟨rfl,AR type25,trivial⟩ rfl rfl) ?_);refine Bv 0 bG DX λbH=>?_;refine zg 2 rfl ?_;obtain rfl:=oi ct;obtain rfl:=bD _ ay;have cv:=elim_inl bu;obtain rfl:=oi cv;refine JL.ret (v:= .tuple #[.agg #[nS,nS],iV 3]) rfl rfl (Bz.list func70 rfl (vs:= [.agg #[nS,nS],iV 3]) ⟨⟨_,rfl,Ld.many (vs:= [nS,nS]) F6 DX (Dp (off:=0) 0 bH rfl rfl)⟩,rfl,trivial⟩) (Db 0 bH rfl λcw=>?_);exact aw (((K.Ad O).Ad aq).Ad bF) rfl ⟨none,0,none,0,rfl,rfl,Al.nil,Al.nil⟩ cw
    ·obtain⟨cy,cz,cA⟩:=bs cu;refine zg 3 rfl (Bt cz rfl rfl rfl ?_);refine zg 2 rfl ?_;obtain rfl:=oi cA;exact cc cy (aq.Ad bF) bG rfl ay
   ·refine JL.exit rfl ?_;obtain rfl:=oi cf;have cB:br=(Sum.inr ()):=(bD _ ay).symm;exact AA (ca _ _ ⟨(),cb,cB,rfl,rfl,aq,bC⟩) rfl
def LZ(fu_:Nat)(p0:List Int):Option ((List Int)):= (C4 ([]:List Int) p0).bind λK=> some K
theorem Yh{ad:Addr}{c2:Nat}{p0:List Int}(Y:Al rI E (some ad) c2 p0){fu_:Nat}{r:(List Int)}(K:LZ fu_ p0=some r):AK J 87 [.slice (some ad) p0.length c2] E [] (λw E' B'=>∃(O:An) (U:Nat) (g0:Seg),w= sV O r U/\B'=g0/\OL 3 rI E' O U g0 r):=by
 refine Bd func87 λQ a1 cs H Z ac=>?_;unfold LZ at K;refine zg 8 rfl (Am (v:= .bool false) rfl (λρ h=>MB (a:=(some ad)) underlying28 (h _ _ rfl) (h _ _ rfl)) ?_);refine zg 5 rfl (MR (pp:=rI) rfl rfl rfl underlying28 AB Z λr1 g2 ag al=>?_);obtain⟨a2,am,ap⟩:=bs K;refine zg 1 rfl (FF (pp:=rI) 1 am rfl rfl rfl rfl rfl rfl rfl underlying28 underlying28 AB (B8 type3) Cg rfl (by decide) (by decide) ag Y al rfl λaq aw ay az a0=>?_);refine zg 2 rfl ?_;obtain rfl:=oi ap;exact AN func87 rfl rfl (ac Ay rfl ⟨aq,aw,ay,rfl,(by first | rfl | simp | (simp [Value.cells])),az⟩ a0)
def T3(fu_:Nat)(p0:List Int):Option ((List Int)):= some ([])
theorem Zm{c2:Nat}{p0:List Int}(ac:Al rI E none c2 p0){fu_:Nat}{r:(List Int)}(K:T3 fu_ p0=some r):AK J 87 [sV none p0 c2] E [] (λw E' B'=>∃(O:An) (U:Nat) (g0:Seg),w= sV O r U/\B'=g0/\OL 3 rI E' O U g0 r):=by
 refine Bd func87 λQ ag cs H Y Z=>?_;unfold T3 at K;refine zg 8 rfl (Am (v:= .bool true) rfl (λρ h=>MB (a:=none) underlying28 (h _ _ rfl) (h _ _ rfl)) ?_);refine zg 6 rfl ?_;obtain rfl:=oi K;exact AN func87 rfl rfl (Z Ay rfl ⟨none,0,[],rfl,rfl,OL.nil⟩ Y)
def f87(fu_:Nat)(p0:List Int):Option (List Int):=LZ fu_ p0
theorem ZK{a1:An}{c2:Nat}{p0:List Int}(O:Al rI E a1 c2 p0){fu_:Nat}{r:List Int}(K:f87 fu_ p0=some r):AK J 87 [.slice a1 p0.length c2] E [] (λw E' B'=>∃(U:An) (Y:Nat) (g0:Seg),w= .slice U r.length Y/\B'=g0/\OL 3 rI E' U Y g0 r):=by
 cases a1 with
 | some ad=>exact Yh O K
 | none=>
  have Z:p0= []:=by
   rcases O.2 with h | ⟨_,_,h,_⟩
   ·exact h.1
   ·cases h
  subst Z;have ac:r= []:=by
   have ag:LZ fu_ []=some []:=rfl;unfold f87 at K;rw [ag] at K;exact(Option.some.inj K).symm
  subst ac;exact Zm (fu_:=fu_) O rfl
def LV(fu_:Nat)(p0:Aw):Option (Aw):= (C4 ([]:Aw) p0).bind λK=> some K
theorem Xg{ad:Addr}{c2:Nat}{p0:Aw}(Y:Al As E (some ad) c2 p0){fu_:Nat}{r:Aw}(K:LV fu_ p0=some r):AK J 129 [.slice (some ad) p0.length c2] E [] (λw E' B'=>∃(O:An) (U:Nat) (g0:Seg),w= sV O r U/\B'=g0/\OL 27 As E' O U g0 r):=by
 refine Bd func129 λQ a1 cs H Z ac=>?_;unfold LV at K;refine zg 8 rfl (Am (v:= .bool false) rfl (λρ h=>MB (a:=(some ad)) underlying80 (h _ _ rfl) (h _ _ rfl)) ?_);refine zg 5 rfl (MR (pp:=As) rfl rfl rfl underlying80 AV Z λr1 g2 ag al=>?_);obtain⟨a2,am,ap⟩:=bs K;refine zg 1 rfl (FF (pp:=As) 1 am rfl rfl rfl rfl rfl rfl rfl underlying80 underlying80 AV (B8 type27) Bp rfl (by decide) (by decide) ag Y al rfl λaq aw ay az a0=>?_);refine zg 2 rfl ?_;obtain rfl:=oi ap;exact AN func129 rfl rfl (ac Ay rfl ⟨aq,aw,ay,rfl,(by first | rfl | simp | (simp [Value.cells])),az⟩ a0)
def TZ(fu_:Nat)(p0:Aw):Option (Aw):= some ([])
theorem Xj{c2:Nat}{p0:Aw}(ac:Al As E none c2 p0){fu_:Nat}{r:Aw}(K:TZ fu_ p0=some r):AK J 129 [sV none p0 c2] E [] (λw E' B'=>∃(O:An) (U:Nat) (g0:Seg),w= sV O r U/\B'=g0/\OL 27 As E' O U g0 r):=by
 refine Bd func129 λQ ag cs H Y Z=>?_;unfold TZ at K;refine zg 8 rfl (Am (v:= .bool true) rfl (λρ h=>MB (a:=none) underlying80 (h _ _ rfl) (h _ _ rfl)) ?_);refine zg 6 rfl ?_;obtain rfl:=oi K;exact AN func129 rfl rfl (Z Ay rfl ⟨none,0,[],rfl,rfl,OL.nil⟩ Y)
def f129(fu_:Nat)(p0:Aw):Option Aw:=LV fu_ p0
theorem Zk{a1:An}{c2:Nat}{p0:Aw}(O:Al As E a1 c2 p0){fu_:Nat}{r:Aw}(K:f129 fu_ p0=some r):AK J 129 [.slice a1 p0.length c2] E [] (λw E' B'=>∃(U:An) (Y:Nat) (g0:Seg),w= .slice U r.length Y/\B'=g0/\OL 27 As E' U Y g0 r):=by
 cases a1 with
 | some ad=>exact Xg O K
 | none=>
  have Z:p0= []:=by
   rcases O.2 with h | ⟨_,_,h,_⟩
   ·exact h.1
   ·cases h
  subst Z;have ac:r= []:=by
   have ag:LV fu_ []=some []:=rfl;unfold f129 at K;rw [ag] at K;exact(Option.some.inj K).symm
  subst ac;exact Xj (fu_:=fu_) O rfl
def f43(fu_:Nat)(p0:AQ):Option ((List Int)×Int):= (f70 fu_ p0 ([])).bind λK=> if K.2≠0 then(some ([],K.2)) else((f84 fu_ K.1).bind λO=> (HH O 0 (p0.1.length:Int)).bind λU=> (f87 fu_ U).bind λY=> some (Y,0))
theorem T1{a1:An}{c2:Nat}{ac:An}{ag:Nat}{p0:AQ}(a4:Al (rL rI) E a1 c2 p0.1)(a5:Al As E ac ag p0.2){fu_:Nat}{r:(List Int)×Int}(al:f43 fu_ p0=some r):AK J 43 [.agg #[sV a1 p0.1 c2,sV ac p0.2 ag]] E [] (λw E' B'=>∃(am:An) (ap:Nat),w= .tuple #[sV am r.1 ap,iV r.2]/\B'= []/\Al rI E' am ap r.1):=by
 refine Bd func43 λQ bQ cs H a6 aq=>?_;unfold f43 at al;refine zg 2 rfl (Cr a6 λbR bS U aw a7=>?_);refine zg 5 rfl (B3 aw B2 Bu rfl rfl ?_);obtain⟨bT,a8,a9⟩:=bs al;refine BU (Ke (a4.Ag U) (a5.Ag U) Al.nil a8) rfl rfl J0 a7 ?_;rintro _ bU _ Y ⟨bV,bW,bY,bZ,rfl,rfl,bb,be⟩ bi;refine zg 3 rfl (BO bi Ho λb0 bn=>?_);refine Bv 3 bn DX λbo=>?_;refine Dr 3 bo rfl λb1 K bq ay=>zg 8 rfl (AT a9 (λbr bu=>?_) (λbr bv=>?_))
 ·refine zg 6 rfl ?_;obtain rfl:=oi bu;exact AN func43 rfl rfl (aq ((U.Ad Y).Ad K) rfl ⟨none,0,rfl,rfl,Al.nil⟩ ay)
 ·refine zg 3 rfl (B3 bq F6 DX rfl rfl ?_);obtain⟨b2,bw,bx⟩:=bs bv;refine BU (PK (bb.Ag K) (be.Ag K) bw) rfl rfl Oe ay ?_;rintro _ az _ a0 ⟨Z,rfl,rfl,O⟩ bz;refine BO bz Kv λb3 bA=>?_;refine Hr (v:= .agg Z.toArray) (l:= []) (ws:=(List.replicate 5 (iV 0):Lv_)) (us:=Z) (o:=0) 5 rfl rfl rfl bA rfl rfl rfl (by rw [Cj (kk:=5) (pp:=rI) O];exact AR type105) ((rA 5 rI).one O) rfl (by rw [Cj (kk:=5) (pp:=rI) O,Cj (kk:=5) (pp:=rI) (GK (E:=az) (pp:=rI) rfl)];omega) λa2=>?_;rw [Jo (by rw [Cj (kk:=5) (pp:=rI) O,Cj (kk:=5) (pp:=rI) (GK (E:=az) (pp:=rI) rfl)])] at a2 ⊢;refine zg 3 rfl (Bw 0 (aw.Ag ((Y.Ad K).Ad a0)) underlying25 Dg Dy ?_);refine JL.ln underlying22 rfl rfl rfl (Dr 5 a2 rfl λb4 a3 bB bC=>?_);obtain⟨b5,bD,bE⟩:=bs bx;refine Xu (ws:=Z) (pp:=rI) bB (Rp.Ag _ a3 O) bD rfl rfl rfl rfl rfl underlying105 AB λbF=>?_;obtain⟨b6,bG,bH⟩:=bs bE;refine BU (ZK bF bG) rfl rfl (A3 func87 rfl) bC ?_;rintro _ b7 b8 bI ⟨bJ,bK,_,rfl,rfl,bL⟩ bM;refine zg 3 rfl (BJ 6 bL bM rfl λb9 bN bO bP=>?_);obtain rfl:=oi bH;exact AN func43 rfl rfl (aq ((((((U.Ad Y).Ad K).Ad a0).Ad a3).Ad bI).Ad bN) rfl ⟨bJ,bK,rfl,rfl,bO⟩ bP)
def Sc(fu_:Nat)(p0:Aw)(O:Aw)(K:Int):Option (Bm Int ((Int)⊕(Unit))):= if K<(p0.length:Int) then((ix p0 K).bind λY=> if(O.length:Int)<=K then(some (.done (Sum.inl 1))) else((ix O K).bind λZ=> (f113 fu_ Y Z).bind λU=> if U≠0 then(some (.done (Sum.inl U))) else((Ax (K+1)).bind λac=> some (.more ac)))) else(some (.done (Sum.inr ())))
def f112(fu_:Nat)(p0:Aw)(K:Aw):Option Int:= Option.bind (iter (Sc fu_ p0 K) fu_ 0) λO=> Sum.elim (λr=>some r) (λU=> if(p0.length:Int)<(K.length:Int) then(some (-1)) else(some 0)) O
theorem YG{a1:An}{c2:Nat}{Y:An}{Z:Nat}{p0:Aw}{O:Aw}(be:Al As E a1 c2 p0)(bi:Al As E Y Z O){fu_:Nat}{r:Int}(az:f112 fu_ p0 O=some r):AK J 112 [sV a1 p0 c2,sV Y O Z,(fV 113)] E [] (λw E' B'=>w=iV r/\B'= []):=by
 refine Bd func112 λQ b5 cs H bn ac=>?_;unfold f112 at az;refine zg 8 rfl (JL.ln underlying80 rfl rfl rfl ?_);obtain⟨a0,bo,al⟩:=bs az;refine zg 2 rfl (Bq (λL s=>∃(a2:Unit) (a3:LH),a0=Sum.inr a2/\Jm E H a3 [] [(0,sV a1 p0 c2),(1,sV Y O Z)] L s) ?_ ?_)
 ·rintro _ _ ⟨a2,a3,rfl,rfl,rfl,a4,a5⟩;have bq:=elim_inr al;refine zg 4 rfl (JL.ln underlying80 rfl rfl rfl ?_);refine zg 1 rfl (JL.ln underlying80 rfl rfl rfl ?_);refine zg 2 rfl (AT bq (λbr bu=>?_) (λbr bv=>?_))
  ·refine zg 4 rfl ?_;obtain rfl:=oi bu;exact AN func112 rfl rfl (ac a4 rfl ⟨rfl,rfl⟩ a5)
  ·refine zg 5 rfl ?_;obtain rfl:=oi bv;exact AN func112 rfl rfl (ac a4 rfl ⟨rfl,rfl⟩ a5)
 ·intro bw;refine JL.block (Di bo (λam=> []) (λam=> [(0,sV a1 p0 c2),(1,sV Y O Z),(2,(fV 113)),(11,sV a1 p0 c2),(12,iV (p0.length:Int)),(13,iV am)]) Ay bn ?_);rintro am bx K a6 ap ⟨b6,U⟩ bz;have a7:=U;unfold Sc at a7;refine zg 5 rfl (AT a7 (λbA bB=>?_) (λbA bC=>?_))
  ·obtain⟨aq,bD,bE⟩:=bs bB;refine zg 6 rfl (JS.ix (be.Ag K) bD underlying80 AV ?_);rintro b7 b8 _ ⟨_,_,rfl,rfl,⟨_,_,rfl,rfl,rfl⟩⟩ bF;refine B3 bF Dm AV rfl rfl (BO a6 Bp λb9 bG=>?_);refine zg 1 rfl (Bv 0 bG AV λbH=>?_);refine Dr 0 bH rfl λca ag bI a8=>zg 6 rfl (JL.ln underlying80 rfl rfl rfl ?_);refine zg 2 rfl (AT bE (λbJ bK=>?_) (λbJ bL=>?_))
   ·refine zg 4 rfl ?_;obtain rfl:=oi bK;obtain rfl:=ap _ U;have bM:=elim_inl al;obtain rfl:=oi bM;exact AN func112 rfl rfl (ac (K.Ad ag) rfl ⟨rfl,rfl⟩ a8)
   ·obtain⟨aw,bN,bO⟩:=bs bL;refine zg 5 rfl (JS.ix (bi.Ag (K.Ad ag)) bN underlying80 AV ?_);rintro cb cc _ ⟨_,_,rfl,rfl,⟨_,_,rfl,rfl,rfl⟩⟩ bP;refine B3 bP Dm AV rfl rfl (BO a8 Bp λcd bQ=>?_);refine Bv 1 bQ AV λbR=>?_;refine Dr 1 bR rfl λce ay bS bT=>zg 4 rfl (B3 (bI.Ag ay) Dm AV rfl rfl ?_);refine B3 bS Dm AV rfl rfl ?_;obtain⟨cf,bU,bV⟩:=bs bO;refine KH (vs:= [.agg #[iV aq.1,iV aq.2.1,iV aq.2.2],.agg #[iV aw.1,iV aw.2.1,iV aw.2.2]]) (S7 bU) rfl rfl rfl rfl (A3 func113 rfl) rfl bT ?_;rintro _ cg _ a9 ⟨rfl,rfl⟩ bb;refine zg 7 rfl (AT bV (λbW bY=>?_) (λbW bZ=>?_))
    ·refine zg 5 rfl ?_;obtain rfl:=oi bY;obtain rfl:=ap _ U;have b0:=elim_inl al;obtain rfl:=oi b0;exact AN func112 rfl rfl (ac (((K.Ad ag).Ad ay).Ad a9) rfl ⟨rfl,rfl⟩ bb)
    ·obtain⟨b1,b2,b3⟩:=bs bZ;refine zg 3 rfl (Bt b2 rfl rfl rfl ?_);refine zg 2 rfl ?_;obtain rfl:=oi b3;exact bz b1 (((K.Ad ag).Ad ay).Ad a9) bb rfl U
  ·refine JL.exit rfl ?_;obtain rfl:=oi bC;have b4:a0=(Sum.inr ()):=(ap _ U).symm;exact AA (bw _ _ ⟨(),bx,b4,rfl,rfl,K,a6⟩) rfl
def f74(fu_:Nat)(p0:Aw)(K:Aw):Option Int:= (f112 fu_ p0 K).bind λO=> some O
theorem H9{a1:An}{c2:Nat}{O:An}{U:Nat}{p0:Aw}{K:Aw}(Z:Al As E a1 c2 p0)(ac:Al As E O U K){fu_:Nat}{r:Int}(Y:f74 fu_ p0 K=some r):AK J 74 [sV a1 p0 c2,sV O K U] E [] (λw E' B'=>w=iV r/\B'= []):=by
 refine Bd func74 λQ ay cs H ag al=>?_;unfold f74 at Y;obtain⟨az,am,ap⟩:=bs Y;refine zg 8 rfl (Cn (YG Z ac am) rfl rfl (A3 func112 rfl) ag λa0 aq aw=>?_);refine zg 2 rfl ?_;obtain rfl:=oi ap;exact AN func74 rfl rfl (al aq rfl ⟨rfl,rfl⟩ aw)
def f73(fu_:Nat)(p0:Aw)(K:Aw):Option Bool:= (f74 fu_ p0 K).bind λO=> some (decide (O<0))
theorem aH{a1:An}{c2:Nat}{O:An}{U:Nat}{p0:Aw}{K:Aw}(Z:Al As E a1 c2 p0)(ac:Al As E O U K){fu_:Nat}{r:Bool}(Y:f73 fu_ p0 K=some r):AK J 73 [sV a1 p0 c2,sV O K U] E [] (λw E' B'=>w= .bool r/\B'= []):=by
 refine Bd func73 λQ ay cs H ag al=>?_;unfold f73 at Y;obtain⟨az,am,ap⟩:=bs Y;refine zg 8 rfl (Cn (H9 Z ac am) rfl rfl HS ag λa0 aq aw=>?_);refine zg 3 rfl ?_;obtain rfl:=oi ap;exact AN func73 rfl rfl (al aq rfl ⟨rfl,rfl⟩ aw)
def f72(fu_:Nat)(p0:Aw×Bool)(K:Aw):Option ((Aw×Bool)):= Option.bind (if(!p0.2)=true then(some true) else((f73 fu_ K p0.1).bind λO=> some O)) λU=> Option.bind (if U=true then(some (K,true)) else(some p0)) λY=> some Y
theorem av{bk:Nat}{a1:An}{c2:Nat}{K:An}{O:Nat}{p0:Aw×Bool}{U:Aw}(aq:Al As E a1 c2 p0.1)(aw:Al As E K O U){fu_:Nat}{r:(Aw×Bool)}(ay:f72 fu_ p0 U=some r):AK J 72 [Aj bk 0,sV K U O,(fV 73)] E [(bk,.cells #[sV a1 p0.1 c2,.bool p0.2] 82 (0,0))] (λw E' B'=>∃(az:An) (a0:Nat),w= .tuple #[]/\B'= [(bk,.cells #[sV az r.1 a0,.bool r.2] 82 (0,0))]/\Al As E' az a0 r.1):=by
 refine Bd func72 λQ bF cs H Z a5=>?_;unfold f72 at ay;refine zg 4 rfl (JL.fd underlying82 Lm rfl rfl rfl ?_);refine Am (v:= .bool p0.2) rfl (λρ h=>Yl.load N8 (h _ _ rfl) (BR (j:=0) (off:=1) Z rfl rfl)) (Am (v:= .bool (!p0.2)) rfl (λρ h=>Yl.not (h _ _ rfl)) ?_);obtain⟨a6,a7,a8⟩:=bs ay;refine zg 1 rfl (Gp [] (λL s=>∃(Y:LH),Jm E H Y [bX bk #[sV a1 p0.1 c2,.bool p0.2] 82] [(0,Aj bk 0),(1,sV K U O),(19,.bool a6)] L s) ?_ ?_)
 ·rintro _ _ ⟨Y,rfl,rfl,al,a2⟩;obtain⟨am,a9,bb⟩:=bs a8;refine JL.done (Bq (λL s=>∃(ap:LH) (ac:An) (ag:Nat),Jn Y H ap [bX bk #[sV ac am.1 ag,.bool am.2] 82] [] L s (Al As ap ac ag am.1)) ?_ ?_)
  ·rintro _ _ ⟨ap,ac,ag,rfl,rfl,be,bi,bn⟩;obtain rfl:=oi bb;exact JL.fin (v:= .tuple #[]) rfl rfl (Bz.list func72 rfl (vs:= []) trivial) (a5 (al.Ad be) rfl ⟨ac,ag,rfl,rfl,bn⟩ bi)
  ·intro a3;refine Cc a9 (λbo bq=>?_) (λbo br=>?_)
   ·refine zg 5 rfl (JL.fd underlying82 Bj rfl rfl rfl ?_);refine Bv 0 a2 Bj λbu=>?_;refine zg 1 rfl (JL.fd underlying82 Lm rfl rfl rfl ?_);refine Bv 0 bu Lm λbv=>?_;refine JL.done ?_;obtain rfl:=oi bq;exact AA (a3 _ _ ⟨Y,K,O,rfl,rfl,Ay,bv,(aw.Ag al)⟩) rfl
   ·refine JL.skip ?_;obtain rfl:=oi br;exact AA (a3 _ _ ⟨Y,a1,c2,rfl,rfl,Ay,a2,(aq.Ag al)⟩) rfl
 ·intro a4;refine Fh 11 a7 (λbw bx=>?_) (λbw bz=>?_)
  ·refine zg 8 rfl ?_;obtain rfl:=oi bx;exact AA (a4 _ _ ⟨E,rfl,rfl,Ay,Z⟩) rfl
  ·refine zg 4 rfl (JL.fd underlying82 Bj rfl rfl rfl ?_);refine Am (v:= sV a1 p0.1 c2) rfl (λρ h=>Yl.load BI (h _ _ rfl) (BR (j:=0) (off:=0) Z rfl rfl)) ?_;obtain⟨bG,bA,bB⟩:=bs bz;refine KH (vs:= [sV K U O,sV a1 p0.1 c2]) (aH aw aq bA) rfl rfl rfl rfl (A3 func73 rfl) rfl Z ?_;rintro _ bC _ bD ⟨rfl,rfl⟩ bE;refine zg 1 rfl ?_;obtain rfl:=oi bB;exact AA (a4 _ _ ⟨bC,rfl,rfl,bD,bE⟩) rfl
end Pal
namespace Pal
open Go Go.Conc Go.Proofs
open Go.Proofs.Tryz
variable {J:Judge Tryz.prog}{E:LH}
def SG(fu_:Nat)(O:List Int)(K:(AG)×Int):Option (Bm ((AG)×Int) ((AG))):= if K.2<(O.length:Int) then((ix O K.2).bind λU=> (Ax (((Bh K.1 U).getD 0)+1)).bind λY=> (Ax (K.2+1)).bind λZ=> some (.more ((Bo K.1 U Y),Z))) else(some (.done K.1))
def Sj(fu_:Nat)(p0:AQ)(K:(List AG)×Int):Option (Bm ((List AG)×Int) ((List AG))):= if K.2<(p0.1.length:Int) then((ix p0.1 K.2).bind λO=> Option.bind (iter (SG fu_ O) fu_ (([]:AG),0)) λU=> (room K.1 U).bind λY=> (Ax (K.2+1)).bind λZ=> some (.more (Y,Z))) else(some (.done K.1))
def f120(fu_:Nat)(p0:AQ):Option ((List AG)):= Option.bind (iter (Sj fu_ p0) fu_ ([],0)) λK=> some K
theorem Yn{a1:An}{c2:Nat}{be:An}{bi:Nat}{p0:AQ}(bF:Al (rL rI) E a1 c2 p0.1)(cK:Al As E be bi p0.2){fu_:Nat}{r:(List AG)}(bn:f120 fu_ p0=some r):AK J 120 [.agg #[sV a1 p0.1 c2,sV be p0.2 bi]] E [] (λw E' B'=>∃(bo:An) (bq:Nat),w= sV bo r bq/\B'= []/\Al (rM rI false rI false) E' bo bq r):=by
 refine Bd func120 λQ cM cs H bG bH=>?_;unfold f120 at bn;refine zg 2 rfl (Cr bG λcN az br bI bJ=>?_);refine zg 9 rfl (JL.fd underlying77 Bu rfl rfl rfl ?_);refine Bw 0 bI underlying25 Dg Dy ?_;refine JL.ln underlying22 rfl rfl rfl ?_;obtain⟨bu,bK,bL⟩:=bs bn;refine zg 2 rfl (Bq (λL s=>∃(a0:LH) (am:An) (ap:Nat) (a2:Seg),Jn az H a0 [a2] [(3,sV am bu ap)] L s (OL 197 (rM rI false rI false) a0 am ap a2 bu)) ?_ ?_)
 ·rintro _ _ ⟨a0,am,ap,a2,rfl,rfl,bM,bN,bO⟩;refine zg 5 rfl (BJ 0 bO bN rfl λcO bP bQ bR=>?_);obtain rfl:=oi bL;exact AN func120 rfl rfl (bH ((br.Ad bM).Ad bP) rfl ⟨am,ap,rfl,rfl,bQ⟩ bR)
 ·intro bS;refine JL.block (CI bK (λL s K=>∃(O:LH) (U:An) (Y:Nat) (ac:Seg),Jn az H O [ac] [(3,sV U K.1 Y),(11,sV a1 p0.1 c2),(12,iV (p0.1.length:Int)),(13,iV K.2)] L s (OL 197 (rM rI false rI false) O U Y ac K.1)) ⟨az,none,0,[],rfl,rfl,Ay,bJ,OL.nil⟩ ?_);rintro _ _ K ⟨O,U,Y,ac,rfl,rfl,a3,bv,bw⟩ bT ⟨cP,a4⟩ bU;have bx:=a4;unfold Sj at bx;refine zg 5 rfl (AT bx (λbV bW=>?_) (λbV bY=>?_))
  ·obtain⟨bz,bZ,b0⟩:=bs bW;refine zg 5 rfl (JS.ix (bF.Ag (br.Ad a3)) bZ underlying22 Eu ?_);rintro cQ cR _ ⟨b1,b2,rfl,b3⟩ b4;refine CL 0 b4 GA rfl rfl rfl (zg 4 rfl ?_);refine JS.makeMap rfl rfl rfl bv λag b5=>zg 6 rfl (JL.ln underlying28 rfl rfl rfl ?_);obtain⟨bA,b6,b7⟩:=bs b0;refine zg 2 rfl (Bq (λL s=>∃(a5:LH) (aq:Obj),Jn O H a5 [ac,[(ag,aq)]] [(3,sV U K.1 Y),(6,.map (some ag)),(11,sV a1 p0.1 c2),(12,iV (p0.1.length:Int)),(13,iV K.2)] L s (Bx rI false rI false a5 aq bA)) ?_ ?_)
   ·rintro _ _ ⟨a5,aq,rfl,rfl,bB,b8,b9⟩;refine zg 3 rfl (Mx 1 b8 rfl λbC a6 ca cb=>?_);have cc:Bx rI false rI false bC aq bA:=(b9.Ag a6);obtain⟨cd,ce,cf⟩:=bs b7;refine JS.app (pp:=(rM rI false rI false)) (v:= .map (some ag)) (a:=U) (c:=Y) 0 ce rfl rfl rfl rfl (λ_=>rfl) rfl (λ_=>rfl) rfl rfl rfl underlying156 underlying156 underlying156 Hp (B8 type197) (Dz type197) rfl (by decide) (by decide) (by decide) (by decide) (bw.Ag (bB.Ad a6)) ⟨_,_,rfl,ca,cc⟩ cb rfl λcT cg ci ck cm cn=>?_;obtain⟨co,cp,cq⟩:=bs cf;refine zg 4 rfl (Bt cp rfl rfl rfl ?_);refine zg 2 rfl ?_;obtain rfl:=oi cq;exact AA (bU _ _ (cd,co) ⟨bC,cg,ci,ck,rfl,rfl,((a3.Ad bB).Ad a6),cn,cm⟩ a4) rfl
   ·intro cr;refine JL.block (CI b6 (λL s Z=>∃(al:LH) (aw:Obj),Jn O H al [ac,[(ag,aw)]] [(3,sV U K.1 Y),(6,.map (some ag)),(11,sV a1 p0.1 c2),(12,iV (p0.1.length:Int)),(13,iV K.2),(18,sV b1 bz b2),(19,iV (bz.length:Int)),(20,iV Z.2)] L s (Bx rI false rI false al aw Z.1)) ⟨O,(.map #[] 0),rfl,rfl,Ay,b5,Bx.nil⟩ ?_);rintro _ _ Z ⟨al,aw,rfl,rfl,a7,a8,a9⟩ ct ⟨cV,bb⟩ cu;have bD:=bb;unfold SG at bD;refine zg 5 rfl (AT bD (λcv cw=>?_) (λcv cy=>?_))
    ·obtain⟨ay,cz,cA⟩:=bs cw;refine zg 5 rfl (JS.ix (b3.Ag a7) cz underlying28 AB ?_);rintro cW cX _ rfl cB;refine CL 0 cB A2 rfl rfl rfl (zg 5 rfl ?_);refine Am (v:=iV ((Bh Z.1 ay).getD 0)) rfl (λρ h=>Yl.lookup (ok:=false) (xs:=Z.1) (x0:=ay) (z0:=0) IH underlying197 Cg ⟨_,rfl,rfl⟩ a9 ⟨_,rfl,rfl⟩ (by rintro _ ⟨_,rfl,rfl⟩;rfl) (h _ _ rfl) (h _ _ rfl) (Dx (j:=1) (i:=0) a8 rfl rfl)) ?_;obtain⟨bE,cC,cD⟩:=bs cA;refine Bt cC rfl rfl rfl (JS.mapUpdate (xs:=Z.1) (x0:=ay) (v0:=bE) 1 IH underlying197 a9 ⟨_,rfl,rfl⟩ ⟨_,rfl,rfl⟩ a8 rfl rfl rfl rfl rfl rfl rfl λcE cF cG=>?_);obtain⟨cH,cI,cJ⟩:=bs cD;refine zg 3 rfl (Bt cI rfl rfl rfl ?_);refine zg 2 rfl ?_;obtain rfl:=oi cJ;exact AA (cu _ _ ((Bo Z.1 ay bE),cH) ⟨al,cE,rfl,rfl,a7,cG,cF⟩ bb) rfl
    ·refine JL.exit rfl ?_;obtain rfl:=oi cy;obtain rfl:=ct _ bb;exact AA (cr _ _ ⟨al,aw,rfl,rfl,a7,a8,a9⟩) rfl
  ·refine JL.exit rfl ?_;obtain rfl:=oi bY;obtain rfl:=bT _ a4;exact AA (bS _ _ ⟨O,U,Y,ac,rfl,rfl,a3,bv,bw⟩) rfl
def Tm(fu_:Nat)(p0:AQ)(O:(List Int))(K:(List Int)×Int):Option (Bm ((List Int)×Int) ((List Int))):= if K.2<5 then((ix O K.2).bind λU=> Option.bind (if K.2<(p0.1.length:Int) then((ix p0.1 K.2).bind λY=> (f85 fu_ Y).bind λZ=> (Ax (-(U))).bind λac=> some (decide (Z<ac))) else(some false)) λag=> Option.bind (if ag=true then((room K.1 K.2).bind λal=> some al) else(some K.1)) λam=> (Ax (K.2+1)).bind λap=> some (.more (am,ap))) else(some (.done K.1))
def f39(fu_:Nat)(p0:AQ):Option ((List Int)×Int):= (f70 fu_ p0 ([])).bind λK=> if K.2≠0 then(some ([],K.2)) else((f84 fu_ K.1).bind λO=> Option.bind (iter (Tm fu_ p0 O) fu_ ([],0)) λU=> some (U,0))
theorem Z6{a1:An}{c2:Nat}{bq:An}{br:Nat}{p0:AQ}(bu:Al (rL rI) E a1 c2 p0.1)(bG:Al As E bq br p0.2){fu_:Nat}{r:(List Int)×Int}(bv:f39 fu_ p0=some r):AK J 39 [.agg #[sV a1 p0.1 c2,sV bq p0.2 br]] E [] (λw E' B'=>∃(bw:An) (bx:Nat),w= .tuple #[sV bw r.1 bx,iV r.2]/\B'= []/\Al rI E' bw bx r.1):=by
 refine Bd func39 λQ cX cs H bH bz=>?_;unfold f39 at bv;refine zg 2 rfl (Cr bH λa4 cY al a5 bI=>?_);refine zg 5 rfl (B3 a5 B2 Bu rfl rfl ?_);obtain⟨cZ,bJ,bK⟩:=bs bv;refine BU (Ke (bu.Ag al) (bG.Ag al) Al.nil bJ) rfl rfl J0 bI ?_;rintro _ c0 _ am ⟨c1,c3,c4,c5,rfl,rfl,bL,bM⟩ bN;refine zg 3 rfl (BO bN Ho λc6 bO=>?_);refine Bv 3 bO DX λbP=>?_;refine Dr 3 bP rfl λc7 O bQ bA=>zg 8 rfl (AT bK (λbR bS=>?_) (λbR bT=>?_))
 ·refine zg 6 rfl ?_;obtain rfl:=oi bS;exact AN func39 rfl rfl (bz ((al.Ad am).Ad O) rfl ⟨none,0,rfl,rfl,Al.nil⟩ bA)
 ·refine zg 8 rfl (B3 bQ F6 DX rfl rfl ?_);obtain⟨c8,bU,bV⟩:=bs bT;refine BU (PK (bL.Ag O) (bM.Ag O) bU) rfl rfl Oe bA ?_;rintro _ a6 _ aq ⟨a7,rfl,rfl,bW⟩ bY;obtain⟨bB,bZ,b0⟩:=bs bV;refine zg 2 rfl (Bq (λL s=>∃(a8:LH) (aw:An) (ay:Nat) (a9:Seg),Jn a6 H a8 [a9] [(6,sV aw bB ay)] L s (OL 3 rI a8 aw ay a9 bB)) ?_ ?_)
  ·rintro _ _ ⟨a8,aw,ay,a9,rfl,rfl,b1,b2,b3⟩;refine zg 6 rfl (BJ 0 b3 b2 rfl λc9 b4 b5 b6=>?_);obtain rfl:=oi b0;exact AN func39 rfl rfl (bz (((((al.Ad am).Ad O).Ad aq).Ad b1).Ad b4) rfl ⟨aw,ay,rfl,rfl,b5⟩ b6)
  ·intro b7;refine JL.block (CI bZ (λL s K=>∃(Z:LH) (U:An) (Y:Nat) (ac:Seg),Jn a6 H Z [ac] [(1,Aj a4 0),(6,sV U K.1 Y),(18,.agg a7.toArray),(19,iV K.2)] L s (OL 3 rI Z U Y ac K.1)) ⟨a6,none,0,[],rfl,rfl,Ay,bY,OL.nil⟩ ?_);rintro _ _ K ⟨Z,U,Y,ac,rfl,rfl,ag,bb,be⟩ b8 ⟨da,bi⟩ b9;have bC:=bi;unfold Tm at bC;refine zg 5 rfl (AT bC (λca cb=>?_) (λca cc=>?_))
   ·obtain⟨db,cd,ce⟩:=bs cb;refine zg 6 rfl (Tf (Rp.Ag _ ag bW) cd rfl rfl rfl rfl rfl underlying105 AB A2 ?_ (λ_=>rfl));rintro _ rfl;refine zg 6 rfl (Bw 0 (a5.Ag (((am.Ad O).Ad aq).Ad ag)) underlying25 Dg Dy ?_);refine JL.ln underlying22 rfl rfl rfl ?_;obtain⟨cf,cg,ci⟩:=bs ce;refine zg 2 rfl (Gp [] (λL s=>∃(ap:LH),Jm Z H ap [ac] [(1,Aj a4 0),(6,sV U K.1 Y),(7,iV K.2),(18,.agg a7.toArray),(19,iV K.2),(38,.bool cf)] L s) ?_ ?_)
    ·rintro _ _ ⟨ap,rfl,rfl,bn,bD⟩;obtain⟨bo,ck,cm⟩:=bs ci;refine JL.done (Bq (λL s=>∃(az:LH) (a0:An) (a2:Nat) (a3:Seg),Jn ap H az [a3] [(1,Aj a4 0),(6,sV a0 bo a2),(18,.agg a7.toArray),(19,iV K.2)] L s (OL 3 rI az a0 a2 a3 bo)) ?_ ?_)
     ·rintro _ _ ⟨az,a0,a2,a3,rfl,rfl,cn,co,cp⟩;obtain⟨cq,cr,ct⟩:=bs cm;refine zg 2 rfl (Bt cr rfl rfl rfl ?_);refine zg 2 rfl ?_;obtain rfl:=oi ct;exact AA (b9 _ _ (bo,cq) ⟨az,a0,a2,a3,rfl,rfl,((ag.Ad bn).Ad cn),co,cp⟩ bi) rfl
     ·intro bE;refine Cc ck (λcu cv=>?_) (λcu cw=>?_)
      ·obtain⟨dc,cy,cz⟩:=bs cv;refine zg 3 rfl (JS.app (pp:=rI) (v:=iV K.2) (a:=U) (c:=Y) 0 cy rfl rfl rfl rfl (λ_=>rfl) rfl (λ_=>rfl) rfl rfl rfl underlying28 underlying28 underlying28 AB (B8 type3) Cg rfl (by decide) (by decide) (by decide) (by decide) (be.Ag bn) rfl bD rfl λdd cA cB cC cD cE=>?_);refine zg 2 rfl ?_;obtain rfl:=oi cz;exact AA (bE _ _ ⟨ap,cA,cB,cC,rfl,rfl,Ay,cE,cD⟩) rfl
      ·refine JL.skip ?_;obtain rfl:=oi cw;exact AA (bE _ _ ⟨ap,U,Y,ac,rfl,rfl,Ay,bD,(be.Ag bn)⟩) rfl
    ·intro bF;refine GL 28 cg (λcF cG=>?_) (λcF cH=>?_)
     ·refine Bw 0 (a5.Ag (((am.Ad O).Ad aq).Ad ag)) underlying25 Dg Dy ?_;obtain⟨de,cI,cJ⟩:=bs cG;refine zg 1 rfl (JS.ix (bu.Ag ((((al.Ad am).Ad O).Ad aq).Ad ag)) cI underlying22 Eu ?_);rintro df dg _ ⟨dh,di,rfl,cK⟩ cM;refine CL 0 cM GA rfl rfl rfl ?_;obtain⟨dj,cN,cO⟩:=bs cJ;refine Cn (HC cK cN) rfl rfl Hn bb λcP cQ cR=>?_;obtain⟨cT,cV,cW⟩:=bs cO;refine zg 1 rfl (Am (v:=iV cT) rfl (λρ h=>Ht (h _ _ rfl) cV) ?_);refine zg 2 rfl ?_;obtain rfl:=oi cW;exact AA (bF _ _ ⟨cP,rfl,rfl,cQ,cR⟩) rfl
     ·refine zg 10 rfl ?_;obtain rfl:=oi cH;exact AA (bF _ _ ⟨Z,rfl,rfl,Ay,bb⟩) rfl
   ·refine JL.exit rfl ?_;obtain rfl:=oi cc;obtain rfl:=b8 _ bi;exact AA (b7 _ _ ⟨Z,U,Y,ac,rfl,rfl,ag,bb,be⟩) rfl
def Sx(fu_:Nat)(p0:List Int)(O:Int)(K:Int):Option (Bm Int ((Int)⊕(Unit))):= if K<(p0.length:Int) then((ix p0 K).bind λU=> if O=U then(some (.done (Sum.inl K))) else((Ax (K+1)).bind λY=> some (.more Y))) else(some (.done (Sum.inr ())))
def f128(fu_:Nat)(p0:List Int)(K:Int):Option Int:= Option.bind (iter (Sx fu_ p0 K) fu_ 0) λO=> Sum.elim (λr=>some r) (λU=> some (-1)) O
theorem YX{a1:An}{c2:Nat}{p0:List Int}{U:Int}(az:Al rI E a1 c2 p0){fu_:Nat}{r:Int}(ac:f128 fu_ p0 U=some r):AK J 128 [sV a1 p0 c2,iV U] E [] (λw E' B'=>w=iV r/\B'= []):=by
 refine Bd func128 λQ bB cs H a0 ag=>?_;unfold f128 at ac;refine zg 8 rfl (JL.ln underlying28 rfl rfl rfl ?_);obtain⟨al,a2,am⟩:=bs ac;refine zg 2 rfl (Bq (λL s=>∃(ap:Unit) (aq:LH),al=Sum.inr ap/\Jm E H aq [] [] L s) ?_ ?_)
 ·rintro _ _ ⟨ap,aq,rfl,rfl,rfl,a3,a4⟩;have a5:=elim_inr am;refine zg 4 rfl ?_;obtain rfl:=oi a5;exact AN func128 rfl rfl (ag a3 rfl ⟨rfl,rfl⟩ a4)
 ·intro a6;refine JL.block (Di a2 (λY=> []) (λY=> [(0,sV a1 p0 c2),(1,iV U),(7,iV (p0.length:Int)),(8,iV Y)]) Ay a0 ?_);rintro Y a7 K Z aw ⟨bC,O⟩ a8;have ay:=O;unfold Sx at ay;refine zg 5 rfl (AT ay (λa9 bb=>?_) (λa9 be=>?_))
  ·obtain⟨bD,bi,bn⟩:=bs bb;refine zg 13 rfl (JS.ix (az.Ag K) bi underlying28 AB ?_);rintro bE bF _ rfl bo;refine CL 0 bo A2 rfl rfl rfl (zg 2 rfl ?_);refine AT bn (λbq br=>?_) (λbq bu=>?_)
   ·refine zg 5 rfl ?_;obtain rfl:=oi br;obtain rfl:=aw _ O;have bv:=elim_inl am;obtain rfl:=oi bv;exact AN func128 rfl rfl (ag K rfl ⟨rfl,rfl⟩ Z)
   ·obtain⟨bw,bx,bz⟩:=bs bu;refine zg 3 rfl (Bt bx rfl rfl rfl ?_);refine zg 2 rfl ?_;obtain rfl:=oi bz;exact a8 bw K Z rfl O
  ·refine JL.exit rfl ?_;obtain rfl:=oi be;have bA:al=(Sum.inr ()):=(aw _ O).symm;exact AA (a6 _ _ ⟨(),a7,bA,rfl,rfl,K,Z⟩) rfl
def f82(fu_:Nat)(p0:List Int)(K:Int):Option Bool:= (f128 fu_ p0 K).bind λO=> some (decide (0<=O))
theorem ah{a1:An}{c2:Nat}{p0:List Int}{K:Int}(U:Al rI E a1 c2 p0){fu_:Nat}{r:Bool}(O:f82 fu_ p0 K=some r):AK J 82 [sV a1 p0 c2,iV K] E [] (λw E' B'=>w= .bool r/\B'= []):=by
 refine Bd func82 λQ ap cs H Y Z=>?_;unfold f82 at O;obtain⟨aq,ac,ag⟩:=bs O;refine zg 8 rfl (Cn (YX U ac) rfl rfl (A3 func128 rfl) Y λaw al am=>?_);refine zg 3 rfl ?_;obtain rfl:=oi ag;exact AN func82 rfl rfl (Z al rfl ⟨rfl,rfl⟩ am)
def SU(fu_:Nat)(O:AQ×Int)(K:(List ((Int×Int)×Bool))×Int):Option (Bm ((List ((Int×Int)×Bool))×Int) ((List ((Int×Int)×Bool)))):= if K.2<(O.1.2.length:Int) then((ix O.1.2 K.2).bind λU=> (Ax (K.2+1)).bind λY=> some (.more ((Bo K.1 (U.1,U.2.1) true),Y))) else(some (.done K.1))
def TB(fu_:Nat)(U:AQ×Int)(Y:(List ((Int×Int)×Bool)))(O:List Int)(K:Bb×Int):Option (Bm (Bb×Int) (Bb)):= if K.2<(U.1.1.length:Int) then(Option.bind ((f82 fu_ O K.2).bind λZ=> Option.bind (if Z=true then(some true) else(if 0<(O.length:Int) then((Ax ((O.length:Int) - 1)).bind λac=> (ix O ac).bind λag=> some (!((Bh Y (ag,K.2)).getD false))) else(some false))) λal=> if al=true then(some K.1) else((C4 O ([K.2]:List Int)).bind λam=> (room K.1 am).bind λap=> some ap)) λaq=> (Ax (K.2+1)).bind λaw=> some (.more (aq,aw))) else(some (.done K.1))
def Tj(fu_:Nat)(Z:AQ×Int)(U:(List ((Int×Int)×Bool)))(Y:Bb)(O:Bb×Int):Option (Bm (Bb×Int) (((List Int)×Int)⊕(Bb))):= if O.2<(Y.length:Int) then((ix Y O.2).bind λK=> Option.bind (if 1<(K.length:Int) then((Ax ((K.length:Int) - 1)).bind λac=> (ix K ac).bind λag=> (ix K (0)).bind λal=> some ((Bh U (ag,al)).getD false)) else(some false)) λam=> if am=true then(some (.done (Sum.inl (K,0)))) else(Option.bind (iter (TB fu_ Z U K) fu_ (O.1,0)) λap=> (Ax (O.2+1)).bind λaq=> some (.more (ap,aq)))) else(some (.done (Sum.inr O.1)))
def Tn(fu_:Nat)(U:AQ×Int)(Y:(List ((Int×Int)×Bool)))(K:Bb):Option (Bm (Bb) (((List Int)×Int)⊕(Unit))):= if 0<(K.length:Int) then(Option.bind (iter (Tj fu_ U Y K) fu_ ([],0)) λZ=> Sum.elim (λr=>some (.done (Sum.inl r))) (λO=> if(O.length:Int)=0 then(some (.done (Sum.inr ()))) else(some (.more O))) Z) else(some (.done (Sum.inr ())))
def f33(fu_:Nat)(p0:AQ):Option ((List Int)×Int):= (f70 fu_ p0 ([])).bind λK=> if K.2≠0 then(some ([],K.2)) else(Option.bind (iter (SU fu_ K) fu_ (([]:List ((Int×Int)×Bool)),0)) λO=> Option.bind (iter (Tn fu_ K O) fu_ ([[]]:Bb)) λU=> Sum.elim (λr=>some r) (λY=> some ([],11)) U)
theorem Z7{a1:An}{c2:Nat}{cf:An}{cg:Nat}{p0:AQ}(cT:Al (rL rI) E a1 c2 p0.1)(cV:Al As E cf cg p0.2){fu_:Nat}{r:(List Int)×Int}(ci:f33 fu_ p0=some r):AK J 33 [.agg #[sV a1 p0.1 c2,sV cf p0.2 cg]] E [] (λw E' B'=>∃(ck:An) (cm:Nat),w= .tuple #[sV ck r.1 cm,iV r.2]/\B'= []/\Al rI E' ck cm r.1):=by
 refine Bd func33 λQ fN cs H cW bZ=>?_;unfold f33 at ci;refine zg 2 rfl (Cr cW λfO fP bv cX cY=>?_);refine zg 6 rfl (B3 cX B2 Bu rfl rfl ?_);obtain⟨bw,cZ,c0⟩:=bs ci;refine BU (Ke (cT.Ag bv) (cV.Ag bv) Al.nil cZ) rfl rfl J0 cY ?_;rintro _ fQ _ b0 ⟨fR,fS,c1,c3,rfl,rfl,fT,c4⟩ c5;refine zg 3 rfl (BO c5 Ho λag c6=>?_);refine Bv 3 c6 DX λc7=>?_;refine Dr 3 c7 rfl λb1 bE cn co=>zg 8 rfl (AT c0 (λc8 c9=>?_) (λc8 da=>?_))
 ·refine zg 6 rfl ?_;obtain rfl:=oi c9;exact AN func33 rfl rfl (bZ ((bv.Ad b0).Ad bE) rfl ⟨none,0,rfl,rfl,Al.nil⟩ co)
 ·refine zg 3 rfl (JS.makeMap rfl rfl rfl co λK db=>?_);refine zg 5 rfl (JL.fd underlying77 Bu rfl rfl rfl ?_);refine Bw 1 cn underlying25 Cu Et ?_;refine JL.ln underlying23 rfl rfl rfl ?_;obtain⟨bb,dc,dd⟩:=bs da;refine zg 2 rfl (Bq (λL s=>∃(be:LH) (ac:Obj),Jn b1 H be [[(K,ac)]] [(4,Aj ag 0),(6,.map (some K))] L s (Bx Du true rB false be ac bb)) ?_ ?_)
  ·rintro _ _ ⟨be,ac,rfl,rfl,b2,de,cp⟩;refine zg 2 rfl (FG (pp:=(rL rI)) [nS] [[]] rfl rfl rfl underlying22 Eu Kz (by decide) rfl rfl rfl ⟨⟨_,_,rfl,Al.nil⟩,trivial⟩ de λdf dg dh di=>?_);refine zg 3 rfl (JL.label ?_);obtain⟨b3,dj,cq⟩:=bs dd;refine JL.seq (Bq (λL s=>∃(cr:Unit) (ct:LH),b3=Sum.inr cr/\Jm be H ct [] [] L s) ?_ ?_)
   ·rintro _ _ ⟨cr,ct,rfl,rfl,rfl,dk,dn⟩;have dp:=elim_inr cq;refine zg 5 rfl ?_;obtain rfl:=oi dp;exact AN func33 rfl rfl (bZ ((((bv.Ad b0).Ad bE).Ad b2).Ad dk) rfl ⟨none,0,rfl,rfl,Al.nil⟩ dn)
   ·intro cu;refine JL.block (CI dj (λL s O=>∃(a2:LH) (al:An) (am:Nat) (ap:Seg),Jn be H a2 [[(K,ac)],ap] [(4,Aj ag 0),(6,.map (some K)),(9,sV al O am)] L s (OL 28 (rL rI) a2 al am ap O)) ⟨be,(AX df),1,dg,rfl,rfl,Ay,di,dh⟩ ?_);rintro _ _ O ⟨a2,al,am,ap,rfl,rfl,a3,cv,dq⟩ b4 ⟨fU,bx⟩ dr;have cw:=bx;unfold Tn at cw;refine zg 4 rfl (JL.ln underlying22 rfl rfl rfl ?_);refine zg 2 rfl (AT cw (λdt du=>?_) (λdt dv=>?_))
    ·refine zg 10 rfl (JL.ln underlying22 rfl rfl rfl ?_);obtain⟨cy,dw,cz⟩:=bs du;refine zg 2 rfl (Bq (λL s=>∃(bz:Bb) (bA:LH) (bF:An) (bG:Nat) (bH:Seg),cy=Sum.inr bz/\Jn a2 H bA [[(K,ac)],bH] [(4,Aj ag 0),(6,.map (some K)),(10,sV bF bz bG)] L s (OL 28 (rL rI) bA bF bG bH bz)) ?_ ?_)
     ·rintro _ _ ⟨bz,bA,bF,bG,bH,rfl,rfl,rfl,cA,cB,dx⟩;have dy:=elim_inr cz;refine zg 8 rfl (JL.ln underlying22 rfl rfl rfl ?_);refine zg 2 rfl (AT dy (λdz dA=>?_) (λdz dB=>?_))
      ·refine JL.exit rfl (JS.drop 0 cB rfl λdC=>?_);refine JS.drop 1 dC rfl λdD=>?_;obtain rfl:=oi dA;have dE:b3=(Sum.inr ()):=(b4 _ bx).symm;exact AA (cu _ _ ⟨(),bA,dE,rfl,rfl,(a3.Ad cA),dD⟩) rfl
      ·refine zg 2 rfl ?_;obtain rfl:=oi dB;exact AA (dr _ _ bz ⟨bA,bF,bG,bH,rfl,rfl,(a3.Ad cA),cB,dx⟩ bx) rfl
     ·intro dF;refine JL.block (CI dw (λL s Y=>∃(aw:LH) (bi:An) (bn:Nat) (bo:Seg),Jn a2 H aw [[(K,ac)],ap,bo] [(4,Aj ag 0),(6,.map (some K)),(10,sV bi Y.1 bn),(43,sV al O am),(44,iV (O.length:Int)),(45,iV Y.2)] L s (OL 28 (rL rI) aw bi bn bo Y.1)) ⟨a2,none,0,[],rfl,rfl,Ay,cv,OL.nil⟩ ?_);rintro _ _ Y ⟨aw,bi,bn,bo,rfl,rfl,a4,bB,cC⟩ cD ⟨fW,bI⟩ dG;have cE:=bI;unfold Tj at cE;refine zg 5 rfl (AT cE (λdH dI=>?_) (λdH dJ=>?_))
      ·obtain⟨ay,dK,dL⟩:=bs dI;refine zg 5 rfl (M5 1 (dq.Ag a4) dK rfl rfl rfl rfl rfl rfl underlying22 Eu ?_);rintro fX fY f155 _ dM ⟨a5,bq,rfl,az⟩ dN fZ ga gb gc;refine Am (v:= sV a5 ay bq) rfl (λρ h=>Yl.load GA (h _ _ rfl) (BR (j:=1) bB dM (dN 0 _ rfl))) (zg 6 rfl ?_);refine JL.ln underlying28 rfl rfl rfl (zg 3 rfl ?_);refine PU 15 λZ=>A6 Z rfl [0,1,2] rfl ?_;obtain⟨dO,cF,dP⟩:=bs dL;refine Fc 0 #[true,true,true,true,true,true,true,true,true,true,true,true,true,true,true] (λL s=>L= [(4,Aj ag 0),(6,.map (some K)),(10,sV bi Y.1 bn),(12,sV a5 ay bq),(43,sV al O am),(44,iV (O.length:Int)),(45,iV Y.2),(65,.bool dO)]/\s=Ak aw H [[(K,ac)],ap,bo]) ?_ ?_
       ·rintro _ _ ⟨rfl,rfl⟩;refine AJ.fin (by decide+kernel) (Cc dP (λdQ dR=>?_) (λdQ dS=>?_))
        ·refine zg 6 rfl (JS.drop 0 bB rfl λdT=>?_);refine JS.drop 1 dT rfl λdU=>JS.drop 2 dU rfl λdV=>?_;obtain rfl:=oi dR;obtain rfl:=cD _ bI;have dW:=elim_inl cz;obtain rfl:=oi dW;obtain rfl:=b4 _ bx;have dX:=elim_inl cq;obtain rfl:=oi dX;exact AN func33 rfl rfl (bZ (((((bv.Ad b0).Ad bE).Ad b2).Ad a3).Ad a4) rfl ⟨a5,bq,rfl,rfl,az⟩ dV)
        ·refine zg 3 rfl (JL.fd underlying77 Bu rfl rfl rfl ?_);refine Bw 0 (cn.Ag ((b2.Ad a3).Ad a4)) underlying25 Dg Dy ?_;refine JL.ln underlying22 rfl rfl rfl ?_;obtain⟨b5,dY,dZ⟩:=bs dS;refine zg 2 rfl (Bq (λL s=>∃(bJ:LH) (bK:An) (bL:Nat) (bM:Seg),Jn aw H bJ [[(K,ac)],ap,bM] [(4,Aj ag 0),(6,.map (some K)),(10,sV bK b5 bL),(43,sV al O am),(44,iV (O.length:Int)),(45,iV Y.2)] L s (OL 28 (rL rI) bJ bK bL bM b5)) ?_ ?_)
         ·rintro _ _ ⟨bJ,bK,bL,bM,rfl,rfl,ea,eb,ec⟩;obtain⟨ed,ee,ef⟩:=bs dZ;refine zg 2 rfl (Bt ee rfl rfl rfl ?_);refine zg 2 rfl ?_;obtain rfl:=oi ef;exact AA (dG _ _ (b5,ed) ⟨bJ,bK,bL,bM,rfl,rfl,(a4.Ad ea),eb,ec⟩ bI) rfl
         ·intro eg;refine JL.block (CI dY (λL s U=>∃(bC:LH) (a6:An) (a7:Nat) (br:Seg),Jn aw H bC [[(K,ac)],ap,br] [(4,Aj ag 0),(6,.map (some K)),(10,sV a6 U.1 a7),(12,sV a5 ay bq),(43,sV al O am),(44,iV (O.length:Int)),(45,iV Y.2),(70,iV (bw.1.1.length:Int)),(71,iV U.2)] L s (OL 28 (rL rI) bC a6 a7 br U.1)) ⟨aw,bi,bn,bo,rfl,rfl,Ay,bB,cC⟩ ?_);rintro _ _ U ⟨bC,a6,a7,br,rfl,rfl,a0,cG,b6⟩ eh ⟨gd,b7⟩ ei;have cH:=b7;unfold TB at cH;refine zg 5 rfl (AT cH (λej ek=>?_) (λej el=>?_))
          ·obtain⟨b8,em,en⟩:=bs ek;refine zg 2 rfl (Bq (λL s=>∃(bN:LH) (bO:An) (bP:Nat) (bQ:Seg),Jn bC H bN [[(K,ac)],ap,bQ] [(4,Aj ag 0),(6,.map (some K)),(10,sV bO b8 bP),(12,sV a5 ay bq),(43,sV al O am),(44,iV (O.length:Int)),(45,iV Y.2),(70,iV (bw.1.1.length:Int)),(71,iV U.2)] L s (OL 28 (rL rI) bN bO bP bQ b8)) ?_ ?_)
           ·rintro _ _ ⟨bN,bO,bP,bQ,rfl,rfl,eo,ep,er⟩;obtain⟨et,eu,ew⟩:=bs en;refine JL.region (Bt eu rfl rfl rfl ?_);refine zg 2 rfl ?_;obtain rfl:=oi ew;exact AA (ei _ _ (b8,et) ⟨bN,bO,bP,bQ,rfl,rfl,(a0.Ad eo),ep,er⟩ b7) rfl
           ·intro cI;obtain⟨ge,ex,ey⟩:=bs em;refine zg 11 rfl (Cn (ah (az.Ag a0) ex) rfl rfl (A3 func82 rfl) cG λbR aq bS=>?_);obtain⟨ez,eA,eB⟩:=bs ey;refine zg 1 rfl (Gp [] (λL s=>∃(b9:LH),Jm bR H b9 [[(K,ac)],ap,br] [(4,Aj ag 0),(6,.map (some K)),(10,sV a6 U.1 a7),(12,sV a5 ay bq),(14,iV U.2),(43,sV al O am),(44,iV (O.length:Int)),(45,iV Y.2),(70,iV (bw.1.1.length:Int)),(71,iV U.2),(94,.bool ez)] L s) ?_ ?_)
            ·rintro _ _ ⟨b9,rfl,rfl,a8,cJ⟩;refine JL.done (Cc eB (λeC eD=>?_) (λeC eE=>?_))
             ·refine JL.exit rfl ?_;obtain rfl:=oi eD;exact AA (cI _ _ ⟨b9,a6,a7,br,rfl,rfl,(aq.Ad a8),cJ,(b6.Ag (aq.Ad a8))⟩) rfl
             ·refine zg 5 rfl (JL.ln underlying28 rfl rfl rfl ?_);refine zg 1 rfl (JL.ln underlying28 rfl rfl rfl ?_);refine Am (v:= .slice a5 ay.length ay.length) rfl (λρ h=>QM (Al.spot (az.Ag ((a0.Ad aq).Ad a8))) (And.left (az.Ag ((a0.Ad aq).Ad a8))) underlying28 AB (h _ _ rfl) (h _ _ rfl) (h _ _ rfl)) (zg 1 rfl ?_);refine FG (pp:=rI) [iV U.2] [U.2] rfl rfl rfl underlying28 AB Cg (by decide) rfl rfl rfl ⟨rfl,trivial⟩ cJ λgf gg eF eG=>BJ 3 eF eG rfl λgh ca eH eI=>?_;obtain⟨eJ,eK,eL⟩:=bs eE;refine U4 (pp:=rI) eK rfl rfl rfl rfl rfl rfl rfl underlying28 underlying28 AB (B8 type3) Cg rfl (by decide) (by decide) (az.Ag (((a0.Ad aq).Ad a8).Ad ca)) eH eI λeM eN eO cK eP eQ=>?_;obtain⟨gi,eR,eS⟩:=bs eL;refine JS.app (pp:=(rL rI)) (v:= sV eN eJ eO) (a:=a6) (c:=a7) 2 eR rfl rfl rfl rfl (λ_=>rfl) rfl (λ_=>rfl) rfl rfl rfl underlying22 underlying22 underlying22 Eu (B8 type28) Kz rfl (by decide) (by decide) (by decide) (by decide) (b6.Ag (((aq.Ad a8).Ad ca).Ad cK)) ⟨_,_,rfl,eP⟩ eQ rfl λgj eT eU eV eW eX=>zg 3 rfl ?_;obtain rfl:=oi eS;exact AA (cI _ _ ⟨eM,eT,eU,eV,rfl,rfl,(((aq.Ad a8).Ad ca).Ad cK),eX,eW⟩) rfl
            ·intro cb;refine Fh 77 eA (λeY eZ=>?_) (λeY e0=>?_)
             ·refine zg 17 rfl ?_;obtain rfl:=oi eZ;exact AA (cb _ _ ⟨bR,rfl,rfl,Ay,bS⟩) rfl
             ·refine zg 1 rfl (JL.ln underlying28 rfl rfl rfl ?_);refine zg 2 rfl (GL 81 e0 (λe1 e3=>?_) (λe1 e4=>?_))
              ·refine zg 3 rfl (JL.ln underlying28 rfl rfl rfl ?_);obtain⟨gk,e5,e6⟩:=bs e3;refine Cm e5 rfl rfl rfl ?_;obtain⟨bT,e7,e8⟩:=bs e6;refine JS.ix (az.Ag (a0.Ad aq)) e7 underlying28 AB ?_;rintro gl gm _ rfl e9;refine CL 0 e9 A2 rfl rfl rfl (zg 1 rfl ?_);refine Am (v:= .agg #[iV bT,iV U.2]) rfl (λρ h=>C3 [(0,1),(1,1)] h Hm underlying101 ⟨rfl,AR type3,rfl,AR type3,trivial⟩ rfl rfl) (Am (v:= .bool (((Bh bb (bT,U.2)).getD false))) rfl (λρ h=>Yl.lookup (ok:=false) (xs:=bb) (x0:=(bT,U.2)) (z0:=false) H6 underlying99 Ll ⟨_,rfl,rfl⟩ (cp.Ag (((a3.Ad a4).Ad a0).Ad aq)) ⟨_,⟨_,_,rfl,rfl,rfl⟩,rfl⟩ (by rintro _ ⟨_,rfl,rfl⟩;rfl) (h _ _ rfl) (h _ _ rfl) (Dx (j:=0) (i:=0) bS rfl rfl)) ?_);refine Am (v:= .bool ((!((Bh bb (bT,U.2)).getD false)))) rfl (λρ h=>Yl.not (h _ _ rfl)) (zg 2 rfl ?_);obtain rfl:=oi e8;exact AA (cb _ _ ⟨bR,rfl,rfl,Ay,bS⟩) rfl
              ·refine zg 13 rfl ?_;obtain rfl:=oi e4;exact AA (cb _ _ ⟨bR,rfl,rfl,Ay,bS⟩) rfl
          ·refine JL.exit rfl ?_;obtain rfl:=oi el;obtain rfl:=eh _ b7;exact AA (eg _ _ ⟨bC,a6,a7,br,rfl,rfl,a0,cG,b6⟩) rfl
       ·intro cM;refine GC (q:=1<(ay.length:Int)) (i:=53) rfl (λcc=>?_) (λcc=>?_)
        ·have fa:=ip cF cc;refine A6 Z rfl [3,4,5] rfl ?_;obtain⟨gn,fb,fc⟩:=bs fa;refine AP 6 Z rfl rfl (λρ h s' a9=>DL (h _ _ rfl) (h _ _ rfl) fb) ?_;obtain⟨bU,fe,ff⟩:=bs fc;refine ER 7 az fe Z underlying28 AB ?_;rintro gp gq _ rfl fg;refine AP (v:=iV bU) 8 Z rfl rfl (λρ h s' a9=>Yl.load A2 (h _ _ rfl) (LU a9 (At.K0 (j:=0) fg rfl))) ?_;refine Cs 9 Z rfl rfl ?_;obtain⟨bV,fh,fj⟩:=bs ff;refine ER 10 az fh Z underlying28 AB ?_;rintro gr gt _ rfl fk;refine AP (v:=iV bV) 11 Z rfl rfl (λρ h s' a9=>Yl.load A2 (h _ _ rfl) (LU a9 (At.K0 (j:=0) fk rfl))) ?_;refine AP (v:= .agg #[iV bU,iV bV]) 12 Z rfl rfl (λρ h s' a9=>C3 [(0,1),(1,1)] h Hm underlying101 ⟨rfl,AR type3,rfl,AR type3,trivial⟩ rfl rfl) ?_;refine AP (v:= .bool (((Bh bb (bU,bV)).getD false))) 13 Z rfl rfl (λρ h s' a9=>Yl.lookup (ok:=false) (xs:=bb) (x0:=(bU,bV)) (z0:=false) H6 underlying99 Ll ⟨_,rfl,rfl⟩ (cp.Ag (a3.Ad a4)) ⟨_,⟨_,_,rfl,rfl,rfl⟩,rfl⟩ (by rintro _ ⟨_,rfl,rfl⟩;rfl) (h _ _ rfl) (h _ _ rfl) (P3 a9 (Dx (j:=0) (i:=0) bB rfl rfl))) ?_;refine Cs 14 Z rfl rfl ?_;obtain rfl:=oi fj;refine CX ?_ (cM _ _ ⟨rfl,rfl⟩);exact⟨rfl,rfl,rfl,rfl,rfl,rfl,rfl,rfl,trivial⟩
        ·have fl:=im cF cc;refine A6 Z rfl [3,4,5,6,7,8,9,10,11,12,13,14] rfl ?_;obtain rfl:=oi fl;refine CX ?_ (cM _ _ ⟨rfl,rfl⟩);exact⟨rfl,rfl,rfl,rfl,rfl,rfl,rfl,rfl,trivial⟩
      ·refine JL.exit rfl (JS.drop 1 bB rfl λfm=>?_);obtain rfl:=oi dJ;have fo:cy=(Sum.inr Y.1):=(cD _ bI).symm;exact AA (dF _ _ ⟨Y.1,aw,bi,bn,bo,fo,rfl,rfl,a4,fm,cC⟩) rfl
    ·refine JL.exit rfl (JS.drop 0 cv rfl λfp=>?_);refine JS.drop 1 fp rfl λfq=>?_;obtain rfl:=oi dv;have fs:b3=(Sum.inr ()):=(b4 _ bx).symm;exact AA (cu _ _ ⟨(),a2,fs,rfl,rfl,a3,fq⟩) rfl
  ·intro fu;refine JL.block (CI dc (λL s bD=>∃(bW:LH) (bY:Obj),Jn b1 H bW [[(K,bY)]] [(4,Aj ag 0),(6,.map (some K)),(26,sV c1 bw.1.2 c3),(27,iV (bw.1.2.length:Int)),(28,iV bD.2)] L s (Bx Du true rB false bW bY bD.1)) ⟨b1,(.map #[] 0),rfl,rfl,Ay,db,Bx.nil⟩ ?_);rintro _ _ bD ⟨bW,bY,rfl,rfl,cd,cN,cO⟩ fv ⟨gu,ce⟩ fw;have cP:=ce;unfold SU at cP;refine zg 5 rfl (AT cP (λfx fy=>?_) (λfx fz=>?_))
   ·obtain⟨bu,fA,fB⟩:=bs fy;refine zg 5 rfl (JS.ix (c4.Ag (bE.Ad cd)) fA underlying23 AV ?_);rintro gv gw _ ⟨_,_,rfl,rfl,⟨_,_,rfl,rfl,rfl⟩⟩ fC;refine B3 fC Dm AV rfl rfl (BO cN Bp λgx fD=>?_);refine Bv 1 fD AV λfE=>?_;refine Dr 1 fE rfl λfF cQ cR fG=>zg 3 rfl (Bw 0 cR underlying27 AB A2 ?_);refine Bw 1 cR underlying27 AB A2 ?_;refine Am (v:= .agg #[iV bu.1,iV bu.2.1]) rfl (λρ h=>C3 [(0,1),(1,1)] h Hm underlying101 ⟨rfl,AR type3,rfl,AR type3,trivial⟩ rfl rfl) (JS.mapUpdate (xs:=bD.1) (x0:=(bu.1,bu.2.1)) (v0:=true) 0 H6 underlying99 (cO.Ag cQ) ⟨_,⟨_,_,rfl,rfl,rfl⟩,rfl⟩ ⟨_,rfl,rfl⟩ fG rfl rfl rfl rfl rfl rfl rfl λfH fI fJ=>?_);obtain⟨fK,fL,fM⟩:=bs fB;refine zg 3 rfl (Bt fL rfl rfl rfl ?_);refine zg 2 rfl ?_;obtain rfl:=oi fM;exact AA (fw _ _ ((Bo bD.1 (bu.1,bu.2.1) true),fK) ⟨fF,fH,rfl,rfl,(cd.Ad cQ),fJ,fI⟩ ce) rfl
   ·refine JL.exit rfl ?_;obtain rfl:=oi fz;obtain rfl:=fv _ ce;exact AA (fu _ _ ⟨bW,bY,rfl,rfl,cd,cN,cO⟩) rfl
end Pal
namespace Pal
open Go Go.Conc Go.Proofs
open Go.Proofs.Tryz
variable {J:Judge Tryz.prog}{E:LH}
def Ti:List Nat:= [0,1,2,2,3,3,3,3,4,4,4,4,4,4,4,4,5,5,5,5,5,5,5,5,5,5,5,5,5,5,5,5,6,6,6,6,6,6,6,6,6,6,6,6,6,6,6,6,6,6,6,6,6,6,6,6,6,6,6,6,6,6,6,6,7,7,7,7,7,7,7,7,7,7,7,7,7,7,7,7,7,7,7,7,7,7,7,7,7,7,7,7,7,7,7,7,7,7,7,7,7,7,7,7,7,7,7,7,7,7,7,7,7,7,7,7,7,7,7,7,7,7,7,7,7,7,7,7,8,8,8,8,8,8,8,8,8,8,8,8,8,8,8,8,8,8,8,8,8,8,8,8,8,8,8,8,8,8,8,8,8,8,8,8,8,8,8,8,8,8,8,8,8,8,8,8,8,8,8,8,8,8,8,8,8,8,8,8,8,8,8,8,8,8,8,8,8,8,8,8,8,8,8,8,8,8,8,8,8,8,8,8,8,8,8,8,8,8,8,8,8,8,8,8,8,8,8,8,8,8,8,8,8,8,8,8,8,8,8,8,8,8,8,8,8,8,8,8,8,8,8,8,8,8,8,8]
def f146(fu_:Nat)(p0:Nat):Option Int:= Option.bind (if(((4294967296):Nat):Int)<=(((p0):Nat):Int) then(some (p0>>>32,32)) else(some (p0,0))) λK=> Option.bind (if(((65536):Nat):Int)<=(((K.1):Nat):Int) then((Ax (K.2+16)).bind λY=> some (K.1>>>16,Y)) else(some K)) λO=> Option.bind (if(((256):Nat):Int)<=(((O.1):Nat):Int) then((Ax (O.2+8)).bind λZ=> some (O.1>>>8,Z)) else(some O)) λU=> (P5 Ti (((((U.1) % 256):Nat):Int))).bind λac=> (Ax (((ac):Nat):Int)).bind λag=> (Ax (U.2+ag)).bind λal=> some al
theorem Ya{p0:Nat}{fu_:Nat}{r:Int}(Y:f146 fu_ p0=some r):AK J 146 [.int .u64 ((p0:Nat):Int)] E [] (λw E' B'=>w=iV r/\B'= []):=by
 refine Bd func146 λQ bG cs H Z aq=>?_;unfold f146 at Y;obtain⟨K,aw,ay⟩:=bs Y;refine zg 10 rfl (Ey [] [(0,.int .u64 ((K.1:Nat):Int)),(2,iV K.2)] (λbH az ac=>?_) (λag=>?_))
 ·obtain⟨O,a0,a1⟩:=bs ay;refine zg 6 rfl (Ey [] [(0,.int .u64 ((O.1:Nat):Int)),(2,iV O.2)] (λbI a2 al=>?_) (λam=>?_))
  ·obtain⟨U,a3,a4⟩:=bs a1;refine zg 6 rfl (Ey [] [(0,.int .u64 ((U.1:Nat):Int)),(2,iV U.2)] (λbJ a5 a6=>?_) (λap=>?_))
   ·refine zg 4 rfl (Am (v:= .int .u8 (((U.1) % 256:Nat):Int)) rfl (λρ h=>Xf underlying72 underlying5 (h _ _ rfl)) ?_);obtain⟨a7,a8,a9⟩:=bs a4;refine Am (v:= .int .u8 ((a7:Nat):Int)) rfl (λρ h=>VA (l:=Ti) (by decide+kernel) underlying9 (h _ _ rfl) (h _ _ rfl) a8) ?_;obtain⟨bb,be,bi⟩:=bs a9;refine Am (v:=iV bb) rfl (λρ h=>XP underlying5 underlying3 (h _ _ rfl) be) ?_;obtain⟨bK,bn,bo⟩:=bs bi;refine Bt bn rfl rfl rfl (zg 2 rfl ?_);obtain rfl:=oi bo;exact AN func146 rfl rfl (aq ((az.Ad a2).Ad a5) rfl ⟨rfl,rfl⟩ a6)
   ·refine AT a3 (λbq br=>?_) (λbq bu=>?_)
    ·refine zg 3 rfl (Am (v:= .int .u64 ((O.1>>>8:Nat):Int)) rfl (λρ h=>KT 8 (h _ _ rfl) (h _ _ rfl) (by decide)) ?_);obtain⟨bL,bv,bw⟩:=bs br;refine zg 4 rfl (Bt bv rfl rfl rfl ?_);refine zg 2 rfl ?_;obtain rfl:=oi bw;exact ap Ay al rfl
    ·refine JL.skip ?_;obtain rfl:=oi bu;exact ap Ay al rfl
  ·refine AT a0 (λbx bz=>?_) (λbx bA=>?_)
   ·refine zg 3 rfl (Am (v:= .int .u64 ((K.1>>>16:Nat):Int)) rfl (λρ h=>KT 16 (h _ _ rfl) (h _ _ rfl) (by decide)) ?_);obtain⟨bM,bB,bC⟩:=bs bz;refine zg 4 rfl (Bt bB rfl rfl rfl ?_);refine zg 2 rfl ?_;obtain rfl:=oi bC;exact am Ay ac rfl
   ·refine JL.skip ?_;obtain rfl:=oi bA;exact am Ay ac rfl
 ·refine AT aw (λbD bE=>?_) (λbD bF=>?_)
  ·refine zg 3 rfl (Am (v:= .int .u64 ((p0>>>32:Nat):Int)) rfl (λρ h=>KT 32 (h _ _ rfl) (h _ _ rfl) (by decide)) ?_);refine zg 5 rfl ?_;obtain rfl:=oi bE;exact ag Ay Z rfl
  ·refine JL.skip ?_;obtain rfl:=oi bF;exact ag Ay Z rfl
def f115(fu_:Nat)(p0:Nat):Option Int:= (f146 fu_ p0).bind λK=> some K
theorem Ni{p0:Nat}{fu_:Nat}{r:Int}(K:f115 fu_ p0=some r):AK J 115 [.int .u64 ((p0:Nat):Int)] E [] (λw E' B'=>w=iV r/\B'= []):=by
 refine Bd func115 λQ al cs H O U=>?_;unfold f115 at K;obtain⟨am,Y,Z⟩:=bs K;refine zg 10 rfl (Cn (Ya Y) rfl rfl (A3 func146 rfl) O λap ac ag=>?_);refine zg 2 rfl ?_;obtain rfl:=oi Z;exact AN func115 rfl rfl (U ac rfl ⟨rfl,rfl⟩ ag)
def MQ(fu_:Nat)(Y:Int)(K:Int×Aw):Option (Bm (Int×Aw) (Aw)):= Option.bind (if Y<K.1 then((ix K.2 K.1).bind λZ=> (Ax (K.1 - 1)).bind λac=> (ix K.2 ac).bind λag=> (f113 fu_ Z ag).bind λal=> some (decide (al<0))) else(some false)) λam=> if am=true then((Ax (K.1 - 1)).bind λO=> (Ax (K.1 - 1)).bind λap=> (ix K.2 ap).bind λU=> (ix K.2 K.1).bind λaq=> (ix (K.2.set (Int.toNat K.1) U) O).bind λay=> (Ax (K.1 - 1)).bind λaw=> some (.more (aw,((K.2.set (Int.toNat K.1) U).set (Int.toNat O) aq)))) else(some (.done K.2))
def MY(fu_:Nat)(O:Int)(p2:Int)(K:Int×Aw):Option (Bm (Int×Aw) (Aw)):= if K.1<p2 then(Option.bind (iter (MQ fu_ O) fu_ K) λU=> (Ax (K.1+1)).bind λY=> some (.more (Y,U))) else(some (.done K.2))
def f193(fu_:Nat)(p0:Aw)(K:Int)(p2:Int):Option (Aw):= (Ax (K+1)).bind λO=> Option.bind (iter (MY fu_ K p2) fu_ (O,p0)) λU=> some U
theorem YZ{K:Nat}{U:Nat}{nw:Nat}{a6:Av_}{p0:Aw}{al:Int}{p2:Int}(hW:WL 27 As E K U nw a6 p0){fu_:Nat}{r:Aw}(bi:f193 fu_ p0 al p2=some r):AK J 193 [.slice (AX K) nw U,iV al,iV p2,(fV 113)] E [(K,.cells a6 27 (0,0))] (λw E' B'=>∃(bn:Av_),w= .tuple #[]/\B'= [(K,.cells bn 27 (0,0))]/\WL 27 As E' K U nw bn r):=by
 refine Bd func193 λQ cK cs H bH bI=>?_;unfold f193 at bi;obtain⟨cM,bJ,bK⟩:=bs bi;refine zg 3 rfl (Bt bJ rfl rfl rfl ?_);obtain⟨bL,bM,bN⟩:=bs bK;refine zg 2 rfl (Bq (λL s=>∃(a7:LH) (f17:Av_),Jn E H a7 [bX K f17 27] [] L s (WL 27 As a7 K U nw f17 bL)) ?_ ?_)
 ·rintro _ _ ⟨a7,f17,rfl,rfl,bO,bP,bQ⟩;obtain rfl:=oi bN;exact JL.fin (v:= .tuple #[]) rfl rfl (Bz.list func193 rfl (vs:= []) trivial) (bI bO rfl ⟨f17,rfl,(by first | rfl | simp | (simp [Value.cells])),bQ⟩ bP)
 ·intro bR;refine JL.block (CI bM (λL s ap=>∃(am:LH) (f25:Av_),Jn E H am [bX K f25 27] [(0,.slice (AX K) nw U),(1,iV al),(2,iV p2),(3,(fV 113)),(8,iV ap.1)] L s (WL 27 As am K U nw f25 ap.2)) ⟨E,a6,rfl,rfl,Ay,bH,hW⟩ ?_);rintro _ _ ap ⟨am,f25,rfl,rfl,bo,bq,br⟩ bS ⟨cN,a8⟩ bT;have bu:=a8;unfold MY at bu;refine zg 7 rfl (AT bu (λbU bV=>?_) (λbU bW=>?_))
  ·obtain⟨bv,bY,bZ⟩:=bs bV;refine zg 8 rfl (Bq (λL s=>∃(a2:LH) (f48:Av_),Jn am H a2 [bX K f48 27] [(0,.slice (AX K) nw U),(1,iV al),(2,iV p2),(3,(fV 113)),(8,iV ap.1)] L s (WL 27 As a2 K U nw f48 bv)) ?_ ?_)
   ·rintro _ _ ⟨a2,f48,rfl,rfl,b0,b1,b2⟩;obtain⟨b3,b4,b5⟩:=bs bZ;refine zg 3 rfl (Bt b4 rfl rfl rfl ?_);refine zg 2 rfl ?_;obtain rfl:=oi b5;exact AA (bT _ _ (b3,bv) ⟨a2,f48,rfl,rfl,(bo.Ad b0),b1,b2⟩ a8) rfl
   ·intro b6;refine JL.block (CI bY (λL s ag=>∃(az:LH) (f58:Av_),Jn am H az [bX K f58 27] [(0,.slice (AX K) nw U),(1,iV al),(2,iV p2),(3,(fV 113)),(8,iV ap.1),(9,iV ag.1)] L s (WL 27 As az K U nw f58 ag.2)) ⟨am,f25,rfl,rfl,Ay,bq,br⟩ ?_);rintro _ _ ag ⟨az,f58,rfl,rfl,bw,a0,O⟩ b7 ⟨cO,a9⟩ b8;have bx:=a9;unfold MQ at bx;refine zg 2 rfl (Ft 17 [K] ⟨⟨0,_,rfl⟩,trivial⟩ a0 λac=>?_);refine A6 ac rfl [0,1,2,3] rfl ?_;obtain⟨b9,bz,ca⟩:=bs bx;refine Fc 0 #[true,true,true,true,true,true,true,true,true,true,true,true,true,true,true,true,true] (λL s=>∃(a3:LH),Jm az H a3 [bX K f58 27] [(0,.slice (AX K) nw U),(1,iV al),(2,iV p2),(3,(fV 113)),(8,iV ap.1),(9,iV ag.1),(34,.bool b9)] L s) ?_ ?_
    ·rintro _ _ ⟨a3,rfl,rfl,aq,a4⟩;refine AJ.fin (by decide+kernel) (Cc ca (λcb cc=>?_) (λcb cd=>?_))
     ·refine zg 3 rfl (H3 [15,17] [K] mixed rfl ?_);refine Br 0 rfl rfl (Br 1 rfl rfl ?_);refine Br 2 rfl rfl (Br 3 rfl rfl ?_);obtain⟨bA,ce,cf⟩:=bs cc;refine Fj 4 true rfl rfl (λρ h s' bB=>DL (h _ _ rfl) (h _ _ rfl) ce) (Br 5 rfl rfl ?_);refine Br 6 rfl rfl ?_;obtain⟨cP,cg,ci⟩:=bs cf;refine Fj 7 true rfl rfl (λρ h s' bB=>DL (h _ _ rfl) (h _ _ rfl) cg) ?_;obtain⟨Y,bC,ck⟩:=bs ci;obtain⟨_,⟨_,_,rfl,rfl,⟨_,_,rfl,rfl,rfl⟩⟩,cm⟩:=WL.at (O.Ag aq) bC;refine JB.ix 8 O.2 bC underlying23 AV ?_;refine TT 9 [iV Y.1,iV Y.2.1,iV Y.2.2] 0 a4 cm Dm AV ?_;refine Br 10 rfl rfl (Br 11 rfl rfl ?_);obtain⟨Z,a5,cn⟩:=bs ck;obtain⟨_,⟨_,_,rfl,rfl,⟨_,_,rfl,rfl,rfl⟩⟩,co⟩:=WL.at (O.Ag aq) a5;refine JB.ix 12 O.2 a5 underlying23 AV ?_;refine TT 13 [iV Z.1,iV Z.2.1,iV Z.2.2] 0 a4 co Dm AV ?_;refine JB.ix 14 O.2 a5 underlying23 AV ?_;have a1:=WL.put (x':=Y) (ws':= [iV Y.1,iV Y.2.1,iV Y.2.2]) (O.Ag aq) O.2 a5 ⟨_,_,rfl,rfl,⟨_,_,rfl,rfl,rfl⟩⟩;refine ES 15 0 a4 AV a1.2 λcp=>?_;obtain⟨cQ,bb,cq⟩:=bs cn;obtain⟨_,⟨_,_,rfl,rfl,⟨_,_,rfl,rfl,rfl⟩⟩,cR⟩:=WL.at a1.1 bb;refine JB.ix 16 (a1.1).2 bb underlying23 AV ?_;have bD:=WL.put (x':=Z) (ws':= [iV Z.1,iV Z.2.1,iV Z.2.2]) a1.1 (a1.1).2 bb ⟨_,_,rfl,rfl,⟨_,_,rfl,rfl,rfl⟩⟩;refine ES 17 0 cp AV bD.2 λcr=>?_;refine JB.fin (by decide+kernel) ?_;obtain⟨ct,cu,cv⟩:=bs cq;refine zg 3 rfl (Cm cu rfl rfl rfl ?_);refine zg 2 rfl ?_;obtain rfl:=oi cv;exact AA (b8 _ _ (ct,((ag.2.set (Int.toNat ag.1) Y).set (Int.toNat bA) Z)) ⟨a3,(Be (Be f58 (Int.toNat (ag.1)*3) [iV Y.1,iV Y.2.1,iV Y.2.2]) (Int.toNat (bA)*3) [iV Z.1,iV Z.2.1,iV Z.2.2]),rfl,rfl,(bw.Ad aq),cr,bD.1⟩ a9) rfl
     ·refine JL.exit rfl ?_;obtain rfl:=oi cd;obtain rfl:=b7 _ a9;exact AA (b6 _ _ ⟨a3,f58,rfl,rfl,(bw.Ad aq),a4,(O.Ag aq)⟩) rfl
    ·intro bE;refine GC (q:=al<ag.1) (i:=21) rfl (λbe=>?_) (λbe=>?_)
     ·have cw:=ip bz be;refine A6 ac rfl [4,5,6] rfl ?_;obtain⟨aw,bF,cy⟩:=bs cw;obtain⟨_,⟨_,_,rfl,rfl,⟨_,_,rfl,rfl,rfl⟩⟩,cz⟩:=WL.at O bF;refine JG.ix 7 ac (O).2 bF underlying23 AV ?_;refine TH 8 ac [iV aw.1,iV aw.2.1,iV aw.2.2] 0 a0 cz Dm AV ?_;refine A6 ac rfl [9,10] rfl ?_;obtain⟨cT,cA,cB⟩:=bs cy;refine AP 11 ac rfl rfl (λρ h s' bB=>DL (h _ _ rfl) (h _ _ rfl) cA) ?_;obtain⟨ay,bG,cC⟩:=bs cB;obtain⟨_,⟨_,_,rfl,rfl,⟨_,_,rfl,rfl,rfl⟩⟩,cD⟩:=WL.at O bG;refine JG.ix 12 ac (O).2 bG underlying23 AV ?_;refine TH 13 ac [iV ay.1,iV ay.2.1,iV ay.2.2] 0 a0 cD Dm AV ?_;obtain⟨cV,cE,cF⟩:=bs cC;refine Jl (i:=14) ⟨⟨0,_,rfl⟩,trivial⟩ (vs:= [.agg #[iV aw.1,iV aw.2.1,iV aw.2.2],.agg #[iV ay.1,iV ay.2.1,iV ay.2.2]]) (S7 cE) (by decide+kernel) rfl rfl rfl rfl (A3 func113 rfl) rfl a0 ?_;rintro _ cG _ cH ⟨rfl,rfl⟩ cI;refine A6 ac rfl [15,16] rfl ?_;obtain rfl:=oi cF;refine CX ?_ (bE _ _ ⟨cG,rfl,rfl,cH,cI⟩);exact⟨rfl,rfl,rfl,rfl,rfl,rfl,rfl,trivial⟩
     ·have cJ:=im bz be;refine A6 ac rfl [4,5,6,7,8,9,10,11,12,13,14,15,16] rfl ?_;obtain rfl:=oi cJ;refine CX ?_ (bE _ _ ⟨az,rfl,rfl,Ay,a0⟩);exact⟨rfl,rfl,rfl,rfl,rfl,rfl,rfl,trivial⟩
  ·refine JL.exit rfl ?_;obtain rfl:=oi bW;obtain rfl:=bS _ a8;exact AA (bR _ _ ⟨am,f25,rfl,rfl,bo,bq,br⟩) rfl
def Pd(fu_:Nat)(p0:Aw)(K:Int)(p2:Int)(p3:Int)(Y:Unit):Option (Bm Unit ((Aw)⊕(Unit))):= (Ax (p2 - K)).bind λO=> if O<=12 then((f193 fu_ p0 K p2).bind λU=> some (.done (Sum.inl U))) else(if p3=0 then(none) else(none))
def f169(fu_:Nat)(p0:Aw)(K:Int)(p2:Int)(p3:Int):Option (Aw):= Option.bind (iter (Pd fu_ p0 K p2 p3) fu_ ()) λO=> Sum.elim (λr=>some r) (λU=> none) O
theorem YP{K:Nat}{O:Nat}{nw:Nat}{U:Av_}{p0:Aw}{Y:Int}{p2:Int}{p3:Int}(hW:WL 27 As E K O nw U p0){fu_:Nat}{r:Aw}(Z:f169 fu_ p0 Y p2 p3=some r):AK J 169 [.slice (AX K) nw O,iV Y,iV p2,iV p3,(fV 113)] E [(K,.cells U 27 (0,0))] (λw E' B'=>∃(ac:Av_),w= .tuple #[]/\B'= [(K,.cells ac 27 (0,0))]/\WL 27 As E' K O nw ac r):=by
 refine Bd func169 λQ bu cs H aq aw=>?_;unfold f169 at Z;obtain⟨bv,ay,az⟩:=bs Z;refine zg 8 rfl (Bq (λL s=>False) ?_ ?_)
 ·intro _ _ a0;exact a0.elim
 ·intro bw;refine JL.block (Di ay (λag=> [bX K U 27]) (λag=> [(0,.slice (AX K) nw O),(1,iV Y),(2,iV p2),(3,iV p3),(4,(fV 113)),(10,.bool true),(11,.bool true)]) Ay aq ?_);rintro ag bx al a1 a2 ⟨bz,am⟩ bA;have ap:=am;unfold Pd at ap;obtain⟨bB,a3,a4⟩:=bs ap;refine zg 5 rfl (Cm a3 rfl rfl rfl ?_);refine zg 8 rfl (AT a4 (λa5 a6=>?_) (λa5 a7=>?_))
  ·obtain⟨bC,a8,a9⟩:=bs a6;refine zg 6 rfl (Cv 0 (YZ (hW.Ag al) a8) rfl rfl (A3 func193 rfl) a1 rfl ?_);rintro _ bD _ bb ⟨f32,rfl,rfl,be⟩ bi;refine JL.done ?_;obtain rfl:=oi a9;obtain rfl:=a2 _ am;have bn:=elim_inl az;obtain rfl:=oi bn;exact AN func169 rfl rfl (aw (al.Ad bb) rfl ⟨f32,rfl,(by first | rfl | simp | (simp [Value.cells])),be⟩ bi)
  ·refine zg 7 rfl (AT a7 (λbo bq=>?_) (λbo br=>?_))
   ·refine zg 6 rfl ?_;cases bq
   ·refine zg 5 rfl (Am (v:= .bool false) rfl (λρ h=>Yl.not (c:=true) (h _ _ rfl)) ?_);refine zg 9 rfl ?_;cases br
def f130(fu_:Nat)(p0:Aw):Option (Aw):= (f115 fu_ (C5 (p0.length:Int))).bind λK=> (f169 fu_ p0 0 (p0.length:Int) K).bind λO=> some O
theorem Zx{K:Nat}{O:Nat}{nw:Nat}{U:Av_}{p0:Aw}(hW:WL 27 As E K O nw U p0){fu_:Nat}{r:Aw}(Y:f130 fu_ p0=some r):AK J 130 [.slice (AX K) nw O,(fV 113)] E [(K,.cells U 27 (0,0))] (λw E' B'=>∃(Z:Av_),w= .tuple #[]/\B'= [(K,.cells Z 27 (0,0))]/\WL 27 As E' K O nw Z r):=by
 refine Bd func130 λQ a2 cs H ag al=>?_;unfold f130 at Y;refine zg 3 rfl (Am (v:=iV (p0.length:Int)) rfl (λρ h=>Sk (hW).2 rfl underlying80 (h _ _ rfl)) ?_);refine zg 6 rfl (Am (v:= .int .u64 ((C5 (p0.length:Int):Nat):Int)) rfl (λρ h=>Yl.C5 underlying3 underlying136 (h _ _ rfl)) ?_);obtain⟨a3,am,ap⟩:=bs Y;refine Cn (Ni am) rfl rfl Me ag λa4 ac aq=>?_;obtain⟨a5,aw,ay⟩:=bs ap;refine zg 1 rfl (Cv 0 (YP (hW.Ag ac) aw) rfl rfl (A3 func169 rfl) aq rfl ?_);rintro _ a6 _ az ⟨f12,rfl,rfl,a0⟩ a1;refine JL.done ?_;obtain rfl:=oi ay;exact JL.fin (v:= .tuple #[]) rfl rfl (Bz.list func130 rfl (vs:= []) trivial) (al (ac.Ad az) rfl ⟨f12,rfl,(by first | rfl | simp | (simp [Value.cells])),a0⟩ a1)
def RG(fu_:Nat)(O:Int)(K:Int)(Y:Unit):Option (Bm Unit Unit):= Option.bind (if O<K then(none) else(some false)) λU=> if U=true then((Ax (K - 1)).bind λZ=> (Ax (K - 1)).bind λac=> none) else(some (.done ()))
def Rv(fu_:Nat)(O:Int)(p2:Int)(K:Int):Option (Bm Int Unit):= if K<p2 then(Option.bind (iter (RG fu_ O K) fu_ ()) λY=> (Ax (K+1)).bind λU=> some (.more U)) else(some (.done ()))
def PO(fu_:Nat)(K:Int)(p2:Int):Option Unit:= (Ax (K+1)).bind λO=> Option.bind (iter (Rv fu_ K p2) fu_ O) λU=> some ()
theorem Xw{U:Int}{p2:Int}{fu_:Nat}{r:Unit}(ac:PO fu_ U p2=some r):AK J 193 [nS,iV U,iV p2,(fV 113)] E [] (λw E' B'=>w= .tuple #[]/\B'= []):=by
 refine Bd func193 λQ bT cs H a1 a2=>?_;unfold PO at ac;obtain⟨bU,a3,a4⟩:=bs ac;refine zg 3 rfl (Bt a3 rfl rfl rfl ?_);obtain⟨bV,a5,a6⟩:=bs a4;refine zg 2 rfl (Ey [] [] (λbW a7 a8=>?_) (λa9=>?_))
 ·obtain rfl:=oi a6;exact JL.fin (v:= .tuple #[]) rfl rfl (Bz.list func193 rfl (vs:= []) trivial) (a2 a7 rfl ⟨rfl,rfl⟩ a8)
 ·refine JL.block (Di a5 (λK=> []) (λK=> [(0,.slice none 0 0),(1,iV U),(2,iV p2),(3,(fV 113)),(8,iV K)]) Ay a1 ?_);rintro K bY ag al bb ⟨bZ,Y⟩ be;have am:=Y;unfold Rv at am;refine zg 7 rfl (AT am (λbi bn=>?_) (λbi bo=>?_))
  ·obtain⟨b0,bq,br⟩:=bs bn;refine zg 8 rfl (Ey [] [(0,.slice none 0 0),(1,iV U),(2,iV p2),(3,(fV 113)),(8,iV K)] (λb1 bu bv=>?_) (λbw=>?_))
   ·obtain⟨bx,bz,bA⟩:=bs br;refine zg 3 rfl (Bt bz rfl rfl rfl ?_);refine zg 2 rfl ?_;obtain rfl:=oi bA;exact be bx (ag.Ad bu) bv rfl Y
   ·refine JL.block (Di bq (λap=> []) (λap=> [(0,.slice none 0 0),(1,iV U),(2,iV p2),(3,(fV 113)),(8,iV K),(9,iV K)]) Ay al ?_);rintro ap aq bB bC bD ⟨b2,aw⟩ b3;have ay:=aw;unfold RG at ay;refine zg 2 rfl (Ei 17 λO=>?_);refine A6 O rfl [0,1,2,3] rfl ?_;obtain⟨bE,az,bF⟩:=bs ay;refine Fc 0 #[true,true,true,true,true,true,true,true,true,true,true,true,true,true,true,true,true] (λL s=>∃(a0:LH),Jm aq H a0 [] [(0,.slice none 0 0),(1,iV U),(2,iV p2),(3,(fV 113)),(8,iV K),(9,iV K),(34,.bool bE)] L s) ?_ ?_
    ·rintro _ _ ⟨a0,rfl,rfl,bG,bH⟩;refine AJ.fin (by decide+kernel) (Cc bF (λbI bJ=>?_) (λbI bK=>?_))
     ·refine zg 3 rfl (Ei 16 λO=>?_);refine A6 O rfl [0,1,2,3] rfl ?_;obtain⟨b4,bL,bM⟩:=bs bJ;refine AP 4 O rfl rfl (λρ h s' bN=>DL (h _ _ rfl) (h _ _ rfl) bL) (A6 O rfl [5,6] rfl ?_);obtain⟨b5,bO,bP⟩:=bs bM;refine AP 7 O rfl rfl (λρ h s' bN=>DL (h _ _ rfl) (h _ _ rfl) bO) ?_;cases bP
     ·refine JL.exit rfl ?_;obtain rfl:=oi bK;obtain rfl:=bD _ aw;exact bw (bB.Ad bG) bH rfl
    ·intro bQ;refine GC (q:=U<K) (i:=21) rfl (λZ=>?_) (λZ=>?_)
     ·have bR:=ip az Z;refine A6 O rfl [4,5,6] rfl ?_;cases bR
     ·have bS:=im az Z;refine A6 O rfl [4,5,6,7,8,9,10,11,12,13,14,15,16] rfl ?_;obtain rfl:=oi bS;refine CX ?_ (bQ _ _ ⟨aq,rfl,rfl,Ay,bC⟩);exact⟨rfl,rfl,rfl,rfl,rfl,rfl,rfl,trivial⟩
  ·refine JL.exit rfl ?_;obtain rfl:=oi bo;obtain rfl:=bb _ Y;exact a9 ag al rfl
def RJ(fu_:Nat)(K:Int)(p2:Int)(p3:Int)(U:Unit):Option (Bm Unit ((Unit)⊕(Unit))):= (Ax (p2 - K)).bind λO=> if O<=12 then((PO fu_ K p2).bind λY=> some (.done (Sum.inl ()))) else(if p3=0 then(none) else(none))
def PL(fu_:Nat)(K:Int)(p2:Int)(p3:Int):Option Unit:= Option.bind (iter (RJ fu_ K p2 p3) fu_ ()) λO=> Sum.elim (λr=>some r) (λU=> none) O
theorem Xo{K:Int}{p2:Int}{p3:Int}{fu_:Nat}{r:Unit}(O:PL fu_ K p2 p3=some r):AK J 169 [nS,iV K,iV p2,iV p3,(fV 113)] E [] (λw E' B'=>w= .tuple #[]/\B'= []):=by
 refine Bd func169 λQ bi cs H ac ag=>?_;unfold PL at O;obtain⟨bn,al,am⟩:=bs O;refine zg 8 rfl (Bq (λL s=>False) ?_ ?_)
 ·intro _ _ ap;exact ap.elim
 ·intro bo;refine JL.block (Di al (λU=> []) (λU=> [(0,.slice none 0 0),(1,iV K),(2,iV p2),(3,iV p3),(4,(fV 113)),(10,.bool true),(11,.bool true)]) Ay ac ?_);rintro U bq aq aw ay ⟨br,Y⟩ bu;have Z:=Y;unfold RJ at Z;obtain⟨bv,az,a0⟩:=bs Z;refine zg 5 rfl (Cm az rfl rfl rfl ?_);refine zg 8 rfl (AT a0 (λa1 a2=>?_) (λa1 a3=>?_))
  ·obtain⟨bw,a4,a5⟩:=bs a2;refine zg 6 rfl (Cn (Xw a4) rfl rfl (A3 func193 rfl) aw λbx a6 a7=>?_);refine JL.done ?_;obtain rfl:=oi a5;obtain rfl:=ay _ Y;have a8:=elim_inl am;obtain rfl:=oi a8;exact AN func169 rfl rfl (ag (aq.Ad a6) rfl ⟨rfl,rfl⟩ a7)
  ·refine zg 7 rfl (AT a3 (λa9 bb=>?_) (λa9 be=>?_))
   ·refine zg 6 rfl ?_;cases bb
   ·refine zg 5 rfl (Am (v:= .bool false) rfl (λρ h=>Yl.not (c:=true) (h _ _ rfl)) ?_);refine zg 9 rfl ?_;cases be
def T0(fu_:Nat):Option Unit:= (f115 fu_ (C5 ((0:Nat):Int))).bind λK=> (PL fu_ 0 ((0:Nat):Int) K).bind λO=> some ()
theorem Xy{fu_:Nat}{r:Unit}(K:T0 fu_=some r):AK J 130 [nS,(fV 113)] E [] (λw E' B'=>w= .tuple #[]/\B'= []):=by
 refine Bd func130 λQ aw cs H O U=>?_;unfold T0 at K;refine zg 3 rfl (JL.ln underlying80 rfl rfl rfl ?_);refine zg 6 rfl (Am (v:= .int .u64 ((C5 ((0:Nat):Int):Nat):Int)) rfl (λρ h=>Yl.C5 underlying3 underlying136 (h _ _ rfl)) ?_);obtain⟨ay,Y,Z⟩:=bs K;refine Cn (Ni Y) rfl rfl Me O λaz ac ag=>?_;obtain⟨a0,al,am⟩:=bs Z;refine zg 1 rfl (Cn (Xo al) rfl rfl (A3 func169 rfl) ag λa1 ap aq=>?_);refine JL.done ?_;obtain rfl:=oi am;exact JL.fin (v:= .tuple #[]) rfl rfl (Bz.list func130 rfl (vs:= []) trivial) (U (ac.Ad ap) rfl ⟨rfl,rfl⟩ aq)
theorem XC{J:Judge Tryz.prog}{E:LH}{a:An}{c:Nat}{g:Seg}{p0:Aw}(Y:OL 27 As E a c g p0){fu_:Nat}{r:Aw}(K:f130 fu_ p0=some r):
  AK J 130 [.slice a p0.length c,.func (.func 113) #[] #[]] E g (λw E' B'=>w= .tuple #[]/\OL 27 As E' a c B' r/\r.length=p0.length):=by
 rcases Y.cases with⟨rfl,rfl,rfl,rfl⟩ | ⟨bk,f,rfl,rfl,hW⟩
 ·have Z:r= []:=by
   cases fu_ with
   | zero=>exact absurd K (by simp [f130,f169,f193,iter])
   | succ fu_=>
    cases fu_ with
    | zero=>exact(Option.some.inj (K.symm.trans (by rfl:f130 1 []=some []))).trans rfl
    | succ fu_=>exact(Option.some.inj (K.symm.trans (by rfl:f130 (fu_+2) []=some []))).trans rfl
  subst Z;refine(Xy (fu_:=10) (r:=()) rfl).Ag ?_;rintro w E' B' hle ⟨O,rfl⟩;exact⟨O,OL.nil,rfl⟩
 ·refine(Zx hW K).Ag ?_;rintro w E' B' hle ⟨ac,O,rfl,U⟩;exact⟨O,U.1,U.2⟩
def f90(fu_:Nat)(p0:Aw):Option (Aw):= (f129 fu_ p0).bind λK=> (f130 fu_ K).bind λO=> some O
theorem TE{a1:An}{c2:Nat}{p0:Aw}(al:Al As E a1 c2 p0){fu_:Nat}{r:Aw}(Z:f90 fu_ p0=some r):AK J 90 [sV a1 p0 c2] E [] (λw E' B'=>∃(ac:An) (ag:Nat),w= sV ac r ag/\B'= []/\Al As E' ac ag r):=by
 refine Bd func90 λQ bb cs H am ap=>?_;unfold f90 at Z;obtain⟨be,aq,aw⟩:=bs Z;refine zg 7 rfl (BU (Zk al aq) rfl rfl (A3 func129 rfl) am ?_);rintro _ bi bn ay ⟨K,O,_,rfl,rfl,az⟩ a0;obtain⟨U,a2,a3⟩:=bs aw;refine zg 5 rfl (Cv 1 (XC az a2) rfl rfl (A3 func130 rfl) a0 rfl ?_);rintro _ bo bq a4 ⟨rfl,a5,Y⟩ a6;refine EO (L':= [(6,.tuple #[]),(0,.slice K U.length O),(2,.slice none 0 0),(3,.slice a1 p0.length c2),(4,.slice K U.length O),(5,.slice K U.length O)]) ⟨rfl,by rw [Y];rfl,rfl,rfl,by rw [Y];rfl,by rw [Y];rfl,trivial⟩ ?_;refine zg 6 rfl (BJ 1 a5 a6 rfl λbr a7 a8 a9=>?_);obtain rfl:=oi a3;exact AN func90 rfl rfl (ap ((ay.Ad a4).Ad a7) rfl ⟨K,O,rfl,rfl,a8⟩ a9)
end Pal
namespace Pal
open Go Go.Conc
section
variable {P:Program}{J:Judge P}{Q:Gs_}{b:Frame}{n:Nat}{ds:Ld_}{ops:Ao_}{k:Li_}{cs:Lf_}{m fuel:Nat}{listed:Array Bool}{L:Env}{s:St}{E H:LH}{S:List Seg}
variable {d:Option Tmp}{x y:Operand}{t ty e:TypeId}{p:String}{af:Ae_}{g:On_}{v:Value}{i:Nat}
theorem Take.y0{oi:Oper}(hi:ops[i]? =some oi)(K:(!Dw oi.op&&Bf n oi.dst)=true)(hw:AL L ops oi=some true)(O:∀ρ,EP L ρ->Yl P oi ρ s v)
  (h:AJ J Q b n ds ops k cs m CB fuel (A8 listed i) (Av L oi.dst v) s):Take J Q b n ds ops k cs m CB fuel listed L s i:=
 Take.Jd hi K hw λρ U=>by
  have:=O ρ U
  unfold Yl at this
  refine En _ this ?_ (λ_ _ h=>h)
  rintro Y s' ⟨rfl,rfl⟩
  exact h
end
end Pal
namespace Pal
open Go Go.Conc
def Gw{P:Program}(J:Judge P)(f:FuncId)(args:Lv_)(E:LH)(B:Seg)(p:Bool)(pv:Value)(R:Value->LH->Seg->Prop):Prop:=
 ∀(Q:Gs_) (bc:Frame) (Tc:Av_) (dsc:Ld_) (K:Li_) (cs:Lf_) (H:LH),Nd E H B->
  (p=false->∀v E' B',Le E E'->R v E' B'->Nd E' H B'->J.ok Q (G ((fr bc Tc dsc K).finish v) cs) (mk E' H B'))->
  (p=true->∀E' B',Le E E'->Nd E' H B'->J.ok Q (G (GY bc Tc dsc K (raised pv)) cs) (mk E' H B'))->
  J.ok Q (G (Frame.enter P f args.toArray .normal) (fr bc Tc dsc K::cs)) (mk E H B)
section
variable {P:Program}{J:Judge P}{Q:Gs_}{b bc:Frame}{n:Nat}{L:Env}{ds dsc:Ld_}{k:Li_}{cs:Lf_}{E H:LH}{S:List Seg}{i:Nat}{rest:List Nat}{d:Option Tmp}{ty e t:TypeId}{pp:String}{af:Ae_}{g:On_}{ops:Ao_}{pv:Value}
theorem Gw.enter{f:FuncId}{fn:Func}{c:Code}{vs:Lv_}{B:Seg}{R:Value->LH->Seg->Prop}{p:Bool}(ac:P.funcs[f]? =some fn)(hb:fn.body=some c)(az:vs.length<=fn.ntmps)
  (h:∀(Q:Gs_) (bc:Frame) (Tc:Av_) (dsc:Ld_) (O:Li_) (cs:Lf_) (H:LH),Ap E H [B]->
   (p=false->∀v E' S' B',Le E E'->S'.flatten=B'->R v E' B'->Ap E' H S'->J.ok Q (G ((fr bc Tc dsc O).finish v) cs) (Ak E' H S'))->
   (p=true->∀E' S',Le E E'->Ap E' H S'->J.ok Q (G (GY bc Tc dsc O (raised pv)) cs) (Ak E' H S'))->
   JL J Q (base f) fn.ntmps (Ga 0 vs) [] [.code c] (fr bc Tc dsc O::cs) (Ak E H [B])):Gw J f vs E B p pv R:=λQ bc Tc dsc O cs H ag al K=>by
 have he:Frame.enter P f vs.toArray .normal=fr (base f) (vs.toArray++Array.replicate (fn.ntmps - vs.length) undef) [] [.code c]:=by
  simp [Frame.enter,fr,ac,hb,base];rfl
 have am:mk E H B=Ak E H [B]:=by unfold Ak;simp
 rw [he,am];refine h Q bc Tc dsc O cs H (by unfold Ap;simpa using ag) (λU v E' S' B' hle ap aq Y=>?_) (λU E' S' hle Y=>?_) _ ⟨by simp;omega,λt v aw=>?_⟩
 ·subst ap;exact al U v E' S'.flatten hle aq Y
 ·exact K U E' S'.flatten hle Y
 ·obtain⟨_,K⟩:=Jj aw;have ay:t<vs.length:=by
   rcases Nat.lt_or_ge t vs.length with Z | Z
   ·exact Z
   ·simp at K;have:=(List.getElem?_eq_some_iff.1 K).1;omega
  rw [Array.getD_eq_getD_getElem?,Array.getElem?_append_left (by simpa using ay)];simp at K;simp [K]
theorem V6{x:Operand}{f:FuncId}{caps:Lv_}{args:Array Operand}{ats:Array TypeId}{s:St}{vs:Lv_}(hb:DO P f=true)
  (U:ops[i]? =some ⟨d,.call ⟨.value x,args,ats⟩,ty,pp,af,g⟩) (hw:AL L ops ⟨d,.call ⟨.value x,args,ats⟩,ty,pp,af,g⟩=some true) (O:((b.kind != .early)&&Bf n d)=true)
  (Y:ev L x=some (.func (.func f) #[] caps.toArray)) (Z:evs L args.toList=some vs)
  (h:∀T,Has n L T->J.ok Q (G (Frame.enter P f (vs++caps).toArray .normal) (fr b T ds (.inRegion ops (i::rest)::k)::cs)) s):
  JL J Q b n L ds (.inRegion ops (i::rest)::k) cs s:=λT K=>by
 simp only [Bool.and_eq_true] at O
 have ac:args.map (BB T)=vs.toArray:=by
  rw [← Gn K.F0 Z];apply Array.ext';simp
 refine Judge.oper U (B6 K hw) (by simpa using O.1) (.inr λc ag=>by cases ag) ?_;have hd:lp P (execOp (BB T) ⟨d,.call ⟨.value x,args,ats⟩,ty,pp,af,g⟩) s (upon J Q b T ds ops i rest k cs d) (K2 J Q b T ds ops i rest k cs):=by
  have al:execOp (BB T) ⟨d,.call ⟨.value x,args,ats⟩,ty,pp,af,g⟩=(do let d ← Deferred.ofValue (.func (.func f) #[] caps.toArray) vs.toArray;invoke d.target d.args):=by
   simp only [execOp,resolve,ac,K.F0 _ _ Y]
  rw [al];simp only [Deferred.ofValue,bind,Sem.bind,pure,invoke];have e: #[]++vs.toArray++caps.toArray=(vs++caps).toArray:=by simp
  rw [e];exact IT hb (h T K)
 exact hd
theorem Vy{f:FuncId}{args:Array Operand}{ats:Array TypeId}{s:St}{vs:Lv_}(hb:DO P f=true)
  (U:ops[i]? =some ⟨d,.call ⟨.value (.func f),args,ats⟩,ty,pp,af,g⟩) (hw:AL L ops ⟨d,.call ⟨.value (.func f),args,ats⟩,ty,pp,af,g⟩=some true) (O:((b.kind != .early)&&Bf n d)=true)
  (Y:evs L args.toList=some vs)
  (h:∀T,Has n L T->J.ok Q (G (Frame.enter P f vs.toArray .normal) (fr b T ds (.inRegion ops (i::rest)::k)::cs)) s):
  JL J Q b n L ds (.inRegion ops (i::rest)::k) cs s:=λT K=>by
 simp only [Bool.and_eq_true] at O
 have Z:args.map (BB T)=vs.toArray:=by
  rw [← Gn K.F0 Y];apply Array.ext';simp
 refine Judge.oper U (B6 K hw) (by simpa using O.1) (.inr λc ac=>by cases ac) ?_;have hd:lp P (execOp (BB T) ⟨d,.call ⟨.value (.func f),args,ats⟩,ty,pp,af,g⟩) s (upon J Q b T ds ops i rest k cs d) (K2 J Q b T ds ops i rest k cs):=by
  simp only [execOp,resolve,bind,Sem.bind,Deferred.ofValue,BB,pure,invoke];have e: #[]++args.map (BB T)++ #[]=vs.toArray:=by rw [Z];simp
  rw [e];exact IT hb (h T K)
 exact hd
theorem XI{g:Frame}{s:St}(O:s.q=false)(h:(∃w,Fits s w)->J.ok Q (G g cs) s):J.ok Q (G g cs) s:=by
 by_cases K:∃w,Fits s w
 ·exact h K
 ·exact J.step ⟨rfl,λw f=>absurd ⟨w,f⟩ K,λe=>by subst e;cases O⟩
theorem Gw.use{f:FuncId}{vs:Lv_}{B:Seg}{R:Value->LH->Seg->Prop}{p:Bool}{Tc:Av_}{Y:Li_}(j:Nat)(ap:Gw J f vs E B p pv R)(ac:Ap E H S)(ag:S[j]? =some B)
  (Z:p=false->∀v E' B',Le E E'->R v E' B'->Ap E' H (S.set j B')->J.ok Q (G ((fr bc Tc dsc Y).finish v) cs) (Ak E' H (S.set j B')))
  (aq:p=true->∀E' B',Le E E'->Ap E' H (S.set j B')->J.ok Q (G (GY bc Tc dsc Y (raised pv)) cs) (Ak E' H (S.set j B'))):
  J.ok Q (G (Frame.enter P f vs.toArray .normal) (fr bc Tc dsc Y::cs)) (Ak E H S):=by
 have K:S.flatten.Perm (B++(S.set j []).flatten):=(Em (seg':=B) ag).1.trans List.perm_append_comm;have al:Nd E H (B++(S.set j []).flatten):=Nd.perm ac K;have aw:Ak E H S=mk E (Bi (S.set j []).flatten H) B:=by
  rw [show Ak E H S=mk E H S.flatten from rfl,Fg ac K];unfold mk;rw [FW]
 have ay:Nd E H (S.set j []).flatten:=by
  have:=al;rw [Nd.iff] at this ⊢;rw [List.map_append,List.nodup_append] at this;exact⟨this.1.2.1,λq az=>this.2 q (List.mem_append_right _ az)⟩
 have back:∀(g:Frame) (E':LH) (B':Seg),Le E E'->Nd E' (Bi (S.set j []).flatten H) B'->(Ap E' H (S.set j B')->J.ok Q (G g cs) (Ak E' H (S.set j B')))->J.ok Q (G g cs) (mk E' (Bi (S.set j []).flatten H) B'):=λg E' B' hle U a0=>by
  have e2:mk E' (Bi (S.set j []).flatten H) B'=mk E' H (B'++(S.set j []).flatten):=by unfold mk;rw [FW]
  refine XI rfl λ⟨w,a1⟩=>?_;have a2:Nd E' H (S.set j []).flatten:=ay.grow λx a3=>by
   have a4:=a1.d x a3;have Z:Bi B' (Bi (S.set j []).flatten H) x=none:=a4;exact(HT Z).1
  have O:Nd E' H (B'++(S.set j []).flatten):=Nd.glue U a2;rw [e2];have am:(B'++(S.set j []).flatten).Perm (S.set j B').flatten:=List.perm_append_comm.trans (Em ag).2.symm;rw [Fg O am];exact a0 (Nd.perm O am)
 rw [aw];refine ap Q bc Tc dsc Y cs _ (Nd.front al) (λK v E' B' hle a5 U=>back _ E' B' hle U λO=>Z K v E' B' hle a5 O) (λK E' B' hle U=>back _ E' B' hle U λO=>aq K E' B' hle O)
theorem Q1{x:Operand}{f:FuncId}{caps:Lv_}{args:Array Operand}{ats:Array TypeId}{vs:Lv_}{seg:Seg}{R:Value->LH->Seg->Prop}{p:Bool}(j:Nat)(hb:DO P f=true)
  (ac:Gw J f (vs++caps) E seg p pv R) (Y:ops[i]? =some ⟨d,.call ⟨.value x,args,ats⟩,ty,pp,af,g⟩) (hw:AL L ops ⟨d,.call ⟨.value x,args,ats⟩,ty,pp,af,g⟩=some true) (K:((b.kind != .early)&&Bf n d)=true)
  (ag:ev L x=some (.func (.func f) #[] caps.toArray)) (al:evs L args.toList=some vs) (am:Ap E H S) (ap:S[j]? =some seg)
  (aq:p=true->∀E' seg',Le E E'->Ap E' H (S.set j seg')->JP J Q b n L ds cs (raised pv) (Ak E' H (S.set j seg')))
  (aw:p=false->∀v E' seg',Le E E'->R v E' seg'->Ap E' H (S.set j seg')->JL J Q b n (Av L d v) ds (.inRegion ops rest::k) cs (Ak E' H (S.set j seg'))):
  JL J Q b n L ds (.inRegion ops (i::rest)::k) cs (Ak E H S):=
 V6 hb Y hw K ag al λT Z=>Gw.use j ac am ap
  (λO v E' B' hle ay U=>by
   rw [Gm (o:=⟨d,.call ⟨.value x,args,ats⟩,ty,pp,af,g⟩) _ _ _ _ _ Y]
   simp only [Bool.and_eq_true] at K
   exact aw O v E' B' hle ay U _ (Z.put K.2 v))
  (λO E' B' hle U=>aq O E' B' hle U T Z _)
theorem Vv{f:FuncId}{args:Array Operand}{ats:Array TypeId}{vs:Lv_}{seg:Seg}{R:Value->LH->Seg->Prop}{p:Bool}(j:Nat)(hb:DO P f=true)
  (ac:Gw J f vs E seg p pv R) (Y:ops[i]? =some ⟨d,.call ⟨.value (.func f),args,ats⟩,ty,pp,af,g⟩) (hw:AL L ops ⟨d,.call ⟨.value (.func f),args,ats⟩,ty,pp,af,g⟩=some true) (K:((b.kind != .early)&&Bf n d)=true)
  (ag:evs L args.toList=some vs) (al:Ap E H S) (am:S[j]? =some seg)
  (ap:p=true->∀E' seg',Le E E'->Ap E' H (S.set j seg')->JP J Q b n L ds cs (raised pv) (Ak E' H (S.set j seg')))
  (aq:p=false->∀v E' seg',Le E E'->R v E' seg'->Ap E' H (S.set j seg')->JL J Q b n (Av L d v) ds (.inRegion ops rest::k) cs (Ak E' H (S.set j seg'))):
  JL J Q b n L ds (.inRegion ops (i::rest)::k) cs (Ak E H S):=
 Vy hb Y hw K ag λT Z=>Gw.use j ac al am
  (λO v E' B' hle aw U=>by
   rw [Gm (o:=⟨d,.call ⟨.value (.func f),args,ats⟩,ty,pp,af,g⟩) _ _ _ _ _ Y]
   simp only [Bool.and_eq_true] at K
   exact aq O v E' B' hle aw U _ (Z.put K.2 v))
  (λO E' B' hle U=>ap O E' B' hle U T Z _)
theorem WO{ρ:Operand->Value}{x y z1:Operand}{s:St}{p:String}{a:Option Addr}{l c K m:Nat}{hi:Int}(O:∀ad,a=some ad->ad.spot=none∨c=0)(U:m<=c)(he:hi=(m:Int))(Y:P.underlying t=some (.slice e))(Z:Bl P e=some K)(ac:ρ x= .slice a l c)(ag:ρ y=iV hi)(al:ρ z1=iV hi):
  Yl P ⟨d,.slice t x none (some y) (some z1),ty,p,af,g⟩ ρ s (.slice a m m):=by
 subst he;have h:=Yl.slice (P:=P) (s:=s) (d:=d) (ty:=ty) (p:=p) (af:=af) (g:=g) (olo:=none) (ohi:=some y) (omx:=some z1) (lo:=0) (hi:=m) (mx:=m) Y Z ac al ag rfl U (Nat.le_refl _) (Nat.zero_le _);have am:(if m=0 then a else a.map (·.add (0*K)))=a:=by
  split
  ·rfl
  ·cases a with
   | none=>rfl
   | some ad=>
    have:=(O ad rfl).resolve_right (by omega);simp only [Option.map_some,Nat.zero_mul];rw [Ec this];obtain⟨b,o,sp⟩:=ad;simp only at this;subst this;simp
 rw [am] at h;simpa using h
theorem Al.ZS{α:Type}{q:Rp α}{a:Option Addr}{c:Nat}{xs ys:List α}{hi:Int}(U:Al q E a c xs)(hC:HH xs 0 hi=some ys):Al q E a c ys/\ys.length<=c/\hi=(ys.length:Int):=by
 unfold HH at hC;split at hC
 rotate_left
 ·cases hC
 rename_i hb;obtain⟨Z,ac,ag⟩:=hb;cases hC;have al:=U.1;have hlen:(((xs.take hi.toNat).drop (0:Int).toNat)).length=hi.toNat:=by simp;omega
 refine⟨⟨by rw [hlen];omega,?_⟩,by rw [hlen];omega,by rw [hlen];omega⟩;rcases U.2 with⟨h,O⟩ | ⟨bk,off,Y,O⟩
 ·exact .inl ⟨by rw [h];simp,O⟩
 ·refine .inr ⟨bk,off,Y,λi x K=>O i x ?_⟩;simp only [Int.toNat_zero,List.drop_zero] at K;rw [List.getElem?_take] at K;split at K
  ·exact K
  ·cases K
theorem Take.Rg{m fuel:Nat}{listed:Array Bool}{x y:Operand}{p:String}{α:Type}{q:Rp α}{t1:TypeId}{Y c cx:Nat}{a ax:Option Addr}{xs ys Z:List α}{ats:Array TypeId}{z:Value}(U:C4 xs ys=some Z)
  (ay:ops[i]? =some ⟨d,.call ⟨.builtin .append,#[x,y],ats⟩,ty,p,af,g⟩) (hw:AL L ops ⟨d,.call ⟨.builtin .append,#[x,y],ats⟩,ty,p,af,g⟩=some true) (az:Bf n d=true)
  (a0:ev L x=some (.slice a xs.length xs.length)) (a1:ev L y=some (.slice ax ys.length cx)) (a2:ats[0]? =some t) (a3:ats[1]? =some t1) (a4:P.underlying t=some (.slice e)) (a5:P.underlying t1=some (.slice e)) (a6:Bl P e=some q.n) (hb:Fw P e=some Y) (a7:zeroOf P e=some z) (a8:z.cells.size=q.n)
  (a9:0<Y) (bb:Y<=64) (ac:Al q E a c xs) (be:Al q E ax cx ys) (ag:Ap E H S)
  (h:∀E' al K,Le E E'->Al q E' al K Z->Ap E' H (S++ [[]])->AJ J Q b n ds ops k cs m CB fuel (A8 listed i) (Av L d (.slice al Z.length K)) (Ak E' H (S++ [[]]))):
  Take J Q b n ds ops k cs m CB fuel listed L (Ak E H S) i:=by
 unfold C4 at U;split at U
 rotate_left
 ·cases U
 rename_i bi;cases U;obtain⟨wss,am,bn,bo,bI⟩:=Al.KV (H:=H) (B:=S.flatten) ac.full;obtain⟨bq,br,bu,bv,bw⟩:=Al.KV (H:=H) (B:=S.flatten) be;have hlen:(xs++ys).length=xs.length+ys.length:=by simp
 show Take J Q b n ds ops k cs m CB fuel listed L (mk E H S.flatten) i;refine Take.Jd ay (by simp [Dw,az]) hw λρ ap=>?_;rw [Ln,ap x _ a0,ap y _ a1];refine Au _ _ (Qh a2 a3 a5 a4 a6 hb a7 a8 ag bo bv bw a9 bi bb ?_ ?_)
 ·intro hm;have bx:ys= []:=List.eq_nil_of_length_eq_zero hm;subst bx;have bz:Ap E H (S++ [[]]):=by unfold Ap at*;rw [GD,List.append_nil];exact ag
  have bA:mk E H S.flatten=Ak E H (S++ [[]]):=by unfold Ak;rw [GD,List.append_nil]
  rw [bA];have:=h E a xs.length (Le.refl _) (by rw [List.append_nil];exact ac.full) bz;rw [hlen] at this;exact this
 ·intro r O K bB bC bD bE;have bF:OL e q E (some ⟨r,0,none⟩) K [(r,.cells O e (0,0))] (xs++ys):=
   ⟨wss++bq,.inr ⟨r,O,rfl,rfl,bC,by rw [hlen];exact bB,by rw [hlen,List.flatten_append];exact bD.symm⟩,by simp [am,br],Mv am bn bu⟩
  have aq:=Fe (S:=S) (seg:= [(r,.cells O e (0,0))]) bE;show AJ J Q b n ds ops k cs m CB fuel _ _ (mk E H (S.flatten++ [(r,.cells O e (0,0))]));rw [aq.1];refine F7 S.length bF aq.2 (by simp) λE' hle bG aw=>?_;have bH:(S++ [[(r,Obj.cells O e (0,0))]]).set S.length []=S++ [[]]:=I2 _ _ _ _;rw [bH] at aw ⊢;have:=h E' (some ⟨r,0,none⟩) K hle bG aw;rw [hlen] at this;exact this
theorem Us{ρ:Operand->Value}{x:Operand}{s:St}{p:String}{v:Value}{xt t1:TypeId}{f1:Array Field}(K:P.underlying t1=some (.struct f1))(O:ρ x= .iface t1 v):Yl P ⟨d,.typeAssert x xt t1 true,ty,p,af,g⟩ ρ s (.tuple #[v,.bool true]):=by
 refine FV (sm:=Instr.typeAssert (ρ x) xt t1 true) rfl ?_;rw [O];unfold Instr.typeAssert;refine Au _ _ (Co K ?_);simp [lp,pure]
theorem Uv{ρ:Operand->Value}{x:Operand}{s:St}{p:String}{z:Value}{xt t1:TypeId}{f1:Array Field}(K:P.underlying t1=some (.struct f1))(O:zeroOf P t1=some z)(U:ρ x= .nilIface):Yl P ⟨d,.typeAssert x xt t1 true,ty,p,af,g⟩ ρ s (.tuple #[z,.bool false]):=by
 refine FV (sm:=Instr.typeAssert (ρ x) xt t1 true) rfl ?_;rw [U];unfold Instr.typeAssert;refine Au _ _ (Co K ?_);exact Au (x:=zeroValue t1) _ (G2 O ⟨rfl,rfl⟩)
end
end Pal
