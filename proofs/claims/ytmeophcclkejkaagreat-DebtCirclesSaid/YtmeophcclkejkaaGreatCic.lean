/- DebtCircles: a part (3 of 9) of the proof of its row. -/
import Derived.Test.YtmeophcclkejkaaGreatCia
import Derived.Test.YtmeophcclkejkaaGreatCib
import Derived.Test.YtmeophcclkejkaaGreatRows
import Derived.Test.YtmeophcclkejkaaGreatChecked
import Derived.Conc.LeavingOf
import Derived.Conc.HoldsTime
import Derived.Carry
import Derived.ChangeSame
import Derived.ChangeVars
import Derived.ChangeSlices
import Derived.JoinedOf
import Derived.RowKit
import Derived.Deep.Strs
import Derived.Stop.Joined
import Derived.Test.YtmeophcclkejkaaGreatProg
set_option linter.all false
set_option maxRecDepth 100000
namespace Pal
open Go Go.Conc
open Go.ConcN (sumTo upd sumTo_upd upd_ne upd_same)
def LW(P:Program)(R:Value->St->Prop):GP:=λg s=>
 g.status= .running/\∃v,R v s/\∀w,stepG P true g w= .ended (.done v) w #[]
section
variable {P:Program}{R:Value->St->Prop}{J:Judge P}{n:Nat}{L:Env}{s:St}{b:Frame}
theorem JO.end{fn:Func}{t:Tmp}{v:Value}(K:b.kind= .normal)(hi:P.inits.idxOf? b.fn=none)(O:P.funcs[b.fn]? =some fn)(U:fn.results= #[.tmp t])(Y:look L t=some v)(Z:R v s):JO J (LW P R) b n L [] [] s:=λT ac todo=>by
 refine J.stop ⟨rfl,v,Z,λw=>?_⟩
 have e:results fn T=Sem.pure v:=by
  have:=ac.at_ t v Y;simp only [results,U,Array.mapM_eq_mapM_toList];show Sem.pure (T.getD t undef)=_;rw [this]
 have ag:(results fn T).run P w= .ok v w:=by rw [e];rfl
 have e2:(results fn T).events P w #[]= #[]:=by rw [e];simp [Sem.events_pure']
 simp [G,stepG,unwind,Ey,O,ag,e2,doReturn,K,GStep.after,hi,seen_none]
end
section
variable {P:Program}{R:Value->St->Prop}
def After(P:Program)(R:Value->St->Prop)(K:World)(s₀:St)(v:Value)(w':World):Prop:=
 ∃s,R v s/\Fits s w'/\(∀b o,s₀.E b=some o->s.E b=some o)/\w'.tape=K.tape/\Gt K.os w'.os/\w'.output=K.output
def Qy(P:Program)(R:Value->St->Prop)(K:World)(s₀:St)(O:Nat)(m:Machine)(t:Trace):Prop:=
 ∃gs w sl q Sh g s,m=crowd gs w sl/\Hr P gs w t q Sh g s/\LW P R g s/\O=sumTo gs.size q/\(∀b o,s₀.E b=some o->s.E b=some o)/\w.tape=K.tape/\Gt K.os w.os/\w.output=K.output
theorem WQ{ap:World}{s₀:St}(a1:Nat)(m:Machine)(t:Trace)(h:Qy P R ap s₀ a1 m t):
  (∃o w ops,stepT P m=(.ended o w,ops)/\Good P (After P R ap s₀) m o w (t++ops))∨(∃m' ops a2,stepT P m=(.next m',ops)/\a2<a1/\Qy P R ap s₀ a2 m' (t++ops)):=by
 obtain⟨gs,w,sl,q,Sh,g,s,rfl,hC,bw,rfl,a3,a4,a5,a6⟩:=h;obtain⟨ac,v,a7,a8⟩:=bw;have b0:∀x∈gs,awake x:=by
  intro x Y;obtain⟨i,hi,rfl⟩:=Array.mem_iff_getElem.1 Y;rcases Nat.eq_zero_or_pos i with rfl | aq
  ·have:gs[0]=g:=by simpa [Array.getElem?_eq_getElem hi] using hC.main
   rw [this];exact awake_of (.inl ac)
  ·exact awake_of ((hC.lv.old i _ aq (Array.getElem?_eq_getElem hi)).status.elim .inl λx=> .inr (.inr x))
 obtain⟨i,x,d,a9,hi,Y,bb⟩:=crowd_pick (P:=P) (w:=w) (sl:=sl) b0 ⟨0,g,hC.main,ac⟩;have be:=hC.at_ d;have b1:0<gs.size:=(Array.getElem?_eq_some_iff.1 hC.main).1;have b2:∀(a:Nat) (fn:FuncId) (pos:String),MemOp.ofEvents a fn pos #[]= #[]:=λa fn pos=>by rw [ofEvents_eq];simp
 rcases Nat.eq_zero_or_pos i with rfl | aq
 ·obtain rfl:x=g:=by rw [hC.main] at hi;exact(Option.some.inj hi).symm
  have ag:=runT_many_ended (P:=P) (sl:=a9) (i:=0) hi (show stepG P (0==0) x (w.at d)=_ from a8 (w.at d));rw [b2] at ag;refine .inl ⟨_,_,_,bb.trans ag,v,rfl,⟨s,a7,be.Ck.fits 0 b1,a3,a4,a5,a6⟩,?_,?_,⟨λy K=>?_,rfl⟩,λj y K O=>?_⟩
  ·simpa using hC.Ck.clean
  ·simpa using hC.over
  ·obtain⟨j,O⟩:=List.mem_iff_getElem?.1 K;rw [List.getElem?_drop] at O;exact⟨_,(hC.lv.old (1+j) y (by omega) (by simpa [crowd] using O)).leaves⟩
  ·have Z:=hC.lv.old j y (by omega) K;exact⟨q j,by simp only [Array.append_empty];exact Z.hears w⟩
 ·have Z:=hC.lv.old i x aq hi;have b3:(i==0)=false:=by simp;omega
  have bi:i<gs.size:=(Array.getElem?_eq_some_iff.1 hi).1;cases aw:q i with
  | zero=>rw [aw] at Z;rw [Z.1] at Y;cases Y
  | succ k=>
   rw [aw] at Z;rcases Z with⟨b4,_⟩ | ⟨_,x',es,hm,b5,b6⟩
   ·rw [b4] at Y;cases Y
   have cf:sumTo gs.size (upd q i k)+(k+1)=sumTo gs.size q+k:=by
    have:=sumTo_upd q k id bi;simpa [aw] using this
   have ag:=runT_crowd_go (P:=P) (sl:=a9) (i:=i) hi (by rw [b3];exact b5 (w.at d));have a0:((gs.map (woken P x x' (w.at d))).setIfInBounds i x').size=gs.size:=by simp
   have al:∀op∈MemOp.ofEvents i x.frame.fn x.frame.place es,op.g=i:=λop U=>by obtain⟨e,_,rfl⟩:=mem_ofEvents U;rfl
   have bo:∀op∈MemOp.ofEvents i x.frame.fn x.frame.place es,op.act.touch? =none:=λop U=>by obtain⟨e,he,rfl⟩:=mem_ofEvents U;exact touch_mute (hm e he)
   have ca:Hr P ((gs.map (woken P x x' (w.at d))).setIfInBounds i x') (w.at d) (t++MemOp.ofEvents i x.frame.fn x.frame.place es) (upd q i k) Sh g s:=by
    refine⟨?_,⟨λj y O K=>?_,λj O=>?_⟩,?_,?_,?_⟩
    ·have cc:i≠0:=by omega
     rw [Array.getElem?_setIfInBounds_ne cc,Array.getElem?_map,hC.main];simp [woken_run ac]
    ·by_cases am:i=j
     ·subst am;rw [Array.getElem?_setIfInBounds_self_of_lt (by simpa using bi)] at K;obtain rfl:=Option.some.inj K;rw [upd_same,Deaf_own];exact b6
     ·rw [Array.getElem?_setIfInBounds_ne am,Array.getElem?_map] at K;obtain⟨z,ce,rfl⟩:=Option.map_eq_some_iff.1 K;have bv:=hC.lv.old j z O ce;rw [woken_quitsD bv,upd_ne q k (Ne.symm am),Deaf_other t am _ al];exact bv
    ·rw [Deaf_other t (g':=i) (by simp at O;omega) _ al];exact hC.lv.above j (by simpa using O)
    ·rw [a0];exact be.Ck.mute al bo (λop U=>by obtain⟨e,he,rfl⟩:=mem_ofEvents U;exact low_mute (hm e he) _) rfl
    ·exact handedOver_app hC.over λop U=> .inr (bo op U)
    ·rw [Deaf_other t (by omega) _ al];exact hC.hears
   exact .inr ⟨_,_,_,bb.trans ag,by rw [← a0];rw [a0];omega,_,_,_,_,_,_,_,rfl,ca,⟨ac,v,a7,a8⟩,rfl,a3,a4,a5,a6⟩
theorem ends{gs:Array Goroutine}{w:World}{sl:Option (Nat×Nat)}{t:Trace}{q:Nat->Nat}{Sh:Nat->Prop}{g:Goroutine}{s:St}(hC:Hr P gs w t q Sh g s)(O:LW P R g s):
  ∃N last o w' K,runNT P (N+1) (crowd gs w sl) t=(.ended o w',K)/\runN P N (crowd gs w sl)= .next last/\step P last= .ended o w'/\Good P (After P R w s) last o w' K:=
 run_of_inv Nat.lt_wfRel.wf (Qy P R w s) (Good P (After P R w s)) WQ _ _ _ ⟨gs,w,sl,q,Sh,g,s,rfl,hC,O,rfl,λ_ _ h=>h,rfl,.refl _,rfl⟩
theorem Vy{m m':Machine}{t K:Trace}{n:Nat}(h:runNT P n m t=(.next m',K)):runN P n m= .next m':=by rw [← runNT_fst P n m t,h]
def FZ(W:World):St:=⟨λb=>W.heap[b]?,λ_=>none,false⟩
theorem WA{W:World}{g:Goroutine}(h:(GX P).ok (LW P R) g (FZ W)):
  ∃M last o w' K,runNT P (M+1) (solo g W) #[]=(.ended o w',K)/\runN P M (solo g W)= .next last/\step P last= .ended o w'/\Good P (After P R W (FZ W)) last o w' K:=by
 have hC:Hr P #[g] W #[] (λ_=>0) (λ_=>False) g (FZ W):=by
  have Y:∀{i:Nat} {a:Touch},touchAt #[] i=some a->False:=λ{i a} h=>by simp [touchAt,Trace.act?] at h
  refine⟨rfl,leavers_one P g,⟨λi hi=>?_,λi j hi ac bw=>by simp at hi ac;omega,λi hi b hb=>hb.elim,λb hb=>hb.elim,λsaid=>?_,by simp,λi _ b _ x a O=>(Y O).elim,λi _ b _ x a O=>(Y O).elim⟩,λi g ag=>by simp [Trace.g?] at ag,rfl⟩
  ·have:i=0:=by simp at hi;exact hi
   subst this;exact⟨λb o U=>U,λb o U=>(by cases U),λb _=>rfl⟩
  ·rintro⟨i,j,_,⟨a,b,al,_⟩,_⟩;simp [Trace.act?] at al
 obtain⟨n,gs',w',am,K,q',b0,g',s',Z,ap,aq,aw,a0,a2,a3⟩:=h #[g] W none #[] _ _ hC;obtain⟨N,last,o,a4,a5,k1,a6,a7,a8⟩:=ends (sl:=am) ap aq;refine⟨n+N,last,o,a4,a5,?_,?_,a7,?_⟩
 ·rw [solo_eq_crowd,Nat.add_assoc,runNT_add,Z];exact k1
 ·have a9:=Vy Z;rw [solo_eq_crowd,runN_add,a9];exact a6
 ·obtain⟨v,e,⟨s2,a1,bb,be,bi,bo,bv⟩,r⟩:=a8;exact⟨v,e,⟨s2,a1,bb,λb o hb=>be b o (aw b o hb),bi.trans a0,a2.trans bo,bv.trans a3⟩,r⟩
end
end Pal
namespace Pal
open Go Go.Conc
theorem V0{P:Program}{Q:Gs_}{E H:LH}{f:FuncId}{fn:Func}{c:Code}{vs:Lv_}(U:P.funcs[f]? =some fn)(hb:fn.body=some c)(ag:fn.ntmps=fn.ntmps)(al:vs.length<=fn.ntmps)
  (h:JL (GX P) Q (base f) fn.ntmps (Gl 0 vs) [] [.code c] [] (Al E H [[]])):(GX P).ok Q (G (Frame.enter P f vs.toArray .normal) []) (mk E H []):=by
 have he:Frame.enter P f vs.toArray .normal=fr (base f) (vs.toArray++Array.replicate (fn.ntmps - vs.length) undef) [] [.code c]:=by
  simp [Frame.enter,fr,U,hb,base];rfl
 rw [he];have Y:mk E H []=Al E H [[]]:=by unfold Al;simp
 rw [Y];refine h _ ⟨by simp;omega,λt v Z=>?_⟩;obtain⟨_,K⟩:=Ju Z;have ac:t<vs.length:=by
  rcases Nat.lt_or_ge t vs.length with O | O
  ·exact O
  ·simp at K;have:=(List.getElem?_eq_some_iff.1 K).1;omega
 rw [Array.getD_eq_getD_getElem?,Array.getElem?_append_left (by simpa using ac)];simp at K;simp [K]
end Pal
namespace Pal
open Go Go.Conc Go.Proofs Go.ChangeShapes Go.WideShapes Go.ChangeAt Go.RowKit
open Go.Proofs.YtmeophcclkejkaaGreat
theorem Tryz.own:ownKnob Tryz.prog.godebug=none:=by kernel_rfl
theorem Tryz.laidOut:laidOutB Tryz.prog=true:=by kernel_rfl
theorem Tryz.Ts:Tryz.prog.cellsOf 3=1:=by kernel_rfl
theorem Tryz.XJ:Tryz.prog.cellsOf 28=1:=by kernel_rfl
theorem Tryz.XH:Tryz.prog.cellsOf 22=1:=by kernel_rfl
theorem Tryz.X1:Tryz.prog.cellsOf 23=1:=by kernel_rfl
theorem Tryz.Yq:Tryz.prog.cellsOf 25=2:=by kernel_rfl
theorem Tryz.So:Tryz.prog.cellsOf 27=3:=by kernel_rfl
theorem U7{R:Value->St->Prop}{W w':World}{v:Value}(h:After Tryz.prog R W (FZ W) v w'):(∃s,R v s)/\Below W.heap.size W {w' with os:=W.os}/\Go.ConcM.OsLater W.os w'.os:=by
 obtain⟨s,Y,Z,ac,ag,al,am⟩:=h;have hb:∀k,k<W.heap.size->w'.heap[k]? =W.heap[k]? :=λk O=>by
  have K:(FZ W).E k=some W.heap[k]:=Array.getElem?_eq_getElem O;have U:=Z.e k _ (ac k _ K);rw [U,Array.getElem?_eq_getElem O]
 refine⟨⟨s,Y⟩,⟨rfl,ag,am,?_,hb⟩,al⟩;show W.heap.size<=w'.heap.size;rcases Nat.eq_zero_or_pos W.heap.size with ap | ap
 ·omega
 ·have K:=hb (W.heap.size - 1) (by omega);have aq:W.heap[W.heap.size - 1]? =some W.heap[W.heap.size - 1]:=Array.getElem?_eq_getElem (by omega);rw [aq] at K;have U:=(Array.getElem?_eq_some_iff.1 K).1;omega
theorem Rt(a:Addr):a.add 0=a:=by unfold Addr.add;rw [if_pos rfl]
section
variable {H:Type}{enc:TypeId×Value->H}{W:World}{fuel:Nat}{cs:Lv_}{x:DataW H×List MemPlace}
theorem Xr{b off:Nat}{v:Value}(h:W.cell? ⟨b,off,none⟩=some v):At (FZ W).E b off [v]:=by
 unfold World.cell? at h;split at h
 ·rename_i c e f hW;simp only [Option.isSome_none,Bool.false_eq_true,if_false] at h;refine⟨c,e,f,hW,λj w K=>?_⟩
  match j,K with
  | 0,K=>simp at K;subst K;simpa using h
  | j+1,K=>simp at K
 ·cases h
theorem V7{b off:Nat}(O:0<cs.length)(h:∀j,j<cs.length->W.cell? ⟨b,off+j,none⟩=cs[j]?):At (FZ W).E b off cs:=by
 have U:=h 0 O;rw [List.getElem?_eq_getElem O] at U;obtain⟨f,e,fr,Y,_⟩:=Xr U;have hW:W.heap[b]? =some (.cells f e fr):=Y;refine⟨f,e,fr,Y,λj w Z=>?_⟩;have ac:=(List.getElem?_eq_some_iff.1 Z).1;have K:=h j ac;rw [Z] at K;unfold World.cell? at K;simp only [hW] at K;simpa using K
theorem PZ{α:Type}{p:Rp α}{t e:TypeId}(a4:Tryz.prog.underlying t=some (.slice e))(a5:Tryz.prog.cellsOf e=p.n)(a6:0<p.n)
  (a7:∀n cs x,DataW.trod enc Tryz.prog W 0 (λ_=>true) true n e cs=some x->∃v,p.r (FZ W).E cs v)
  (a8:DataW.trod enc Tryz.prog W 0 (λ_=>true) true fuel t cs=some x):∃(a:Option Addr) (c:Nat) (aq:List α),cs= [.slice a aq.length c]/\Ak p (FZ W).E a c aq:=by
 rcases DataW.trod_slice a4 a8 with⟨ac,a9⟩ | ⟨a,len,cap,elems,rest,n,_,ac,a9,_,bb,_,hlen,aw,a0,_⟩
 ·exact⟨none,0,[],ac,Ak.nil⟩
 ·rw [a5] at aw a0;rcases Nat.eq_zero_or_pos cap with a1 | a1
  ·have:len=0:=by omega
   subst this;subst a1;exact⟨some a,0,[],ac,Nat.le_refl _,.inl ⟨rfl,λ_ _=> .inr rfl⟩⟩
  ·have a2:∀i,i<len->∃vs y,vs.length=p.n/\(∀j,j<p.n->W.cell? ((a.add (i*p.n)).add j)=vs[j]?)/\DataW.trod enc Tryz.prog W 0 (λ_=>true) true n e vs=some y:=λi hi=>by
    have K:=aw i hi;rw [List.getElem?_eq_getElem (by omega)] at K;obtain⟨vs,al,Y⟩:=Option.bind_eq_some_iff.1 K;obtain⟨_,O,am⟩:=World.cells?_some al;exact⟨vs,_,O,am,Y⟩
   have ap:a.spot=none:=by
    have key:∀vs:Lv_,vs.length=p.n->(∀j,j<p.n->W.cell? ((a.add (0*p.n)).add j)=vs[j]?)->a.spot=none:=λvs ag U=>by
     have:=U 0 a6;rw [List.getElem?_eq_getElem (by omega),Rt,Nat.zero_mul,Rt] at this;exact World.cell?_spot this
    rcases Nat.eq_zero_or_pos len with K | K
    ·obtain⟨al,Y⟩:=a0 rfl;have O:=Y 0 (by omega);rw [List.getElem?_eq_getElem (by omega)] at O;obtain⟨vs,am,_⟩:=Option.bind_eq_some_iff.1 O;obtain⟨_,ag,U⟩:=World.cells?_some am;rw [K] at U;exact key vs ag U
    ·obtain⟨vs,y,ag,U,_⟩:=a2 0 K;exact key vs ag U
   have a3:∀i:Fin len,∃z:α,∃vs,p.r (FZ W).E vs z/\At (FZ W).E a.block (a.off+i*p.n) vs:=λi=>by
    obtain⟨vs,y,al,Y,O⟩:=a2 i i.2;obtain⟨z,Z⟩:=a7 _ _ _ O;refine⟨z,vs,Z,V7 (by omega) λj be=>?_⟩;have:=Y j (by omega);rw [Ej ap,Ej rfl] at this;exact this
   refine⟨some a,cap,List.ofFn λi=>Classical.choose (a3 i),by simpa using ac,by simpa using bb,.inr ⟨a.block,a.off,?_,λi z Z=>?_⟩⟩
   ·obtain⟨b,o,s⟩:=a;simp only at ap;subst ap;rfl
   ·have hi:i<len:=by have:=(List.getElem?_eq_some_iff.1 Z).1;simpa using this
    simp [hi] at Z;have:=Classical.choose_spec (a3 ⟨i,hi⟩);rw [Z] at this;exact this
theorem Nk(h:DataW.trod enc Tryz.prog W 0 (λ_=>true) true fuel 3 cs=some x):∃z:Int,cs= [iV z]:=by
 obtain⟨n1,K,_⟩:=DataW.trod_int Tryz.underlying3 h;exact⟨n1,K⟩
theorem RQ(O:DataW.trod enc Tryz.prog W 0 (λ_=>true) true fuel 28 cs=some x):∃(a:Option Addr) (c:Nat) (K:List Int),cs= [.slice a K.length c]/\Ak rI (FZ W).E a c K:=
 PZ (p:=rI) Tryz.underlying28 Tryz.Ts Nat.one_pos (λn cs x h=>by
  obtain⟨z,rfl⟩:=Nk h
  exact⟨z,rfl⟩) O
theorem Xo(O:DataW.trod enc Tryz.prog W 0 (λ_=>true) true fuel 22 cs=some x):∃(a:Option Addr) (c:Nat) (K:List (List Int)),cs= [.slice a K.length c]/\Ak (rL rI) (FZ W).E a c K:=
 PZ (p:=rL rI) Tryz.underlying22 Tryz.XJ Nat.one_pos (λn cs x h=>by
  obtain⟨a,c,K,e,g⟩:=RQ h
  exact⟨K,a,c,e,g⟩) O
theorem Rs(h:DataW.trod enc Tryz.prog W 0 (λ_=>true) true fuel 27 cs=some x):∃v:Int×Int×Int,cs= [iV v.1,iV v.2.1,iV v.2.2]:=by
 obtain⟨y0,al,am,n,_,U,Y,Z,ac⟩:=Go.Deep.trod_struct3 Tryz.underlying27 h;obtain⟨n1,K⟩:=Nk Y;obtain⟨n2,e2⟩:=Nk Z;obtain⟨ag,O⟩:=Nk ac;rw [Tryz.So] at U;rw [Pal.Tryz.Ts] at K e2 O;refine⟨(n1,n2,ag),?_⟩
 match cs,U with
 | [u,w,z],_=>simp at K e2 O;rw [K,e2,O]
theorem V8(O:DataW.trod enc Tryz.prog W 0 (λ_=>true) true fuel 23 cs=some x):∃(a:Option Addr) (c:Nat) (K:List (Int×Int×Int)),cs= [.slice a K.length c]/\Ak (rP rI (rP rI rI)) (FZ W).E a c K:=
 PZ (p:=rP rI (rP rI rI)) Tryz.underlying23 Tryz.So (by decide) (λn cs x h=>by
  obtain⟨v,rfl⟩:=Rs h
  exact⟨v,[iV v.1],[iV v.2.1,iV v.2.2],rfl,rfl,[iV v.2.1],[iV v.2.2],rfl,rfl,rfl⟩) O
theorem VI{v:Value}{Y:Nat}{d:DataW H}{p:List MemPlace}(Z:Value.okWide Tryz.prog W .any Y 25 v)(hd:DataW.Trod enc Tryz.prog W 0 (λ_=>true) true 25 v d p):
  ∃(a1:Option Addr) (c1:Nat) (K:Option Addr) (c2:Nat) (o:List (List Int)×List (Int×Int×Int)),v= .agg #[.slice a1 o.1.length c1,.slice K o.2.length c2]/\Ak (rL rI) (FZ W).E a1 c1 o.1/\Ak (rP rI (rP rI rI)) (FZ W).E K c2 o.2:=by
 obtain⟨cs,rfl,U⟩:=okWide_struct Tryz.underlying25 Z;obtain⟨fuel,ac⟩:=hd;obtain⟨y0,aq,n,_,aw,ag,al⟩:=trod_struct2 Tryz.underlying25 ac;obtain⟨a1,c1,z1,O,am⟩:=Xo ag;obtain⟨K,c2,ap,e2,g2⟩:=V8 al;refine⟨a1,c1,K,c2,(z1,ap),?_,am,g2⟩;rw [Tryz.XH] at O;rw [Tryz.Yq] at U;rw [Tryz.X1] at e2;simp only [Value.cells,List.drop_zero] at O e2;obtain⟨l⟩:=cs
 match l,U with
 | [u,w],_=>
  simp at O e2;rw [O,e2]
theorem Xt{v:Value}{O:Nat}{d:DataW H}{p:List MemPlace}(U:Value.okWide Tryz.prog W .any O 28 v)(hd:DataW.Trod enc Tryz.prog W 0 (λ_=>true) true 28 v d p):
  ∃(a:Option Addr) (c:Nat) (K:List Int),v= .slice a K.length c/\Ak rI (FZ W).E a c K:=by
 obtain⟨Z,len,cap,rfl⟩:=okWide_slice Tryz.underlying28 U;obtain⟨fuel,Y⟩:=hd;obtain⟨a,c,K,e,g⟩:=RQ Y;simp [Value.cells] at e;obtain⟨rfl,rfl,rfl⟩:=e;exact⟨_,_,_,rfl,g⟩
theorem WB{v:Value}{K:Nat}{d:DataW H}{p:List MemPlace}(O:Value.okWide Tryz.prog W .any K 27 v)(hd:DataW.Trod enc Tryz.prog W 0 (λ_=>true) true 27 v d p):∃l:Int×Int×Int,v= .agg #[iV l.1,iV l.2.1,iV l.2.2]:=by
 obtain⟨cs,rfl,Y⟩:=okWide_struct Tryz.underlying27 O;obtain⟨fuel,U⟩:=hd;obtain⟨l,e⟩:=Rs U;simp only [Value.cells] at e;refine⟨l,?_⟩;obtain⟨k⟩:=cs;simp only at e;rw [e]
end
end Pal
namespace Pal
open Go Go.Conc
def Ht(K:Bool)(ws:Lv_):Value:=if K then .agg ws.toArray else ws.headD undef
def Vr{α:Type}(pp:Rp α)(K:Bool)(E:LH)(v:Value)(x:α):Prop:=∃ws,pp.r E ws x/\v=Ht K ws
theorem Vr.Ag{α:Type}{pp:Rp α}{K:Bool}{E E':LH}{v:Value}{x:α}(h:Vr pp K E v x)(hle:Le E E'):Vr pp K E' v x:=
 let ⟨ws,O,U⟩:=h;⟨ws,pp.Ag hle O,U⟩
structure GD (P:Program) (t:TypeId) {κ:Type} [DecidableEq κ] (pk:Rp κ) (ka:Bool):Prop where
 BS:∀{em:Bool} {E:LH} {v:Value} {x:κ} {s:St} {Q:Unit->St->Prop} {X:Halt->St->Prop},Vr pk ka E v x->Q () s->lp P (Instr.checkKey em 10000 t v) s Q X
 kind:∃kd,P.underlying t=some kd/\((∀v w,Instr.sameNow kd v w=none)∨∀{E:LH} {v w:Value} {x y:κ},Vr pk ka E v x->Vr pk ka E w y->Instr.sameNow kd v w=some (decide (x=y)))
 eq:∀{E:LH} {v w:Value} {x y:κ} {s:St} {Q:Bool->St->Prop} {X:Halt->St->Prop},Vr pk ka E v x->Vr pk ka E w y->Q (decide (x=y)) s->lp P (Op.equal t v w) s Q X
 same:∀{E:LH} {v:Value} {x:κ},Vr pk ka E v x->Instr.sameBits 10000 v v=true
 uniq:∀{E:LH} {v w:Value} {x:κ},Vr pk ka E v x->Vr pk ka E w x->v=w
section
variable {κ ν:Type} [DecidableEq κ] {pk:Rp κ}{pv:Rp ν}{ka va:Bool}{E E':LH}
def Ef(pk:Rp κ)(ka:Bool)(pv:Rp ν)(va:Bool)(E:LH):List MapEntry->List (κ×ν)->Prop
 | [],[]=>True
 | e::es,x::xs=>Vr pk ka E e.key x.1/\Vr pv va E e.val x.2/\Ef pk ka pv va E es xs
 | _,_=>False
theorem Ef.Ag(hle:Le E E'):∀{es:List MapEntry} {xs:List (κ×ν)},Ef pk ka pv va E es xs->Ef pk ka pv va E' es xs
 | [],[],_=>trivial
 | e::es,x::xs,h=>⟨h.1.Ag hle,h.2.1.Ag hle,Ef.Ag hle h.2.2⟩
 | [],_::_,h=>h.elim
 | _::_,[],h=>h.elim
theorem Ef.len:∀{es:List MapEntry} {xs:List (κ×ν)},Ef pk ka pv va E es xs->es.length=xs.length
 | [],[],_=>rfl
 | e::es,x::xs,h=>by simp [Ef.len h.2.2]
 | [],_::_,h=>h.elim
 | _::_,[],h=>h.elim
def Gs(x:κ):List MapEntry->List (κ×ν)->Nat->Option (Nat×Value)
 | e::es,y::ys,i=>if x=y.1 then some (i,e.val) else Gs x es ys (i+1)
 | _,_,_=>none
def Bx(xs:List (κ×ν))(x:κ):Option ν:=(xs.find? λy=>decide (x=y.1)).map (·.2)
def C4(xs:List (κ×ν))(x:κ)(v:ν):List (κ×ν):=match xs with
 | []=> [(x,v)]
 | y::ys=>if x=y.1 then(x,v)::ys else y::C4 ys x v
theorem SD{x:κ}:∀{es:List MapEntry} {xs:List (κ×ν)} {i:Nat},Ef pk ka pv va E es xs->(Gs x es xs i=none/\Bx xs x=none)∨∃j w v0,Gs x es xs i=some (j,w)/\Bx xs x=some v0/\Vr pv va E w v0
 | [],[],i,_=> .inl ⟨rfl,rfl⟩
 | e::es,y::ys,i,h=>by
  unfold Gs Bx
  by_cases K:x=y.1
  ·exact .inr ⟨i,e.val,y.2,by rw [if_pos K],by simp [K],h.2.1⟩
  ·rcases SD (x:=x) (i:=i+1) h.2.2 with⟨O,U⟩ | ⟨j,w,v0,O,U,Y⟩
   ·exact .inl ⟨by rw [if_neg K];exact O,by simpa [K,Bx] using U⟩
   ·exact .inr ⟨j,w,v0,by rw [if_neg K];exact O,by simpa [K,Bx] using U,Y⟩
 | [],_::_,_,h=>h.elim
 | _::_,[],_,h=>h.elim
theorem Ef.put{x:κ}{v0:ν}{O w:Value}(U:Vr pk ka E O x)(hw:Vr pv va E w v0)(Z:Nat):∀{es:List MapEntry} {xs:List (κ×ν)} {i:Nat},Ef pk ka pv va E es xs->
  (Gs x es xs i=none/\Ef pk ka pv va E (es++ [{key:=O,val:=w,born:=Z}]) (C4 xs x v0))∨
  ∃j u,Gs x es xs i=some (i+j,u)/\j<es.length/\(∀e,es[j]? =some e->Vr pk ka E e.key x)/\Ef pk ka pv va E (es.modify j λe=>{e with key:=O,val:=w}) (C4 xs x v0)
 | [],[],i,_=> .inl ⟨rfl,U,hw,trivial⟩
 | e::es,y::ys,i,h=>by
  unfold Gs C4
  by_cases K:x=y.1
  ·refine .inr ⟨0,e.val,by rw [if_pos K];rfl,by simp,λac he=>?_,?_⟩
   ·simp at he;subst he;rw [K];exact h.1
   ·rw [if_pos K];exact⟨U,hw,h.2.2⟩
  ·rcases Ef.put U hw Z (i:=i+1) h.2.2 with⟨Y,ag⟩ | ⟨j,u,Y,ag,al,am⟩
   ·exact .inl ⟨by rw [if_neg K];exact Y,by rw [if_neg K];exact⟨h.1,h.2.1,ag⟩⟩
   ·refine .inr ⟨j+1,u,by rw [if_neg K,Y];congr 2;omega,by simp;omega,λac he=>al ac (by simpa using he),?_⟩;rw [if_neg K];exact⟨h.1,h.2.1,am⟩
 | [],_::_,_,h=>h.elim
 | _::_,[],_,h=>h.elim
def Kz(pk:Rp κ)(ka:Bool)(pv:Rp ν)(va:Bool)(E:LH)(o:Obj)(xs:List (κ×ν)):Prop:=
 ∃es clock,o= .map es clock/\Ef pk ka pv va E es.toList xs/\(es.toList.map (·.born)).Pairwise (·<·)/\∀e∈es.toList,e.born<clock
theorem Kz.Ag{o:Obj}{xs:List (κ×ν)}(h:Kz pk ka pv va E o xs)(hle:Le E E'):Kz pk ka pv va E' o xs:=
 let ⟨es,c,K,O,U⟩:=h;⟨es,c,K,O.Ag hle,U⟩
variable {P:Program}{s:St}{t tm te:TypeId}{X:Halt->St->Prop}
theorem QK(U:GD P t pk ka){k:Value}{x:κ}(Y:Vr pk ka E k x){Q:Option (Nat×Value)->St->Prop}:∀{es:List MapEntry} {xs:List (κ×ν)} {i:Nat},Ef pk ka pv va E es xs->Q (Gs x es xs i) s->lp P (Instr.findAsking t k es i) s Q X
 | [],[],i,_,h=>h
 | e::es,y::ys,i,h,K=>by
  unfold Instr.findAsking
  refine Aw _ _ (U.eq Y h.1 ?_)
  unfold Gs at K
  by_cases O:x=y.1
  ·rw [decide_eq_true O]
   rw [if_pos O] at K;exact K
  ·rw [decide_eq_false O];rw [if_neg O] at K;exact QK U Y h.2.2 K
 | [],_::_,_,h,_=>h.elim
 | _::_,[],_,h,_=>h.elim
theorem QX{kd:TypeDesc}{k:Value}{x:κ}(O:Vr pk ka E k x)(U:∀{E:LH} {v w:Value} {x y:κ},Vr pk ka E v x->Vr pk ka E w y->Instr.sameNow kd v w=some (decide (x=y))):∀{es:List MapEntry} {xs:List (κ×ν)} {i:Nat},Ef pk ka pv va E es xs->Instr.findNow kd k es i=some (Gs x es xs i)
 | [],[],i,_=>rfl
 | e::es,y::ys,i,h=>by
  unfold Instr.findNow Gs
  rw [U O h.1]
  by_cases K:x=y.1
  ·simp [K]
  ·simp only [decide_eq_false K,if_neg K];exact QX O U h.2.2
 | [],_::_,_,h=>h.elim
 | _::_,[],_,h=>h.elim
theorem O3(O:GD P t pk ka){k:Value}{x:κ}(U:Vr pk ka E k x){Q:Option (Nat×Value)->St->Prop}{es:List MapEntry}{xs:List (κ×ν)}(h:Ef pk ka pv va E es xs)(K:Q (Gs x es xs 0) s):lp P (Instr.findKey t k es) s Q X:=by
 unfold Instr.findKey;obtain⟨kd,Y,Z | ac⟩:=O.kind
 ·refine Aw _ _ (CB Y ?_);cases es with
  | nil=>
   cases xs with
   | nil=>exact K
   | cons y ys=>exact h.elim
  | cons e es=>
   have ag:Instr.findNow kd k (e::es) 0=none:=by unfold Instr.findNow;rw [Z]
   rw [ag];exact QK O U h K
 ·refine Aw _ _ (CB Y ?_);rw [QX U ac h];exact K
theorem VY(O:GD P t pk ka)(hm:P.underlying tm=some (.map t te)){z:Value}{z0:ν}(Z:zeroOf P te=some z)(ac:Vr pv va E z z0){bk:Nat}{o:Obj}{xs:List (κ×ν)}{k:Value}{x:κ}(ag:s.get bk=some o)(al:Kz pk ka pv va E o xs)(U:Vr pk ka E k x)(ok:Bool){Q:Value->St->Prop}
  (h:∀w,Vr pv va E w ((Bx xs x).getD z0)->Q (if ok then .tuple #[w,.bool (Bx xs x).isSome] else w) s):lp P (Instr.lookup tm (.map (some bk)) k ok) s Q X:=by
 obtain⟨es,c,rfl,Y,ap,aq⟩:=al;unfold Instr.lookup;refine Aw _ _ (CB hm ?_);refine Aw _ _ ?_;unfold getObj;simp only [bind,Sem.bind,lp];refine⟨_,ag,rfl,?_⟩;refine Aw (x:=Instr.checkKey _ 10000 t k) _ (O.BS U ?_);refine Aw (x:=Instr.findKey t k es.toList) _ (O3 O U Y ?_);rcases SD (x:=x) (i:=0) Y with⟨K,e2⟩ | ⟨j,w,v0,K,e2,am⟩
 ·rw [K];simp only;refine Aw (x:=zeroValue te) _ (HC Z ?_);have:=h z (by rw [e2];exact ac);rw [e2] at this;exact this
 ·rw [K];have:=h w (by rw [e2];exact am);rw [e2] at this;exact this
theorem U2(O:GD P t pk ka)(hm:P.underlying tm=some (.map t te)){bk:Nat}{o:Obj}{xs:List (κ×ν)}{k w:Value}{x:κ}{v0:ν}(am:s.get bk=some o)(Z:s.H bk=some o)(ap:Kz pk ka pv va E o xs)(K:Vr pk ka E k x)(hw:Vr pv va E w v0){Q:Unit->St->Prop}
  (h:∀o',Kz pk ka pv va E o' (C4 xs x v0)->Q () (s.upd bk o')):lp P (Instr.mapUpdate tm (.map (some bk)) k w) s Q X:=by
 obtain⟨es,c,rfl,ac,ag,U⟩:=ap;unfold Instr.mapUpdate;refine Aw _ _ (CB hm ?_);unfold getObj;simp only [bind,Sem.bind,lp];refine⟨_,am,rfl,?_⟩;refine Aw (x:=Instr.checkKey false 10000 t k) _ (O.BS K ?_);refine Aw (x:=Instr.findKey t k es.toList) _ (O3 O K ac ?_);rcases Ef.put K hw c (i:=0) ac with⟨Y,e2⟩ | ⟨j,u,Y,e2,aq,aw⟩
 ·rw [Y];simp only [setObj,lp];refine⟨⟨_,Z,rfl⟩,rfl,h _ ⟨es.push {key:=k,val:=w,born:=c},c+1,rfl,by simpa using e2,?_,?_⟩⟩
  ·rw [Array.toList_push,List.map_append,List.pairwise_append];refine⟨ag,by simp,λa a0 b hb=>?_⟩;simp at hb;subst hb;obtain⟨e,he,rfl⟩:=List.mem_map.1 a0;exact U e he
  ·intro e he;rw [Array.toList_push] at he;rcases List.mem_append.1 he with he | he
   ·have:=U e he;omega
   ·simp at he;subst he;simp
 ·rw [Y];have al:es[j]? =some (es[j]'(by simpa using e2)):=Array.getElem?_eq_getElem (by simpa using e2);have a1:(es[j]'(by simpa using e2)).key=k:=O.uniq (aq _ (by rw [Array.getElem?_toList];exact al)) K;simp only [Nat.zero_add,al,Option.map_some,Option.getD_some,a1];refine Aw (x:=Instr.keyThatStays k k) _ ?_;unfold Instr.keyThatStays;rw [if_pos (O.same K)];simp only [lp,pure,setObj];refine⟨⟨_,Z,rfl⟩,rfl,h _ ⟨_,c,rfl,by simpa using aw,?_,?_⟩⟩
  ·have:(es.modify j λe=>{e with key:=k,val:=w}).toList.map (·.born)=es.toList.map (·.born):=by
    rw [Array.toList_modify];apply List.ext_getElem?;intro q;simp only [List.getElem?_map,List.getElem?_modify];split <;> cases es.toList[q]? <;> rfl
   rw [this];exact ag
  ·intro e he;rw [Array.toList_modify] at he;obtain⟨q,a2,rfl⟩:=List.mem_iff_getElem.1 he;rw [List.getElem_modify];have a3:q<es.toList.length:=by simpa using a2
   split
   ·show(es.toList[q]'a3).born<c;exact U _ (List.getElem_mem _)
   ·exact U _ (List.getElem_mem _)
end
end Pal
namespace Pal
open Go Go.Conc
theorem Ss{l us r:Lv_}:∀j w,us[j]? =some w->(l++us++r).toArray[l.length+j]? =some w:=λj w h=>by
 have K:j<us.length:=(List.getElem?_eq_some_iff.1 h).1
 rw [List.getElem?_toArray,List.append_assoc,List.getElem?_append_right (by omega),show l.length+j - l.length=j by omega,List.getElem?_append_left K]
 exact h
section
variable {P:Program}{s:St}{t e:TypeId}{X:Halt->St->Prop}
theorem KW{c:Av_}{off:Nat}{us:Lv_}{O:Bool}(Y:Dz P e=some O)(Z:Bq P e=some us.length)(ac:O=false->us.length=1)(hw:∀j w,us[j]? =some w->c[off+j]? =some w)
  {Q:Value->St->Prop} (k:Q (Ht O us) s):lp P (Go.part e c off) s Q X:=by
 unfold Go.part;refine Aw (x:=isAgg e) _ (MY Y ?_);cases O with
 | true=>
  simp only [if_true];refine Aw (x:=Go.sizeOf e) _ (EM Z ?_);have ag:c.extract off (off+us.length)=us.toArray:=by
   apply Array.ext_getElem?;intro j;by_cases U:j<us.length
   ·have K:=hw j us[j] (List.getElem?_eq_getElem U);have al:off+j<c.size:=(Array.getElem?_eq_some_iff.1 K).1;simp only [Array.getElem?_extract];rw [if_pos (by omega),K];simp [U]
   ·simp only [Array.getElem?_extract];rw [if_neg (by omega)];simp;omega
  show Q (.agg (c.extract off (off+us.length))) s;rw [ag];exact k
 | false=>
  obtain⟨w,rfl⟩:∃w,us= [w]:=by
   match us,ac rfl with
   | [w],_=>exact⟨w,rfl⟩
  have K:=hw 0 w rfl;rw [Nat.add_zero] at K;simp only [Bool.false_eq_true,if_false,K];exact k
end
structure Cd (P:Program) (t:TypeId) {α:Type} [DecidableEq α] (pp:Rp α) (K:Bool) (dep:Nat):Prop where
 agg:Dz P t=some K
 size:Bq P t=some pp.n
 one:K=false->pp.n=1
 eq:∀{n:Nat} {E E':LH} {ws ws':Lv_} {x y:α} {s:St} {Q:Bool->St->Prop} {X:Halt->St->Prop},dep<=n->pp.r E ws x->pp.r E' ws' y->Q (decide (x=y)) s->lp P (Op.equalIn n t (Ht K ws) (Ht K ws')) s Q X
 BS:∀{n:Nat} {em:Bool} {E:LH} {ws:Lv_} {x:α} {s:St} {Q:Unit->St->Prop} {X:Halt->St->Prop},dep<=n->pp.r E ws x->Q () s->lp P (Instr.checkKey em n t (Ht K ws)) s Q X
 uniq:∀{E E':LH} {ws ws':Lv_} {x:α},pp.r E ws x->pp.r E' ws' x->ws=ws'
 same:∀{E:LH} {ws:Lv_} {x:α},pp.r E ws x->∀w∈ws,∀m,Instr.sameBits (m+1) w w=true
 now:∃kd,P.underlying t=some kd/\((∀v w,Instr.sameNow kd v w=none)∨∀{E E':LH} {ws ws':Lv_} {x y:α},pp.r E ws x->pp.r E' ws' y->Instr.sameNow kd (Ht K ws) (Ht K ws')=some (decide (x=y)))
section
variable {P:Program}{t e:TypeId}
theorem Cd.int{kd:IntKind}(U:P.underlying t=some (.int kd))(Y:Bq P t=some 1):Cd P t (rK kd) false 1 where
 agg:=by unfold Dz;rw [U]
 size:=Y
 one _:=rfl
 eq {n E E' ws ws' x y s Q X} Z K O k:=by
  obtain⟨m,rfl⟩:∃m,n=m+1:=⟨n - 1,by omega⟩;have K:ws= [.int kd x]:=K;have O:ws'= [.int kd y]:=O;subst K O;refine TE U ?_;have e:(x==y)=decide (x=y):=by by_cases h:x=y <;> simp [h]
  rw [e];exact k
 BS {n em E ws x s Q X} Z K k:=by
  obtain⟨m,rfl⟩:∃m,n=m+1:=⟨n - 1,by omega⟩;have K:ws= [.int kd x]:=K;subst K;unfold Instr.checkKey;refine Aw _ _ (CB U ?_);exact k
 uniq K O:=by
  have K:_= [Value.int kd _]:=K;have O:_= [Value.int kd _]:=O;rw [K,O]
 same {E ws x} h w hw m:=by
  have h:ws= [Value.int kd x]:=h;subst h;simp at hw;subst hw;simp [Instr.sameBits]
 now:=⟨_,U,.inr λ{E E' ws ws' x y} K O=>by
  have K:ws= [.int kd x]:=K
  have O:ws'= [.int kd y]:=O
  subst K O
  have e:(x==y)=decide (x=y):=by by_cases h:x=y <;> simp [h]
  show(if kd=kd then some (x==y) else none)=_
  rw [if_pos rfl,e]⟩
theorem Cd.nat{kd:IntKind}(U:P.underlying t=some (.int kd))(Z:Bq P t=some 1):Cd P t (rN kd) false 1 where
 agg:=by unfold Dz;rw [U]
 size:=Z
 one _:=rfl
 eq {n E E' ws ws' x y s Q X} ac K O k:=by
  obtain⟨m,rfl⟩:∃m,n=m+1:=⟨n - 1,by omega⟩;have K:ws= [.int kd ((x:Nat):Int)]:=K;have O:ws'= [.int kd ((y:Nat):Int)]:=O;subst K O;refine TE U ?_;have e:((x:Int)==(y:Int))=decide (x=y):=by
   by_cases h:x=y
   ·simp [h]
   ·have Y:¬(x:Int)=(y:Int):=by omega
    simp [h,Y]
  rw [e];exact k
 BS {n em E ws x s Q X} ac K k:=by
  obtain⟨m,rfl⟩:∃m,n=m+1:=⟨n - 1,by omega⟩;have K:ws= [.int kd ((x:Nat):Int)]:=K;subst K;unfold Instr.checkKey;refine Aw _ _ (CB U ?_);exact k
 uniq K O:=by
  have K:_= [Value.int kd _]:=K;have O:_= [Value.int kd _]:=O;rw [K,O]
 same {E ws x} h w hw m:=by
  have h:ws= [Value.int kd ((x:Nat):Int)]:=h;subst h;simp at hw;subst hw;simp [Instr.sameBits]
 now:=⟨_,U,.inr λ{E E' ws ws' x y} K O=>by
  have K:ws= [.int kd ((x:Nat):Int)]:=K
  have O:ws'= [.int kd ((y:Nat):Int)]:=O
  subst K O
  have e:((x:Int)==(y:Int))=decide (x=y):=by
   by_cases h:x=y
   ·simp [h]
   ·have Y:¬(x:Int)=(y:Int):=by omega
    simp [h,Y]
  show(if kd=kd then some ((x:Int)==(y:Int)) else none)=_
  rw [if_pos rfl,e]⟩
theorem Cd.up{α:Type} [DecidableEq α] {pp:Rp α}{O:Bool}{dep U:Nat}(h:Cd P t pp O dep)(hd:dep<=U):Cd P t pp O U:=
 ⟨h.agg,h.size,h.one,λK=>h.eq (Nat.le_trans hd K),λK=>h.BS (Nat.le_trans hd K),h.uniq,h.same,h.now⟩
theorem Pt{α:Type}{kk:Nat}{pp:Rp α}{E:LH}{ws:Lv_}{xs:List α}(K:(rA kk pp).r E ws xs){i:Nat}(hi:i<kk):∃x us,xs[i]? =some x/\pp.r E us x/\us.length=pp.n/\∀j w,us[j]? =some w->ws.toArray[i*pp.n+j]? =some w:=by
 have O:xs[i]? =some (xs[i]'(by rw [K.1];exact hi)):=List.getElem?_eq_getElem (by rw [K.1];exact hi);have Y:ix xs (i:Int)=some (xs[i]'(by rw [K.1];exact hi)):=by unfold ix;rw [if_pos (by omega)];simpa using O
 obtain⟨us,U,_,_,Z⟩:=GQ (m:=(i:Int)) K Y;exact⟨_,us,O,U,pp.len U,λj w ac=>by have:=Z j w ac;rw [List.getElem?_toArray];simpa using this⟩
theorem Cd.arr{α:Type} [DecidableEq α] {pp:Rp α}{a9:Bool}{dep kk:Nat}(h:Cd P e pp a9 dep)(Z:P.underlying t=some (.array kk e))(bb:Bq P t=some (kk*pp.n)):Cd P t (rA kk pp) true (dep+1) where
 agg:=by unfold Dz;rw [Z]
 size:=bb
 one:=λh=>by cases h
 eq {n E E' ws ws' xs ys s Q X} be ac a4 k:=by
  obtain⟨n,rfl⟩:∃m,n=m+1:=⟨n - 1,by omega⟩;have b4:=ac.1;have b5:=a4.1;unfold Op.equalIn;refine Aw _ _ (CB Z ?_);refine Aw (x:=Go.sizeOf e) _ (EM h.size ?_);simp only [Ht,if_true];simp only [Std.Legacy.Range.forIn_eq_forIn_range',Std.Legacy.Range.size,Nat.sub_zero,Nat.add_one_sub_one,Nat.div_one];let bd:Nat->Option Bool×Unit->Sem (ForInStep (Option Bool×Unit)):=λi _=>do
   if !(← Op.equalIn n e (← Go.part e ws.toArray (i*pp.n)) (← Go.part e ws'.toArray (i*pp.n))) then pure (ForInStep.done (some false,())) else pure (ForInStep.yield (none,()))
  have key:∀(m st:Nat),st+m=kk->(∀i,i<st->xs[i]? =ys[i]?)->∀{K:Option Bool×Unit->St->Prop},K (if xs=ys then(none,()) else(some false,())) s->lp P (forIn (List.range' st m) (none,()) bd:Sem _) s K X:=by
   intro m
   induction m with
   | zero=>
    intro st al am K O;have U:xs=ys:=by
     apply List.ext_getElem?;intro i;rcases Nat.lt_or_ge i st with hi | hi
     ·exact am i hi
     ·rw [List.getElem?_eq_none (by omega),List.getElem?_eq_none (by omega)]
    rw [if_pos U] at O;simp only [List.range'_zero,List.forIn_nil];exact O
   | succ m ap=>
    intro st al am K O;simp only [List.range'_succ,List.forIn_cons];obtain⟨a,us,ag,aq,Y,aw⟩:=Pt ac (i:=st) (by omega);obtain⟨c,b6,a0,bi,a5,bo⟩:=Pt a4 (i:=st) (by omega);refine Aw _ _ (Aw _ _ (KW h.agg (by rw [Y];exact h.size) (λq=>by rw [Y];exact h.one q) aw ?_));refine Aw _ _ (KW h.agg (by rw [a5];exact h.size) (λq=>by rw [a5];exact h.one q) bo ?_);refine Aw _ _ (h.eq (by omega) aq bi ?_);by_cases a2:a=c
    ·subst a2;simp only [decide_true,Bool.not_true,Bool.false_eq_true,if_false,lp,pure];exact ap (st+1) (by omega) (λi hi=>by
      rcases Nat.lt_or_ge i st with a6 | a6
      ·exact am i a6
      ·obtain rfl:i=st:=by omega
       rw [ag,a0]) O
    ·have bv:¬xs=ys:=λq=>a2 (by rw [q] at ag;rw [ag] at a0;exact Option.some.inj a0);rw [if_neg bv] at O;simp only [a2,decide_false,Bool.not_false,if_true,lp,pure];exact O
  refine Aw _ _ (key kk 0 (by omega) (λi hi=>by omega) ?_);by_cases U:xs=ys
  ·rw [if_pos U];simpa [lp,pure,U] using k
  ·rw [if_neg U];simpa [lp,pure,U] using k
 BS {n em E ws xs s Q X} be ac k:=by
  obtain⟨n,rfl⟩:∃m,n=m+1:=⟨n - 1,by omega⟩;unfold Instr.checkKey;refine Aw _ _ (CB Z ?_);simp only [Ht,if_true];simp only [Std.Legacy.Range.forIn_eq_forIn_range',Std.Legacy.Range.size,Nat.sub_zero,Nat.add_one_sub_one,Nat.div_one];let bd:Nat->Unit->Sem (ForInStep Unit):=λi _=>do
   Instr.checkKey em n e (← Go.part e ws.toArray (i*(← Go.sizeOf e)))
   pure (ForInStep.yield ())
  have key:∀(m st:Nat),st+m=kk->∀{K:Unit->St->Prop},K () s->lp P (forIn (List.range' st m) () bd:Sem _) s K X:=by
   intro m
   induction m with
   | zero=>
    intro st al K O;simp only [List.range'_zero,List.forIn_nil];exact O
   | succ m ap=>
    intro st al K O;simp only [List.range'_succ,List.forIn_cons];obtain⟨a,us,ag,aq,Y,aw⟩:=Pt ac (i:=st) (by omega);refine Aw _ _ (Aw (x:=Go.sizeOf e) _ (EM h.size ?_));refine Aw _ _ (KW h.agg (by rw [Y];exact h.size) (λq=>by rw [Y];exact h.one q) aw ?_);refine Aw _ _ (h.BS (by omega) aq ?_);exact ap (st+1) (by omega) O
  exact Aw _ _ (key kk 0 (by omega) k)
 uniq {E E' ws ws' xs} a3 bw:=by
  obtain⟨a1,wss,rfl,a7,c1⟩:=a3;obtain⟨ca,b0,rfl,cc,c2⟩:=bw;have:wss=b0:=by
   apply List.ext_getElem (by omega);intro i hi b1;have a8:xs[i]? =some (xs[i]'(by omega)):=List.getElem?_eq_getElem (by omega);exact h.uniq (c1 i _ _ a8 (List.getElem?_eq_getElem hi)) (c2 i _ _ a8 (List.getElem?_eq_getElem b1))
  rw [this]
 same {E ws xs} a3 w hw m:=by
  obtain⟨a1,wss,rfl,a7,c1⟩:=a3;obtain⟨us,b2,hw⟩:=List.mem_flatten.1 hw;obtain⟨i,hi⟩:=List.mem_iff_getElem?.1 b2;have b3:i<xs.length:=by rw [a1,← a7];exact(List.getElem?_eq_some_iff.1 hi).1
  exact h.same (c1 i _ us (List.getElem?_eq_getElem b3) hi) w hw m
 now:=⟨_,Z,.inl λv w=>rfl⟩
theorem Cd.field{α:Type} [DecidableEq α] {pp:Rp α}{ac:Bool}{dep n:Nat}{f:Field}{s:St}{X:Halt->St->Prop}(h:Cd P f.type pp ac dep)(hd:dep<=n)(ag:f.name≠ "_"){E E':LH}{us Y:Lv_}{x y:α}(r1:pp.r E us x)(r2:pp.r E' Y y){cx Z:Av_}
  (w1:∀j w,us[j]? =some w->cx[f.offset+j]? =some w) (w2:∀j w,Y[j]? =some w->Z[f.offset+j]? =some w) {K:ForInStep (Option Bool×Unit)->St->Prop} (O:K (if x=y then .yield (none,()) else .done (some false,())) s):
  lp P (if f.name≠ "_" then do
   if !(← Op.equalIn n f.type (← Go.part f.type cx f.offset) (← Go.part f.type Z f.offset)) then pure (ForInStep.done (some false,())) else pure (ForInStep.yield (none,()))
   else pure (ForInStep.yield (none,()))) s K X:=by
 rw [if_pos ag]
 refine Aw _ _ (KW h.agg (by rw [pp.len r1];exact h.size) (λq=>by rw [pp.len r1];exact h.one q) w1 ?_)
 refine Aw _ _ (KW h.agg (by rw [pp.len r2];exact h.size) (λq=>by rw [pp.len r2];exact h.one q) w2 ?_)
 refine Aw _ _ (h.eq hd r1 r2 ?_)
 by_cases U:x=y
 ·rw [if_pos U] at O;simpa [lp,pure,U] using O
 ·rw [if_neg U] at O;simpa [lp,pure,U] using O
theorem Cd.L6{α:Type} [DecidableEq α] {pp:Rp α}{O em:Bool}{dep n:Nat}{f:Field}{s:St}{X:Halt->St->Prop}(h:Cd P f.type pp O dep)(hd:dep<=n)(U:f.name≠ "_"){E:LH}{us:Lv_}{x:α}(r1:pp.r E us x){cx:Av_}
  (w1:∀j w,us[j]? =some w->cx[f.offset+j]? =some w) {K:ForInStep Unit->St->Prop} (Y:K (.yield ()) s):
  lp P (if f.name≠ "_" then do
   Instr.checkKey em n f.type (← Go.part f.type cx f.offset)
   pure (ForInStep.yield ())
   else pure (ForInStep.yield ())) s K X:=by
 rw [if_pos U]
 refine Aw _ _ (KW h.agg (by rw [pp.len r1];exact h.size) (λq=>by rw [pp.len r1];exact h.one q) w1 ?_)
 refine Aw _ _ (h.BS hd r1 ?_)
 exact Y
theorem Lf{us r:Lv_}{o:Nat}(K:o=0):∀j w,us[j]? =some w->(us++r).toArray[o+j]? =some w:=λj w h=>by subst K;exact Ss (l:= []) j w h
theorem Ol{l us r:Lv_}{o:Nat}(K:o=l.length):∀j w,us[j]? =some w->(l++(us++r)).toArray[o+j]? =some w:=λj w h=>by
 subst K
 have:=Ss (l:=l) (r:=r) j w h
 rwa [List.append_assoc] at this
theorem Od{l us:Lv_}{o:Nat}(K:o=l.length):∀j w,us[j]? =some w->(l++us).toArray[o+j]? =some w:=λj w h=>by
 have:=Ol (r:= []) K j w h
 rwa [List.append_nil] at this
theorem PX{l m us:Lv_}{o:Nat}(K:o=l.length+m.length):∀j w,us[j]? =some w->(l++(m++us)).toArray[o+j]? =some w:=λj w h=>by
 have:=Od (l:=l++m) (o:=o) (by simp [K]) j w h
 rwa [List.append_assoc] at this
theorem Cd.two{α β:Type} [DecidableEq α] [DecidableEq β] {K:Rp α}{p2:Rp β}{a1 a0:Bool}{dep:Nat}{f1 f2:Field}(O:P.underlying t=some (.struct #[f1,f2]))(U:Cd P f1.type K a1 dep)(Y:Cd P f2.type p2 a0 dep)(a2:P.stoodInHeld t=false)
  (n1:f1.name≠ "_") (n2:f2.name≠ "_") (ag:f1.offset=0) (al:f2.offset=K.n) (a3:Bq P t=some (K.n+p2.n)):Cd P t (rP K p2) true (dep+1) where
 agg:=by unfold Dz;rw [O]
 size:=a3
 one:=λh=>by cases h
 eq {n E E' ws ws' x y s Q X} a4 am a5 k:=by
  obtain⟨n,rfl⟩:∃m,n=m+1:=⟨n - 1,by omega⟩;obtain⟨ap,aq,rfl,r1,r2⟩:=am;obtain⟨v1,v2,rfl,Z,aw⟩:=a5;simp only [Ht,if_true];unfold Op.equalIn;refine Aw _ _ (CB O ?_);refine Aw (x:=program) _ ?_;show lp P (if P.stoodInHeld t=true then _ else _) s _ _
  rw [if_neg (by rw [a2];exact Bool.false_ne_true)]
  dsimp only;rw [← Array.forIn_toList];simp only [List.forIn_cons,List.forIn_nil];refine Aw _ _ (Aw _ _ (U.field (by omega) n1 r1 Z (Lf ag) (Lf ag) ?_));by_cases ac:x.1=y.1
  ·rw [if_pos ac];refine Aw _ _ (Y.field (by omega) n2 r2 aw (Od (al.trans (K.len r1).symm)) (Od (al.trans (K.len Z).symm)) ?_);by_cases e2:x.2=y.2
   ·have e:x=y:=Prod.ext ac e2;rw [if_pos e2];simpa [lp,pure,e] using k
   ·have e:¬x=y:=λq=>e2 (by rw [q]);rw [if_neg e2];simpa [lp,pure,e] using k
  ·have e:¬x=y:=λq=>ac (by rw [q]);rw [if_neg ac];simpa [lp,pure,e] using k
 BS {n em E ws x s Q X} a4 am k:=by
  obtain⟨n,rfl⟩:∃m,n=m+1:=⟨n - 1,by omega⟩;obtain⟨ap,aq,rfl,r1,r2⟩:=am;simp only [Ht,if_true];unfold Instr.checkKey;refine Aw _ _ (CB O ?_)
  dsimp only;rw [← Array.forIn_toList];simp only [List.forIn_cons,List.forIn_nil];refine Aw _ _ (Aw _ _ (U.L6 (by omega) n1 r1 (Lf ag) ?_));refine Aw _ _ (Y.L6 (by omega) n2 r2 (Od (al.trans (K.len r1).symm)) ?_);exact k
 uniq {E E' ws ws' x} a b:=by
  obtain⟨ap,aq,rfl,r1,r2⟩:=a;obtain⟨v1,v2,rfl,Z,aw⟩:=b;rw [U.uniq r1 Z,Y.uniq r2 aw]
 same {E ws x} a w hw m:=by
  obtain⟨ap,aq,rfl,r1,r2⟩:=a;rcases List.mem_append.1 hw with hw | hw
  ·exact U.same r1 w hw m
  ·exact Y.same r2 w hw m
 now:=⟨_,O,.inl λv w=>rfl⟩
theorem Cd.three{α β a6:Type} [DecidableEq α] [DecidableEq β] [DecidableEq a6] {K:Rp α}{p2:Rp β}{p3:Rp a6}{a1 a8 a9:Bool}{dep:Nat}{f1 f2 f3:Field}(U:P.underlying t=some (.struct #[f1,f2,f3]))(Y:Cd P f1.type K a1 dep)(Z:Cd P f2.type p2 a8 dep)(ac:Cd P f3.type p3 a9 dep)(bb:P.stoodInHeld t=false)
  (n1:f1.name≠ "_") (n2:f2.name≠ "_") (a7:f3.name≠ "_") (ap:f1.offset=0) (aq:f2.offset=K.n) (aw:f3.offset=K.n+p2.n) (be:Bq P t=some (K.n+(p2.n+p3.n))):Cd P t (rP K (rP p2 p3)) true (dep+1) where
 agg:=by unfold Dz;rw [U]
 size:=be
 one:=λh=>by cases h
 eq {n E E' ws ws' x y s Q X} bi a0 bo k:=by
  obtain⟨n,rfl⟩:∃m,n=m+1:=⟨n - 1,by omega⟩;obtain⟨a2,_,rfl,r1,a3,a4,rfl,r2,r3⟩:=a0;obtain⟨v1,_,rfl,O,v2,bv,rfl,ag,a5⟩:=bo;simp only [Ht,if_true];unfold Op.equalIn;refine Aw _ _ (CB U ?_);refine Aw (x:=program) _ ?_;show lp P (if P.stoodInHeld t=true then _ else _) s _ _
  rw [if_neg (by rw [bb];exact Bool.false_ne_true)]
  dsimp only;rw [← Array.forIn_toList];simp only [List.forIn_cons,List.forIn_nil];refine Aw _ _ (Aw _ _ (Y.field (by omega) n1 r1 O (Lf ap) (Lf ap) ?_));by_cases al:x.1=y.1
  ·rw [if_pos al];refine Aw _ _ (Z.field (by omega) n2 r2 ag (Ol (aq.trans (K.len r1).symm)) (Ol (aq.trans (K.len O).symm)) ?_);by_cases e2:x.2.1=y.2.1
   ·rw [if_pos e2];refine Aw _ _ (ac.field (by omega) a7 r3 a5 (PX (by rw [aw,K.len r1,p2.len r2])) (PX (by rw [aw,K.len O,p2.len ag])) ?_);by_cases am:x.2.2=y.2.2
    ·have e:x=y:=Prod.ext al (Prod.ext e2 am);rw [if_pos am];simpa [lp,pure,e] using k
    ·have e:¬x=y:=λq=>am (by rw [q]);rw [if_neg am];simpa [lp,pure,e] using k
   ·have e:¬x=y:=λq=>e2 (by rw [q]);rw [if_neg e2];simpa [lp,pure,e] using k
  ·have e:¬x=y:=λq=>al (by rw [q]);rw [if_neg al];simpa [lp,pure,e] using k
 BS {n em E ws x s Q X} bi a0 k:=by
  obtain⟨n,rfl⟩:∃m,n=m+1:=⟨n - 1,by omega⟩;obtain⟨a2,_,rfl,r1,a3,a4,rfl,r2,r3⟩:=a0;simp only [Ht,if_true];unfold Instr.checkKey;refine Aw _ _ (CB U ?_)
  dsimp only;rw [← Array.forIn_toList];simp only [List.forIn_cons,List.forIn_nil];refine Aw _ _ (Aw _ _ (Y.L6 (by omega) n1 r1 (Lf ap) ?_));refine Aw _ _ (Z.L6 (by omega) n2 r2 (Ol (aq.trans (K.len r1).symm)) ?_);refine Aw _ _ (ac.L6 (by omega) a7 r3 (PX (by rw [aw,K.len r1,p2.len r2])) ?_);exact k
 uniq {E E' ws ws' x} a b:=by
  obtain⟨a2,_,rfl,r1,a3,a4,rfl,r2,r3⟩:=a;obtain⟨v1,_,rfl,O,v2,bv,rfl,ag,a5⟩:=b;rw [Y.uniq r1 O,Z.uniq r2 ag,ac.uniq r3 a5]
 same {E ws x} a w hw m:=by
  obtain⟨a2,_,rfl,r1,a3,a4,rfl,r2,r3⟩:=a;rcases List.mem_append.1 hw with hw | hw
  ·exact Y.same r1 w hw m
  ·rcases List.mem_append.1 hw with hw | hw
   ·exact Z.same r2 w hw m
   ·exact ac.same r3 w hw m
 now:=⟨_,U,.inl λv w=>rfl⟩
theorem Cd.key{α:Type} [DecidableEq α] {pp:Rp α}{K:Bool}{dep:Nat}(h:Cd P t pp K dep)(hd:dep<=10000):GD P t pp K where
 BS:=by
  rintro em E v x s Q X ⟨ws,Y,rfl⟩ k;exact h.BS hd Y k
 kind:=by
  obtain⟨kd,O,Z⟩:=h.now;refine⟨kd,O,Z.imp id λac=>?_⟩;rintro E v w x y ⟨ws,r1,rfl⟩ ⟨ws',r2,rfl⟩;exact ac r1 r2
 eq:=by
  rintro E v w x y s Q X ⟨ws,r1,rfl⟩ ⟨ws',r2,rfl⟩ k;exact h.eq hd r1 r2 k
 same:=by
  rintro E v x ⟨ws,r1,rfl⟩;cases K with
  | false=>
   obtain⟨w,rfl⟩:∃w,ws= [w]:=by
    have:=(pp.len r1).trans (h.one rfl)
    match ws,this with
    | [w],_=>exact⟨w,rfl⟩
   exact h.same r1 w (by simp) 9999
  | true=>
   show(ws.toArray.size==ws.toArray.size&&(ws.toArray.toList.zip ws.toArray.toList).all λ(x,y)=>Instr.sameBits 9999 x y)=true;rw [Bool.and_eq_true];refine⟨by simp,List.all_eq_true.2 ?_⟩;rintro⟨a,b⟩ ag;have O:∀(l:Lv_) a b,(a,b)∈l.zip l->a=b/\a∈l:=by
    intro l
    induction l with
    | nil=>intro a b h;simp at h
    | cons c l U=>
     intro a b h;simp only [List.zip_cons_cons,List.mem_cons,Prod.mk.injEq] at h;rcases h with⟨rfl,rfl⟩ | h
     ·exact⟨rfl,by simp⟩
     ·exact⟨(U a b h).1,List.mem_cons_of_mem _ (U a b h).2⟩
   obtain⟨rfl,hm⟩:=O _ a b ag;exact h.same r1 a (by simpa using hm) 9998
 uniq:=by
  rintro E v w x ⟨ws,r1,rfl⟩ ⟨ws',r2,rfl⟩;rw [h.uniq r1 r2]
section
variable {s:St}{ρ:Operand->Value}{x y:Operand}{d:Option Tmp}{u ty:TypeId}{p:String}{af:Ae_}{g:On_}{E E':LH}{ws ws':Lv_}
theorem Yd{α:Type} [DecidableEq α] {pp:Rp α}{dep:Nat}{a b:α}(h:Cd P t pp true dep)(hd:dep<=10000)(K:P.eqGuardType P.depth t=false)(r1:pp.r E ws a)(r2:pp.r E' ws' b)(O:ρ x= .agg ws.toArray)(U:ρ y= .agg ws'.toArray):Yl P ⟨d,.binOp .eql t x y u,ty,p,af,g⟩ ρ s (.bool (decide (a=b))):=by
 refine FO (sm:=do eqGuard .eql t x y (ρ x) (ρ y);binOp .eql t (ρ x) (ρ y)) rfl ?_
 rw [O,U];refine Aw _ _ (RB (.inl rfl) K ?_);have hb:binOp .eql t (.agg ws.toArray) (.agg ws'.toArray)=(do pure (.bool (← Op.equal t (.agg ws.toArray) (.agg ws'.toArray)))):=rfl
 rw [hb];exact Aw (x:=Op.equal t _ _) _ (h.eq hd r1 r2 ⟨rfl,rfl⟩)
theorem Su{α:Type} [DecidableEq α] {pp:Rp α}{dep:Nat}{a b:α}(h:Cd P t pp true dep)(hd:dep<=10000)(K:P.eqGuardType P.depth t=false)(r1:pp.r E ws a)(r2:pp.r E' ws' b)(O:ρ x= .agg ws.toArray)(U:ρ y= .agg ws'.toArray):Yl P ⟨d,.binOp .neq t x y u,ty,p,af,g⟩ ρ s (.bool (decide (a≠b))):=by
 refine FO (sm:=do eqGuard .neq t x y (ρ x) (ρ y);binOp .neq t (ρ x) (ρ y)) rfl ?_
 rw [O,U];refine Aw _ _ (RB (.inr rfl) K ?_);have hb:binOp .neq t (.agg ws.toArray) (.agg ws'.toArray)=(do pure (.bool (!(← Op.equal t (.agg ws.toArray) (.agg ws'.toArray))))):=rfl
 rw [hb];exact Aw (x:=Op.equal t _ _) _ (h.eq hd r1 r2 ⟨by simp,rfl⟩)
end
end
end Pal
namespace Pal
open Go Go.Conc
theorem U0{E H:LH}{B:List (Nat×Obj)}(i:Nat){bk:Nat}{o:Obj}(K:Nd E H B)(h:B[i]? =some (bk,o)):∃E',Le E E'/\E' bk=some o/\Nd E' H (B.eraseIdx i)/\Cr (mk E H B) (mk E' H (B.eraseIdx i)):=by
 have ap:=List.mem_of_getElem? h;have aq:E bk=none/\H bk=none:=by
  have:∀{B:List (Nat×Obj)},Nd E H B->(bk,o)∈B->E bk=none/\H bk=none:=by
   intro B K O
   induction B with
   | nil=>simp at O
   | cons q B Y=>
    rcases List.mem_cons.1 O with rfl | O
    ·exact⟨K.1,K.2.1⟩
    ·exact Y K.2.2.2 O
  exact this K ap
 let E':LH:=λx=>if x=bk then some o else E x
 have ag:E' bk=some o:=by simp [E']
 have hle:Le E E':=λx u U=>by
  have:x≠bk:=λe=>by subst e;rw [aq.1] at U;cases U
  simp [E',this,U]
 have aw:Nd E' H (B.eraseIdx i):=by
  have:∀{B:List (Nat×Obj)} {i:Nat},Nd E H B->B[i]? =some (bk,o)->Nd E' H (B.eraseIdx i)/\∀p∈B.eraseIdx i,p.1≠bk:=by
   intro B
   induction B with
   | nil=>intro i _ h;simp at h
   | cons q B Y=>
    obtain⟨c,v⟩:=q;intro i K h;have up:∀{B:List (Nat×Obj)},Nd E H B->(∀p∈B,p.1≠bk)->Nd E' H B:=by
     intro B K al
     induction B with
     | nil=>trivial
     | cons q B a0=>exact⟨by simpa [E',al q (by simp)] using K.1,K.2.1,K.2.2.1,a0 K.2.2.2 λp O=>al p (List.mem_cons_of_mem _ O)⟩
    cases i with
    | zero=>
     simp at h;obtain⟨rfl,rfl⟩:=h;exact⟨up K.2.2.2 K.2.2.1,K.2.2.1⟩
    | succ i=>
     simp at h;obtain⟨Z,ac⟩:=Y K.2.2.2 h;have am:c≠bk:=λe=>K.2.2.1 (bk,o) (List.mem_of_getElem? h) e.symm;refine⟨⟨by simpa [E',am] using K.1,K.2.1,λp O=>K.2.2.1 p (List.mem_of_mem_eraseIdx O),Z⟩,λp O=>?_⟩;rcases List.mem_cons.1 O with rfl | O
     ·exact am
     ·exact ac p O
  exact(this K h).1
 refine⟨E',hle,ag,aw,⟨λx u U=>hle x u U,λx u U=>(LD K h U).2,λx u U=>?_,rfl⟩⟩;by_cases e:x=bk
 ·subst e;right;have:u=o:=by have:E' x=some u:=U;rw [ag] at this;exact(Option.some.inj this).symm
  subst this;refine⟨I8 K h,?_⟩;cases a1:(mk E' H (B.eraseIdx i)).H x with
  | none=>rfl
  | some y=>exact absurd rfl (LD K h a1).1
 ·left;have Z:E' x=some u:=U;have ac:E' x=E x:=by simp [E',e]
  show E x=some u;rw [← ac];exact Z
theorem UP{E H:LH}{B0:List (Nat×Obj)}{e:TypeId}{K l c:Nat}{a:Option Addr}{blk:List (Nat×Obj)}{xs:Lv_}(ag:GS e K a l c blk xs)(U:Nd E H (B0++blk)):∃E',Le E E'/\OD E' K (.slice a l c) l xs/\Nd E' H B0/\Cr (mk E H (B0++blk)) (mk E' H B0):=by
 rcases ag with⟨rfl,rfl,rfl,rfl,rfl⟩ | ⟨bk,f,rfl,rfl,al,Y,rfl⟩
 ·simp only [List.append_nil] at U ⊢;exact⟨E,Le.refl _,.nil,U,.refl _⟩
 ·have am:(B0++ [(bk,Obj.cells f e (0,0))])[B0.length]? =some (bk,Obj.cells f e (0,0)):=by simp
  obtain⟨E',hle,ap,Z,ac⟩:=U0 B0.length U am;have aq:(B0++ [(bk,Obj.cells f e (0,0))]).eraseIdx B0.length=B0:=by rw [List.eraseIdx_append_of_length_le (Nat.le_refl _)];simp
  rw [aq] at Z ac;refine⟨E',hle,⟨_,c,rfl,Y,?_,.inr ⟨bk,0,f,e,(0,0),rfl,ap,λj w O=>?_⟩⟩,Z,ac⟩
  ·have:l*K<=c*K:=Nat.mul_le_mul_right _ Y;simp [al,Nat.min_eq_left this]
  ·rw [List.getElem?_take] at O;split at O
   ·simpa using O
   ·cases O
theorem US{α:Type}{pp:Rp α}{E H:LH}{S:List Seg}{e:TypeId}{a:Option Addr}{c:Nat}{seg:Seg}{xs:List α}(j:Nat)(U:OL e pp E a c seg xs)(ap:Ap E H S)(aq:S[j]? =some seg):∃E',Le E E'/\Ak pp E' a c xs/\Ap E' H (S.set j [])/\Cr (Al E H S) (Al E' H (S.set j [])):=by
 obtain⟨wss,U,ac,ag⟩:=U;have aw:∀ad:Addr,a=some ad->ad.spot=none:=λad K=>by
  rcases U with⟨O,_⟩ | ⟨bk,f,O,_⟩
  ·rw [O] at K;cases K
  ·rw [O] at K;cases K;rfl
 obtain⟨O,a0⟩:=Hg ap aq;obtain⟨E',hle,a1,a2,al⟩:=UP U a0;rw [← O] at al;refine⟨E',hle,?_,a2,al⟩;obtain⟨a3,a4,Y,a5,bb,Z⟩:=a1;obtain⟨rfl,-,rfl⟩:a=a3/\xs.length=xs.length/\c=a4:=by
  simp only [Value.slice.injEq] at Y;exact⟨Y.1,rfl,Y.2.2⟩
 refine⟨a5,?_⟩;rcases Z with Z | ⟨bk,off,f,a6,fr,a7,g2,a8⟩
 ·exact .inl ⟨List.eq_nil_of_length_eq_zero Z,λad K=> .inl (aw ad K)⟩
 ·refine .inr ⟨bk,off,a7,λi x am=>?_⟩;have a9:i<wss.length:=by rw [ac];exact(List.getElem?_eq_some_iff.1 am).1
  have hw:=List.getElem?_eq_getElem a9;refine⟨wss[i],pp.Ag hle (ag i x _ am hw),f,a6,fr,g2,λm w hm=>?_⟩;rw [Nat.add_assoc];exact a8 _ w (Ke (Ib ac ag) hw m w hm)
theorem Cr.get{s s₀:St}(h:Cr s s₀){b:Nat}{o:Obj}(K:s₀.get b=some o):s.get b=some o:=by
 unfold St.get at K ⊢;cases O:s₀.E b with
 | some o'=>
  rw [O] at K;simp only at K;cases K;rcases h.ET _ _ O with U | ⟨U,_⟩
  ·rw [U]
  ·cases he:s.E b with
   | none=>exact U
   | some Y=>
    have:=h.ext _ _ he;rw [O] at this;cases this;rfl
 | none=>
  rw [O] at K;simp only at K;cases he:s.E b with
  | none=>exact h.own _ _ K
  | some Y=>
   have:=h.ext _ _ he;rw [O] at this;cases this
theorem Cr.upd{s s₀:St}(h:Cr s s₀){b:Nat}(o:Obj)(hb:(∃u,s₀.H b=some u)∨s₀.E b=none):Cr (s.upd b o) (s₀.upd b o):=by
 refine⟨h.ext,λx u K=>?_,λx u K=>?_,h.q⟩
 ·simp only [St.upd] at K ⊢;by_cases e:x=b
  ·rw [if_pos e] at K ⊢;exact K
  ·rw [if_neg e] at K ⊢;exact h.own _ _ K
 ·have O:s₀.E x=some u:=K;rcases h.ET _ _ O with U | ⟨U,Y⟩
  ·exact .inl U
  ·refine .inr ?_;have e:x≠b:=λe=>by
    subst e;rcases hb with⟨w,hw⟩ | hb
    ·rw [hw] at Y;cases Y
    ·rw [hb] at O;cases O
   simp only [St.upd,if_neg e];exact⟨U,Y⟩
theorem Cr.none{s s₀:St}(h:Cr s s₀){b:Nat}(U:s.E b=none)(O:s.H b=none):s₀.E b=none/\s₀.H b=none:=by
 constructor
 ·cases he:s₀.E b with
  | none=>rfl
  | some o=>
   rcases h.ET _ _ he with K | ⟨K,_⟩
   ·rw [U] at K;cases K
   ·rw [O] at K;cases K
 ·cases he:s₀.H b with
  | none=>rfl
  | some o=>have:=h.own _ _ he;rw [O] at this;cases this
theorem Xf{P:Program}{α:Type}(x:Sem α):∀{s s₀:St} {Q:α->St->Prop} {X:Halt->St->Prop},Cr s s₀->lp P x s₀ Q X->lp P x s (λa s'=>∃Z,Cr s' Z/\Q a Z) (λh s'=>∃Z,Cr s' Z/\X h Z):=by
 induction x with
 | pure a=>intro s s₀ Q X g h;exact⟨s₀,g,h⟩
 | load m a k K=>
  intro s s₀ Q X g h;obtain⟨O,v,U,Y⟩:=h;obtain⟨o,al,am⟩:=Option.bind_eq_some_iff.1 U;exact⟨O,v,by unfold St.cell?;rw [g.get al];exact am,K v g Y⟩
 | store m a v k K=>
  intro s s₀ Q X g h;obtain⟨O,U,o,Y,ap,aq,aw⟩:=h;exact⟨O,U,o,g.own _ _ Y,ap,aq,K (g.upd _ (.inl ⟨o,Y⟩)) aw⟩
 | new o k K=>
  intro s s₀ Q X g h;refine⟨by rw [← g.q];exact h.1,λr O U=>?_⟩;obtain⟨ag,e2⟩:=g.none O U;exact K r (g.upd _ (.inr ag)) (h.2 r ag e2)
 | shape r k K=>intro s s₀ Q X g h;obtain⟨o,O,U⟩:=h;exact⟨o,g.get O,K _ g U⟩
 | freeze a n k K=>intro s s₀ Q X g h;exact h.elim
 | frozen a k K=>intro s s₀ Q X g h;obtain⟨o,O,U⟩:=h;exact⟨o,g.get O,K _ g U⟩
 | getObj r k K=>intro s s₀ Q X g h;obtain⟨o,O,U,Y⟩:=h;exact⟨o,g.get O,U,K _ g Y⟩
 | setObj r o k K=>
  intro s s₀ Q X g h;obtain⟨⟨o',O,a0⟩,U,Y⟩:=h;exact⟨⟨o',g.own _ _ O,a0⟩,U,K (g.upd _ (.inl ⟨o',O⟩)) Y⟩
 | choose q k K=>
  intro s s₀ Q X g h;simp only [lp] at h ⊢;split
  ·rename_i ac;rw [if_pos ac] at h;exact K _ g h
  ·rename_i ac;rw [if_neg ac] at h;exact⟨by rw [← g.q];exact h.1,λt=>K _ g (h.2 t)⟩
 | sys c k K=>intro s s₀ Q X g h;exact h.elim
 | program k K=>intro s s₀ Q X g h;exact K _ g h
 | mark m k K=>
  intro s s₀ Q X g h;refine⟨?_,K g h.2⟩;rcases h.1 with⟨O,U⟩ | O
  ·exact .inl ⟨by rw [← g.q];exact O,U⟩
  ·exact .inr O
 | halt h=>intro s s₀ Q X g a1;exact⟨s₀,g,a1⟩
section
variable {P:Program}{J:Judge P}{Q:Gs_}{b:Frame}{n:Nat}{ds:Ld_}{ops:Ao_}{k:Li_}{cs:Lf_}{m fuel:Nat}{D:Nat->Bool}{listed:Array Bool}{L:Env}{s:St}{E E' H:LH}{S:List Seg}
variable {d:Option Tmp}{x y:Operand}{t u ty e:TypeId}{p:String}{af:Ae_}{g:On_}{v:Value}{i:Nat}{kd:IntKind}
theorem Rz{f:FuncId}{args:Array Operand}{ats:Array TypeId}{vs:Lv_}{seg:Seg}{R:Value->LH->Seg->Prop}(j:Nat)(a3:∀x,D x=true->∃(O:Nat) (o:Obj),(S.set j [])[O]? =some [(x,o)])(a4:AH J f vs E seg R)(a5:Region.ready .any ops listed= [i])
  (a6:ops[i]? =some ⟨d,.call ⟨.value (.func f),args,ats⟩,ty,p,af,g⟩) (a7:Bj n d=true) (hw:AT L ops ⟨d,.call ⟨.value (.func f),args,ats⟩,ty,p,af,g⟩=some true) (hb:DL P f=true) (a8:evs L args.toList=some vs) (Z:Ap E H S) (ac:S[j]? =some seg)
  (a9:∀v E' seg',Le E E'->R v E' seg'->Ap E' H (S.set j seg')->AR J Q b n ds ops k cs m D fuel (Bb listed i) (Ax L d v) (Al E' H (S.set j seg'))):
  AR J Q b n ds ops k cs m D (fuel+1) listed L (Al E H S):=by
 have al:S.flatten.Perm (seg++(S.set j []).flatten):=(Ei (seg':=seg) ac).1.trans List.perm_append_comm;have am:Nd E H (seg++(S.set j []).flatten):=Nd.perm Z al;have bb:Al E H S=mk E (Bm (S.set j []).flatten H) seg:=by
  rw [show Al E H S=mk E H S.flatten from rfl,Ft Z al];unfold mk;rw [F8]
 have ap:=EX.Lt (a4 (Bm (S.set j []).flatten H) (Nd.front am)) (by rintro v s' ⟨E',B',_,_,_,rfl⟩;rfl);rw [← bb] at ap;refine AR.call rfl a5 a6 a7 hw hb a8 ap ?_;rintro v b3 ⟨⟨E',B',hle,be,bi,rfl⟩,w,bo⟩;have e2:mk E' (Bm (S.set j []).flatten H) B'=mk E' H (B'++(S.set j []).flatten):=by unfold mk;rw [F8]
 have bv:Nd E H (S.set j []).flatten:=by
  have:=am;rw [Nd.iff] at this ⊢;rw [List.map_append,List.nodup_append] at this;exact⟨this.1.2.1,λq bw=>this.2 q (List.mem_append_right _ bw)⟩
 have b0:Nd E' H (S.set j []).flatten:=bv.grow λx U=>by
  have b1:=bo.d x U;have ag:Bm B' (Bm (S.set j []).flatten H) x=none:=b1;exact(H5 ag).1
 have aq:Nd E' H (B'++(S.set j []).flatten):=Nd.glue bi b0;have aw:(B'++(S.set j []).flatten).Perm (S.set j B').flatten:=List.perm_append_comm.trans (Ei ac).2.symm;have a0:Ap E' H (S.set j B'):=Nd.perm aq aw;rw [e2,Ft aq aw];refine⟨rfl,λx o U=>?_,a9 v E' B' hle be a0⟩;by_cases hd:D x=true
 ·obtain⟨O,o',Y⟩:=a3 x hd;have a1:j≠O:=λh=>by
   subst h;rw [List.getElem?_set_self (List.getElem?_eq_some_iff.1 ac).1] at Y;cases Y
  have a2:S[O]? =some [(x,o')]:=by rw [List.getElem?_set_ne a1] at Y;exact Y
  have ag:(Al E H S).get x=some o':=El (i:=0) Z a2 rfl;have b2:(Al E' H (S.set j B')).get x=some o':=El (i:=0) a0 (by rw [List.getElem?_set_ne a1];exact a2) rfl;have K:(if D x then(Al E H S).get x else E x)=some o:=U
  show(if D x then(Al E' H (S.set j B')).get x else E' x)=some o
  rw [if_pos hd] at K ⊢;rw [b2,← ag];exact K
 ·have K:(if D x then(Al E H S).get x else E x)=some o:=U
  show(if D x then(Al E' H (S.set j B')).get x else E' x)=some o
  rw [if_neg hd] at K ⊢;exact hle _ _ K
theorem AR.perm{S':List Seg}(K:S.flatten.Perm S'.flatten)(O:Ap E H S)(h:Ap E H S'->AR J Q b n ds ops k cs m D fuel listed L (Al E H S')):AR J Q b n ds ops k cs m D fuel listed L (Al E H S):=by
 have e:Al E H S=Al E H S':=Ft O K;rw [e];exact h (Nd.perm O K)
theorem KV{A B:Seg}(j:Nat)(K:S[j]? =some (A++B))(O:Ap E H S)(h:Ap E H (S.set j A++ [B])->AR J Q b n ds ops k cs m D fuel listed L (Al E H (S.set j A++ [B]))):AR J Q b n ds ops k cs m D fuel listed L (Al E H S):=by
 refine AR.perm ?_ O h;have U:=(Ei (seg':=A) K).1;have Y:=(Ei (seg':=A) K).2;rw [GV];refine U.trans ?_;have Z:=Y.symm.append_right B
 rwa [List.append_assoc] at Z
theorem JA.ghost:∀(fuel:Nat) {listed:Array Bool} {T:Av_} {s s₀:St},Cr s s₀->JA J Q b ds ops k cs m Dc fuel listed T s₀->JA J Q b ds ops k cs m Dc fuel listed T s
 | 0,listed,T,s,s₀,g,h=>⟨h.1,J.ghost g h.2⟩
 | fuel+1,listed,T,s,s₀,g,h=>by
  rcases h with⟨O,U⟩ | ⟨O,U,ac⟩
  ·exact .inl ⟨O,λt=>J.ghost g (U t)⟩
  ·refine .inr ⟨O,by rw [← g.q];exact U,λi hi o ag=>?_⟩;obtain⟨a1,al,am⟩:=ac i hi o ag;refine⟨a1,λe=>JA.ghost fuel g (al e),λe=>?_⟩;have ap:=Xf _ (s:=BA Dc s) (s₀:=BA Dc s₀) g (am e);refine Ew _ ap ?_ (λ_ s' ⟨_,_,h⟩=>h);intro aq s' K;obtain⟨Y,Z,K⟩:=K;cases aq with
   | value v=>exact JA.ghost fuel (s:=s') (s₀:=Y) Z K
   | skip=>exact JA.ghost fuel (s:=s') (s₀:=Y) Z K
   | enter f args=>
    obtain⟨R,aw,a0⟩:=K;refine⟨R,λQ c cs a2=>J.ghost (s:=s') (s₀:=Y) Z (aw Q c cs a2),λv a3 a4=>?_⟩;obtain⟨a5,a6,a7⟩:=a0 v a3 a4;exact⟨a5,λx o K=>a6 x o (g.ext x o K),a7⟩
   | _=>exact K.elim
theorem Fp{α:Type}{pp:Rp α}{a:Option Addr}{c:Nat}{seg:Seg}{xs:List α}(j:Nat)(K:OL e pp E a c seg xs)(O:Ap E H S)(U:S[j]? =some seg)
  (h:∀E',Le E E'->Ak pp E' a c xs->Ap E' H (S.set j [])->AR J Q b n ds ops k cs m Dc fuel listed L (Al E' H (S.set j []))):AR J Q b n ds ops k cs m Dc fuel listed L (Al E H S):=λT Y=>by
 obtain⟨E',Z,ac,ag,al⟩:=US j K O U
 exact JA.ghost _ al (h E' Z ac ag T Y)
end
end Pal
namespace Pal
open Go Go.Conc
theorem oi{α:Type}{a b:α}(h:some a=some b):a=b:=Option.some.inj h
theorem bs{α β:Type}{o:Option α}{f:α->Option β}{r:β}(h:o.bind f=some r):∃x,o=some x/\f x=some r:=bind_some h
def Ii(L:Env):Env->List (Option Value)
 | []=> []
 | (t,_)::L'=>look L t::Ii L L'
def Im:Env->List (Option Value)
 | []=> []
 | (_,v)::L'=>some v::Im L'
theorem NX{L:Env}:∀{L':Env},Ii L L'=Im L'->Sub L' L
 | [],_=>trivial
 | (t,v)::L',h=>by
  simp only [Ii,Im,List.cons.injEq] at h
  exact⟨h.1,NX h.2⟩
section
variable {P:Program}{J:Judge P}{Q:Gs_}{b:Frame}{n:Nat}{L L':Env}{ds:Ld_}{k k':Li_}{cs:Lf_}{s:St}{ops:Ao_}{i:Nat}{rest:List Nat}{v:Value}
variable {d:Option Tmp}{op:Op}{ty:TypeId}{p:String}{af:Ae_}{g:On_}
theorem EF(L':Env)(h:Ii L L'=Im L')(k':JL J Q b n L' ds k cs s):JL J Q b n L ds k cs s:=Fe (NX h) k'
theorem AA(k':JL J Q b n L' ds k cs s)(h:Ii L L'=Im L'):JL J Q b n L ds k cs s:=Fe (NX h) k'
def Fz(b:Frame)(n:Nat)(L:Env)(ops:Ao_)(i:Nat):Option Oper:=
 match Jj ops.toList i with
 | some ⟨d,op,ty,p,af,g⟩=>match AT L ops ⟨d,op,ty,p,af,g⟩ with
  | some true=>match BS b n ⟨d,op,ty,p,af,g⟩ with
   | true=>some ⟨d,op,ty,p,af,g⟩
   | false=>none
  | _=>none
 | none=>none
theorem Kk{o:Oper}(h:Fz b n L ops i=some o):ops[i]? =some o/\AT L ops o=some true/\BS b n o=true:=by
 unfold Fz at h;split at h
 ·rename_i K;rw [K0,Array.getElem?_toList] at K;split at h
  ·rename_i hw;split at h
   ·rename_i O;cases h;exact⟨K,hw,O⟩
   ·cases h
  ·cases h
 ·cases h
theorem An(K:Fz b n L ops i=some ⟨d,op,ty,p,af,g⟩)(h:∀ρ,Fb L ρ->Yl P ⟨d,op,ty,p,af,g⟩ ρ s v)(O:JL J Q b n (Ax L d v) ds (.inRegion ops rest::k) cs s):
  JL J Q b n L ds (.inRegion ops (i::rest)::k) cs s:=
 let ⟨U,Y,Z⟩:=Kk K
 A9 U Y Z h O
theorem PQ{f:FuncId}{fn:Func}{c:Code}{E:LH}{vs:Lv_}{B:Seg}{R:Value->LH->Seg->Prop}(O:P.funcs[f]? =some fn)(hb:fn.body=some c)(U:Nat.ble vs.length fn.ntmps=true)
  (h:∀(Q:Gs_) (K:Frame) (cs:Lf_) (H:LH),Ap E H [B]->(∀v E' S' B',Le E E'->S'.flatten=B'->R v E' B'->Ap E' H S'->J.ok Q (G (K.finish v) cs) (Al E' H S'))->JL J Q (base f) fn.ntmps (Gl 0 vs) [] [.code c] (K::cs) (Al E H [B])):AH J f vs E B R:=
 AH.enter O hb (Nat.le_of_ble_eq_true U) h
def OC(n:Nat)(L:Env)(ops:Ao_)(i:Nat):Option Env:=
 match Jj ops.toList i with
 | some ⟨d,op,ty,p,af,g⟩=>match AT L ops ⟨d,op,ty,p,af,g⟩ with
  | some true=>match Bj n d with
   | true=>match KB L op with
    | some v=>match d with
     | some d=>some ((d,v)::L)
     | none=>some L
    | none=>none
   | false=>none
  | some false=>match Bj n d with
   | true=>match d with
    | some d=>some ((d,undef)::L)
    | none=>some L
   | false=>none
  | none=>none
 | none=>none
def G1(n:Nat)(L:Env)(ops:Ao_)(i:Nat):Option Oper:=
 match Jj ops.toList i with
 | some ⟨d,op,ty,p,af,g⟩=>match AT L ops ⟨d,op,ty,p,af,g⟩ with
  | some true=>match Bj n d with
   | true=>some ⟨d,op,ty,p,af,g⟩
   | false=>none
  | _=>none
 | none=>none
theorem Pd{o:Oper}(h:G1 n L ops i=some o):ops[i]? =some o/\AT L ops o=some true/\Bj n o.dst=true:=by
 unfold G1 at h;split at h
 ·rename_i K;rw [K0,Array.getElem?_toList] at K;split at h
  ·rename_i hw;split at h
   ·rename_i O;cases h;exact⟨K,hw,O⟩
   ·cases h
  ·cases h
 ·cases h
theorem WH(h:OC n L ops i=some L'):∃o,ops[i]? =some o/\Bj n o.dst=true/\((∃v,AT L ops o=some true/\KB L o.op=some v/\L'=Ax L o.dst v)∨(AT L ops o=some false/\L'=Ax L o.dst undef)):=by
 unfold OC at h;split at h
 ·rename_i d op ty p af g O;rw [K0,Array.getElem?_toList] at O;refine⟨_,O,?_⟩;split at h
  ·rename_i hw;split at h
   ·rename_i K;refine⟨K,.inl ?_⟩;split at h
    ·rename_i v U;refine⟨v,hw,U,?_⟩;cases d with
     | none=>cases h;rfl
     | some d=>cases h;rfl
    ·cases h
   ·cases h
  ·rename_i hw;split at h
   ·rename_i K;refine⟨K,.inr ⟨hw,?_⟩⟩;cases d with
    | none=>cases h;rfl
    | some d=>cases h;rfl
   ·cases h
  ·cases h
 ·cases h
variable {m:Nat}{D:Nat->Bool}{fuel:Nat}{listed:Array Bool}
theorem B9(i:Nat)(K:Ek ops m=true)(O:s.q=false)(h:OC n L ops i=some L')
  (U:AR J Q b n ds ops k cs m D fuel (Bb listed i) L' s) (Y:Gn ops listed m i=true:=by decide+kernel):AR J Q b n ds ops k cs m D (fuel+1) listed L s:=by
 obtain⟨o,Z,ac,⟨v,hw,ag,rfl⟩ | ⟨hw,rfl⟩⟩:=WH h
 ·exact JG.val i Z K Y O hw ac (λρ al s' _=>Nr al ag) U
 ·exact aH i Z K Y O hw ac U
theorem AP(i:Nat)(K:Ek ops m=true)(O:s.q=false)(U:G1 n L ops i=some ⟨d,op,ty,p,af,g⟩)
  (Y:∀ρ,Fb L ρ->∀s':St,(∀x o,(BA D s).E x=some o->s'.E x=some o)->Yl P ⟨d,op,ty,p,af,g⟩ ρ s' v)
  (Z:AR J Q b n ds ops k cs m D fuel (Bb listed i) (Ax L d v) s) (ac:Gn ops listed m i=true:=by decide+kernel):AR J Q b n ds ops k cs m D (fuel+1) listed L s:=by
 obtain⟨ag,al,am⟩:=Pd U;exact JG.val i ag K ac O al am Y Z
end
end Pal
namespace Pal
open Go Go.Conc
abbrev Jn(E H E':LH)(S:List Seg)(K L:Env)(s:St)(R:Prop):Prop:=L=K/\s=Al E' H S/\Le E E'/\Ap E' H S/\R
abbrev Jm(E H E':LH)(S:List Seg)(K L:Env)(s:St):Prop:=L=K/\s=Al E' H S/\Le E E'/\Ap E' H S
def Ow(L:Env):List ResultVar->Option (Lv_)
 | []=>some []
 | .tmp t::rs=>match look L t with
  | some v=>match Ow L rs with
   | some vs=>some (v::vs)
   | none=>none
  | none=>none
 | _=>none
theorem SQ{P:Program}{L:Env}{s:St}:∀{rs:List ResultVar} {vs:Lv_},Ow L rs=some vs->RV P L s rs vs
 | [],vs,h=>by cases h;trivial
 | .tmp t::rs,vs,h=>by
  unfold Ow at h
  split at h
  ·rename_i v K
   split at h
   ·rename_i ws hw;cases h;exact⟨K,SQ hw⟩
   ·cases h
  ·cases h
 | .cell _ _::_,_,h=>by cases h
section
variable {P:Program}{J:Judge P}{Q:Gs_}{b:Frame}{n:Nat}{L L':Env}{ds:Ld_}{k k':Li_}{cs:Lf_}{s:St}{ops:Ao_}{i:Nat}{rest:List Nat}{v:Value}{E H:LH}{S:List Seg}
variable {d:Option Tmp}{op:Op}{x y:Operand}{t ft ty e:TypeId}{p:String}{af:Ae_}{g:On_}
theorem AJ{c:Frame}{fn:Func}{vs:Lv_}(O:P.funcs[b.fn]? =some fn)(K:(b.kind== .normal&&b.roundOf.isNone)=true)(U:Ow L fn.results.toList=some vs)(h:J.ok Q (G (c.finish (Np vs)) cs) s):JL J Q b n L [] (.code .ret::k) (c::cs) s:=by
 simp only [Bool.and_eq_true,beq_iff_eq,Option.isNone_iff_eq_none] at K;exact JL.ret K.1 K.2 (By.list O rfl (SQ U)) h
theorem BP{f:FuncId}{args:Array Operand}{ats:Array TypeId}{vs:Lv_}{R:Value->LH->Seg->Prop}
  (O:AH J f vs E [] R) (U:Fz b n L ops i=some ⟨d,.call ⟨.value (.func f),args,ats⟩,ty,p,af,g⟩) (Y:evs L args.toList=some vs) (hb:DL P f=true)
  (Z:Ap E H S) (ac:∀v E' seg',Le E E'->R v E' seg'->Ap E' H (S++ [seg'])->JL J Q b n (Ax L d v) ds (.inRegion ops rest::k) cs (Al E' H (S++ [seg']))):
  JL J Q b n L ds (.inRegion ops (i::rest)::k) cs (Al E H S):=by
 obtain⟨ag,al,K⟩:=Kk U;refine JS.call O ag al ?_ hb Y Z ac;simp only [BS,Bool.and_eq_true] at K ⊢;exact⟨K.1,K.2.1⟩
theorem B8{f:FuncId}{args:Array Operand}{ats:Array TypeId}{vs:Lv_}{v:Value}
  (O:AH J f vs E [] (λw E' B'=>w=v/\B'= [])) (U:Fz b n L ops i=some ⟨d,.call ⟨.value (.func f),args,ats⟩,ty,p,af,g⟩) (Y:evs L args.toList=some vs) (hb:DL P f=true)
  (K:Ap E H S) (Z:∀E',Le E E'->Ap E' H (S++ [[]])->JL J Q b n (Ax L d v) ds (.inRegion ops rest::k) cs (Al E' H (S++ [[]]))):
  JL J Q b n L ds (.inRegion ops (i::rest)::k) cs (Al E H S):=BP O U Y hb K (by rintro _ E' _ hle ⟨rfl,rfl⟩ K;exact Z E' hle K)
theorem CG{f:FuncId}{args:Array Operand}{ats:Array TypeId}{vs:Lv_}{seg:Seg}{R:Value->LH->Seg->Prop}(j:Nat)
  (O:AH J f vs E seg R) (U:Fz b n L ops i=some ⟨d,.call ⟨.value (.func f),args,ats⟩,ty,p,af,g⟩) (Y:evs L args.toList=some vs) (hb:DL P f=true)
  (Z:Ap E H S) (ac:S[j]? =some seg) (ag:∀v E' seg',Le E E'->R v E' seg'->Ap E' H (S.set j seg')->JL J Q b n (Ax L d v) ds (.inRegion ops rest::k) cs (Al E' H (S.set j seg'))):
  JL J Q b n L ds (.inRegion ops (i::rest)::k) cs (Al E H S):=by
 obtain⟨al,am,K⟩:=Kk U;refine RN j O al am ?_ hb Y Z ac ag;simp only [BS,Bool.and_eq_true] at K ⊢;exact⟨K.1,K.2.1⟩
def LY(K:Array Field)(i:Nat):Option (Nat×TypeId):=match K[i]? with
 | some f=>some (f.offset,f.type)
 | none=>none
theorem Bd{r m m':Int}{u:TypeId}(h:Au (m+m')=some r)(K:Fz b n L ops i=some ⟨d,.binOp .add t x y u,ty,p,af,g⟩)(O:ev L x=some (iV m))(U:ev L y=some (iV m'))
  (Y:JL J Q b n (Ax L d (iV r)) ds (.inRegion ops rest::k) cs s):JL J Q b n L ds (.inRegion ops (i::rest)::k) cs s:=An K (λ_ q=>FR (q _ _ O) (q _ _ U) h) Y
theorem Cv{r m m':Int}{u:TypeId}(h:Au (m - m')=some r)(K:Fz b n L ops i=some ⟨d,.binOp .sub t x y u,ty,p,af,g⟩)(O:ev L x=some (iV m))(U:ev L y=some (iV m'))
  (Y:JL J Q b n (Ax L d (iV r)) ds (.inRegion ops rest::k) cs s):JL J Q b n L ds (.inRegion ops (i::rest)::k) cs s:=An K (λ_ q=>Ec (q _ _ O) (q _ _ U) h) Y
theorem JL.ln{a:Option Addr}{e:TypeId}{l c:Nat}{ats:Array TypeId}(K:P.underlying t=some (.slice e))(O:Fz b n L ops i=some ⟨d,.call ⟨.builtin .len,#[x],ats⟩,ty,p,af,g⟩)(U:ats[0]? =some t)(Y:ev L x=some (.slice a l c))
  (Z:JL J Q b n (Ax L d (.int .i64 l)) ds (.inRegion ops rest::k) cs s):JL J Q b n L ds (.inRegion ops (i::rest)::k) cs s:=An O (λ_ q=>Yl.len U K (q _ _ Y)) Z
theorem JL.fd{bk o O off:Nat}{U:Array Field}{Y:Nat}(Z:P.underlying t=some (.struct U))(ac:Bq P ft=some (O+1))(ag:Fz b n L ops i=some ⟨d,.fieldAddr t x Y,ty,p,af,g⟩)(al:ev L x=some (.pointer (some ⟨bk,o,none⟩)))(K:LY U Y=some (off,ft))
  (am:JL J Q b n (Ax L d (.pointer (some ⟨bk,o+off,none⟩))) ds (.inRegion ops rest::k) cs s):
  JL J Q b n L ds (.inRegion ops (i::rest)::k) cs s:=by
 unfold LY at K;split at K
 ·rename_i f ap;cases K;refine An ag (λρ h=>GA (a:=⟨bk,o,none⟩) O f.offset Z ac ap rfl rfl (h _ _ al)) ?_;rw [Ej rfl];exact am
 ·cases K
theorem Ca{bk o:Nat}{ws:Lv_}(j:Nat)(K:At E bk o ws)(O:Dz P t=some false)(U:Fz b n L ops i=some ⟨d,.load t x,ty,p,af,g⟩)(Y:ev L x=some (.pointer (some ⟨bk,o+j,none⟩)))(Z:ws[j]? =some v)
  (ac:JL J Q b n (Ax L d v) ds (.inRegion ops rest::k) cs (Al E H S)):
  JL J Q b n L ds (.inRegion ops (i::rest)::k) cs (Al E H S):=
 An U (λ_ h=>Yl.load O (h _ _ Y) (At.Ll K Z)) ac
theorem bJ{bk off:Nat}{c:Av_}(j:Nat)(K:Ap E H S)(O:Bq P t=some v.cells.size)(U:Fz b n L ops i=some ⟨d,.store t x y,ty,p,af,g⟩)
  (Y:ev L x=some (.pointer (some ⟨bk,off,none⟩))) (Z:ev L y=some v) (ac:S[j]? =some [(bk,.cells c e (0,0))])
  (h:Ap E H (S.set j [(bk,.cells (Bh c off v.cells.toList) e (0,0))])->JL J Q b n (Ax L d undef) ds (.inRegion ops rest::k) cs (Al E H (S.set j [(bk,.cells (Bh c off v.cells.toList) e (0,0))])))
  (hle:off+v.cells.size<=c.size:=by exact Nat.le_of_ble_eq_true rfl) (ag:∀u∈v.cells.toList,Dg u=true:=by simp [Value.cells,Dg]):
  JL J Q b n L ds (.inRegion ops (i::rest)::k) cs (Al E H S):=by
 obtain⟨al,am,ap⟩:=Kk U;exact JS.store j al am ap K Y Z O ag ac hle h
theorem BY{bk o:Nat}{ws:Lv_}(K:At E bk o ws)(O:Dz P t=some true)(U:Bq P t=some ws.length)(Y:Fz b n L ops i=some ⟨d,.load t x,ty,p,af,g⟩)(Z:ev L x=some (.pointer (some ⟨bk,o,none⟩)))
  (ac:JL J Q b n (Ax L d (.agg ws.toArray)) ds (.inRegion ops rest::k) cs (Al E H S)):
  JL J Q b n L ds (.inRegion ops (i::rest)::k) cs (Al E H S):=
 An Y (λ_ h=>FQ O U (h _ _ Z) (At.Mb K)) ac
variable {m:Nat}{D:Nat->Bool}{fuel:Nat}{listed:Array Bool}
theorem JG.fd{bk o O off:Nat}{U:Array Field}{Y:Nat}(i:Nat)(Z:Ek ops m=true)(ac:P.underlying t=some (.struct U))(ag:Bq P ft=some (O+1))(al:s.q=false)(am:G1 n L ops i=some ⟨d,.fieldAddr t x Y,ty,p,af,g⟩)(ap:ev L x=some (.pointer (some ⟨bk,o,none⟩)))(K:LY U Y=some (off,ft))
  (aq:AR J Q b n ds ops k cs m D fuel (Bb listed i) (Ax L d (.pointer (some ⟨bk,o+off,none⟩))) s) (aw:Gn ops listed m i=true:=by decide+kernel):AR J Q b n ds ops k cs m D (fuel+1) listed L s:=by
 unfold LY at K;split at K
 ·rename_i f a0;cases K;refine AP i Z al am (λρ h _ _=>GA (a:=⟨bk,o,none⟩) O f.offset ac ag a0 rfl rfl (h _ _ ap)) ?_ aw;rw [Ej rfl];exact aq
 ·cases K
theorem CW{bk o:Nat}{ws:Lv_}(i:Nat)(K:Ek ops m=true)(j:Nat)(O:At (BA D s).E bk o ws)(U:Dz P t=some false)(Y:s.q=false)(Z:G1 n L ops i=some ⟨d,.load t x,ty,p,af,g⟩)(ac:ev L x=some (.pointer (some ⟨bk,o+j,none⟩)))(ag:ws[j]? =some v)
  (al:AR J Q b n ds ops k cs m D fuel (Bb listed i) (Ax L d v) s) (am:Gn ops listed m i=true:=by decide+kernel):AR J Q b n ds ops k cs m D (fuel+1) listed L s:=
 AP i K Y Z (λ_ h _ ap=>Yl.load U (h _ _ ac) (At.Jg O ap ag)) al am
theorem F9{bk o:Nat}{ws:Lv_}(i:Nat)(K:Ek ops m=true)(O:At (BA D s).E bk o ws)(U:Dz P t=some true)(Y:Bq P t=some ws.length)(Z:s.q=false)(ac:G1 n L ops i=some ⟨d,.load t x,ty,p,af,g⟩)(ag:ev L x=some (.pointer (some ⟨bk,o,none⟩)))
  (al:AR J Q b n ds ops k cs m D fuel (Bb listed i) (Ax L d (.agg ws.toArray)) s) (am:Gn ops listed m i=true:=by decide+kernel):AR J Q b n ds ops k cs m D (fuel+1) listed L s:=
 AP i K Z ac (λ_ h _ ap=>FQ U Y (h _ _ ag) (At.TR O ap)) al am
end
end Pal
namespace Pal
open Go Go.Conc
abbrev QD:=Int×List Int×Nat
abbrev AL:=List (Int×Int)
abbrev CJ:=List Int×Int×Nat
abbrev Am:=Option Addr
abbrev Eu:Rp (Int×Int):=rP rI rI
theorem ip{α:Type}{p:Prop} [Decidable p] {A B:Option α}{r:α}(h:(if p then A else B)=some r)(c:p):A=some r:=by rwa [if_pos c] at h
theorem im{α:Type}{p:Prop} [Decidable p] {A B:Option α}{r:α}(h:(if p then A else B)=some r)(c:¬p):B=some r:=by rwa [if_neg c] at h
theorem ib{α:Type}{c:Bool}{A B:Option α}{r:α}(h:(if c=true then A else B)=some r)(K:c=false):B=some r:=by subst K;simpa using h
def Qt(n:Nat)(ops:Ao_):List Nat->Nat->Env->Option (Nat×Env)
 | [],f,L=>some (f,L)
 | i::l,f+1,L=>match OC n L ops i with
  | some L'=>Qt n ops l f L'
  | none=>none
 | _::_,0,_=>none
def Qs(ops:Ao_)(m:Nat):Array Bool->List Nat->Bool
 | _,[]=>true
 | listed,i::l=>Gn ops listed m i&&Qs ops m (Bb listed i) l
def Uc:Array Bool->List Nat->Array Bool
 | listed,[]=>listed
 | listed,i::l=>Uc (Bb listed i) l
theorem AX{P:Program}{J:Judge P}{Q:Gs_}{b:Frame}{n:Nat}{ds:Ld_}{k:Li_}{cs:Lf_}{s:St}{ops:Ao_}{m:Nat}{D:Nat->Bool}{L':Env}{U:Nat}(Y:Ek ops m=true)(Z:s.q=false):
  ∀(l:List Nat) {fuel:Nat} {listed:Array Bool} {L:Env},Qt n ops l fuel L=some (U,L')->AR J Q b n ds ops k cs m D U (Uc listed l) L' s->(K:Qs ops m listed l=true:=by decide+kernel)->AR J Q b n ds ops k cs m D fuel listed L s
 | [],fuel,listed,L,h,O,_=>by cases h;exact O
 | i::l,fuel,listed,L,h,O,K=>by
  cases fuel with
  | zero=>cases h
  | succ fuel=>
   unfold Qs at K;rw [Bool.and_eq_true] at K;unfold Qt at h;split at h
   ·rename_i ac e;exact B9 i Y Z e (AX Y Z l h O K.2) K.1
   ·cases h
theorem zg{P:Program}{J:Judge P}{Q:Gs_}{b:Frame}{n:Nat}{L L':Env}{ds:Ld_}{k k':Li_}{cs:Lf_}{s:St}(m:Nat)(h:N3 b n m k L=some (k',L'))(K:JL J Q b n L' ds k' cs s):JL J Q b n L ds k cs s:=JL.go m h K
abbrev bX(r:Nat)(c:Av_)(t:TypeId):Seg:= [(r,.cells c t (0,0))]
end Pal
namespace Pal
open Go Go.Conc
section
variable {P:Program}{J:Judge P}{Q:Gs_}{b:Frame}{n:Nat}{L L':Env}{ds:Ld_}{k:Li_}{cs:Lf_}{s:St}{ops:Ao_}{E H:LH}{S:List Seg}
variable {α:Type}{A B:Option α}{r:α}
theorem AN{c:Operand}{x y:Code}{p:Prop} [Decidable p] (K:(if p then A else B)=some r)(O:p->A=some r->JL J Q b n L ds (.code x::k) cs s)(U:¬p->B=some r->JL J Q b n L ds (.code y::k) cs s)
  (Y:ev L c=some (.bool (decide p)):=by exact rfl):JL J Q b n L ds (.code (.cond c x y)::k) cs s:=Gk Y (λh=>O h (ip K h)) λh=>U h (im K h)
theorem Cc{c:Operand}{x y:Code}{t:Bool}(K:(if t=true then A else B)=some r)(O:t=true->A=some r->JL J Q b n L ds (.code x::k) cs s)(U:t=false->B=some r->JL J Q b n L ds (.code y::k) cs s)
  (Y:ev L c=some (.bool t):=by exact rfl):JL J Q b n L ds (.code (.cond c x y)::k) cs s:=Pq Y (λh=>O h (ip K h)) λh=>U h (ib K h)
theorem HO{q:Prop} [Decidable q] (i:Nat)(K:(if q then A else B)=some r)(O:q->A=some r->JL J Q b n (Ax L (some i) (.bool true)) ds k cs s)(U:¬q->B=some r->JL J Q b n (Ax L (some i) (.bool false)) ds k cs s)
  (Y:look L i=some (.bool (decide q)):=by exact rfl):JL J Q b n L ds k cs s:=LJ Y (λh=>O h (ip K h)) λh=>U h (im K h)
theorem Ff{t:Bool}(i:Nat)(K:(if t=true then A else B)=some r)(O:t=true->A=some r->JL J Q b n (Ax L (some i) (.bool true)) ds k cs s)(U:t=false->B=some r->JL J Q b n (Ax L (some i) (.bool false)) ds k cs s)
  (Y:look L i=some (.bool t):=by exact rfl):JL J Q b n L ds k cs s:=Kh Y (λh=>O h (ip K h)) λh=>U h (ib K h)
theorem CH{K O:Type}{c:Code}{body:K->Option (Bf K O)}{f:Nat}{U:K}{a:O}(Z:iter body f U=some a)(I:Env->St->K->Prop)(ac:I L' s U)
  (round:∀L s x,I L s x->(∀Y,body x=some (.done Y)->Y=a)->(∃st,body x=some st)->(∀L' s' x',I L' s' x'->body x=some (.more x')->JL J Q b n L' ds (.inLoop c::k) cs s')->JL J Q b n L ds (.code c:: .inLoop c::k) cs s)
  (ag:Ii L L'=Im L':=by exact rfl):JL J Q b n L ds (.code (.loop c)::k) cs s:=EF L' ag (Se Z I ac round)
variable {m:Nat}{D:Nat->Bool}{fuel:Nat}{listed:Array Bool}
def Oi(ops:Ao_):Array Bool->List Nat->Bool
 | _,[]=>true
 | l,i::t=>Region.ready .any ops l== [i]&&Oi ops (Bb l i) t
theorem Sy:∀{t:List Nat} {l:Array Bool},Oi ops l t=true->∀u,Region.linearise.go .any ops t.length u l []=t
 | [],_,_,_=>rfl
 | i::t,l,h,u=>by
  unfold Oi at h
  rw [Bool.and_eq_true,beq_iff_eq] at h
  exact Y4 h.1 (Sy h.2) u
theorem Cj(t:List Nat)(O:JL J Q b n L ds (.inRegion ops t::k) cs s)(K:(Qk m listed&&Oi ops listed t&&(fuel+1==t.length))=true:=by decide+kernel):AR J Q b n ds ops k cs m D (fuel+1) listed L s:=by
 rw [Bool.and_eq_true,Bool.and_eq_true,beq_iff_eq] at K;exact AR.leaf K.1.1 (by rw [K.2];exact Sy K.1.2) O
theorem DG(m:Nat){id:Nat}(h:Ek ops m=true->AR J Q b n ds ops k cs m Dc ops.size (Array.replicate ops.size false) L (Al E H S))(hm:P.follows .mixedOrders=true:=by exact rfl)(K:(b.kind != .early)=true:=by exact rfl)(O:Ek ops m=true:=by decide+kernel):
  JL J Q b n L ds (.code (.region id ops true)::k) cs (Al E H S):=Xx m hm K O h
theorem Fw(m:Nat)(bks:List Nat){id:Nat}(K:HL S bks)(O:Ap E H S)(h:Ek ops m=true->AR J Q b n ds ops k cs m (A4 bks) ops.size (Array.replicate ops.size false) L (Al E H S))(hm:P.follows .mixedOrders=true:=by exact rfl)(U:(b.kind != .early)=true:=by exact rfl)(Y:Ek ops m=true:=by decide+kernel):
  JL J Q b n L ds (.code (.region id ops true)::k) cs (Al E H S):=Xa m bks K O hm U Y h
theorem DJ{α:Type}{pp:Rp α}{a:Option Addr}{c:Nat}{xs:List α}{xv:α}{K:Int}{d:Option Tmp}{x y:Operand}{t ty e:TypeId}{p:String}{af:Ae_}{g:On_}{kd:IntKind}(i:Nat)(O:Ak pp E a c xs)(U:ix xs K=some xv)(Y:Ek ops m=true)(Z:P.underlying t=some (.slice e))(ac:Bq P e=some pp.n)
  (h:∀bk o ws,pp.r E ws xv->At E bk o ws->AR J Q b n ds ops k cs m D fuel (Bb listed i) (Ax L d (.pointer (some ⟨bk,o,none⟩))) s)
  (ag:ops[i]? =some ⟨d,.indexAddr t x y,ty,p,af,g⟩:=by exact rfl) (al:Gn ops listed m i=true:=by decide+kernel) (am:s.q=false:=by exact rfl)
  (hw:AT L ops ⟨d,.indexAddr t x y,ty,p,af,g⟩=some true:=by exact rfl) (ap:Bj n d=true:=by exact rfl)
  (aq:ev L x=some (.slice a xs.length c):=by exact rfl) (aw:ev L y=some (.int kd K):=by exact rfl):
  AR J Q b n ds ops k cs m D (fuel+1) listed L s:=Zm i O U ag Y al am hw ap aq aw Z ac h
end
end Pal
namespace Pal
open Go Go.Conc
theorem ED{P:Program}{J:Judge P}{Q:Gs_}{b:Frame}{n:Nat}{ds:Ld_}{ops:Ao_}{k:Li_}{cs:Lf_}{m fuel:Nat}{D:Nat->Bool}{listed:Array Bool}{L L':Env}{s:St}(k':AR J Q b n ds ops k cs m D fuel listed L' s)(h:Ii L L'=Im L'):AR J Q b n ds ops k cs m D fuel listed L s:=Ct (NX h) k'
instance {α:Type} [DecidableEq α] (xs:List α):Decidable (xs= []):=inferInstance
section
variable {P:Program}{J:Judge P}{Q:Gs_}{b:Frame}{n:Nat}{L L':Env}{ds:Ld_}{k:Li_}{cs:Lf_}{s:St}{ops:Ao_}{E H:LH}{S:List Seg}{i:Nat}{rest:List Nat}
variable {d:Option Tmp}{x y:Operand}{t u ty e:TypeId}{p:String}{af:Ae_}{g:On_}{v w:Value}
end
section
variable {P:Program}{J:Judge P}{Q:Gs_}{b:Frame}{n:Nat}{ds:Ld_}{ops:Ao_}{k:Li_}{cs:Lf_}{m fuel:Nat}{listed:Array Bool}{L:Env}{E H:LH}{S:List Seg}
variable {d:Option Tmp}{x y:Operand}{t ty e:TypeId}{p:String}{af:Ae_}{g:On_}{v:Value}{i:Nat}
theorem Take.Kr{α:Type}{pp:Rp α}(O:Ap E H S)(U:ops[i]? =some ⟨d,.buildSlice t 0 #[],ty,p,af,g⟩)(hw:AT L ops ⟨d,.buildSlice t 0 #[],ty,p,af,g⟩=some true)(Y:Bj n d=true)
  (Z:P.underlying t=some (.slice e)) (ac:Bq P e=some pp.n)
  (h:∀r seg,OL e pp E (some ⟨r,0,none⟩) 0 seg ([]:List α)->Ap E H (S++ [seg])->AR J Q b n ds ops k cs m Dc fuel (Bb listed i) (Ax L d (.slice (some ⟨r,0,none⟩) 0 0)) (Al E H (S++ [seg]))):
  Take J Q b n ds ops k cs m Dc fuel listed L (Al E H S) i:=
 Take.KG U (by simp [Ed,Y]) hw λρ al=>by
  rw [Pf]
  refine Aw _ _ ?_
  unfold Instr.buildSlice
  refine Aw _ _ (CB Z ?_)
  refine Aw _ _ (EM ac ?_)
  rw [if_neg (by omega),if_pos (by omega)]
  refine Aw (x:=pure #[]) _ ?_
  simp only [lp,pure,List.map_toArray,List.map_nil,Instr.fill]
  refine Aw _ _ (IF O λr K=>?_)
  rw [(Fq K).1]
  exact h r _ ⟨[],.inr ⟨r,_,rfl,rfl,by simp,Nat.le_refl _,by simp⟩,rfl,λi x ws ag=>by simp at ag⟩ (Fq K).2
theorem Take.Ik{α:Type}{pp:Rp α}{t1:TypeId}{U c cx:Nat}{a ax:Option Addr}{seg:Seg}{xs ys Y:List α}{ats:Array TypeId}{z:Value}(j:Nat)(ac:Ap E H S)(ag:Cs xs ys=some Y)
  (al:ops[i]? =some ⟨d,.call ⟨.builtin .append,#[x,y],ats⟩,ty,p,af,g⟩) (hw:AT L ops ⟨d,.call ⟨.builtin .append,#[x,y],ats⟩,ty,p,af,g⟩=some true) (am:Bj n d=true)
  (ap:ev L x=some (.slice a xs.length c)) (aq:ev L y=some (.slice ax ys.length cx)) (aw:ats[0]? =some t) (a0:ats[1]? =some t1) (a1:P.underlying t=some (.slice e)) (a2:P.underlying t1=some (.slice e)) (a3:Bq P e=some pp.n) (hb:FK P e=some U) (a4:zeroOf P e=some z) (a5:z.cells.size=pp.n)
  (a6:0<U) (a7:U<=64) (a8:OL e pp E a c seg xs) (a9:Ak pp E ax cx ys) (bb:S[j]? =some seg)
  (h:∀K O g seg',OL e pp E K O seg' Y->Ap E H (S.set j (g++seg'))->AR J Q b n ds ops k cs m Dc fuel (Bb listed i) (Ax L d (.slice K Y.length O)) (Al E H (S.set j (g++seg')))):
  Take J Q b n ds ops k cs m Dc fuel listed L (Al E H S) i:=
 Take.KG al (by simp [Ed,am]) hw λρ Z=>SN j ag (Z _ _ ap) (Z _ _ aq) aw a0 a1 a2 a3 hb a4 a5 a6 a7 a8 (by
  obtain⟨be,bi,bo,bv,_⟩:=a9.K7 (H:=H) (B:=S.flatten)
  exact⟨be,bv,bi,bo⟩) ac bb λK O bw seg' b0 b1=>h K O bw seg' b0 b1
theorem LR{s:St}{D:Nat->Bool}{i j l:Nat}(K:s.q=false)(O:Region.ready .any ops listed= [i,j,l])(hi:Take J Q b n ds ops k cs m D fuel listed L s i)(U:Take J Q b n ds ops k cs m D fuel listed L s j)(Y:Take J Q b n ds ops k cs m D fuel listed L s l):AR J Q b n ds ops k cs m D (fuel+1) listed L s:=
 O2 K O (by simp) (by intro q K;simp at K;rcases K with rfl | rfl | rfl <;> assumption)
end
theorem Ak.cut{α:Type}{pp:Rp α}{E:LH}{a:Option Addr}{c:Nat}{xs ys:List α}{lo hi:Int}(Y:Ak pp E a c xs)(hC:Iu xs lo hi=some ys):
  ∃Z ac,Ak pp E Z ac ys/\∀{P:Program} {ρ:Operand->Value} {s:St} {d:Option Tmp} {x:Operand} {t ty e:TypeId} {p:String} {af:Ae_} {g:On_} {olo ohi:Option Operand},P.underlying t=some (.slice e)->Bq P e=some pp.n->ρ x= .slice a xs.length c->
   (match ohi with | some w=>ρ w=iV hi | none=>hi=xs.length)->(match olo with | some w=>ρ w=iV lo | none=>lo=0)->Yl P ⟨d,.slice t x olo ohi none,ty,p,af,g⟩ ρ s (.slice Z ys.length ac):=by
 unfold Iu at hC;split at hC
 rotate_left
 ·cases hC
 rename_i hb;obtain⟨a4,a5,ap⟩:=hb;cases hC;obtain⟨lo,rfl⟩:∃l:Nat,lo=l:=⟨lo.toNat,by omega⟩;obtain⟨hi,rfl⟩:∃l:Nat,hi=l:=⟨hi.toNat,by omega⟩;simp only [Int.toNat_natCast] at*;have a6:=Y.1;have hlen:((xs.take hi).drop lo).length=hi - lo:=by simp;omega
 have ag:∀ad:Addr,a=some ad->ad.spot=none∨c=0:=λad K=>by
  rcases Y.2 with⟨_,h⟩ | ⟨bk,off,h,_⟩
  ·exact h ad K
  ·rw [h] at K;cases K;exact .inl rfl
 refine⟨if c=lo then a else a.map (·.add (lo*pp.n)),c - lo,⟨by rw [hlen];omega,?_⟩,?_⟩
 ·by_cases aq:hi - lo=0
  ·left;refine⟨List.eq_nil_of_length_eq_zero (by rw [hlen];exact aq),λad K=>?_⟩;split at K
   ·exact(ag ad K).imp id λh=>by omega
   ·cases a with
    | none=>cases K
    | some aw=>
     simp only [Option.map_some,Option.some.injEq] at K;subst K;exact .inl (by rw [Ej ((ag aw rfl).resolve_right (by omega))])
  ·right;rcases Y.2 with⟨h,_⟩ | ⟨bk,off,rfl,O⟩
   ·subst h;simp at ap;omega
   ·refine⟨bk,off+lo*pp.n,?_,λq z U=>?_⟩
    ·rw [if_neg (by omega),Option.map_some,Ej rfl]
    ·rw [List.getElem?_drop,List.getElem?_take] at U;split at U
     ·obtain⟨ws,a0,al⟩:=O _ z U;refine⟨ws,a0,?_⟩;rw [Nat.add_mul] at al;rw [Nat.add_assoc];exact al
     ·cases U
 ·intro P ρ s d x t ty e p af g olo ohi a1 a2 a3 O am;rw [hlen];refine Yl.slice (mx:=c) (hi:=hi) (lo:=lo) a1 a2 a3 rfl ?_ ?_ (Nat.le_refl _) (by omega) (by omega)
  ·cases ohi with
   | none=>exact⟨by simp only at O;omega,rfl⟩
   | some w=>exact O
  ·cases olo with
   | none=>simp only at am;show lo=0;omega
   | some w=>exact am
end Pal
namespace Pal
open Go Go.Conc
section
variable {P:Program}{J:Judge P}{Q:Gs_}{b:Frame}{n:Nat}{ds:Ld_}{ops:Ao_}{k:Li_}{cs:Lf_}{m fuel:Nat}{D:Nat->Bool}{listed:Array Bool}{L:Env}{E H:LH}{S:List Seg}
theorem HD{S1 S':List Seg}(K:S=S1)(O:S1.Perm S')(U:Ap E H S)(h:Ap E H S'->AR J Q b n ds ops k cs m D fuel listed L (Al E H S')):AR J Q b n ds ops k cs m D fuel listed L (Al E H S):=by
 subst K;exact AR.perm O.flatten U h
end
end Pal
namespace Pal
open Go Go.Conc
section
variable {P:Program}{J:Judge P}{Q:Gs_}{b:Frame}{n:Nat}{L L':Env}{ds:Ld_}{k:Li_}{cs:Lf_}{s:St}{ops:Ao_}{E H:LH}{S:List Seg}{i:Nat}{rest:List Nat}
variable {d:Option Tmp}{x y:Operand}{t u ty e e2:TypeId}{p:String}{af:Ae_}{g:On_}{v w:Value}
def JR(E:LH):Nat->Bool:=λx=>(E x).isNone
theorem Zi(x:Nat):(BA (JR E) (Al E H S)).E x=(Al E H S).get x:=by
 show(if JR E x then(Al E H S).get x else E x)=_
 unfold JR;cases h:E x with
 | none=>simp
 | some o=>
  rw [if_neg (by simp)];unfold St.get;rw [show(Al E H S).E x=some o from h]
theorem QA{s':St}(K:∀x o,(BA (JR E) (Al E H S)).E x=some o->s'.E x=some o){x:Nat}{o:Obj}(h:(Al E H S).get x=some o):s'.get x=some o:=by
 have:=K x o (by rw [Zi];exact h);unfold St.get;rw [this]
theorem Mh{s':St}(K:∀x o,(BA (JR E) (Al E H S)).E x=some o->s'.E x=some o){a:Addr}{v:Value}(h:(Al E H S).cell? a=some v):s'.cell? a=some v:=by
 obtain⟨o,O,U⟩:=Option.bind_eq_some_iff.1 h;unfold St.cell?;rw [QA K O];exact U
theorem TG{s':St}(K:∀x o,(BA (JR E) (Al E H S)).E x=some o->s'.E x=some o){a:Addr}{vs:Lv_}(h:∀(i:Nat) v,vs[i]? =some v->(Al E H S).cell? (Addr.add a i)=some v):∀(i:Nat) v,vs[i]? =some v->s'.cell? (Addr.add a i)=some v:=λi v O=>Mh K (h i v O)
theorem Qh(m:Nat){id:Nat}(h:Ek ops m=true->AR J Q b n ds ops k cs m (JR E) ops.size (Array.replicate ops.size false) L (Al E H S))(hm:P.follows .mixedOrders=true:=by exact rfl)(K:(b.kind != .early)=true:=by exact rfl)(O:Ek ops m=true:=by decide+kernel):
  JL J Q b n L ds (.code (.region id ops true)::k) cs (Al E H S):=Pk m (JR E) rfl hm K (h O)
abbrev rs(q:Nat×Obj)(K:Seg)(p:Nat×Obj)(g2:Seg):Seg:=q::(K++ [p]++g2)
end
end Pal
namespace Pal
open Go Go.Conc
section
variable {κ ν:Type} [DecidableEq κ]
def KN(xs:List (κ×ν)):Prop:=(xs.map (·.1)).Nodup
theorem KN.perm{xs ys:List (κ×ν)}(h:KN xs)(p:ys.Perm xs):KN ys:=((p.map (λq:κ×ν=>q.1)).nodup_iff).2 h
theorem Sd{xs:List (κ×ν)}(h:KN xs){x:κ}{v:ν}:Bx xs x=some v↔(x,v)∈xs:=by
 induction xs with
 | nil=>simp [Bx]
 | cons y ys U=>
  have O:y.1 ∉ ys.map (·.1)/\KN ys:=by simpa [KN] using h
  by_cases e:x=y.1
  ·subst e;have K:Bx (y::ys) y.1=some y.2:=by simp [Bx]
   rw [K];constructor
   ·intro q;cases q;simp
   ·intro q;rcases List.mem_cons.1 q with q | q
    ·rw [← q]
    ·exact absurd (List.mem_map.2 ⟨_,q,rfl⟩) O.1
  ·have K:Bx (y::ys) x=Bx ys x:=by simp [Bx,e]
   rw [K,U O.2];constructor
   ·intro q;exact List.mem_cons_of_mem _ q
   ·intro q;rcases List.mem_cons.1 q with q | q
    ·exact absurd (by rw [← q]) e
    ·exact q
theorem RD{xs ys:List (κ×ν)}(h:KN xs)(p:ys.Perm xs)(x:κ):Bx ys x=Bx xs x:=by
 apply Option.ext;intro v;rw [Sd h,Sd (h.perm p),p.mem_iff]
def Er(xs:List (κ×ν))(x:κ):List (κ×ν):=xs.filter λy=>decide (x≠y.1)
theorem Ry{xs:List (κ×ν)}{x:κ}(h:∀y∈xs,x≠y.1):Er xs x=xs:=List.filter_eq_self.2 λy K=>by simpa using h y K
theorem MV{x:κ}{v:ν}:∀{xs:List (κ×ν)},KN xs->(C4 xs x v).Perm ((x,v)::Er xs x)
 | [],_=> .refl _
 | y::ys,h=>by
  have K:y.1 ∉ ys.map (·.1)/\KN ys:=by simpa [KN] using h
  unfold C4;by_cases e:x=y.1
  ·rw [if_pos e];have e2:Er (y::ys) x=ys:=by
    have:Er (y::ys) x=Er ys x:=by simp [Er,e]
    rw [this];exact Ry λz O q=>K.1 (List.mem_map.2 ⟨z,O,by rw [← q,e]⟩)
   rw [e2]
  ·rw [if_neg e];have e2:Er (y::ys) x=y::Er ys x:=by simp [Er,e]
   rw [e2];exact((MV K.2).cons y).trans (List.Perm.swap _ _ _)
theorem Pj{xs ys:List (κ×ν)}(p:ys.Perm xs)(x:κ):(Er ys x).Perm (Er xs x):=p.filter _
theorem Vz{xs ys:List (κ×ν)}(h:KN xs)(p:ys.Perm xs)(x:κ)(v:ν):(C4 ys x v).Perm (C4 xs x v):=
 (MV (h.perm p)).trans (((Pj p x).cons _).trans (MV h).symm)
theorem KN.del{xs:List (κ×ν)}(h:KN xs)(x:κ):KN (Er xs x):=by
 unfold KN Er;exact List.Nodup.sublist (List.Sublist.map _ List.filter_sublist) h
theorem KN.put{xs:List (κ×ν)}(h:KN xs)(x:κ)(v:ν):KN (C4 xs x v):=by
 refine KN.perm ?_ (MV h);unfold KN;simp only [List.map_cons,List.nodup_cons];refine⟨λq=>?_,h.del x⟩;obtain⟨z,K,e⟩:=List.mem_map.1 q;have:=(List.mem_filter.1 K).2;simp at this;exact this e.symm
variable {pk:Rp κ}{pv:Rp ν}{ka va:Bool}{E E' H:LH}
def BJ(pk:Rp κ)(ka:Bool)(pv:Rp ν)(va:Bool)(E:LH)(o:Obj)(xs:List (κ×ν)):Prop:=KN xs/\∃ys,ys.Perm xs/\Kz pk ka pv va E o ys
theorem BJ.Ag{o:Obj}{xs:List (κ×ν)}(h:BJ pk ka pv va E o xs)(hle:Le E E'):BJ pk ka pv va E' o xs:=
 let ⟨K,ys,O,U⟩:=h;⟨K,ys,O,U.Ag hle⟩
theorem BJ.perm{o:Obj}{xs ys:List (κ×ν)}(h:BJ pk ka pv va E o xs)(p:ys.Perm xs):BJ pk ka pv va E o ys:=
 let ⟨K,O,U,Y⟩:=h;⟨K.perm p,O,U.trans p.symm,Y⟩
theorem BJ.nil:BJ pk ka pv va E (.map #[] 0) []:=⟨List.nodup_nil,[],.refl _,⟨#[],0,rfl,trivial,.nil,by simp⟩⟩
def rM(pk:Rp κ)(ka:Bool)(pv:Rp ν)(va:Bool):Rp (List (κ×ν)):=⟨1,λE ws xs=>∃bk o,ws= [.map (some bk)]/\E bk=some o/\BJ pk ka pv va E o xs,
 λhle ⟨bk,o,h,K,O⟩=>⟨bk,o,h,hle _ _ K,O.Ag hle⟩,λ⟨bk,o,h,_,_⟩=>by subst h;rfl,λ⟨bk,o,h,_,_⟩ w hw=>by subst h;simp at hw;subst hw;rfl⟩
section
variable {P:Program}{s:St}{t tm te:TypeId}{X:Halt->St->Prop}{bk:Nat}{o:Obj}{xs:List (κ×ν)}{k w:Value}{x:κ}{v0:ν}
theorem Vw(K:GD P t pk ka)(hm:P.underlying tm=some (.map t te)){z:Value}{z0:ν}(O:zeroOf P te=some z)(U:Vr pv va E z z0)(Y:s.get bk=some o)(Z:BJ pk ka pv va E o xs)(ac:Vr pk ka E k x)(ok:Bool){Q:Value->St->Prop}
  (h:∀w,Vr pv va E w ((Bx xs x).getD z0)->Q (if ok then .tuple #[w,.bool (Bx xs x).isSome] else w) s):lp P (Instr.lookup tm (.map (some bk)) k ok) s Q X:=by
 obtain⟨ag,ys,al,am⟩:=Z;refine VY K hm O U Y am ac ok ?_;rw [RD ag al];exact h
theorem UR(O:GD P t pk ka)(hm:P.underlying tm=some (.map t te))(U:s.get bk=some o)(Y:s.H bk=some o)(Z:BJ pk ka pv va E o xs)(ac:Vr pk ka E k x)(hw:Vr pv va E w v0){Q:Unit->St->Prop}
  (h:∀o',BJ pk ka pv va E o' (C4 xs x v0)->Q () (s.upd bk o')):lp P (Instr.mapUpdate tm (.map (some bk)) k w) s Q X:=by
 obtain⟨K,ys,ag,al⟩:=Z;exact U2 O hm U Y al ac hw λo' am=>h o' ⟨K.put _ _,_,Vz K ag _ _,am⟩
theorem Ef.erase(Y:Vr pk ka E k x):∀{es:List MapEntry} {ys:List (κ×ν)} {i:Nat},Ef pk ka pv va E es ys->KN ys->
  (Gs x es ys i=none/\Er ys x=ys)∨∃j u,Gs x es ys i=some (i+j,u)/\Ef pk ka pv va E (es.eraseIdx j) (Er ys x)
 | [],[],i,_,_=> .inl ⟨rfl,rfl⟩
 | e::es,y::ys,i,h,Z=>by
  have U:y.1 ∉ ys.map (·.1)/\KN ys:=by simpa [KN] using Z
  unfold Gs;by_cases K:x=y.1
  ·refine .inr ⟨0,e.val,by rw [if_pos K];rfl,?_⟩;have e2:Er (y::ys) x=ys:=by
    have:Er (y::ys) x=Er ys x:=by simp [Er,K]
    rw [this];exact Ry λz ac q=>U.1 (List.mem_map.2 ⟨z,ac,by rw [← q,K]⟩)
   rw [e2];exact h.2.2
  ·have e2:Er (y::ys) x=y::Er ys x:=by simp [Er,K]
   rcases Ef.erase Y (i:=i+1) h.2.2 U.2 with⟨a1,O⟩ | ⟨j,u,a1,O⟩
   ·exact .inl ⟨by rw [if_neg K];exact a1,by rw [e2,O]⟩
   ·refine .inr ⟨j+1,u,by rw [if_neg K,a1];congr 2;omega,?_⟩;rw [e2];exact⟨h.1,h.2.1,O⟩
 | [],_::_,_,h,_=>h.elim
 | _::_,[],_,h,_=>h.elim
theorem Vm(ag:GD P t pk ka)(hm:P.underlying tm=some (.map t te))(aw:s.get bk=some o)(al:s.H bk=some o)(a0:BJ pk ka pv va E o xs)(K:Vr pk ka E k x){u:TypeId}{Q:Value->St->Prop}
  (h:∀o',BJ pk ka pv va E o' (Er xs x)->Q (.tuple #[]) (s.upd bk o')):lp P (Builtin.delete_ #[tm,t] u #[.map (some bk),k]) s Q X:=by
 obtain⟨O,ys,U,es,c,rfl,Y,am,ap⟩:=a0;unfold Builtin.delete_;simp only [List.getElem?_toArray,List.getElem?_cons_zero,List.getElem?_cons_succ];refine Aw _ _ (CB hm ?_)
 dsimp only;refine Aw _ _ ?_;unfold getObj;simp only [bind,Sem.bind,lp];refine⟨_,aw,rfl,?_⟩;refine Aw (x:=Instr.checkKey _ 10000 t k) _ (ag.BS K ?_);refine Aw (x:=Instr.findKey t k es.toList) _ (O3 ag K Y ?_);rcases Ef.erase K (i:=0) Y (O.perm U) with⟨Z,e2⟩ | ⟨j,u,Z,e2⟩
 ·rw [Z];simp only [setObj,lp,pure];refine⟨⟨_,al,rfl⟩,rfl,h _ ⟨O.del _,_,Pj U x,es,c,rfl,by rw [e2];exact Y,am,ap⟩⟩
 ·rw [Z];simp only [setObj,lp,pure];have aq:(es.toList.eraseIdx j).Sublist es.toList:=List.eraseIdx_sublist _ _;have ac:(es.eraseIdxIfInBounds (0+j)).toList=es.toList.eraseIdx j:=by rw [Nat.zero_add];simp
  refine⟨⟨_,al,rfl⟩,rfl,h _ ⟨O.del _,_,Pj U x,_,c,rfl,by rw [ac];exact e2,?_,?_⟩⟩
  ·rw [ac];exact am.sublist (aq.map _)
  ·rw [ac];exact λe he=>ap e (aq.subset he)
end
section
variable {P:Program}{J:Judge P}{Q:Gs_}{b:Frame}{n:Nat}{ds:Ld_}{ops:Ao_}{kk:Li_}{cs:Lf_}{L:Env}{s:St}{S:List Seg}
variable {d:Option Tmp}{x y z:Operand}{t u ty e tm te:TypeId}{p:String}{af:Ae_}{g:On_}{i:Nat}{rest:List Nat}{bk:Nat}{o:Obj}{xs:List (κ×ν)}{k w:Value}{x0:κ}{v0:ν}{ρ:Operand->Value}
theorem Yl.lookup{K v:Value}{z0:ν}{ok:Bool}(O:GD P t pk ka)(hm:P.underlying tm=some (.map t te))(U:zeroOf P te=some K)(Y:Vr pv va E K z0)(Z:BJ pk ka pv va E o xs)(ac:Vr pk ka E k x0)
  (ag:∀w,Vr pv va E w ((Bx xs x0).getD z0)->(if ok then .tuple #[w,.bool (Bx xs x0).isSome] else w)=v) (al:ρ x= .map (some bk)) (am:ρ y=k) (ap:s.get bk=some o):Yl P ⟨d,.lookup tm x y ok,ty,p,af,g⟩ ρ s v:=by
 refine FO (sm:=Instr.lookup tm (ρ x) (ρ y) ok) rfl ?_;rw [al,am];exact Vw O hm U Y ap Z ac ok λw hw=>⟨ag w hw,rfl⟩
theorem JS.makeMap(K:ops[i]? =some ⟨d,.makeMap t none,ty,p,af,g⟩)(hw:AT L ops ⟨d,.makeMap t none,ty,p,af,g⟩=some true)(O:BS b n ⟨d,.makeMap t none,ty,p,af,g⟩=true)(U:Ap E H S)
  (h:∀r,Ap E H (S++ [[(r,.map #[] 0)]])->JL J Q b n (Ax L d (.map (some r))) ds (.inRegion ops rest::kk) cs (Al E H (S++ [[(r,.map #[] 0)]]))):
  JL J Q b n L ds (.inRegion ops (i::rest)::kk) cs (Al E H S):=
 JL.op K hw O λρ ap=>by
  show lp P (do pure (Next.value (← Instr.makeMap t none))) _ _ _
  refine Aw _ _ ?_
  unfold Instr.makeMap
  simp only [newObj,bind,Sem.bind,pure,lp]
  refine⟨rfl,λr Y Z=>?_⟩
  obtain⟨ac,ag⟩:=Ki Y Z (.map #[] 0) U
  obtain⟨al,p2⟩:=Fq ac
  have am:(Al E H S).upd r (.map #[] 0)=Al E H (S++ [[(r,.map #[] 0)]]):=by rw [← al,← ag];rfl
  show JL J Q b n (Ax L d (.map (some r))) ds (.inRegion ops rest::kk) cs ((Al E H S).upd r (.map #[] 0));rw [am];exact h r p2
theorem JS.mapUpdate(j:Nat)(Y:GD P t pk ka)(hm:P.underlying tm=some (.map t te))(Z:BJ pk ka pv va E o xs)(ac:Vr pk ka E k x0)(ag:Vr pv va E w v0)(K:Ap E H S)(O:S[j]? =some [(bk,o)])
  (al:ops[i]? =some ⟨d,.mapUpdate tm x y z,ty,p,af,g⟩) (hw:AT L ops ⟨d,.mapUpdate tm x y z,ty,p,af,g⟩=some true) (am:BS b n ⟨d,.mapUpdate tm x y z,ty,p,af,g⟩=true) (ap:ev L x=some (.map (some bk))) (aq:ev L y=some k) (aw:ev L z=some w)
  (h:∀o',BJ pk ka pv va E o' (C4 xs x0 v0)->Ap E H (S.set j [(bk,o')])->JL J Q b n (Ax L d undef) ds (.inRegion ops rest::kk) cs (Al E H (S.set j [(bk,o')]))):
  JL J Q b n L ds (.inRegion ops (i::rest)::kk) cs (Al E H S):=
 JL.op al hw am λρ U=>by
  show lp P (do Instr.mapUpdate tm (ρ x) (ρ y) (ρ z);pure Next.skip) _ _ _
  rw [U _ _ ap,U _ _ aq,U _ _ aw]
  refine Aw _ _ (UR Y hm (El (i:=0) K O rfl) (JN K O) Z ac ag λo' a0=>?_)
  obtain⟨a1,a2⟩:=Km K O o'
  rw [a1]
  exact h o' a0 a2
theorem UX{at1:TypeId}(j:Nat)(Y:GD P t pk ka)(hm:P.underlying tm=some (.map t te))(Z:BJ pk ka pv va E o xs)(ac:Vr pk ka E k x0)(K:Ap E H S)(O:S[j]? =some [(bk,o)])
  (ag:ops[i]? =some ⟨d,.call ⟨.builtin .delete,#[x,y],#[tm,t]⟩,ty,p,af,g⟩) (hw:AT L ops ⟨d,.call ⟨.builtin .delete,#[x,y],#[tm,t]⟩,ty,p,af,g⟩=some true) (al:BS b n ⟨d,.call ⟨.builtin .delete,#[x,y],#[tm,t]⟩,ty,p,af,g⟩=true) (am:ev L x=some (.map (some bk))) (ap:ev L y=some k)
  (h:∀o',BJ pk ka pv va E o' (Er xs x0)->Ap E H (S.set j [(bk,o')])->JL J Q b n (Ax L d (.tuple #[])) ds (.inRegion ops rest::kk) cs (Al E H (S.set j [(bk,o')]))):
  JL J Q b n L ds (.inRegion ops (i::rest)::kk) cs (Al E H S):=
 JL.op ag hw al λρ U=>by
  have aq:execOp ρ ⟨d,.call ⟨.builtin .delete,#[x,y],#[tm,t]⟩,ty,p,af,g⟩=(do pure (Next.value (← Builtin.delete_ #[tm,t] ty #[ρ x,ρ y]))):=by
   simp [execOp,resolve,Deferred.ofValue,invoke,bind,Sem.bind,pure,Go.builtin]
  rw [aq,U _ _ am,U _ _ ap];refine Aw _ _ (Vm Y hm (El (i:=0) K O rfl) (JN K O) Z ac λo' aw=>?_);obtain⟨a0,a1⟩:=Km K O o';rw [a0];exact h o' aw a1
theorem O5{todo:Li_}(j:Nat)(O:Ap E H S)(U:S[j]? =some [(bk,o)])
  (h:∀E',Le E E'->E' bk=some o->Ap E' H (S.set j [])->JL J Q b n L ds todo cs (Al E' H (S.set j []))):JL J Q b n L ds todo cs (Al E H S):=by
 obtain⟨Y,Z⟩:=Hg O U;rw [Y];have ac:((S.set j []).flatten++ [(bk,o)])[(S.set j []).flatten.length]? =some (bk,o):=by simp
 refine JL.freeze (S.set j []).flatten.length Z ac λE' hle ag K=>?_;have al:((S.set j []).flatten++ [(bk,o)]).eraseIdx (S.set j []).flatten.length=(S.set j []).flatten:=by rw [List.eraseIdx_append_of_length_le (Nat.le_refl _)];simp
 rw [al] at K ⊢;exact h E' hle ag K
theorem Rx{α:Type}{m:Nat}{f:Nat->Sem α}{s:St}{Q:α->St->Prop}{X:Halt->St->Prop}(hm:0<m)(K:s.q=false)(h:∀i,i<m->lp P (f i) s Q X):lp P ((choose (.mapNext m)).bind f) s Q X:=by
 simp only [choose,Sem.bind,lp];split
 ·exact h 0 hm
 ·exact⟨K,λt=>h _ (Nat.mod_lt _ hm)⟩
theorem JS.range{es:Array MapEntry}{c:Nat}(hm:P.underlying tm=some (.map t te))(K:(Al E H S).get bk=some (.map es c))(O:ops[i]? =some ⟨d,.range tm x,ty,p,af,g⟩)(hw:AT L ops ⟨d,.range tm x,ty,p,af,g⟩=some true)(U:BS b n ⟨d,.range tm x,ty,p,af,g⟩=true)(Y:Ap E H S)
  (Z:ev L x=some (.map (some bk)))
  (h:∀r,Ap E H (S++ [[(r,.mapIter (some bk) c #[] c)]])->JL J Q b n (Ax L d (.pointer (some ⟨r,0,none⟩))) ds (.inRegion ops rest::kk) cs (Al E H (S++ [[(r,.mapIter (some bk) c #[] c)]]))):
  JL J Q b n L ds (.inRegion ops (i::rest)::kk) cs (Al E H S):=
 JL.op O hw U λρ ac=>by
  show lp P (do pure (Next.value (← Instr.range tm (ρ x)))) _ _ _
  rw [ac _ _ Z]
  refine Aw _ _ ?_
  unfold Instr.range
  refine Aw _ _ (CB hm ?_)
  simp only [getObj,newObj,bind,Sem.bind,pure,lp]
  refine⟨_,K,rfl,rfl,λr ag al=>?_⟩
  obtain⟨am,ap⟩:=Ki ag al (.mapIter (some bk) c #[] c) Y
  obtain⟨aq,p2⟩:=Fq am
  have aw:(Al E H S).upd r (.mapIter (some bk) c #[] c)=Al E H (S++ [[(r,.mapIter (some bk) c #[] c)]]):=by rw [← aq,← ap];rfl
  show JL J Q b n (Ax L d (.pointer (some ⟨r,0,none⟩))) ds (.inRegion ops rest::kk) cs ((Al E H S).upd r (.mapIter (some bk) c #[] c));rw [aw];exact h r p2
theorem JS.next{es:Array MapEntry}{c r:Nat}{seen:Array Nat}(j:Nat)(am:(Al E H S).get bk=some (.map es c))(hb:∀e∈es.toList,e.born<c)(K:Ap E H S)(O:S[j]? =some [(r,.mapIter (some bk) c seen c)])
  (ap:ops[i]? =some ⟨d,.next x false,ty,p,af,g⟩) (hw:AT L ops ⟨d,.next x false,ty,p,af,g⟩=some true) (aq:BS b n ⟨d,.next x false,ty,p,af,g⟩=true) (U:ev L x=some (.pointer (some ⟨r,0,none⟩)))
  (aw:∀e∈es.toList,e.born ∉ seen->Ap E H (S.set j [(r,.mapIter (some bk) c (seen.push e.born) c)])->JL J Q b n (Ax L d (.tuple #[.bool true,e.key,e.val])) ds (.inRegion ops rest::kk) cs (Al E H (S.set j [(r,.mapIter (some bk) c (seen.push e.born) c)])))
  (a0:(∀e∈es.toList,e.born∈seen)->JL J Q b n (Ax L d (.tuple #[.bool false])) ds (.inRegion ops rest::kk) cs (Al E H S)):
  JL J Q b n L ds (.inRegion ops (i::rest)::kk) cs (Al E H S):=
 JL.op ap hw aq λρ a1=>by
  show lp P (do pure (Next.value (← Instr.next (ρ x) false ty))) _ _ _
  rw [a1 _ _ U]
  refine Aw _ _ ?_
  unfold Instr.next
  simp only [getObj,setObj,bind,Sem.bind,pure,lp]
  refine⟨_,El (i:=0) K O rfl,rfl,?_⟩
  simp only [lp]
  refine⟨_,am,rfl,?_⟩
  have a2:(!seen.isEmpty&& !es.isEmpty&&es.all (λe=>decide (e.born>=c)))=false:=by
   by_cases he:es.toList= []
   ·have:es.isEmpty=true:=by simpa [Array.isEmpty_iff] using he
    simp [this]
   ·obtain⟨e,ag⟩:=List.exists_mem_of_ne_nil _ he;have bw:=hb e ag;have:es.all (λe=>decide (e.born>=c))=false:=by
     cases U:es.all (λe=>decide (e.born>=c)) with
     | false=>rfl
     | true=>
      have:=Array.all_eq_true'.1 U e (Array.mem_toList_iff.1 ag);simp at this;omega
    simp [this]
  have a3:Array.filter (λx:MapEntry=>decide (x.born<c)) (Array.filter (λe=> !seen.contains e.born) es)=Array.filter (λe=> !seen.contains e.born) es:=by
   apply Array.toList_inj.1;rw [Array.toList_filter,List.filter_eq_self];intro e he;rw [Array.toList_filter] at he;simpa using hb e (List.mem_filter.1 he).1
  have e2:Array.filter (λx:MapEntry=>decide (x.born>=c)) (Array.filter (λe=> !seen.contains e.born) es)= #[]:=by
   apply Array.toList_inj.1;rw [Array.toList_filter,List.filter_eq_nil_iff];intro e he;rw [Array.toList_filter] at he;have:=hb e (List.mem_filter.1 he).1;simp;omega
  dsimp only;rw [if_neg (by rw [a2];exact Bool.false_ne_true),a3,e2];have Y:∀e,e∈(Array.filter (λe=> !seen.contains e.born) es).toList↔e∈es.toList/\e.born ∉ seen:=by
   intro e;rw [Array.toList_filter,List.mem_filter];simp
  generalize Array.filter (λe:MapEntry=> !seen.contains e.born) es=left at Y ⊢;by_cases Z:left.toList= []
  ·have a4:left= #[]:=Array.toList_inj.1 Z;subst a4;refine Rx (by simp) rfl λi hi=>?_;obtain rfl:i=0:=by simp at hi;exact hi
   have a5:((if(#[]:Array MapEntry).isEmpty=true then #[none] else #[])++Array.map some ((#[]:Array MapEntry)++ #[]))[0]? =some none:=by simp
   rw [a5];refine a0 λe he=>?_;by_cases al:e.born∈seen
   ·exact al
   ·have:=(Y e).2 ⟨he,al⟩;simp at this
  ·have a6:left.isEmpty=false:=by
    cases a7:left.isEmpty with
    | false=>rfl
    | true=>exact absurd (by simpa [Array.isEmpty_iff] using a7) Z
   rw [a6];simp only [Bool.false_eq_true,if_false,Array.append_empty,Array.empty_append];have a8:0<left.size:=by
    rcases Nat.eq_zero_or_pos left.size with ac | ac
    ·exact absurd (by simpa using Array.eq_empty_of_size_eq_zero ac) Z
    ·exact ac
   refine Rx (by simpa using a8) rfl λi hi=>?_;have a9:i<left.size:=by simpa using hi
   have bb:(Array.map some left)[i]? =some (some left[i]):=by simp [a9]
   rw [bb];simp only [lp];obtain⟨be,bi⟩:=(Y left[i]).1 (Array.getElem_mem_toList _);refine⟨⟨_,JN K O,rfl⟩,rfl,?_⟩;obtain⟨bo,bv⟩:=Km K O (.mapIter (some bk) c (seen.push left[i].born) c);rw [bo];exact aw _ be bi bv
theorem JS.entry{es:Array MapEntry}{c r:Nat}{seen:Array Nat}{e:MapEntry}(j:Nat)(U:(Al E H S).get bk=some (.map es c))(he:e∈es.toList)(hb:(es.toList.map (·.born)).Pairwise (·<·))(Y:Ap E H S)(Z:S[j]? =some [(r,.mapIter (some bk) c (seen.push e.born) c)])
  (ac:ops[i]? =some ⟨d,.entry x,ty,p,af,g⟩) (hw:AT L ops ⟨d,.entry x,ty,p,af,g⟩=some true) (ag:BS b n ⟨d,.entry x,ty,p,af,g⟩=true) (al:ev L x=some (.pointer (some ⟨r,0,none⟩)))
  (h:JL J Q b n (Ax L d (.tuple #[e.key,e.val])) ds (.inRegion ops rest::kk) cs (Al E H S)):
  JL J Q b n L ds (.inRegion ops (i::rest)::kk) cs (Al E H S):=
 JL.op ac hw ag λρ am=>by
  show lp P (do pure (Next.value (← Instr.entry (ρ x)))) _ _ _
  rw [am _ _ al]
  refine Aw _ _ ?_
  unfold Instr.entry
  simp only [getObj,bind,Sem.bind,pure,lp]
  refine⟨_,El (i:=0) Y Z rfl,rfl,?_⟩
  simp only [Array.back?_push,bne_self_eq_false,lp]
  refine⟨_,U,rfl,?_⟩
  have ap:es.find? (λx=>x.born==e.born)=some e:=by
   rw [← Array.find?_toList];have key:∀(l:List MapEntry),e∈l->(l.map (·.born)).Pairwise (·<·)->l.find? (λx=>x.born==e.born)=some e:=by
    intro l
    induction l with
    | nil=>intro h;cases h
    | cons y l aq=>
     intro hm K;rw [List.map_cons,List.pairwise_cons] at K;by_cases O:y.born=e.born
     ·rcases List.mem_cons.1 hm with rfl | hm
      ·simp
      ·have:=K.1 e.born (List.mem_map.2 ⟨e,hm,rfl⟩);omega
     ·rw [List.find?_cons_of_neg (by simpa using O)];rcases List.mem_cons.1 hm with rfl | hm
      ·exact absurd rfl O
      ·exact aq hm K.2
   exact key _ he hb
  simp only [bne_self_eq_false,Bool.false_eq_true,if_false,ap,lp];exact h
end
end
end Pal
namespace Pal
open Go Go.Conc
theorem Ka{E H:LH}{S:List Seg}{bk:Nat}{o:Obj}(h:E bk=some o):(Al E H S).get bk=some o:=by
 show(match E bk with | some o=>some o | none=>_)=some o
 rw [h]
theorem QR{α β:Type}(f:α->β){l:List α}(h:(l.map f).Nodup):l.Nodup:=by
 unfold List.Nodup at h ⊢;rw [List.pairwise_map] at h;exact h.imp λh e=>h (by rw [e])
theorem RH{α:Type}:∀{l l':List α},l.Nodup->(∀x∈l,x∈l')->l.length<=l'.length
 | [],_,_,_=>Nat.zero_le _
 | x::l,l',h,O=>by
  obtain⟨a,b,rfl⟩:=List.append_of_mem (O x (by simp))
  have U:=List.nodup_cons.1 h
  have:=RH (l:=l) (l':=a++b) U.2 (λy Y=>by
   have K:=O y (List.mem_cons_of_mem _ Y)
   have Z:y≠x:=λe=>U.1 (e▸Y)
   simp at K ⊢
   rcases K with K | K | K
   ·exact .inl K
   ·exact absurd K Z
   ·exact .inr K)
  simp at this ⊢;omega
section
variable {κ ν:Type} [DecidableEq κ] {pk:Rp κ}{pv:Rp ν}{ka va:Bool}{E E' H:LH}
def IN(es:Array MapEntry)(ys:List (κ×ν))(seen:Array Nat)(done:List (κ×ν)):Prop:=
 ∃K:List (MapEntry×(κ×ν)),done=K.map (·.2)/\seen.toList=K.map (·.1.born)/\K.Nodup/\∀q∈K,q∈es.toList.zip ys
theorem IN.nil{es:Array MapEntry}{ys:List (κ×ν)}:IN es ys #[] []:=⟨[],rfl,rfl,.nil,by simp⟩
theorem R9:∀{es:List MapEntry} {ys:List (κ×ν)},(es.map (·.born)).Pairwise (·<·)->∀{p q:MapEntry×(κ×ν)},p∈es.zip ys->q∈es.zip ys->p.1.born=q.1.born->p=q
 | [],_,_,_,_,h,_,_=>by simp at h
 | _::_,[],_,_,_,h,_,_=>by simp at h
 | e::es,y::ys,U,p,q,K,O,hb=>by
  rw [List.map_cons,List.pairwise_cons] at U
  rw [List.zip_cons_cons] at K O
  have Y:∀{z:MapEntry×(κ×ν)},z∈es.zip ys->z.1.born∈es.map (·.born):=λ{z} Z=>by
   have:=(List.of_mem_zip Z).1
   exact List.mem_map.2 ⟨z.1,this,rfl⟩
  rcases List.mem_cons.1 K with rfl | K <;> rcases List.mem_cons.1 O with rfl | O
  ·rfl
  ·have:=U.1 _ (Y O);simp at hb;omega
  ·have:=U.1 _ (Y K);simp at hb;omega
  ·exact R9 U.2 K O hb
theorem Ef.zip:∀{es:List MapEntry} {ys:List (κ×ν)},Ef pk ka pv va E es ys->∀{q:MapEntry×(κ×ν)},q∈es.zip ys->Vr pk ka E q.1.key q.2.1/\Vr pv va E q.1.val q.2.2
 | [],[],_,_,h=>by simp at h
 | e::es,y::ys,h,q,K=>by
  rw [List.zip_cons_cons] at K
  rcases List.mem_cons.1 K with rfl | K
  ·exact⟨h.1,h.2.1⟩
  ·exact Ef.zip h.2.2 K
 | [],_::_,h,_,_=>h.elim
 | _::_,[],h,_,_=>h.elim
theorem R1:∀{es:List MapEntry} {ys:List (κ×ν)},KN ys->(es.map (·.born)).Pairwise (·<·)->∀{p q:MapEntry×(κ×ν)},p∈es.zip ys->q∈es.zip ys->p.2.1=q.2.1->p=q
 | [],_,_,_,_,_,h,_,_=>by simp at h
 | _::_,[],_,_,_,_,h,_,_=>by simp at h
 | e::es,y::ys,ac,Y,p,q,K,O,hb=>by
  have U:y.1 ∉ ys.map (·.1)/\KN ys:=by simpa [KN] using ac
  rw [List.map_cons,List.pairwise_cons] at Y;rw [List.zip_cons_cons] at K O;have Z:∀{z:MapEntry×(κ×ν)},z∈es.zip ys->z.2.1∈ys.map (·.1):=λ{z} ag=>List.mem_map.2 ⟨z.2,(List.of_mem_zip ag).2,rfl⟩;rcases List.mem_cons.1 K with rfl | K <;> rcases List.mem_cons.1 O with rfl | O
  ·rfl
  ·have:=Z O;simp only at hb;rw [← hb] at this;exact absurd this U.1
  ·have:=Z K;simp only at hb;rw [hb] at this;exact absurd this U.1
  ·exact R1 U.2 Y.2 K O hb
theorem IN.len{es:Array MapEntry}{ys:List (κ×ν)}{seen:Array Nat}{done:List (κ×ν)}(h:IN es ys seen done):done.length<=ys.length:=by
 obtain⟨Y,rfl,Z,K,O⟩:=h;rw [List.length_map];have U:=RH K O;exact Nat.le_trans U (by rw [List.length_zip];exact Nat.min_le_right _ _)
section
variable {P:Program}{J:Judge P}{Q:Gs_}{b:Frame}{n:Nat}{ds:Ld_}{ops:Ao_}{kk:Li_}{cs:Lf_}{L:Env}{s:St}{S:List Seg}
variable {d:Option Tmp}{x y z:Operand}{t u ty e tm te:TypeId}{p:String}{af:Ae_}{g:On_}{i:Nat}{rest:List Nat}{bk:Nat}{o:Obj}{xs ys:List (κ×ν)}
theorem Sm{es:Array MapEntry}{c r:Nat}{seen:Array Nat}{done:List (κ×ν)}(j:Nat)(ag:Ef pk ka pv va E es.toList ys)(Z:(es.toList.map (·.born)).Pairwise (·<·))(hb:∀e∈es.toList,e.born<c)(aw:KN ys)(a0:IN es ys seen done)(a2:(Al E' H S).get bk=some (.map es c))(a3:Ap E' H S)(a4:S[j]? =some [(r,.mapIter (some bk) c seen c)])
  (a5:ops[i]? =some ⟨d,.next x false,ty,p,af,g⟩) (hw:AT L ops ⟨d,.next x false,ty,p,af,g⟩=some true) (a6:BS b n ⟨d,.next x false,ty,p,af,g⟩=true) (a7:ev L x=some (.pointer (some ⟨r,0,none⟩)))
  (a8:∀e O,Vr pk ka E e.key O.1->Vr pv va E e.val O.2->O∈ys->O.1 ∉ done.map (·.1)->e∈es.toList->IN es ys (seen.push e.born) (done++ [O])->Ap E' H (S.set j [(r,.mapIter (some bk) c (seen.push e.born) c)])->
   JL J Q b n (Ax L d (.tuple #[.bool true,e.key,e.val])) ds (.inRegion ops rest::kk) cs (Al E' H (S.set j [(r,.mapIter (some bk) c (seen.push e.born) c)])))
  (a9:done.Perm ys->JL J Q b n (Ax L d (.tuple #[.bool false])) ds (.inRegion ops rest::kk) cs (Al E' H S)):
  JL J Q b n L ds (.inRegion ops (i::rest)::kk) cs (Al E' H S):=by
 obtain⟨ac,rfl,a1,al,Y⟩:=a0;have hlen:=ag.len;refine JS.next j a2 hb a3 a4 a5 hw a6 a7 (λe he bb be=>?_) (λbi=>?_)
 ·obtain⟨m,hm,bo⟩:=List.mem_iff_getElem.1 he;have U:(e,ys[m]'(by omega))∈es.toList.zip ys:=by
   rw [← bo];have:(es.toList.zip ys)[m]'(by rw [List.length_zip];omega)=(es.toList[m],ys[m]'(by omega)):=List.getElem_zip;rw [← this];exact List.getElem_mem _
  obtain⟨k1,bv⟩:=ag.zip U;have am:(e,ys[m]'(by omega)) ∉ ac:=λq=>bb (by
   rw [← Array.mem_toList_iff,a1]
   exact List.mem_map.2 ⟨_,q,rfl⟩)
  refine a8 e _ k1 bv (List.getElem_mem _) (λq=>?_) he ⟨ac++ [(e,ys[m]'(by omega))],by simp,by simp [a1],?_,λq K=>?_⟩ be
  ·obtain⟨O,bw,b0⟩:=List.mem_map.1 q;obtain⟨z,ap,rfl⟩:=List.mem_map.1 bw;have:=R1 aw Z (Y z ap) U b0;exact am (this▸ap)
  ·rw [List.nodup_append];exact⟨al,by simp,by intro q K z aq b1;simp at aq;subst aq b1;exact am K⟩
  ·rcases List.mem_append.1 K with K | K
   ·exact Y q K
   ·simp at K;subst K;exact U
 ·refine a9 ?_;have b2:ac.Perm (es.toList.zip ys):=by
   have b3:(es.toList.zip ys).Nodup:=by
    have:((es.toList.zip ys).map (·.1)).Nodup:=by
     rw [List.map_fst_zip (by omega)];exact QR (λe:MapEntry=>e.born) (Z.imp (λh=>Nat.ne_of_lt h))
    exact QR _ this
   refine(List.perm_ext_iff_of_nodup al b3).2 λq=>⟨λK=>Y q K,λK=>?_⟩;have:=bi q.1 (List.of_mem_zip K).1;rw [← Array.mem_toList_iff,a1] at this;obtain⟨z,U,b4⟩:=List.mem_map.1 this;have:=R9 Z (Y z U) K b4;exact this▸U
  have:=b2.map (·.2)
  rwa [List.map_snd_zip (by omega)] at this
end
end
end Pal
namespace Pal
open Go Go.Conc
section
variable {P:Program}{J:Judge P}{Q:Gs_}{b:Frame}{n:Nat}{ds:Ld_}{ops:Ao_}{k:Li_}{cs:Lf_}{fuel:Nat}{D:Nat->Bool}{listed:Array Bool}{L L':Env}{s:St}{xl:List Nat}
variable {d:Option Tmp}{op:Op}{ty:TypeId}{p:String}{af:Ae_}{g:On_}{v:Value}
theorem Fy(i:Nat)(pure:Bool)(K:s.q=false)(O:G1 n L ops i=some ⟨d,op,ty,p,af,g⟩)
  (U:∀ρ,Fb L ρ->∀s':St,(pure=false->∀x o,(BA D s).E x=some o->s'.E x=some o)->Yl P ⟨d,op,ty,p,af,g⟩ ρ s' v)
  (Y:FW J Q b n ds ops k cs (A4 xl) D fuel (Bb listed i) (Ax L d v) s) (Z:JK ops listed xl pure i=true:=by decide+kernel):FW J Q b n ds ops k cs (A4 xl) D (fuel+1) listed L s:=by
 obtain⟨ac,ag,al⟩:=Pd O;exact JB.val i pure ac Z K ag al U Y
def QB(n:Nat)(L:Env)(ops:Ao_)(i:Nat):Option Env:=
 match Jj ops.toList i with
 | some ⟨d,op,ty,p,af,g⟩=>match AT L ops ⟨d,op,ty,p,af,g⟩ with
  | some true=>match Bj n d with
   | true=>match KB L op with
    | some v=>match d with
     | some d=>some ((d,v)::L)
     | none=>some L
    | none=>none
   | false=>none
  | _=>none
 | none=>none
theorem WS{i:Nat}(h:QB n L ops i=some L'):∃o v,ops[i]? =some o/\Bj n o.dst=true/\AT L ops o=some true/\KB L o.op=some v/\L'=Ax L o.dst v:=by
 unfold QB at h;split at h
 ·rename_i d op ty p af g K;rw [K0,Array.getElem?_toList] at K;split at h
  ·rename_i hw;split at h
   ·rename_i O;split at h
    ·rename_i v U;refine⟨_,v,K,O,hw,U,?_⟩;cases d with
     | none=>cases h;rfl
     | some d=>cases h;rfl
    ·cases h
   ·cases h
  ·cases h
 ·cases h
theorem Bs(i:Nat)(K:s.q=false)(h:QB n L ops i=some L')
  (O:FW J Q b n ds ops k cs (A4 xl) D fuel (Bb listed i) L' s) (U:JK ops listed xl true i=true:=by decide+kernel):FW J Q b n ds ops k cs (A4 xl) D (fuel+1) listed L s:=by
 obtain⟨o,v,Y,Z,hw,ac,rfl⟩:=WS h;exact JB.val i true Y U K hw Z (λρ ag s' _=>Nr ag ac) O
end
end Pal
namespace Pal
open Go Go.Conc
section
variable {P:Program}{J:Judge P}{Q:Gs_}{b:Frame}{n:Nat}{L L':Env}{ds:Ld_}{k:Li_}{cs:Lf_}{s:St}{ops:Ao_}{E H:LH}{S:List Seg}{i i2:Nat}{rest:List Nat}
variable {d d2:Option Tmp}{x y x2:Operand}{t t2 ft u ty ty2 e:TypeId}{p p2:String}{af af2:Ae_}{g g2:On_}{v w:Value}
theorem Cl(O:Ap E H S)(h:∀r E',Le E E'->At E' r 0 v.cells.toList->Ap E' H (S++ [[]])->JL J Q b n (Ax L d (.pointer (some ⟨r,0,none⟩))) ds (.inRegion ops rest::k) cs (Al E' H (S++ [[]])))
  (U:Fz b n L ops i=some ⟨d,.box e x,ty,p,af,g⟩:=by exact rfl) (Y:ev L x=some v:=by exact rfl):JL J Q b n L ds (.inRegion ops (i::rest)::k) cs (Al E H S):=by
 obtain⟨Z,ac,ag⟩:=Kk U;refine JS.box Z ac ag O Y λr al=>De (bk:=r) (c:=v.cells) (e:=e) (f:=(0,0)) S.length al (by simp) λE' hle am K=>?_;have ap:(S++ [[(r,Obj.cells v.cells e (0,0))]]).set S.length []=S++ [[]]:=by simp
 rw [ap] at K ⊢;exact h r E' hle am K
theorem BL{z:Value}(K:Ap E H S)(O:zeroOf P e=some z)(h:∀r,Ap E H (S++ [[(r,.cells z.cells e (0,0))]])->JL J Q b n (Ax L d (.pointer (some ⟨r,0,none⟩))) ds (.inRegion ops rest::k) cs (Al E H (S++ [[(r,.cells z.cells e (0,0))]])))
  (U:Fz b n L ops i=some ⟨d,.alloc e,ty,p,af,g⟩:=by exact rfl):JL J Q b n L ds (.inRegion ops (i::rest)::k) cs (Al E H S):=by
 obtain⟨Y,Z,ac⟩:=Kk U;exact JS.alloc Y Z ac K O h
theorem Bt{bk off K:Nat}{c:Av_}(j:Nat)(O:Ap E H S)(U:Bq P t=some K)
  (h:Ap E H (S.set j [(bk,.cells (Bh c off v.cells.toList) e (0,0))])->JL J Q b n (Ax L d undef) ds (.inRegion ops rest::k) cs (Al E H (S.set j [(bk,.cells (Bh c off v.cells.toList) e (0,0))])))
  (Y:Fz b n L ops i=some ⟨d,.store t x y,ty,p,af,g⟩:=by exact rfl) (Z:ev L x=some (.pointer (some ⟨bk,off,none⟩)):=by exact rfl) (ac:ev L y=some v:=by exact rfl) (ag:S[j]? =some [(bk,.cells c e (0,0))]:=by exact rfl)
  (al:K=v.cells.size:=by exact rfl) (hle:off+v.cells.size<=c.size:=by exact Nat.le_of_ble_eq_true rfl) (am:v.cells.toList.all Dg=true:=by first | exact rfl | simp [Value.cells,Dg]):
  JL J Q b n L ds (.inRegion ops (i::rest)::k) cs (Al E H S):=bJ j O (by rw [← al];exact U) Y Z ac ag h hle (List.all_eq_true.1 am)
theorem Bz{bk o K Y off:Nat}{O:Array Field}{U:Nat}{ws:Lv_}(j:Nat)(Z:At E bk o ws)(ac:P.underlying t=some (.struct O))(ag:Bq P ft=some (Y+1))(al:Dz P t2=some false)
  (am:JL J Q b n (Ax (Ax L d (.pointer (some ⟨bk,K+off,none⟩))) d2 v) ds (.inRegion ops rest::k) cs (Al E H S))
  (ap:Fz b n L ops i=some ⟨d,.fieldAddr t x U,ty,p,af,g⟩:=by exact rfl) (aq:ev L x=some (.pointer (some ⟨bk,K,none⟩)):=by exact rfl) (aw:LY O U=some (off,ft):=by exact rfl)
  (a0:Fz b n (Ax L d (.pointer (some ⟨bk,K+off,none⟩))) ops i2=some ⟨d2,.load t2 x2,ty2,p2,af2,g2⟩:=by exact rfl) (a1:ev (Ax L d (.pointer (some ⟨bk,K+off,none⟩))) x2=some (.pointer (some ⟨bk,o+j,none⟩)):=by exact rfl) (a2:ws[j]? =some v:=by exact rfl):
  JL J Q b n L ds (.inRegion ops (i::i2::rest)::k) cs (Al E H S):=JL.fd ac ag ap aq aw (Ca j Z al a0 a1 a2 am)
theorem JS.ix{α:Type}{pp:Rp α}{a:Option Addr}{c:Nat}{xs:List α}{xv:α}{m:Int}{kd:IntKind}(K:Ak pp E a c xs)(hm:ix xs m=some xv)(O:P.underlying t=some (.slice e))(U:Bq P e=some pp.n)
  (h:∀bk o ws,pp.r E ws xv->At E bk o ws->JL J Q b n (Ax L d (.pointer (some ⟨bk,o,none⟩))) ds (.inRegion ops rest::k) cs (Al E H S))
  (Y:Fz b n L ops i=some ⟨d,.indexAddr t x y,ty,p,af,g⟩:=by exact rfl) (Z:ev L x=some (.slice a xs.length c):=by exact rfl) (ac:ev L y=some (.int kd m):=by exact rfl):
  JL J Q b n L ds (.inRegion ops (i::rest)::k) cs (Al E H S):=by
 obtain⟨ag,al,am⟩:=Kk Y;exact Tb K hm ag al am Z ac O U h
theorem Ep(K:List Seg)(O:Env){todo:Li_}{c:Code}(U:∀E',Le E E'->Ap E' H K->JL J Q b n O ds todo cs (Al E' H K))
  (h:(∀{E':LH} {L:Env},Le E E'->Ap E' H K->Ii L O=Im O->JL J Q b n L ds todo cs (Al E' H K))->JL J Q b n L ds (.code c::todo) cs (Al E H S)):JL J Q b n L ds (.code c::todo) cs (Al E H S):=
 h λY Z ac=>AA (U _ Y Z) ac
theorem FT{U:List Nat}(Y Z:Nat)(K:List Seg)(O:Env){todo:Li_}(ac:∀E',Le E E'->Ap E' H K->JL J Q b n O ds (.inRegion ops (List.range' Y Z)::todo) cs (Al E' H K))
  (h:(∀{E':LH} {L:Env},Le E E'->Ap E' H K->Ii L O=Im O->JL J Q b n L ds (.inRegion ops (List.range' Y Z)::todo) cs (Al E' H K))->JL J Q b n L ds (.inRegion ops U::todo) cs (Al E H S)):JL J Q b n L ds (.inRegion ops U::todo) cs (Al E H S):=
 h λag al am=>AA (ac _ ag al) am
theorem CI{O ag:Type}{c:Code}{body:O->Option (Bf O ag)}{f:Nat}{Y:O}{a:ag}{Z:LH}{k:Li_}(am:iter body f Y=some a)(K:O->List Seg)(U:O->Env)(hle:Le Z E)(ap:Ap E H (K Y))
  (round:∀x E',Le Z E'->Ap E' H (K x)->(∀al,body x=some (.done al)->al=a)->(∃st,body x=some st)->(∀{L':Env} {ac:LH} (x':O),Le Z ac->Ap ac H (K x')->Ii L' (U x')=Im (U x')->body x=some (.more x')->JL J Q b n L' ds (.inLoop c::k) cs (Al ac H (K x')))->JL J Q b n (U x) ds (.code c:: .inLoop c::k) cs (Al E' H (K x)))
  (aq:Ii L (U Y)=Im (U Y):=by exact rfl) (aw:Al E H S=Al E H (K Y):=by exact rfl):JL J Q b n L ds (.code (.loop c)::k) cs (Al E H S):=by
 rw [aw];refine EF _ aq (Se am (λL s x=>∃E',Jm Z H E' (K x) (U x) L s) ⟨E,rfl,rfl,hle,ap⟩ ?_);rintro _ _ x ⟨E',rfl,rfl,a0,a1⟩ hd hb a2;exact round x E' a0 a1 hd hb λx' a3 g2 a4 a5=>AA (a2 _ _ x' ⟨_,rfl,rfl,a3,g2⟩ a5) a4
theorem A8{f:FuncId}{fn:Func}{c:Code}{E:LH}{vs:Lv_}{B:Seg}{R:Value->LH->Seg->Prop}(O:P.funcs[f]? =some fn)
  (h:∀(Q:Gs_) (K:Frame) (cs:Lf_) (H:LH),Ap E H [B]->(∀{v:Value} {E':LH} {S':List Seg} {B':Seg},Le E E'->S'.flatten=B'->R v E' B'->Ap E' H S'->J.ok Q (G (K.finish v) cs) (Al E' H S'))->JL J Q (base f) fn.ntmps (Gl 0 vs) [] [.code c] (K::cs) (Al E H [B]))
  (hb:fn.body=some c:=by exact rfl) (U:Nat.ble vs.length fn.ntmps=true:=by exact rfl):AH J f vs E B R:=
 PQ O hb U λQ K cs H Y Z=>h Q K cs H Y λac ag al am=>Z _ _ _ _ ac ag al am
variable {m:Nat}{fuel:Nat}{listed:Array Bool}{bks xl:List Nat}
theorem Kt{bk:Nat}{c:Av_}{f:Nat×Nat}(i:Nat)(K:Ek ops m=true)(o:Nat)(j:Nat)(O:Ap E H S)(U:Dz P t=some false)
  (Y:AR J Q b n ds ops k cs m (A4 bks) fuel (Bb listed i) (Ax L d w) (Al E H S)) (Z:G1 n L ops i=some ⟨d,.load t x,ty,p,af,g⟩:=by exact rfl) (ac:ev L x=some (.pointer (some ⟨bk,o,none⟩)):=by exact rfl)
  (ag:S[j]? =some [(bk,.cells c e f)]:=by exact rfl) (hw:c[o]? =some w:=by exact rfl) (al:A4 bks bk=true:=by simp [A4]) (am:Gn ops listed m i=true:=by decide+kernel):AR J Q b n ds ops k cs m (A4 bks) (fuel+1) listed L (Al E H S):=
 AP i K rfl Z (λρ h s' ap=>Yl.load U (h _ _ ac) (Cn (o:=o) j O ag al ap hw)) Y am
theorem JG.lp{bk o:Nat}{ws:Lv_}(i:Nat)(K:Ek ops m=true)(j:Nat)(O:At E bk o ws)(U:Ap E H S)(Y:HL S bks)(Z:Dz P t=some false)
  (ac:AR J Q b n ds ops k cs m (A4 bks) fuel (Bb listed i) (Ax L d w) (Al E H S)) (ag:G1 n L ops i=some ⟨d,.load t x,ty,p,af,g⟩:=by exact rfl) (al:ev L x=some (.pointer (some ⟨bk,o+j,none⟩)):=by exact rfl)
  (hw:ws[j]? =some w:=by exact rfl) (am:Gn ops listed m i=true:=by decide+kernel):AR J Q b n ds ops k cs m (A4 bks) (fuel+1) listed L (Al E H S):=
 AP i K rfl ag (λρ h s' ap=>Yl.load Z (h _ _ al) (At.Jg (j:=j) O (aU U ap Y) hw)) ac am
theorem Uq{bk o K:Nat}{c:Av_}{f:Nat×Nat}(i:Nat)(O:Ek ops m=true)(vs:Lv_)(j:Nat)(U:Ap E H S)(hw:∀(q:Nat) w,vs[q]? =some w->c[o+q]? =some w)(Y:Dz P t=some true)(Z:Bq P t=some K)
  (ac:AR J Q b n ds ops k cs m (A4 bks) fuel (Bb listed i) (Ax L d (.agg vs.toArray)) (Al E H S)) (ag:G1 n L ops i=some ⟨d,.load t x,ty,p,af,g⟩:=by exact rfl) (al:ev L x=some (.pointer (some ⟨bk,o,none⟩)):=by exact rfl)
  (am:S[j]? =some [(bk,.cells c e f)]:=by exact rfl) (ap:K=vs.length:=by exact rfl) (aq:A4 bks bk=true:=by simp [A4]) (aw:Gn ops listed m i=true:=by decide+kernel):AR J Q b n ds ops k cs m (A4 bks) (fuel+1) listed L (Al E H S):=
 AP i O rfl ag (λρ h s' a0=>FQ (vs:=vs) Y (by rw [← ap];exact Z) (h _ _ al) (λq w a1=>by rw [Ej rfl];exact Cn j U am aq a0 (hw q w a1))) ac aw
theorem JG.ix{D:Nat->Bool}{α:Type}{xs:List α}{xv:α}{K:Int}{bk c O U:Nat}{kd:IntKind}(i:Nat)(Y:Ek ops m=true)(Z:xs.length=U)(hm:ix xs K=some xv)(ac:P.underlying t=some (.slice e))(ag:Bq P e=some O)
  (al:AR J Q b n ds ops k cs m D fuel (Bb listed i) (Ax L d (.pointer (some ⟨bk,K.toNat*O,none⟩))) s) (am:s.q=false:=by exact rfl) (ap:G1 n L ops i=some ⟨d,.indexAddr t x y,ty,p,af,g⟩:=by exact rfl)
  (aq:ev L x=some (.slice (some ⟨bk,0,none⟩) U c):=by exact rfl) (aw:ev L y=some (.int kd K):=by exact rfl) (a0:Gn ops listed m i=true:=by decide+kernel):AR J Q b n ds ops k cs m D (fuel+1) listed L s:=
 AP i Y am ap (λρ h s' a1=>FE Z hm ac ag (h _ _ aq) (h _ _ aw)) al a0
theorem JB.ix{D:Nat->Bool}{α:Type}{xs:List α}{xv:α}{K:Int}{bk c O U:Nat}{kd:IntKind}(i:Nat)(Y:xs.length=U)(hm:ix xs K=some xv)(Z:P.underlying t=some (.slice e))(ac:Bq P e=some O)
  (ag:FW J Q b n ds ops k cs (A4 xl) D fuel (Bb listed i) (Ax L d (.pointer (some ⟨bk,K.toNat*O,none⟩))) s) (al:s.q=false:=by exact rfl) (am:G1 n L ops i=some ⟨d,.indexAddr t x y,ty,p,af,g⟩:=by exact rfl)
  (ap:ev L x=some (.slice (some ⟨bk,0,none⟩) U c):=by exact rfl) (aq:ev L y=some (.int kd K):=by exact rfl) (aw:JK ops listed xl true i=true:=by decide+kernel):FW J Q b n ds ops k cs (A4 xl) D (fuel+1) listed L s:=
 Fy i true al am (λρ h s' a0=>FE Y hm Z ac (h _ _ ap) (h _ _ aq)) ag aw
theorem Uw{bk o K:Nat}{c:Av_}{f:Nat×Nat}(i:Nat)(vs:Lv_)(j:Nat)(O:Ap E H S)(hw:∀(q:Nat) w,vs[q]? =some w->c[o+q]? =some w)(U:Dz P t=some true)(Y:Bq P t=some K)
  (Z:FW J Q b n ds ops k cs (A4 xl) (A4 bks) fuel (Bb listed i) (Ax L d (.agg vs.toArray)) (Al E H S)) (ac:G1 n L ops i=some ⟨d,.load t x,ty,p,af,g⟩:=by exact rfl) (ag:ev L x=some (.pointer (some ⟨bk,o,none⟩)):=by exact rfl)
  (al:S[j]? =some [(bk,.cells c e f)]:=by exact rfl) (am:K=vs.length:=by exact rfl) (ap:A4 bks bk=true:=by simp [A4]) (aq:JK ops listed xl false i=true:=by decide+kernel):FW J Q b n ds ops k cs (A4 xl) (A4 bks) (fuel+1) listed L (Al E H S):=
 Fy i false rfl ac (λρ h s' aw=>FQ (vs:=vs) U (by rw [← am];exact Y) (h _ _ ag) (λq w a0=>by rw [Ej rfl];exact Cn j O al ap (aw rfl) (hw q w a0))) Z aq
theorem Fa{bk off K:Nat}{c:Av_}{D:Nat->Bool}(i j:Nat)(O:Ap E H S)(U:Bq P t=some K)(hle:off+K<=c.size)
  (h:Ap E H (S.set j [(bk,.cells (Bh c off v.cells.toList) e (0,0))])->FW J Q b n ds ops k cs (A4 xl) D fuel (Bb listed i) (Ax L d undef) (Al E H (S.set j [(bk,.cells (Bh c off v.cells.toList) e (0,0))])))
  (Y:G1 n L ops i=some ⟨d,.store t x y,ty,p,af,g⟩:=by exact rfl) (Z:ev L x=some (.pointer (some ⟨bk,off,none⟩)):=by exact rfl) (ac:ev L y=some v:=by exact rfl) (ag:S[j]? =some [(bk,.cells c e (0,0))]:=by exact rfl)
  (al:K=v.cells.size:=by exact rfl) (am:v.cells.toList.all Dg=true:=by first | exact rfl | simp [Value.cells,Dg]) (ap:Region.ready .any ops listed= [i]:=by decide+kernel) (aq:A4 xl i=true:=by decide+kernel):
  FW J Q b n ds ops k cs (A4 xl) D (fuel+1) listed L (Al E H S):=by
 obtain⟨aw,a0,a1⟩:=Pd Y;subst al;exact JB.store i j ap aq aw a0 a1 O Z ac U (List.all_eq_true.1 am) ag hle h
end
end Pal
namespace Pal
open Go Go.Conc
abbrev s8(s:Nat):Value:= .int .u8 (s:Int)
def Of(a:Nat)(n:Int):Option Nat:=if 0<=n/\n<=8 then some (a>>>n.toNat) else none
def Lq(a b:Nat):Option Nat:=if a<256/\b<256 then some (a ||| b) else none
def Oo(a b:Nat):Option Nat:=if a<256/\b<256 then some (a&&& b) else none
section
variable {P:Program}{s:St}{ρ:Operand->Value}{d:Option Tmp}{t u ty:TypeId}{x y:Operand}{p:String}{af:Ae_}{g:On_}{a b c r:Nat}{m:Int}
theorem T8{m:Nat}(h:m<256):IntKind.u8.wrap (m:Int)=m:=by
 simp only [IntKind.wrap,IntKind.bits,IntKind.signed];simp;omega
theorem OB{m:Nat}(h:m<256):(BitVec.ofInt IntKind.u8.bits (m:Int)).toNat=m:=by
 simp [IntKind.bits,BitVec.toNat_ofInt];omega
theorem aB{k:Nat}(a c:Nat)(K:c<=k):((a:Int).fdiv (2 ^ (min c k)))=((a>>>c:Nat):Int):=by
 rw [Nat.min_eq_left K,Nat.shiftRight_eq_div_pow,Int.fdiv_eq_ediv_of_nonneg _ (Int.pow_nonneg (by decide)),Int.natCast_ediv]
 rfl
theorem R7(K:ρ x=s8 a)(O:ρ y=iV m)(h:Of a m=some r):Yl P ⟨d,.binOp .shr t x y u,ty,p,af,g⟩ ρ s (s8 r):=by
 unfold Of at h;split at h
 ·rename_i U;cases h;have h:=Yl.shr (P:=P) (s:=s) (d:=d) (t:=t) (u:=u) (ty:=ty) (p:=p) (af:=af) (g:=g) K O U.1;rw [show IntKind.u8.bits=8 from rfl,aB a m.toNat (by omega)] at h;exact h
 ·cases h
theorem Ni(O:ρ x=s8 a)(U:ρ y=s8 b)(h:Lq a b=some r):Yl P ⟨d,.binOp .or t x y u,ty,p,af,g⟩ ρ s (s8 r):=by
 unfold Lq at h;split at h
 ·rename_i K;cases h;have h:=Yl.or (P:=P) (s:=s) (d:=d) (t:=t) (u:=u) (ty:=ty) (p:=p) (af:=af) (g:=g) O U;rw [BitVec.toNat_or,OB K.1,OB K.2,T8 (Nat.or_lt_two_pow (n:=8) K.1 K.2)] at h;exact h
 ·cases h
theorem Sj(O:ρ x=s8 a)(U:ρ y=s8 b)(h:Oo a b=some r):Yl P ⟨d,.binOp .and t x y u,ty,p,af,g⟩ ρ s (s8 r):=by
 unfold Oo at h;split at h
 ·rename_i K;cases h;have h:=Yl.and (P:=P) (s:=s) (d:=d) (t:=t) (u:=u) (ty:=ty) (p:=p) (af:=af) (g:=g) O U;rw [BitVec.toNat_and,OB K.1,OB K.2,T8 (Nat.lt_of_le_of_lt Nat.and_le_left K.1)] at h;exact h
 ·cases h
end
end Pal
namespace Pal
open Go Go.Conc
def PM(a b:Nat):Option Nat:=if a<4294967296/\b<4294967296 then some (a&&& b) else none
def PS(a:Nat)(n:Int):Option Nat:=if 0<=n/\n<=32/\a*2 ^ n.toNat<4294967296 then some (a*2 ^ n.toNat) else none
def KA(n:Int):Option Nat:=if 0<=n/\n<=8 then some ((1<<<n.toNat) % 256) else none
section
variable {P:Program}{s:St}{ρ:Operand->Value}{d:Option Tmp}{t u ty e:TypeId}{x y:Operand}{p:String}{af:Ae_}{g:On_}{a b c r:Nat}{m:Int}
theorem wrap32{m:Nat}(h:m<4294967296):IntKind.u32.wrap (m:Int)=m:=by
 simp only [IntKind.wrap,IntKind.bits,IntKind.signed];simp;omega
theorem Uz{m:Nat}(h:m<4294967296):(BitVec.ofInt IntKind.u32.bits (m:Int)).toNat=m:=by
 simp [IntKind.bits,BitVec.toNat_ofInt];omega
theorem Wo(O:ρ x= .int .u32 (a:Int))(U:ρ y= .int .u32 (b:Int))(h:PM a b=some r):Yl P ⟨d,.binOp .and t x y u,ty,p,af,g⟩ ρ s (.int .u32 (r:Int)):=by
 unfold PM at h;split at h
 ·rename_i K;cases h;have h:=Yl.and (P:=P) (s:=s) (d:=d) (t:=t) (u:=u) (ty:=ty) (p:=p) (af:=af) (g:=g) O U;rw [BitVec.toNat_and,Uz K.1,Uz K.2,wrap32 (Nat.lt_of_le_of_lt Nat.and_le_left K.1)] at h;exact h
 ·cases h
theorem VH(O:ρ x= .int .u32 (a:Int))(U:ρ y=iV m)(h:PS a m=some r):Yl P ⟨d,.binOp .shl t x y u,ty,p,af,g⟩ ρ s (.int .u32 (r:Int)):=by
 unfold PS at h;split at h
 ·rename_i K;cases h;have h:=Yl.shl (P:=P) (s:=s) (d:=d) (t:=t) (u:=u) (ty:=ty) (p:=p) (af:=af) (g:=g) O U K.1;have e:IntKind.u32.wrap ((a:Int)*2 ^ (min m.toNat IntKind.u32.bits))=((a*2 ^ m.toNat:Nat):Int):=by
   have Y:min m.toNat IntKind.u32.bits=m.toNat:=by simp [IntKind.bits];omega
   rw [Y,← wrap32 K.2.2];simp
  rw [e] at h;exact h
 ·cases h
theorem LS(K:ρ x=s8 1)(O:ρ y=iV m)(h:KA m=some r):Yl P ⟨d,.binOp .shl t x y u,ty,p,af,g⟩ ρ s (s8 r):=by
 unfold KA at h;split at h
 ·rename_i U;cases h;have h:=Yl.shl (P:=P) (s:=s) (d:=d) (t:=t) (u:=u) (ty:=ty) (p:=p) (af:=af) (g:=g) K O U.1;have e:IntKind.u8.wrap (((1:Nat):Int)*2 ^ (min m.toNat IntKind.u8.bits))=(((1<<<m.toNat) % 256:Nat):Int):=
   (by decide:∀k:Fin 9,IntKind.u8.wrap (((1:Nat):Int)*2 ^ (min k.1 IntKind.u8.bits))=(((1<<<k.1) % 256:Nat):Int)) ⟨m.toNat,by omega⟩
  rw [e] at h;exact h
 ·cases h
theorem W4(K:ρ x=s8 a)(O:ρ y=s8 b)(hb:b<=256):Yl P ⟨d,.binOp .sub t x y u,ty,p,af,g⟩ ρ s (s8 ((a+(256 - b)) % 256)):=by
 have h:=Yl.sub (P:=P) (s:=s) (d:=d) (t:=t) (u:=u) (ty:=ty) (p:=p) (af:=af) (g:=g) K O;have e:IntKind.u8.wrap ((a:Int) - (b:Int))=(((a+(256 - b)) % 256:Nat):Int):=by
  simp only [IntKind.wrap,IntKind.bits,IntKind.signed];simp;omega
 rw [e] at h;exact h
theorem XI{kd:IntKind}{E:LH}(xs:List Nat):(rA xs.length (rN kd)).r E (xs.map λx=>Value.int kd ((x:Nat):Int)) xs:=by
 refine⟨rfl,xs.map λx=> [Value.int kd ((x:Nat):Int)],?_,by simp,λi x us K hu=>?_⟩
 ·induction xs with
  | nil=>rfl
  | cons x xs O=>simp [← O]
 ·rw [List.getElem?_map,K] at hu;exact(Option.some.inj hu).symm
theorem Nn{α:Type}{kk:Nat}{pp:Rp α}{E:LH}{us:Lv_}{x:α}(h:pp.r E us x):(rA kk pp).r E (List.replicate kk us).flatten (List.replicate kk x):=
 ⟨by simp,List.replicate kk us,rfl,by simp,λi y ws K hw=>by
  rw [List.getElem?_replicate] at K hw
  split at K
  ·rename_i O
   rw [if_pos O] at hw
   cases K;cases hw
   exact h
  ·cases K⟩
theorem Po{k K:Nat}{z v:Value}(O:P.underlying t=some (.array k e))(U:zeroOf P t=some z)(Y:Bq P e=some K)(Z: .agg z.cells=v):Yl P ⟨d,.build t #[],ty,p,af,g⟩ ρ s v:=by
 refine FO Pa ?_;unfold Instr.build;refine Aw (x:=zeroValue t) _ (HC U ?_);refine Aw _ _ (CB O ?_);refine Aw (x:=Go.sizeOf e) _ (EM Y ?_);subst Z;simp [Instr.fill,lp,pure]
theorem XK{k K:Nat}{z v:Value}{L:Env}{U:Array (Nat×Operand)}{vs:List (Nat×Value)}(h:Fb L ρ)(Z:P.underlying t=some (.array k e))(ac:zeroOf P t=some z)(ag:Bq P e=some K)(al:U.toList.mapM (λq=>(ev L q.2).map λv=>(q.1,v))=some vs)(O:(Instr.fill (λi=>some (i*K,K)) z.cells vs).map Value.agg=some v):Yl P ⟨d,.build t U,ty,p,af,g⟩ ρ s v:=by
 refine FO Pa ?_;unfold Instr.build;refine Aw (x:=zeroValue t) _ (HC ac ?_);refine Aw _ _ (CB Z ?_);refine Aw (x:=Go.sizeOf e) _ (EM ag ?_);have am:=Pg h al;have ap:(U.map λ(j,x)=>(j,ρ x)).toList=vs:=by rw [← am,Array.toList_map]
 rw [ap];cases Y:Instr.fill (λi=>some (i*K,K)) z.cells vs with
 | none=>rw [Y] at O;cases O
 | some cells=>rw [Y] at O;cases O;exact⟨rfl,rfl⟩
end
end Pal
namespace Pal
open Go Go.Conc
section
variable {P:Program}{E H:LH}{S:List Seg}{t e:TypeId}
end
section
variable {P:Program}{J:Judge P}{Q:Gs_}{b:Frame}{n:Nat}{ds:Ld_}{ops:Ao_}{k:Li_}{cs:Lf_}{m fuel:Nat}{D:Nat->Bool}{listed:Array Bool}{L:Env}{s:St}{E E' H:LH}{S:List Seg}
variable {d:Option Tmp}{x y:Operand}{t u ty e e2:TypeId}{p:String}{af:Ae_}{g:On_}{v:Value}{i:Nat}{kd:IntKind}
end
end Pal
namespace Pal
open Go Go.Conc
def G5(b:Frame)(T:Av_)(ds:Ld_)(todo:Li_)(ch:List PanicEntry):Frame:={b with tmps:=T,todo:=todo,defers:=ds,mode:= .panicking ch}
def raised(v:Value):List PanicEntry:= [{v,recovered:=false}]
def taken(v:Value):List PanicEntry:= [{v,recovered:=true}]
section
variable {P:Program}(J:Judge P)(Q:Gs_)
def JP(b:Frame)(n:Nat)(L:Env)(ds:Ld_)(cs:Lf_)(ch:List PanicEntry)(s:St):Prop:=
 ∀T,Has n L T->∀todo,J.ok Q (G (G5 b T ds todo ch) cs) s
end
section
variable {P:Program}{J:Judge P}{Q:Gs_}{b bc:Frame}{n:Nat}{L L':Env}{ds dsc:Ld_}{k:Li_}{cs:Lf_}{s:St}{ch:List PanicEntry}{T Tc:Av_}{todoc:Li_}
variable {ops:Ao_}{i:Nat}{rest:List Nat}{d:Option Tmp}{x:Operand}{ty:TypeId}{p:String}{af:Ae_}{g:On_}{v:Value}
theorem JL.panic{t:TypeId}(O:ops[i]? =some ⟨d,.panic x,ty,p,af,g⟩)(U:b.roundOf=none)(hw:AT L ops ⟨d,.panic x,ty,p,af,g⟩=some true)(Y:ev L x=some (.iface t v))
  (h:JP J Q b n L ds cs (raised (.iface t v)) s):JL J Q b n L ds (.inRegion ops (i::rest)::k) cs s:=λT K=>
 Judge.Ds rfl (λw=>by
  have he:execOp (BB T) ⟨d,.panic x,ty,p,af,g⟩= .halt (.panic (.iface t v)):=by
   simp [execOp,Instr.panic,K.ev Y,goPanic,bind,Sem.bind]
  rw [stepG_op O (Cf K hw)]
  simp [U,stepG.apply,he,Sem.run,Sem.runT,Sem.events,GStep.after,fr,G5,Frame.raise,G,raised,seen_none]) (h T K (.inRegion ops (i::rest)::k))
theorem JP.pop{fn:Func}(K:P.funcs[b.fn]? =some fn)(h:J.ok Q (G (G5 bc Tc dsc todoc ch) cs) s):JP J Q b n L [] (fr bc Tc dsc todoc::cs) ch s:=λT O todo=>
 Judge.Ds rfl (λw=>by simp [G,stepG,unwind,G5,fr,Frame.raise,Frame.catches,K]) h
theorem JP.PY{f:FuncId}{fn:Func}{c:Code}{vs caps:Lv_}(ap:b.roundOf=none)(O:P.funcs[f]? =some fn)(Y:(fn.name== "runtime.NumGoroutine")=false)(hb:fn.body=some c)(Z:(vs++caps).length<=fn.ntmps)
  (h:∀T,Has n L T->∀todo,JL J Q (baseD f) fn.ntmps (Gl 0 (vs++caps)) [] [.code c] (G5 b T ds todo ch::cs) s):JP J Q b n L (Kx f vs.toArray caps.toArray::ds) cs ch s:=λT ac todo=>by
 have ag:¬fn.name= "runtime.NumGoroutine" :=by simpa using Y
 refine Judge.Ds rfl (λw=>?_) (h T ac todo ((vs++caps).toArray++Array.replicate (fn.ntmps - (vs++caps).length) undef) ⟨by simp;simp at Z;omega,λt v al=>?_⟩)
 ·rw [BR (b:=baseD f) rfl];have:=enter_atD (P:=P) (vs++caps).toArray O hb;simp only [List.size_toArray] at this;rw [← this];simp [G,stepG,unwind,callDeferred,G5,Kx,invoke,callFunc,O,ag,hb,GStep.after,seen_none]
 ·obtain⟨_,K⟩:=Ju al;have am:t<(vs++caps).length:=by
   rcases Nat.lt_or_ge t (vs++caps).length with U | U
   ·exact U
   ·simp only [Nat.sub_zero] at K;have:=(List.getElem?_eq_some_iff.1 K).1;omega
  rw [Array.getD_eq_getD_getElem?,Array.getElem?_append_left (by simpa using am)];simp only [Nat.sub_zero] at K;rw [List.getElem?_toArray,K];rfl
theorem U3{ats:Array TypeId}{K:List PanicEntry}(O:ops[i]? =some ⟨d,.call ⟨.builtin .recover,#[],ats⟩,ty,p,af,g⟩)(U:b.roundOf=none)(Y:b.kind= .deferred)(ag:Bj n d=true)(hw:AT L ops ⟨d,.call ⟨.builtin .recover,#[],ats⟩,ty,p,af,g⟩=some true)
  (h:JL J Q b n (Ax L d v) ds (.inRegion ops rest::k) (G5 bc Tc dsc todoc ({v,recovered:=true}::K)::cs) s):
  JL J Q b n L ds (.inRegion ops (i::rest)::k) (G5 bc Tc dsc todoc ({v,recovered:=false}::K)::cs) s:=λT Z=>
 Judge.Ds rfl (λw=>by
  have he:execOp (BB T) ⟨d,.call ⟨.builtin .recover,#[],ats⟩,ty,p,af,g⟩= .pure .recover:=by
   simp [execOp,resolve,Deferred.ofValue,invoke,bind,Sem.bind,pure,Go.builtin]
  have ac:=Gz (b:=b) (ds:=ds) (k:=k) T ops i rest v _ O
  simp only [fr,U,Y] at ac
  rw [stepG_op O (Cf Z hw)]
  simp [U,Y,stepG.apply,he,Sem.run,Sem.runT,Sem.events,GStep.after,fr,G5,tryRecover,G,seen_none,ac]) (h _ (Z.put ag _))
theorem Vf{ats:Array TypeId}(K:ops[i]? =some ⟨d,.call ⟨.builtin .recover,#[],ats⟩,ty,p,af,g⟩)(O:b.roundOf=none)(U:b.kind= .deferred)(ac:Bj n d=true)(hw:AT L ops ⟨d,.call ⟨.builtin .recover,#[],ats⟩,ty,p,af,g⟩=some true)
  (h:JL J Q b n (Ax L d .nilIface) ds (.inRegion ops rest::k) (Ey bc Tc dsc todoc::cs) s):
  JL J Q b n L ds (.inRegion ops (i::rest)::k) (Ey bc Tc dsc todoc::cs) s:=λT Y=>
 Judge.Ds rfl (λw=>by
  have he:execOp (BB T) ⟨d,.call ⟨.builtin .recover,#[],ats⟩,ty,p,af,g⟩= .pure .recover:=by
   simp [execOp,resolve,Deferred.ofValue,invoke,bind,Sem.bind,pure,Go.builtin]
  have Z:=Gz (b:=b) (ds:=ds) (k:=k) T ops i rest .nilIface _ K
  simp only [fr,O,U] at Z
  rw [stepG_op K (Cf Y hw)]
  simp [O,U,stepG.apply,he,Sem.run,Sem.runT,Sem.events,GStep.after,fr,Ey,tryRecover,G,seen_none,Z]) (h _ (Y.put ac _))
theorem JO.Z9{fn:Func}(O:b.kind= .deferred)(U:P.funcs[b.fn]? =some fn)(K:fn.results= #[])(h:J.ok Q (G (Ey bc Tc dsc todoc) cs) s):JO J Q b n L [] (G5 bc Tc dsc todoc (taken v)::cs) s:=λT Z todo=>by
 refine Judge.Ds rfl (λw=>?_) h
 have Y:=results_none K T P w
 have e2:=λ(x:Array Event)=>events_results_none (P:=P) (w:=w) K T x
 simp [G,stepG,unwind,Ey,G5,U,Y,e2,doReturn,O,GStep.after,seen_none,taken]
end
end Pal
namespace Pal
open Go Go.Conc Go.Proofs
abbrev Dq:=Int×Int×Int
abbrev AD:=List Dq
abbrev A5:=List AD
abbrev AV:=List (List Int)
abbrev AI:=AV×AD
abbrev Ar:=rP rI Eu
open Go.Proofs.Tryz
def AB:=AY Tryz.type3
def A2:=AY Tryz.type27
def F7:=AY Tryz.type101
def HA:=AY Tryz.type105
def MH:=AY Tryz.type227
def A6:=CO Tryz.underlying3
def Lz:=AU Tryz.func91 rfl
def Da:=AY Tryz.type22
def Dr:=CO Tryz.underlying22
def CE:=AY Tryz.type23
def EB:=CO Tryz.underlying23
def DK:=CO Tryz.underlying27
def Bw:=Di Tryz.type27
def Cz:=AY Tryz.type28
def EK:=CO Tryz.underlying28
def ID:=Di Tryz.type105
def Bp:=AY Tryz.type25
def Ha:=CO Tryz.underlying105
def I4:=Di Tryz.type101
def Hy:=Di Tryz.type77
def BU:=CO Tryz.underlying25
def DZ:=AY Tryz.type77
def F6:=CO Tryz.underlying77
def B6:=Di Tryz.type3
def J7:=AU Tryz.func70 rfl
def MB:=AU Tryz.func84 rfl
def H4:=AU Tryz.func74 rfl
def Jt:=AY Tryz.type4
def Mw:=CO Tryz.underlying4
def Bn:=AY Tryz.type80
def BI:=CO Tryz.underlying80
def HB:=AY Tryz.type197
def Hx:=AU Tryz.func85 rfl
def Hz:=Di Tryz.type28
def LA:=Di Tryz.type4
def Mx:=AU Tryz.func115 rfl
def KO:=Di Tryz.type209
def H3:=AU Tryz.func204 rfl
def OQ:=Di Tryz.type80
def Ms:=CO Tryz.underlying167
def OF:=CO Tryz.underlying83
def OK:=AU Tryz.func71 rfl
def OH:=AU Tryz.func205 rfl
def OG:=AU Tryz.func179 rfl
def OI:=AU Tryz.func137 rfl
def Mz:=AU Tryz.func114 rfl
def J6:=CO Tryz.underlying197
def OM:=Di Tryz.type227
def Mr:=CO Tryz.underlying227
def Jq:=AY Tryz.type156
def MA:=Di Tryz.type156
def Mt:=CO Tryz.underlying156
def Hb:=CO Tryz.underlying21
def MI:=AY Tryz.type85
def GN:=Di Tryz.type25
def MC:=AU Tryz.func67 rfl
def OJ:=AU Tryz.func110 rfl
def ME:=AU Tryz.func63 rfl
def Jp:=AU Tryz.func29 rfl
def OO:=AU Tryz.func26 rfl
def MD:=AU Tryz.func92 rfl
def Js:=AY Tryz.type72
def Mv:=CO Tryz.underlying72
def KM:=AU Tryz.func36 rfl
def ON:=AU Tryz.func37 rfl
def MF:=AU Tryz.func94 rfl
def My:=AU Tryz.func101 rfl
def OP:=AU Tryz.func48 rfl
theorem mixed:Tryz.prog.follows .mixedOrders=true:=rfl
theorem aL:Cd Tryz.prog 27 (rP rI (rP rI rI)) true 2:=Cd.three underlying27 (Cd.int underlying3 AB) (Cd.int underlying3 AB) (Cd.int underlying3 AB) (by decide+kernel) (by decide) (by decide) (by decide) rfl rfl rfl A2
theorem Z1:Cd Tryz.prog 101 (rP rI rI) true 2:=Cd.two underlying101 (Cd.int underlying3 AB) (Cd.int underlying3 AB) (by decide+kernel) (by decide) (by decide) rfl rfl F7
theorem TY:Cd Tryz.prog 105 (rA 5 rI) true 2:=Cd.arr (kk:=5) (Cd.int underlying3 AB) underlying105 HA
theorem ZB:Cd Tryz.prog 225 (rA 10 rI) true 2:=Cd.arr (kk:=10) (Cd.int underlying3 AB) underlying225 (AY type225)
theorem T3:Cd Tryz.prog 227 (rA 5 (rA 10 rI)) true 3:=Cd.arr (kk:=5) ZB underlying227 MH
theorem Zf:Cd Tryz.prog 249 (rP (rN .u8) (rA 5 (rA 10 rI))) true 4:=Cd.two underlying249 ((Cd.nat underlying5 (AY type5)).up (by decide)) T3 (by decide+kernel) (by decide) (by decide) rfl rfl (AY type249)
theorem IS:GD Tryz.prog 3 rI false:=(Cd.int underlying3 AB).key (by decide)
theorem PU:GD Tryz.prog 101 (rP rI rI) true:=Z1.key (by decide)
theorem TM:GD Tryz.prog 227 (rA 5 (rA 10 rI)) true:=T3.key (by decide)
theorem TF:GD Tryz.prog 249 (rP (rN .u8) (rA 5 (rA 10 rI))) true:=Zf.key (by decide)
end Pal
namespace Pal
open Go Go.Conc Go.Proofs
open Go.Proofs.Tryz
variable {J:Judge Tryz.prog}{E:LH}
def f91(fu_:Nat)(p0:Int)(K:Int)(p2:Int):Option Bool:= Option.bind (if K<=p0 then(some (decide (p0<=p2))) else(some false)) λO=> some O
theorem Mi{p0:Int}{K:Int}{p2:Int}{fu_:Nat}{r:Bool}(O:f91 fu_ p0 K p2=some r):AH J 91 [iV p0,iV K,iV p2] E [] (λw E' B'=>w= .bool r/\B'= []):=by
 refine A8 func91 λQ a1 cs H U Z=>?_;unfold f91 at O;obtain⟨ac,ag,al⟩:=bs O;refine zg 10 rfl (FT 8 1 [] [(14,.bool ac)] (λa2 am ap=>?_) (λY=>?_))
 ·refine zg 2 rfl ?_;obtain rfl:=oi al;exact AJ func91 rfl rfl (Z am rfl ⟨rfl,rfl⟩ ap)
 ·refine HO 10 ag (λaq aw=>?_) (λaq a0=>?_)
  ·refine zg 4 rfl ?_;obtain rfl:=oi aw;exact Y Av U rfl
  ·refine zg 4 rfl ?_;obtain rfl:=oi a0;exact Y Av U rfl
def f86(fu_:Nat)(p0:Int×Int×Int)(K:Int)(p2:Int):Option Int:= (Au (K - 1)).bind λO=> (f91 fu_ p0.1 0 O).bind λU=> Option.bind (if(!U)=true then(some true) else((Au (K - 1)).bind λY=> (f91 fu_ p0.2.1 0 Y).bind λZ=> some (!Z))) λac=> if ac=true then(some 3) else(if p0.1=p0.2.1 then(some 8) else((f91 fu_ p0.2.2 1 p2).bind λag=> if(!ag)=true then(some 1) else(some 0)))
theorem bx{p0:Int×Int×Int}{ag:Int}{p2:Int}{fu_:Nat}{r:Int}(al:f86 fu_ p0 ag p2=some r):AH J 86 [.agg #[iV p0.1,iV p0.2.1,iV p0.2.2],iV ag,iV p2] E [] (λw E' B'=>w=iV r/\B'= []):=by
 refine A8 func86 λQ co cs H a0 Y=>?_;unfold f86 at al;refine zg 2 rfl (Cl a0 λr2 cp Z U a1=>?_);refine zg 6 rfl (Bz 0 U underlying27 AB A6 ?_);obtain⟨cq,a2,a3⟩:=bs al;refine zg 1 rfl (Cv a2 rfl rfl rfl ?_);obtain⟨a4,a5,a6⟩:=bs a3;refine B8 (Mi a5) rfl rfl Lz a1 λcr K am=>An (v:= .bool (!a4)) rfl (λρ h=>Yl.not (h _ _ rfl)) ?_;obtain⟨a7,a8,a9⟩:=bs a6;refine zg 1 rfl (FT 14 1 [] [(2,iV p2),(3,Aj r2 0),(21,.bool a7)] (λct O ac=>?_) (λap=>?_))
 ·refine zg 2 rfl (Cc a9 (λbb be=>?_) (λbb bi=>?_))
  ·refine zg 4 rfl ?_;obtain rfl:=oi be;exact AJ func86 rfl rfl (Y ((Z.I K).I O) rfl ⟨rfl,rfl⟩ ac)
  ·refine zg 2 rfl (Bz 0 (U.Ag (K.I O)) underlying27 AB A6 ?_);refine Bz 1 (U.Ag (K.I O)) underlying27 AB A6 ?_;refine zg 3 rfl (AN bi (λbo bv=>?_) (λbo bw=>?_))
   ·refine zg 4 rfl ?_;obtain rfl:=oi bv;exact AJ func86 rfl rfl (Y ((Z.I K).I O) rfl ⟨rfl,rfl⟩ ac)
   ·refine zg 2 rfl (Bz 2 (U.Ag (K.I O)) underlying27 AB A6 ?_);obtain⟨b0,b1,b2⟩:=bs bw;refine zg 1 rfl (B8 (Mi b1) rfl rfl Lz ac λcu aq aw=>?_);refine An (v:= .bool (!b0)) rfl (λρ h=>Yl.not (h _ _ rfl)) (zg 2 rfl ?_);refine Cc b2 (λb3 b4=>?_) (λb3 b5=>?_)
    ·refine zg 4 rfl ?_;obtain rfl:=oi b4;exact AJ func86 rfl rfl (Y (((Z.I K).I O).I aq) rfl ⟨rfl,rfl⟩ aw)
    ·refine zg 6 rfl ?_;obtain rfl:=oi b5;exact AJ func86 rfl rfl (Y (((Z.I K).I O).I aq) rfl ⟨rfl,rfl⟩ aw)
 ·refine Ff 14 a8 (λb6 ca=>?_) (λb6 cc=>?_)
  ·refine zg 7 rfl ?_;obtain rfl:=oi ca;exact ap Av am rfl
  ·refine Bz 1 (U.Ag K) underlying27 AB A6 ?_;obtain⟨cv,ce,cf⟩:=bs cc;refine zg 1 rfl (Cv ce rfl rfl rfl ?_);obtain⟨cg,ci,ck⟩:=bs cf;refine B8 (Mi ci) rfl rfl Lz am λcw cm cn=>An (v:= .bool (!cg)) rfl (λρ h=>Yl.not (h _ _ rfl)) (zg 1 rfl ?_);obtain rfl:=oi ck;exact ap cm cn rfl
def NO(fu_:Nat)(O:List Int)(K:Int):Option (Bf Int ((Int)⊕(Unit))):= if K<(O.length:Int) then((ix O K).bind λU=> (f91 fu_ U 1 9).bind λY=> if(!Y)=true then(some (.done (Sum.inl 1))) else((Au (K+1)).bind λZ=> some (.more Z))) else(some (.done (Sum.inr ())))
def NC(fu_:Nat)(p0:AI)(K:Int):Option (Bf Int ((Int)⊕(Unit))):= if K<(p0.1.length:Int) then((ix p0.1 K).bind λO=> if 3<(O.length:Int) then(some (.done (Sum.inl 6))) else(Option.bind (iter (NO fu_ O) fu_ 0) λU=> Sum.elim (λr=>some (.done (Sum.inl r))) (λZ=> (Au (K+1)).bind λY=> some (.more Y)) U)) else(some (.done (Sum.inr ())))
def Tq(fu_:Nat)(p0:AI)(K:Int):Option (Bf Int ((Int)⊕(Unit))):= if K<(p0.2.length:Int) then((ix p0.2 K).bind λU=> (f86 fu_ U (p0.1.length:Int) 9).bind λO=> if O≠0 then(some (.done (Sum.inl O))) else((Au (K+1)).bind λY=> some (.more Y))) else(some (.done (Sum.inr ())))
def f47(fu_:Nat)(p0:AI):Option Int:= if(p0.1.length:Int)<2 then(some 7) else(if 5<(p0.1.length:Int) then(some 6) else(Option.bind (iter (NC fu_ p0) fu_ 0) λK=> Sum.elim (λr=>some r) (λU=> if 8<(p0.2.length:Int) then(some 6) else(Option.bind (iter (Tq fu_ p0) fu_ 0) λO=> Sum.elim (λr=>some r) (λY=> some 0) O)) K))
theorem bp{a1:Am}{c2:Nat}{a0:Am}{a2:Nat}{p0:AI}(ct:Ak (rL rI) E a1 c2 p0.1)(cu:Ak Ar E a0 a2 p0.2){fu_:Nat}{r:Int}(be:f47 fu_ p0=some r):AH J 47 [.agg #[sV a1 p0.1 c2,sV a0 p0.2 a2]] E [] (λw E' B'=>w=iV r/\B'= []):=by
 refine A8 func47 λQ ea cs H cv O=>?_;unfold f47 at be;refine zg 2 rfl (Cl cv λY cw K Z a3=>?_);refine zg 5 rfl (Bz 0 Z underlying25 Da Dr ?_);refine JL.ln underlying22 rfl rfl rfl (zg 9 rfl ?_);refine AN be (λcy cz=>?_) (λcy cA=>?_)
 ·refine zg 4 rfl ?_;obtain rfl:=oi cz;exact AJ func47 rfl rfl (O K rfl ⟨rfl,rfl⟩ a3)
 ·refine zg 6 rfl (AN cA (λcB cC=>?_) (λcB cD=>?_))
  ·refine zg 4 rfl ?_;obtain rfl:=oi cC;exact AJ func47 rfl rfl (O K rfl ⟨rfl,rfl⟩ a3)
  ·refine zg 5 rfl (Bz 0 Z underlying25 Da Dr ?_);refine JL.ln underlying22 rfl rfl rfl ?_;obtain⟨bi,cE,a4⟩:=bs cD;refine zg 2 rfl (Bi (λL s=>∃(bo:Unit) (a5:LH),bi=Sum.inr bo/\Jm cw H a5 [] [(1,Aj Y 0)] L s) ?_ ?_)
   ·rintro _ _ ⟨bo,a5,rfl,rfl,rfl,U,bv⟩;have cF:=elim_inr a4;refine zg 3 rfl (Bz 1 (Z.Ag U) underlying25 CE EB ?_);refine JL.ln underlying23 rfl rfl rfl (zg 2 rfl ?_);refine AN cF (λcG cH=>?_) (λcG cI=>?_)
    ·refine zg 4 rfl ?_;obtain rfl:=oi cH;exact AJ func47 rfl rfl (O (K.I U) rfl ⟨rfl,rfl⟩ bv)
    ·refine zg 4 rfl (Bz 1 (Z.Ag U) underlying25 CE EB ?_);refine JL.ln underlying23 rfl rfl rfl ?_;obtain⟨bw,cJ,b0⟩:=bs cI;refine zg 2 rfl (Bi (λL s=>∃(b1:Unit) (b2:LH),bw=Sum.inr b1/\Jm a5 H b2 [] [] L s) ?_ ?_)
     ·rintro _ _ ⟨b1,b2,rfl,rfl,rfl,cK,cM⟩;have cN:=elim_inr b0;refine zg 4 rfl ?_;obtain rfl:=oi cN;exact AJ func47 rfl rfl (O ((K.I U).I cK) rfl ⟨rfl,rfl⟩ cM)
     ·intro cO;refine JL.block (CI cJ (λa6=> []) (λa6=> [(1,Aj Y 0),(46,sV a0 p0.2 a2),(47,iV (p0.2.length:Int)),(48,iV a6)]) Av bv ?_);rintro a6 cP ac b3 b4 ⟨eb,ap⟩ cQ;have b5:=ap;unfold Tq at b5;refine zg 5 rfl (AN b5 (λcR cT=>?_) (λcR cV=>?_))
      ·obtain⟨ec,cW,cX⟩:=bs cT;refine zg 5 rfl (JS.ix (cu.Ag ((K.I U).I ac)) cW underlying23 A2 ?_);rintro ed ee _ ⟨_,_,rfl,rfl,⟨_,_,rfl,rfl,rfl⟩⟩ cY;refine BY cY DK A2 rfl rfl (BL b3 Bw λef cZ=>?_);refine Bt 0 cZ A2 λc0=>?_;refine De 0 c0 rfl λeg a7 c1 c3=>zg 3 rfl (BY c1 DK A2 rfl rfl ?_);refine Bz 0 (Z.Ag ((U.I ac).I a7)) underlying25 Da Dr ?_;refine JL.ln underlying22 rfl rfl rfl ?_;obtain⟨eh,c4,c5⟩:=bs cX;refine B8 (bx c4) rfl rfl (AU func86 rfl) c3 λei b6 ca=>zg 7 rfl (AN c5 (λc6 c7=>?_) (λc6 c8=>?_))
       ·refine zg 5 rfl ?_;obtain rfl:=oi c7;obtain rfl:=b4 _ ap;have c9:=elim_inl b0;obtain rfl:=oi c9;exact AJ func47 rfl rfl (O ((((K.I U).I ac).I a7).I b6) rfl ⟨rfl,rfl⟩ ca)
       ·obtain⟨da,db,dc⟩:=bs c8;refine zg 3 rfl (Bd db rfl rfl rfl ?_);refine zg 2 rfl ?_;obtain rfl:=oi dc;exact cQ da ((ac.I a7).I b6) ca rfl ap
      ·refine JL.exit rfl ?_;obtain rfl:=oi cV;have dd:bw=(Sum.inr ()):=(b4 _ ap).symm;exact AA (cO _ _ ⟨(),cP,dd,rfl,rfl,ac,b3⟩) rfl
   ·intro de;refine JL.block (CI cE (λag=> []) (λag=> [(1,Aj Y 0),(21,sV a1 p0.1 c2),(22,iV (p0.1.length:Int)),(23,iV ag)]) Av a3 ?_);rintro ag cc al a8 a9 ⟨ej,am⟩ df;have ce:=am;unfold NC at ce;refine zg 5 rfl (AN ce (λdg dh=>?_) (λdg di=>?_))
    ·obtain⟨cf,dj,dk⟩:=bs dh;refine zg 5 rfl (JS.ix (ct.Ag (K.I al)) dj underlying22 Cz ?_);rintro ek el _ ⟨dn,dp,rfl,dq⟩ dr;refine Ca 0 dr EK rfl rfl rfl (zg 6 rfl ?_);refine JL.ln underlying28 rfl rfl rfl (zg 2 rfl ?_);refine AN dk (λdt du=>?_) (λdt dv=>?_)
     ·refine zg 4 rfl ?_;obtain rfl:=oi du;obtain rfl:=a9 _ am;have dw:=elim_inl a4;obtain rfl:=oi dw;exact AJ func47 rfl rfl (O (K.I al) rfl ⟨rfl,rfl⟩ a8)
     ·refine zg 4 rfl (JL.ln underlying28 rfl rfl rfl ?_);obtain⟨cg,dx,ci⟩:=bs dv;refine zg 2 rfl (Bi (λL s=>∃(ck:Unit) (cm:LH),cg=Sum.inr ck/\Jm cc H cm [] [(1,Aj Y 0),(21,sV a1 p0.1 c2),(22,iV (p0.1.length:Int)),(23,iV ag)] L s) ?_ ?_)
      ·rintro _ _ ⟨ck,cm,rfl,rfl,rfl,dy,dz⟩;have dA:=elim_inr ci;obtain⟨dB,dC,dD⟩:=bs dA;refine zg 2 rfl (Bd dC rfl rfl rfl ?_);refine zg 2 rfl ?_;obtain rfl:=oi dD;exact df dB (al.I dy) dz rfl am
      ·intro dE;refine JL.block (CI dx (λbb=> []) (λbb=> [(1,Aj Y 0),(21,sV a1 p0.1 c2),(22,iV (p0.1.length:Int)),(23,iV ag),(30,sV dn cf dp),(31,iV (cf.length:Int)),(32,iV bb)]) Av a8 ?_);rintro bb dF aq cn co ⟨em,aw⟩ dG;have cp:=aw;unfold NO at cp;refine zg 5 rfl (AN cp (λdH dI=>?_) (λdH dJ=>?_))
       ·obtain⟨en,dK,dL⟩:=bs dI;refine zg 5 rfl (JS.ix (dq.Ag aq) dK underlying28 AB ?_);rintro eo ep _ rfl dM;refine Ca 0 dM A6 rfl rfl rfl ?_;obtain⟨dN,dO,dP⟩:=bs dL;refine zg 5 rfl (B8 (Mi dO) rfl rfl Lz cn λer cq cr=>?_);refine An (v:= .bool (!dN)) rfl (λρ h=>Yl.not (h _ _ rfl)) (JL.done ?_);refine Cc dP (λdQ dR=>?_) (λdQ dS=>?_)
        ·refine zg 4 rfl ?_;obtain rfl:=oi dR;obtain rfl:=co _ aw;have dT:=elim_inl ci;obtain rfl:=oi dT;obtain rfl:=a9 _ am;have dU:=elim_inl a4;obtain rfl:=oi dU;exact AJ func47 rfl rfl (O (((K.I al).I aq).I cq) rfl ⟨rfl,rfl⟩ cr)
        ·obtain⟨dV,dW,dX⟩:=bs dS;refine zg 3 rfl (Bd dW rfl rfl rfl ?_);refine zg 2 rfl ?_;obtain rfl:=oi dX;exact dG dV (aq.I cq) cr rfl aw
       ·refine JL.exit rfl ?_;obtain rfl:=oi dJ;have dY:cg=(Sum.inr ()):=(co _ aw).symm;exact AA (dE _ _ ⟨(),dF,dY,rfl,rfl,aq,cn⟩) rfl
    ·refine JL.exit rfl ?_;obtain rfl:=oi di;have dZ:bi=(Sum.inr ()):=(a9 _ am).symm;exact AA (de _ _ ⟨(),cc,dZ,rfl,rfl,al,a8⟩) rfl
def NG(fu_:Nat)(p0:AI)(O:(List Int)×Int):Option (Bf ((List Int)×Int) ((List Int))):= if O.2<(p0.2.length:Int) then((ix p0.2 O.2).bind λK=> (ix O.1 K.2.1).bind λY=> (Au (Y+K.2.2)).bind λU=> (ix O.1 K.2.1).bind λal=> (ix (O.1.set (Int.toNat K.2.1) U) K.1).bind λZ=> (Au (Z - K.2.2)).bind λac=> (ix (O.1.set (Int.toNat K.2.1) U) K.1).bind λam=> (Au (O.2+1)).bind λag=> some (.more (((O.1.set (Int.toNat K.2.1) U).set (Int.toNat K.1) ac),ag))) else(some (.done O.1))
def f84(fu_:Nat)(p0:AI):Option ((List Int)):= Option.bind (iter (NG fu_ p0) fu_ ((List.replicate 5 (0:Int)),0)) λK=> some K
theorem Om{a1:Am}{c2:Nat}{be:Am}{bi:Nat}{p0:AI}(c8:Ak (rL rI) E a1 c2 p0.1)(cn:Ak Ar E be bi p0.2){fu_:Nat}{r:(List Int)}(b3:f84 fu_ p0=some r):AH J 84 [.agg #[sV a1 p0.1 c2,sV be p0.2 bi]] E [] (λw E' B'=>∃(b4:Lv_),w= .agg b4.toArray/\B'= []/\(rA 5 rI).r E' b4 r):=by
 refine A8 func84 λQ c9 cs H co cp=>?_;unfold f84 at b3;refine zg 2 rfl (Cl co λda a5 b5 cq cr=>?_);refine BL cr ID λa6 ct=>?_;refine zg 3 rfl (BL ct ID λU cu=>?_);refine zg 4 rfl (JL.fd underlying77 Bp rfl rfl rfl ?_);refine Bz 1 cq underlying25 CE EB ?_;refine JL.ln underlying23 rfl rfl rfl ?_;obtain⟨cv,cw,cy⟩:=bs b3;refine zg 2 rfl (Bi (λL s=>∃(a0:LH) (Y:Lv_),Jn a5 H a0 [bX a6 (([]:Lv_)++(List.replicate 5 (iV 0):Lv_)).toArray 105,bX U (([]:Lv_)++Y).toArray 105] [(2,Aj a6 0),(3,Aj U 0)] L s ((rA 5 rI).r a0 Y cv)) ?_ ?_)
 ·rintro _ _ ⟨a0,Y,rfl,rfl,cz,b6,ac⟩;refine zg 2 rfl (An (v:= .agg Y.toArray) rfl (λρ h=>GR (kk:=5) (pp:=rI) ac Ha HA (h _ _ rfl) (GW (l:= []) 1 b6 rfl)) ?_);refine Gy (v:= .agg Y.toArray) (l:= []) (ws:=(List.replicate 5 (iV 0):Lv_)) (us:=Y) (o:=0) 0 rfl rfl rfl b6 rfl rfl rfl (by rw [BZ (kk:=5) (pp:=rI) ac];exact AY type105) ((rA 5 rI).one ac) rfl (by rw [BZ (kk:=5) (pp:=rI) ac,BZ (kk:=5) (pp:=rI) (Fu (E:=a0) (pp:=rI) rfl)];omega) λca=>?_;rw [IH (by rw [BZ (kk:=5) (pp:=rI) ac,BZ (kk:=5) (pp:=rI) (Fu (E:=a0) (pp:=rI) rfl)])] at ca ⊢;refine JL.done (JS.drop 1 ca rfl λcc=>?_);obtain rfl:=oi cy;refine JL.ret (v:= .agg Y.toArray) rfl rfl (By.list func84 rfl (vs:= [.agg Y.toArray]) ⟨⟨_,rfl,Ld.many (vs:=Y) Ha (by rw [BZ (kk:=5) (pp:=rI) ac];exact AY type105) (GW (l:= []) 0 cc rfl)⟩,trivial⟩) (Dj 0 cc rfl λcA=>?_);exact cp (b5.I cz) rfl ⟨Y,rfl,rfl,ac⟩ cA
 ·intro cB;refine JL.block (CH cw (λL s al=>∃(a7:LH) (am:Lv_),Jn a5 H a7 [bX a6 (([]:Lv_)++(List.replicate 5 (iV 0):Lv_)).toArray 105,bX U (([]:Lv_)++am).toArray 105] [(2,Aj a6 0),(3,Aj U 0),(8,sV be p0.2 bi),(9,iV (p0.2.length:Int)),(10,iV al.2)] L s ((rA 5 rI).r a7 am al.1)) ⟨a5,(List.replicate 5 (iV 0):Lv_),rfl,rfl,Av,cu,(Fu (E:=a5) (pp:=rI) rfl)⟩ ?_);rintro _ _ al ⟨a7,am,rfl,rfl,bo,ce,ap⟩ cC ⟨db,bv⟩ cD;have cf:=bv;unfold NG at cf;refine zg 5 rfl (AN cf (λcE cF=>?_) (λcE cG=>?_))
  ·obtain⟨K,cH,cI⟩:=bs cF;refine zg 5 rfl (JS.ix (cn.Ag (b5.I bo)) cH underlying23 A2 ?_);rintro dc dd _ ⟨_,_,rfl,rfl,⟨_,_,rfl,rfl,rfl⟩⟩ cJ;refine BY cJ DK A2 rfl rfl (BL ce Bw λde cK=>?_);refine Bt 2 cK A2 λcM=>?_;refine De 2 cM rfl λbw aq a8 a2=>zg 2 rfl (Fw 6 [U] ⟨⟨1,_,rfl⟩,trivial⟩ a2 λO=>?_);refine JG.fd 0 O underlying27 AB rfl rfl rfl rfl (JG.lp 1 O 1 a8 a2 ⟨⟨1,_,rfl⟩,trivial⟩ A6 ?_);obtain⟨cN,cg,cO⟩:=bs cI;obtain⟨_,rfl,_,_,cP⟩:=GQ (kk:=5) (pp:=rI) (Rp.Ag _ aq ap) cg;refine AP (v:= .pointer (some ⟨U,0+Int.toNat (K.2.1)*1,none⟩)) 2 O rfl rfl (λρ h s' a3=>HE (kk:=5) (pp:=rI) (Rp.Ag _ aq ap) cg underlying105 AB (h _ _ rfl) (h _ _ rfl)) (AP (v:=iV cN) 3 O rfl rfl (λρ h s' a3=>Yl.load A6 (h _ _ rfl) (LL (l:= []) 1 a2 rfl (by simp [A4]) a3 (cP 0 _ rfl))) ?_);refine JG.fd 4 O underlying27 AB rfl rfl rfl rfl (JG.lp 5 O 2 a8 a2 ⟨⟨1,_,rfl⟩,trivial⟩ A6 ?_);refine Cj [6,7,8] ?_;obtain⟨Z,cQ,cR⟩:=bs cO;refine Bd cQ rfl rfl rfl ?_;obtain⟨df,b0,cT⟩:=bs cR;obtain⟨_,rfl,_,_,dg⟩:=GQ (kk:=5) (pp:=rI) (Rp.Ag _ aq ap) b0;refine An (v:= .pointer (some ⟨U,0+Int.toNat (K.2.1)*1,none⟩)) rfl (λρ h=>HE (kk:=5) (pp:=rI) (Rp.Ag _ aq ap) b0 underlying105 AB (h _ _ rfl) (h _ _ rfl)) ?_;have a9:=LZ (us:= [iV Z]) (y:=Z) (Rp.Ag _ aq ap) b0 rfl;refine Gy (v:=iV Z) (l:= []) (ws:=am) (us:= [iV Z]) (o:=Int.toNat (K.2.1)*1) 1 rfl rfl rfl a2 rfl rfl rfl AB (by simp [Value.cells,Dg]) rfl a9.2 λaw=>?_;replace a9:=a9.1;generalize cV:HQ am (Int.toNat (K.2.1)*1) [iV Z]=b1 at aw ⊢;have a4:(rA 5 rI).r bw b1 (al.1.set (Int.toNat K.2.1) Z):=by rw [← cV];exact a9
   refine JL.done (Fw 6 [U] ⟨⟨1,_,rfl⟩,trivial⟩ aw λO=>?_);refine JG.fd 0 O underlying27 AB rfl rfl rfl rfl (JG.lp 1 O 0 a8 aw ⟨⟨1,_,rfl⟩,trivial⟩ A6 ?_);obtain⟨cW,ci,cX⟩:=bs cT;obtain⟨_,rfl,_,_,cY⟩:=GQ (kk:=5) (pp:=rI) a4 ci;refine AP (v:= .pointer (some ⟨U,0+Int.toNat (K.1)*1,none⟩)) 2 O rfl rfl (λρ h s' a3=>HE (kk:=5) (pp:=rI) a4 ci underlying105 AB (h _ _ rfl) (h _ _ rfl)) (AP (v:=iV cW) 3 O rfl rfl (λρ h s' a3=>Yl.load A6 (h _ _ rfl) (LL (l:= []) 1 aw rfl (by simp [A4]) a3 (cY 0 _ rfl))) ?_);refine JG.fd 4 O underlying27 AB rfl rfl rfl rfl (JG.lp 5 O 2 a8 aw ⟨⟨1,_,rfl⟩,trivial⟩ A6 ?_);refine Cj [6,7,8] ?_;obtain⟨ag,cZ,c0⟩:=bs cX;refine Cv cZ rfl rfl rfl ?_;obtain⟨dh,b2,c1⟩:=bs c0;obtain⟨_,rfl,_,_,di⟩:=GQ (kk:=5) (pp:=rI) a4 b2;refine An (v:= .pointer (some ⟨U,0+Int.toNat (K.1)*1,none⟩)) rfl (λρ h=>HE (kk:=5) (pp:=rI) a4 b2 underlying105 AB (h _ _ rfl) (h _ _ rfl)) ?_;have bb:=LZ (us:= [iV ag]) (y:=ag) a4 b2 rfl;refine Gy (v:=iV ag) (l:= []) (ws:=b1) (us:= [iV ag]) (o:=Int.toNat (K.1)*1) 1 rfl rfl rfl aw rfl rfl rfl AB (by simp [Value.cells,Dg]) rfl bb.2 λck=>?_;replace bb:=bb.1;generalize c3:HQ b1 (Int.toNat (K.1)*1) [iV ag]=cm at ck ⊢;have c4:(rA 5 rI).r bw cm ((al.1.set (Int.toNat K.2.1) Z).set (Int.toNat K.1) ag):=by rw [← c3];exact bb
   obtain⟨c5,c6,c7⟩:=bs c1;refine zg 3 rfl (Bd c6 rfl rfl rfl ?_);refine zg 2 rfl ?_;obtain rfl:=oi c7;exact AA (cD _ _ (((al.1.set (Int.toNat K.2.1) Z).set (Int.toNat K.1) ag),c5) ⟨bw,cm,rfl,rfl,(bo.I aq),ck,c4⟩ bv) rfl
  ·refine JL.exit rfl ?_;obtain rfl:=oi cG;obtain rfl:=cC _ bv;exact AA (cB _ _ ⟨a7,am,rfl,rfl,bo,ce,ap⟩) rfl
def f204(fu_:Nat)(p0:List Int)(K:Int×Int×Int):Option ((List Int)):= (ix p0 K.1).bind λU=> (Au (U+K.2.2)).bind λO=> (ix p0 K.1).bind λac=> (ix (p0.set (Int.toNat K.1) O) K.2.1).bind λY=> (Au (Y - K.2.2)).bind λZ=> (ix (p0.set (Int.toNat K.1) O) K.2.1).bind λag=> some ((p0.set (Int.toNat K.1) O).set (Int.toNat K.2.1) Z)
theorem Ih{w1:Lv_}{p0:List Int}{K:Int×Int×Int}(am:(rA 5 rI).r E w1 p0){fu_:Nat}{r:(List Int)}(a8:f204 fu_ p0 K=some r):AH J 204 [.agg w1.toArray,.agg #[iV K.1,iV K.2.1,iV K.2.2]] E [] (λw E' B'=>∃(a9:Lv_),w= .agg a9.toArray/\B'= []/\(rA 5 rI).r E' a9 r):=by
 refine A8 func204 λQ cp cs H bv bw=>?_;unfold f204 at a8;refine zg 2 rfl (JS.box (v:= .agg w1.toArray) rfl rfl rfl bv rfl λr3 b0=>?_);refine Cl b0 λcq a0 ac a1 b1=>?_;refine BL b1 ID λcr ap=>?_;refine zg 2 rfl (Fw 6 [r3] ⟨⟨1,_,rfl⟩,trivial⟩ ap λO=>?_);refine JG.fd 0 O underlying27 AB rfl rfl rfl rfl (JG.lp 1 O 0 a1 ap ⟨⟨1,_,rfl⟩,trivial⟩ A6 ?_);obtain⟨b2,bb,b3⟩:=bs a8;obtain⟨_,rfl,_,_,b4⟩:=GQ (kk:=5) (pp:=rI) (Rp.Ag _ ac am) bb;refine AP (v:= .pointer (some ⟨r3,0+Int.toNat (K.1)*1,none⟩)) 2 O rfl rfl (λρ h s' aq=>HE (kk:=5) (pp:=rI) (Rp.Ag _ ac am) bb underlying105 AB (h _ _ rfl) (h _ _ rfl)) (AP (v:=iV b2) 3 O rfl rfl (λρ h s' aq=>Yl.load A6 (h _ _ rfl) (LL (l:= []) 1 ap rfl (by simp [A4]) aq (b4 0 _ rfl))) ?_);refine JG.fd 4 O underlying27 AB rfl rfl rfl rfl (JG.lp 5 O 2 a1 ap ⟨⟨1,_,rfl⟩,trivial⟩ A6 ?_);refine Cj [6,7,8] ?_;obtain⟨Y,b5,b6⟩:=bs b3;refine Bd b5 rfl rfl rfl ?_;obtain⟨ct,a4,ca⟩:=bs b6;obtain⟨_,rfl,_,_,cu⟩:=GQ (kk:=5) (pp:=rI) (Rp.Ag _ ac am) a4;refine An (v:= .pointer (some ⟨r3,0+Int.toNat (K.1)*1,none⟩)) rfl (λρ h=>HE (kk:=5) (pp:=rI) (Rp.Ag _ ac am) a4 underlying105 AB (h _ _ rfl) (h _ _ rfl)) ?_;have a2:=LZ (us:= [iV Y]) (y:=Y) (Rp.Ag _ ac am) a4 rfl;refine Gy (v:=iV Y) (l:= []) (ws:=w1) (us:= [iV Y]) (o:=Int.toNat (K.1)*1) 1 rfl rfl rfl ap rfl rfl rfl AB (by simp [Value.cells,Dg]) rfl a2.2 λag=>?_;replace a2:=a2.1;generalize cc:HQ w1 (Int.toNat (K.1)*1) [iV Y]=a5 at ag ⊢;have aw:(rA 5 rI).r a0 a5 (p0.set (Int.toNat K.1) Y):=by rw [← cc];exact a2
 refine zg 2 rfl (Fw 6 [r3] ⟨⟨1,_,rfl⟩,trivial⟩ ag λO=>?_);refine JG.fd 0 O underlying27 AB rfl rfl rfl rfl (JG.lp 1 O 1 a1 ag ⟨⟨1,_,rfl⟩,trivial⟩ A6 ?_);obtain⟨ce,be,cf⟩:=bs ca;obtain⟨_,rfl,_,_,cg⟩:=GQ (kk:=5) (pp:=rI) aw be;refine AP (v:= .pointer (some ⟨r3,0+Int.toNat (K.2.1)*1,none⟩)) 2 O rfl rfl (λρ h s' aq=>HE (kk:=5) (pp:=rI) aw be underlying105 AB (h _ _ rfl) (h _ _ rfl)) (AP (v:=iV ce) 3 O rfl rfl (λρ h s' aq=>Yl.load A6 (h _ _ rfl) (LL (l:= []) 1 ag rfl (by simp [A4]) aq (cg 0 _ rfl))) ?_);refine JG.fd 4 O underlying27 AB rfl rfl rfl rfl (JG.lp 5 O 2 a1 ag ⟨⟨1,_,rfl⟩,trivial⟩ A6 ?_);refine Cj [6,7,8] ?_;obtain⟨al,ci,ck⟩:=bs cf;refine Cv ci rfl rfl rfl ?_;obtain⟨cv,a6,cm⟩:=bs ck;obtain⟨_,rfl,_,_,cw⟩:=GQ (kk:=5) (pp:=rI) aw a6;refine An (v:= .pointer (some ⟨r3,0+Int.toNat (K.2.1)*1,none⟩)) rfl (λρ h=>HE (kk:=5) (pp:=rI) aw a6 underlying105 AB (h _ _ rfl) (h _ _ rfl)) ?_;have a3:=LZ (us:= [iV al]) (y:=al) aw a6 rfl;refine Gy (v:=iV al) (l:= []) (ws:=a5) (us:= [iV al]) (o:=Int.toNat (K.2.1)*1) 1 rfl rfl rfl ag rfl rfl rfl AB (by simp [Value.cells,Dg]) rfl a3.2 λa7=>?_;replace a3:=a3.1;generalize cn:HQ a5 (Int.toNat (K.2.1)*1) [iV al]=U at a7 ⊢;have Z:(rA 5 rI).r a0 U ((p0.set (Int.toNat K.1) Y).set (Int.toNat K.2.1) al):=by rw [← cn];exact a3
 refine zg 3 rfl (An (v:= .agg U.toArray) rfl (λρ h=>GR (kk:=5) (pp:=rI) Z Ha HA (h _ _ rfl) (GW (l:= []) 1 a7 rfl)) ?_);refine Gy (v:= .agg U.toArray) (l:= []) (ws:=(List.replicate 5 (iV 0):Lv_)) (us:=U) (o:=0) 3 rfl rfl rfl a7 rfl rfl rfl (by rw [BZ (kk:=5) (pp:=rI) Z];exact AY type105) ((rA 5 rI).one Z) rfl (by rw [BZ (kk:=5) (pp:=rI) Z,BZ (kk:=5) (pp:=rI) (Fu (E:=a0) (pp:=rI) rfl)];omega) λbi=>?_;rw [IH (by rw [BZ (kk:=5) (pp:=rI) Z,BZ (kk:=5) (pp:=rI) (Fu (E:=a0) (pp:=rI) rfl)])] at bi ⊢;refine JL.done (JS.drop 1 bi rfl λbo=>?_);obtain rfl:=oi cm;refine JL.ret (v:= .agg U.toArray) rfl rfl (By.list func204 rfl (vs:= [.agg U.toArray]) ⟨⟨_,rfl,Ld.many (vs:=U) Ha (by rw [BZ (kk:=5) (pp:=rI) Z];exact AY type105) (GW (l:= []) 3 bo rfl)⟩,trivial⟩) (Dj 3 bo rfl λco=>?_);exact bw ac rfl ⟨U,rfl,rfl,Z⟩ co
def f106(fu_:Nat)(p0:Int)(K:Int):Option Nat:= (Au (max p0 K - 1)).bind λO=> (ix ([1,2,4,8]:List Nat) O).bind λU=> (Au (4*(min p0 K))).bind λY=> (PS U Y).bind λZ=> some Z
theorem ZV{p0:Int}{K:Int}{fu_:Nat}{r:Nat}(O:f106 fu_ p0 K=some r):AH J 106 [iV p0,iV K] E [] (λw E' B'=>w= .int .u32 ((r:Nat):Int)/\B'= []):=by
 refine A8 func106 λQ a1 cs H U Y=>?_;unfold f106 at O;refine zg 8 rfl (An (v:=iV (min p0 K)) rfl (λρ h=>Yl.min2 (h _ _ rfl) (h _ _ rfl)) ?_);refine zg 2 rfl (An (v:=iV (max p0 K)) rfl (λρ h=>Yl.max2 (h _ _ rfl) (h _ _ rfl)) ?_);refine zg 5 rfl (An (v:= .agg (([1,2,4,8]:List Nat).map λx=>Value.int .u32 ((x:Nat):Int)).toArray) rfl (λρ h=>XK h underlying164 (Di type164) (AY type86) rfl rfl) ?_);obtain⟨a2,Z,ac⟩:=bs O;refine zg 1 rfl (Cv Z rfl rfl rfl ?_);obtain⟨a3,ag,al⟩:=bs ac;refine Tl (XI (E:=E) ([1,2,4,8]:List Nat)) ag rfl rfl rfl rfl rfl underlying164 (AY type86) (CO underlying86) ?_ (λ_=>rfl);rintro _ rfl;obtain⟨a4,am,ap⟩:=bs al;refine zg 1 rfl (An rfl (λρ h=>M8 (h _ _ rfl) (h _ _ rfl) am) ?_);obtain⟨aq,aw,a0⟩:=bs ap;refine An (v:= .int .u32 ((aq:Nat):Int)) rfl (λρ h=>VH (h _ _ rfl) (h _ _ rfl) aw) (zg 2 rfl ?_);obtain rfl:=oi a0;exact AJ func106 rfl rfl (Y Av rfl ⟨rfl,rfl⟩ U)
def f136(fu_:Nat)(p0:Nat)(K:Int)(p2:Int):Option Bool:= (f106 fu_ K p2).bind λO=> (PM p0 O).bind λU=> some (decide ((((U):Nat):Int)≠(((0):Nat):Int)))
theorem Z7{p0:Nat}{K:Int}{p2:Int}{fu_:Nat}{r:Bool}(O:f136 fu_ p0 K p2=some r):AH J 136 [.int .u32 ((p0:Nat):Int),iV K,iV p2] E [] (λw E' B'=>w= .bool r/\B'= []):=by
 refine A8 func136 λQ aw cs H U Y=>?_;unfold f136 at O;obtain⟨a0,Z,ac⟩:=bs O;refine zg 9 rfl (B8 (ZV Z) rfl rfl (AU func106 rfl) U λa1 ag al=>?_);obtain⟨am,ap,aq⟩:=bs ac;refine An (v:= .int .u32 ((am:Nat):Int)) rfl (λρ h=>Wo (h _ _ rfl) (h _ _ rfl) ap) (zg 3 rfl ?_);obtain rfl:=oi aq;exact AJ func136 rfl rfl (Y ag rfl ⟨rfl,rfl⟩ al)
def Tf(fu_:Nat)(O:(AL)×Int)(K:(AL)×Int):Option (Bf ((AL)×Int) ((AL))):= if K.2<O.2 then((room K.1 (K.2,O.2)).bind λU=> (Au (K.2+1)).bind λY=> some (.more (U,Y))) else(some (.done K.1))
def Sp(fu_:Nat)(p0:AI)(K:(AL)×Int):Option (Bf ((AL)×Int) ((AL))):= if K.2<(p0.1.length:Int) then(Option.bind (iter (Tf fu_ K) fu_ (K.1,0)) λO=> (Au (K.2+1)).bind λU=> some (.more (O,U))) else(some (.done K.1))
def f133(fu_:Nat)(p0:AI):Option ((AL)):= Option.bind (iter (Sp fu_ p0) fu_ ([],0)) λK=> some K
theorem Zw{a1:Am}{c2:Nat}{be:Am}{bi:Nat}{p0:AI}(c5:Ak (rL rI) E a1 c2 p0.1)(c6:Ak Ar E be bi p0.2){fu_:Nat}{r:(AL)}(bo:f133 fu_ p0=some r):AH J 133 [.agg #[sV a1 p0.1 c2,sV be p0.2 bi]] E [] (λw E' B'=>∃(bv:Am) (bw:Nat),w= sV bv r bw/\B'= []/\Ak Eu E' bv bw r):=by
 refine A8 func133 λQ c7 cs H ce cf=>?_;unfold f133 at bo;refine zg 2 rfl (Cl ce λc8 a5 cg ci ck=>?_);refine zg 9 rfl (JL.fd underlying77 Bp rfl rfl rfl ?_);refine Bz 0 ci underlying25 Da Dr ?_;refine JL.ln underlying22 rfl rfl rfl ?_;obtain⟨b0,cm,cn⟩:=bs bo;refine zg 2 rfl (Bi (λL s=>∃(a6:LH) (ap:Am) (aq:Nat) (a7:Seg),Jn a5 H a6 [a7] [(3,sV ap b0 aq)] L s (OL 101 Eu a6 ap aq a7 b0)) ?_ ?_)
 ·rintro _ _ ⟨a6,ap,aq,a7,rfl,rfl,co,cp,cq⟩;refine zg 5 rfl (BE 0 cq cp rfl λc9 cr ct cu=>?_);obtain rfl:=oi cn;exact AJ func133 rfl rfl (cf ((cg.I co).I cr) rfl ⟨ap,aq,rfl,rfl,ct⟩ cu)
 ·intro cv;refine JL.block (CH cm (λL s K=>∃(O:LH) (Y:Am) (Z:Nat) (ac:Seg),Jn a5 H O [ac] [(3,sV Y K.1 Z),(9,iV (p0.1.length:Int)),(10,iV K.2)] L s (OL 101 Eu O Y Z ac K.1)) ⟨a5,none,0,[],rfl,rfl,Av,ck,OL.nil⟩ ?_);rintro _ _ K ⟨O,Y,Z,ac,rfl,rfl,b1,b2,b3⟩ cw ⟨da,a8⟩ cy;have b4:=a8;unfold Sp at b4;refine zg 5 rfl (AN b4 (λcz cA=>?_) (λcz cB=>?_))
  ·obtain⟨a9,cC,cD⟩:=bs cA;refine zg 13 rfl (Bi (λL s=>∃(aw:LH) (a0:Am) (a2:Nat) (a3:Seg),Jn O H aw [a3] [(3,sV a0 a9 a2),(9,iV (p0.1.length:Int)),(10,iV K.2)] L s (OL 101 Eu aw a0 a2 a3 a9)) ?_ ?_)
   ·rintro _ _ ⟨aw,a0,a2,a3,rfl,rfl,cE,cF,cG⟩;obtain⟨cH,cI,cJ⟩:=bs cD;refine zg 2 rfl (Bd cI rfl rfl rfl ?_);refine zg 2 rfl ?_;obtain rfl:=oi cJ;exact AA (cy _ _ (a9,cH) ⟨aw,a0,a2,a3,rfl,rfl,(b1.I cE),cF,cG⟩ a8) rfl
   ·intro cK;refine JL.block (CH cC (λL s U=>∃(ag:LH) (al:Am) (am:Nat) (a4:Seg),Jn O H ag [a4] [(3,sV al U.1 am),(4,iV K.2),(9,iV (p0.1.length:Int)),(10,iV K.2),(13,iV K.2),(14,iV U.2)] L s (OL 101 Eu ag al am a4 U.1)) ⟨O,Y,Z,ac,rfl,rfl,Av,b2,b3⟩ ?_);rintro _ _ U ⟨ag,al,am,a4,rfl,rfl,b5,b6,ca⟩ cM ⟨db,bb⟩ cN;have cc:=bb;unfold Tf at cc;refine zg 5 rfl (AN cc (λcO cP=>?_) (λcO cQ=>?_))
    ·refine zg 12 rfl (An (v:= .agg #[iV U.2,iV K.2]) rfl (λρ h=>Dy [(0,1),(1,1)] h I4 underlying101 ⟨rfl,AY type3,rfl,AY type3,trivial⟩ rfl rfl) ?_);obtain⟨cR,cT,cV⟩:=bs cP;refine JS.app (pp:=Eu) (v:= .agg #[iV U.2,iV K.2]) (a:=al) (c:=am) 0 cT rfl rfl rfl rfl (λ_=>rfl) rfl (λ_=>rfl) rfl rfl rfl underlying167 underlying167 underlying167 F7 (BO type101) I4 rfl (by decide) (by decide) (by decide) (by decide) ca ⟨_,_,rfl,rfl,rfl⟩ b6 rfl λdc cW cX cY cZ c0=>?_;obtain⟨c1,c3,c4⟩:=bs cV;refine zg 4 rfl (Bd c3 rfl rfl rfl ?_);refine zg 2 rfl ?_;obtain rfl:=oi c4;exact AA (cN _ _ (cR,c1) ⟨ag,cW,cX,cY,rfl,rfl,b5,c0,cZ⟩ bb) rfl
    ·refine JL.exit rfl ?_;obtain rfl:=oi cQ;obtain rfl:=cM _ bb;exact AA (cK _ _ ⟨ag,al,am,a4,rfl,rfl,b5,b6,ca⟩) rfl
  ·refine JL.exit rfl ?_;obtain rfl:=oi cB;obtain rfl:=cw _ a8;exact AA (cv _ _ ⟨O,Y,Z,ac,rfl,rfl,b1,b2,b3⟩) rfl
def f113(fu_:Nat)(p0:Int×Int×Int)(K:Int×Int×Int):Option Int:= if p0.1≠K.1 then((Au (p0.1 - K.1)).bind λO=> some O) else(if p0.2.1≠K.2.1 then((Au (p0.2.1 - K.2.1)).bind λU=> some U) else((Au (p0.2.2 - K.2.2)).bind λY=> some Y))
theorem TP{p0:Int×Int×Int}{Y:Int×Int×Int}{fu_:Nat}{r:Int}(al:f113 fu_ p0 Y=some r):AH J 113 [.agg #[iV p0.1,iV p0.2.1,iV p0.2.2],.agg #[iV Y.1,iV Y.2.1,iV Y.2.2]] E [] (λw E' B'=>w=iV r/\B'= []):=by
 refine A8 func113 λQ bb cs H am Z=>?_;unfold f113 at al;refine zg 2 rfl (Cl am λr2 be ac O ap=>?_);refine Cl ap λbi bo K U ag=>?_;refine zg 6 rfl (Bz 0 (O.Ag K) underlying27 AB A6 ?_);refine Bz 0 U underlying27 AB A6 ?_;refine zg 3 rfl (AN al (λaq aw=>?_) (λaq a0=>?_))
 ·refine zg 2 rfl (Bz 0 (O.Ag K) underlying27 AB A6 ?_);refine Bz 0 U underlying27 AB A6 ?_;obtain⟨bv,a1,a2⟩:=bs aw;refine Cv a1 rfl rfl rfl (zg 2 rfl ?_);obtain rfl:=oi a2;exact AJ func113 rfl rfl (Z (ac.I K) rfl ⟨rfl,rfl⟩ ag)
 ·refine zg 2 rfl (Bz 1 (O.Ag K) underlying27 AB A6 ?_);refine Bz 1 U underlying27 AB A6 ?_;refine zg 3 rfl (AN a0 (λa3 a4=>?_) (λa3 a5=>?_))
  ·refine zg 2 rfl (Bz 1 (O.Ag K) underlying27 AB A6 ?_);refine Bz 1 U underlying27 AB A6 ?_;obtain⟨bw,a6,a7⟩:=bs a4;refine Cv a6 rfl rfl rfl (zg 2 rfl ?_);obtain rfl:=oi a7;exact AJ func113 rfl rfl (Z (ac.I K) rfl ⟨rfl,rfl⟩ ag)
  ·refine zg 4 rfl (Bz 2 (O.Ag K) underlying27 AB A6 ?_);refine Bz 2 U underlying27 AB A6 ?_;obtain⟨b0,a8,a9⟩:=bs a5;refine Cv a8 rfl rfl rfl (zg 2 rfl ?_);obtain rfl:=oi a9;exact AJ func113 rfl rfl (Z (ac.I K) rfl ⟨rfl,rfl⟩ ag)
def L8(fu_:Nat)(p0:List Int)(K:Int×Int):Option (Bf (Int×Int) Int):= if K.2<(p0.length:Int) then((ix p0 K.2).bind λO=> (Au (K.1+O)).bind λU=> (Au (K.2+1)).bind λY=> some (.more (U,Y))) else(some (.done K.1))
def f85(fu_:Nat)(p0:List Int):Option Int:= Option.bind (iter (L8 fu_ p0) fu_ (0,0)) λK=> some K
theorem HN{a1:Am}{c2:Nat}{p0:List Int}(ag:Ak rI E a1 c2 p0){fu_:Nat}{r:Int}(Y:f85 fu_ p0=some r):AH J 85 [sV a1 p0 c2] E [] (λw E' B'=>w=iV r/\B'= []):=by
 refine A8 func85 λQ b2 cs H al am=>?_;unfold f85 at Y;refine zg 12 rfl (JL.ln underlying28 rfl rfl rfl ?_);obtain⟨ap,aq,aw⟩:=bs Y;refine zg 2 rfl (Ep [] [(3,iV ap)] (λb3 a0 a2=>?_) (λa3=>?_))
 ·refine zg 5 rfl ?_;obtain rfl:=oi aw;exact AJ func85 rfl rfl (am a0 rfl ⟨rfl,rfl⟩ a2)
 ·refine JL.block (CI aq (λK=> []) (λK=> [(3,iV K.1),(6,sV a1 p0 c2),(7,iV (p0.length:Int)),(8,iV K.2)]) Av al ?_);rintro K b4 O Z a4 ⟨b5,U⟩ a5;have ac:=U;unfold L8 at ac;refine zg 5 rfl (AN ac (λa6 a7=>?_) (λa6 a8=>?_))
  ·obtain⟨b6,a9,bb⟩:=bs a7;refine zg 5 rfl (JS.ix (ag.Ag O) a9 underlying28 AB ?_);rintro ca cc _ rfl be;refine Ca 0 be A6 rfl rfl rfl ?_;obtain⟨bi,bo,bv⟩:=bs bb;refine zg 5 rfl (Bd bo rfl rfl rfl ?_);obtain⟨bw,b0,b1⟩:=bs bv;refine zg 4 rfl (Bd b0 rfl rfl rfl ?_);refine zg 2 rfl ?_;obtain rfl:=oi b1;exact a5 (bi,bw) O Z rfl U
  ·refine JL.exit rfl ?_;obtain rfl:=oi a8;obtain rfl:=a4 _ U;exact a3 O Z rfl
end Pal
namespace Pal
open Go Go.Conc
section
variable {P:Program}{J:Judge P}{Q:Gs_}{b:Frame}{n:Nat}{ds:Ld_}{ops:Ao_}{k:Li_}{cs:Lf_}{L:Env}{E H:LH}{S:List Seg}
variable {d:Option Tmp}{x y w:Operand}{t u ty e:TypeId}{p:String}{af:Ae_}{g:On_}{i:Nat}{rest:List Nat}{s:St}{ρ:Operand->Value}
theorem Ak.bW{α:Type}{pp:Rp α}{kk bk o:Nat}{ws:Lv_}{xs ys:List α}{hi:Int}(U:At E bk o ws)(O:(rA kk pp).r E ws xs)(hC:Iu xs 0 hi=some ys):Ak pp E (some ⟨bk,o,none⟩) kk ys:=by
 have ag:=O.1;unfold Iu at hC;split at hC
 ·rename_i hb;cases hC;refine⟨by simp;omega,.inr ⟨bk,o,rfl,λq z K=>?_⟩⟩;simp only [Int.toNat_zero,List.drop_zero,List.getElem?_take] at K;split at K
  ·have Y:ix xs (q:Int)=some z:=by unfold ix;rw [if_pos (by omega)];simpa using K
   obtain⟨us,Z,ac,_,_⟩:=Uu O U Y;exact⟨us,Z,by simpa using ac⟩
  ·cases K
 ·cases hC
theorem Ya{α:Type}{pp:Rp α}{kk bk o:Nat}{ws:Lv_}{xs ys:List α}{hi:Int}(U:At E bk o ws)(K:(rA kk pp).r E ws xs)(hC:Iu xs 0 hi=some ys)
  (Y:ops[i]? =some ⟨d,.slice t x none (some w) none,ty,p,af,g⟩) (hw:AT L ops ⟨d,.slice t x none (some w) none,ty,p,af,g⟩=some true) (Z:BS b n ⟨d,.slice t x none (some w) none,ty,p,af,g⟩=true)
  (ac:ev L x=some (.pointer (some ⟨bk,o,none⟩))) (ag:ev L w=some (iV hi)) (al:P.underlying t=some (.array kk e)) (am:Bq P e=some pp.n)
  (h:Ak pp E (some ⟨bk,o,none⟩) kk ys->JL J Q b n (Ax L d (.slice (some ⟨bk,o,none⟩) ys.length kk)) ds (.inRegion ops rest::k) cs s):
  JL J Q b n L ds (.inRegion ops (i::rest)::k) cs s:=by
 have ap:=Ak.bW U K hC;have a0:=K.1;refine A9 Y hw Z (λρ O=>?_) (h ap);refine FO (sm:=Instr.sliceAt t (ρ x) none (some (ρ w)) none) rfl ?_;rw [O _ _ ac,O _ _ ag];unfold Iu at hC;split at hC
 ·rename_i hb;cases hC;obtain⟨a1,a2,a3⟩:=hb;unfold Instr.sliceAt;refine Aw _ _ (CB al ?_);simp only [Instr.sureAddr,bind,Sem.bind,pure];have aq:Instr.sliceBounds false kk kk none (some (iV hi)) none=(pure (0,hi.toNat,kk):Sem _):=by
   simp only [Instr.sliceBounds,Instr.sliceBound,asIntOf,bind,Sem.bind,pure];rw [if_pos (by omega)];rfl
  rw [aq];simp only [pure,Sem.bind];refine Aw (x:=Go.sizeOf e) _ (EM am ?_);have aw:(if kk=0 then(⟨bk,o,none⟩:Addr) else Addr.add ⟨bk,o,none⟩ (0*pp.n))=⟨bk,o,none⟩:=by
   split
   ·rfl
   ·rw [Ej rfl];simp
  rw [aw];have e2:((xs.take hi.toNat).drop (0:Int).toNat).length=hi.toNat - 0:=by simp;omega
  rw [e2];exact⟨rfl,rfl⟩
 ·cases hC
theorem VG{a:Option Addr}{l c:Nat}(K:P.underlying t=some (.slice e))(O:ρ x= .slice a l c)(U:ρ (.const (.slice none 0 0))= .slice none 0 0):Yl P ⟨d,.binOp .neq t x (.const (.slice none 0 0)) u,ty,p,af,g⟩ ρ s (.bool (!a.isNone)):=by
 have Y:∀o,eqGuard o t x (.const (.slice none 0 0)) (.slice a l c) (.slice none 0 0)=Sem.pure ():=λo=>by cases o <;> rfl
 refine FO (sm:=do eqGuard .neq t x (.const (.slice none 0 0)) (ρ x) (ρ (.const (.slice none 0 0)));binOp .neq t (ρ x) (ρ (.const (.slice none 0 0)))) rfl ?_
 rw [O,U,Y];simp only [bind,Sem.bind];have hb:binOp .neq t (.slice a l c) (.slice none 0 0)=(do pure (.bool (!(← Op.equal t (.slice a l c) (.slice none 0 0))))):=rfl
 rw [hb];refine Aw (x:=Op.equal t _ _) _ ?_;unfold Op.equal Op.maxDepth Op.equalIn;refine Aw _ _ (CB K ?_);cases a with
 | none=>exact⟨rfl,rfl⟩
 | some ad=>exact⟨rfl,rfl⟩
end
end Pal
namespace Pal
open Go Go.Conc Go.Proofs
open Go.Proofs.Tryz
variable {J:Judge Tryz.prog}{E:LH}
def TZ(fu_:Nat)(p0:AI)(O:List Int)(K:Int):Option (Bf Int ((AI×Int)⊕(Unit))):= if K<(O.length:Int) then((ix O K).bind λU=> (Au ((p0.1.length:Int) - 1)).bind λY=> (f91 fu_ U 0 Y).bind λZ=> if(!Z)=true then(some (.done (Sum.inl (([],[]),3)))) else((Au (K+1)).bind λac=> some (.more ac))) else(some (.done (Sum.inr ())))
def f70(fu_:Nat)(p0:AI)(K:List Int):Option (AI×Int):= (f47 fu_ p0).bind λO=> if O≠0 then(some (([],[]),O)) else(Option.bind (iter (TZ fu_ p0 K) fu_ 0) λU=> Sum.elim (λr=>some r) (λag=> Option.bind (if(K.length:Int)=2 then((ix K (0)).bind λY=> (ix K (1)).bind λZ=> some (decide (Y=Z))) else(some false)) λac=> if ac=true then(some (([],[]),8)) else(some (p0,0))) U)
theorem Kq{a1:Am}{c2:Nat}{Z:Am}{ac:Nat}{am:Am}{ap:Nat}{p0:AI}{Y:List Int}(a8:Ak (rL rI) E a1 c2 p0.1)(a9:Ak Ar E Z ac p0.2)(a2:Ak rI E am ap Y){fu_:Nat}{r:AI×Int}(bb:f70 fu_ p0 Y=some r):AH J 70 [.agg #[sV a1 p0.1 c2,sV Z p0.2 ac],sV am Y ap] E [] (λw E' B'=>∃(be:Am) (bi:Nat) (bo:Am) (bv:Nat),w= .tuple #[.agg #[sV be r.1.1 bi,sV bo r.1.2 bv],iV r.2]/\B'= []/\Ak (rL rI) E' be bi r.1.1/\Ak Ar E' bo bv r.1.2):=by
 refine A8 func70 λQ di cs H co aw=>?_;unfold f70 at bb;refine zg 2 rfl (Cl co λa3 dj K a4 cp=>?_);refine BL cp Hy λal cq=>?_;refine zg 5 rfl (BY a4 BU Bp rfl rfl ?_);obtain⟨bw,cr,ct⟩:=bs bb;refine B8 (bp (a8.Ag K) (a9.Ag K) cr) rfl rfl (AU func47 rfl) cq λcu O b0=>zg 7 rfl (AN ct (λcv cw=>?_) (λcv cy=>?_))
 ·refine zg 2 rfl (An (v:= .agg #[nS,nS]) rfl (λρ h=>Dy [(0,2)] h Hy underlying77 ⟨rfl,AY type25,trivial⟩ rfl rfl) ?_);refine zg 1 rfl (Bt 2 b0 DZ λb1=>?_);refine zg 2 rfl ?_;obtain rfl:=oi cw;refine JL.ret (v:= .tuple #[.agg #[nS,nS],iV bw]) rfl rfl (By.list func70 rfl (vs:= [.agg #[nS,nS],iV bw]) ⟨⟨_,rfl,Ld.many (vs:= [nS,nS]) F6 DZ (Dx (off:=0) 2 b1 rfl rfl)⟩,rfl,trivial⟩) (Dj 2 b1 rfl λcz=>?_);exact aw (K.I O) rfl ⟨none,0,none,0,rfl,rfl,Ak.nil,Ak.nil⟩ cz
 ·refine zg 5 rfl (JL.ln underlying28 rfl rfl rfl ?_);obtain⟨b2,cA,b3⟩:=bs cy;refine zg 2 rfl (Bi (λL s=>∃(b4:Unit) (a5:LH),b2=Sum.inr b4/\Jm cu H a5 [bX al #[nS,nS] 77] [(1,sV am Y ap),(2,Aj a3 0),(4,Aj al 0)] L s) ?_ ?_)
  ·rintro _ _ ⟨b4,a5,rfl,rfl,rfl,ag,b5⟩;have cB:=elim_inr b3;refine zg 2 rfl (DG 12 λU=>?_);refine B9 0 U rfl rfl (AP 1 U rfl rfl (λρ h s' dk=>Yl.len rfl underlying28 (h _ _ rfl)) ?_);refine AX U rfl [2,3] rfl ?_;obtain⟨cC,b6,cD⟩:=bs cB;refine EO 0 #[true,true,true,true,true,true,true,true,true,true,true,true] (λL s=>L= [(2,Aj a3 0),(4,Aj al 0),(41,.bool cC)]/\s=Al a5 H [bX al #[nS,nS] 77]) ?_ ?_
   ·rintro _ _ ⟨rfl,rfl⟩;refine AR.fin (by decide+kernel) (Cc cD (λcE cF=>?_) (λcE cG=>?_))
    ·refine zg 2 rfl (An (v:= .agg #[nS,nS]) rfl (λρ h=>Dy [(0,2)] h Hy underlying77 ⟨rfl,AY type25,trivial⟩ rfl rfl) ?_);refine Bt 0 b5 DZ λca=>?_;refine zg 2 rfl ?_;obtain rfl:=oi cF;refine JL.ret (v:= .tuple #[.agg #[nS,nS],iV 8]) rfl rfl (By.list func70 rfl (vs:= [.agg #[nS,nS],iV 8]) ⟨⟨_,rfl,Ld.many (vs:= [nS,nS]) F6 DZ (Dx (off:=0) 0 ca rfl rfl)⟩,rfl,trivial⟩) (Dj 0 ca rfl λcH=>?_);exact aw ((K.I O).I ag) rfl ⟨none,0,none,0,rfl,rfl,Ak.nil,Ak.nil⟩ cH
    ·refine zg 3 rfl (BY (a4.Ag (O.I ag)) BU Bp rfl rfl ?_);refine An (v:= .agg #[sV a1 p0.1 c2,sV Z p0.2 ac]) rfl (λρ h=>Dy [(0,2)] h Hy underlying77 ⟨rfl,AY type25,trivial⟩ rfl rfl) (Bt 0 b5 DZ λcc=>?_);refine zg 2 rfl ?_;obtain rfl:=oi cG;refine JL.ret (v:= .tuple #[.agg #[sV a1 p0.1 c2,sV Z p0.2 ac],iV 0]) rfl rfl (By.list func70 rfl (vs:= [.agg #[sV a1 p0.1 c2,sV Z p0.2 ac],iV 0]) ⟨⟨_,rfl,Ld.many (vs:= [sV a1 p0.1 c2,sV Z p0.2 ac]) F6 DZ (Dx (off:=0) 0 cc rfl rfl)⟩,rfl,trivial⟩) (Dj 0 cc rfl λcI=>?_);exact aw ((K.I O).I ag) rfl ⟨a1,c2,Z,ac,rfl,rfl,(a8.Ag ((K.I O).I ag)),(a9.Ag ((K.I O).I ag))⟩ cI
   ·intro ce;refine Gi (q:=(Y.length:Int)=2) (i:=33) rfl (λa6=>?_) (λa6=>?_)
    ·have cJ:=ip b6 a6;refine B9 4 U rfl rfl ?_;obtain⟨dn,cK,cM⟩:=bs cJ;refine DJ 5 (a2.Ag ((K.I O).I ag)) cK U underlying28 AB ?_;rintro dp dq _ rfl cN;refine CW 6 U 0 cN A6 rfl rfl rfl rfl ?_;refine B9 7 U rfl rfl ?_;obtain⟨dr,cO,cP⟩:=bs cM;refine DJ 8 (a2.Ag ((K.I O).I ag)) cO U underlying28 AB ?_;rintro dt du _ rfl cQ;refine CW 9 U 0 cQ A6 rfl rfl rfl rfl ?_;refine AX U rfl [10,11] rfl ?_;obtain rfl:=oi cP;refine Ct ?_ (ce _ _ ⟨rfl,rfl⟩);exact⟨rfl,rfl,rfl,trivial⟩
    ·have cR:=im b6 a6;refine AX U rfl [4,5,6,7,8,9,10,11] rfl ?_;obtain rfl:=oi cR;refine Ct ?_ (ce _ _ ⟨rfl,rfl⟩);exact⟨rfl,rfl,rfl,trivial⟩
  ·intro cT;refine JL.block (CI cA (λa7=> [bX al #[nS,nS] 77]) (λa7=> [(1,sV am Y ap),(2,Aj a3 0),(4,Aj al 0),(15,sV am Y ap),(16,iV (Y.length:Int)),(17,iV a7)]) Av b0 ?_);rintro a7 cV aq cf cg ⟨dv,a0⟩ cW;have ci:=a0;unfold TZ at ci;refine zg 5 rfl (AN ci (λcX cY=>?_) (λcX cZ=>?_))
   ·obtain⟨dw,c0,c1⟩:=bs cY;refine zg 5 rfl (JS.ix (a2.Ag ((K.I O).I aq)) c0 underlying28 AB ?_);rintro dx dy _ rfl c3;refine Ca 0 c3 A6 rfl rfl rfl (zg 5 rfl ?_);refine Bz 0 (a4.Ag (O.I aq)) underlying25 Da Dr ?_;refine JL.ln underlying22 rfl rfl rfl ?_;obtain⟨dz,c4,c5⟩:=bs c1;refine Cv c4 rfl rfl rfl ?_;obtain⟨c6,c7,c8⟩:=bs c5;refine B8 (Mi c7) rfl rfl Lz cf λdA ck cm=>An (v:= .bool (!c6)) rfl (λρ h=>Yl.not (h _ _ rfl)) (JL.done ?_);refine Cc c8 (λc9 da=>?_) (λc9 db=>?_)
    ·refine zg 2 rfl (An (v:= .agg #[nS,nS]) rfl (λρ h=>Dy [(0,2)] h Hy underlying77 ⟨rfl,AY type25,trivial⟩ rfl rfl) ?_);refine Bt 0 cm DZ λcn=>?_;refine zg 2 rfl ?_;obtain rfl:=oi da;obtain rfl:=cg _ a0;have dc:=elim_inl b3;obtain rfl:=oi dc;refine JL.ret (v:= .tuple #[.agg #[nS,nS],iV 3]) rfl rfl (By.list func70 rfl (vs:= [.agg #[nS,nS],iV 3]) ⟨⟨_,rfl,Ld.many (vs:= [nS,nS]) F6 DZ (Dx (off:=0) 0 cn rfl rfl)⟩,rfl,trivial⟩) (Dj 0 cn rfl λdd=>?_);exact aw (((K.I O).I aq).I ck) rfl ⟨none,0,none,0,rfl,rfl,Ak.nil,Ak.nil⟩ dd
    ·obtain⟨de,df,dg⟩:=bs db;refine zg 3 rfl (Bd df rfl rfl rfl ?_);refine zg 2 rfl ?_;obtain rfl:=oi dg;exact cW de (aq.I ck) cm rfl a0
   ·refine JL.exit rfl ?_;obtain rfl:=oi cZ;have dh:b2=(Sum.inr ()):=(cg _ a0).symm;exact AA (cT _ _ ⟨(),cV,dh,rfl,rfl,aq,cf⟩) rfl
def Ot(fu_:Nat)(p0:List Int):Option ((List Int)):= (Cs ([]:List Int) p0).bind λK=> some K
theorem YN{ad:Addr}{c2:Nat}{p0:List Int}(Y:Ak rI E (some ad) c2 p0){fu_:Nat}{r:(List Int)}(K:Ot fu_ p0=some r):AH J 87 [.slice (some ad) p0.length c2] E [] (λw E' B'=>∃(O:Am) (U:Nat) (g0:Seg),w= sV O r U/\B'=g0/\OL 3 rI E' O U g0 r):=by
 refine A8 func87 λQ a3 cs H Z ac=>?_;unfold Ot at K;refine zg 8 rfl (An (v:= .bool false) rfl (λρ h=>MW (a:=(some ad)) underlying28 (h _ _ rfl) (h _ _ rfl)) ?_);refine zg 5 rfl (LU (pp:=rI) rfl rfl rfl underlying28 AB Z λr1 g2 ag al=>?_);obtain⟨a4,am,ap⟩:=bs K;refine zg 1 rfl (EP (pp:=rI) 1 am rfl rfl rfl rfl rfl rfl rfl underlying28 underlying28 AB (BO type3) B6 rfl (by decide) (by decide) ag Y al rfl λaq aw a0 a1 a2=>?_);refine zg 2 rfl ?_;obtain rfl:=oi ap;exact AJ func87 rfl rfl (ac Av rfl ⟨aq,aw,a0,rfl,(by first | rfl | simp | (simp [Value.cells])),a1⟩ a2)
def UB(fu_:Nat)(p0:List Int):Option ((List Int)):= some ([])
theorem ZO{c2:Nat}{p0:List Int}(ac:Ak rI E none c2 p0){fu_:Nat}{r:(List Int)}(K:UB fu_ p0=some r):AH J 87 [sV none p0 c2] E [] (λw E' B'=>∃(O:Am) (U:Nat) (g0:Seg),w= sV O r U/\B'=g0/\OL 3 rI E' O U g0 r):=by
 refine A8 func87 λQ ag cs H Y Z=>?_;unfold UB at K;refine zg 8 rfl (An (v:= .bool true) rfl (λρ h=>MW (a:=none) underlying28 (h _ _ rfl) (h _ _ rfl)) ?_);refine zg 6 rfl ?_;obtain rfl:=oi K;exact AJ func87 rfl rfl (Z Av rfl ⟨none,0,[],rfl,rfl,OL.nil⟩ Y)
def f87(fu_:Nat)(p0:List Int):Option (List Int):=Ot fu_ p0
theorem au{a1:Am}{c2:Nat}{p0:List Int}(O:Ak rI E a1 c2 p0){fu_:Nat}{r:List Int}(K:f87 fu_ p0=some r):AH J 87 [.slice a1 p0.length c2] E [] (λw E' B'=>∃(U:Am) (Y:Nat) (g0:Seg),w= .slice U r.length Y/\B'=g0/\OL 3 rI E' U Y g0 r):=by
 cases a1 with
 | some ad=>exact YN O K
 | none=>
  have Z:p0= []:=by
   rcases O.2 with h | ⟨_,_,h,_⟩
   ·exact h.1
   ·cases h
  subst Z;have ac:r= []:=by
   have ag:Ot fu_ []=some []:=rfl;unfold f87 at K;rw [ag] at K;exact(Option.some.inj K).symm
  subst ac;exact ZO (fu_:=fu_) O rfl
def Ok(fu_:Nat)(p0:AD):Option (AD):= (Cs ([]:AD) p0).bind λK=> some K
theorem XR{ad:Addr}{c2:Nat}{p0:AD}(Y:Ak Ar E (some ad) c2 p0){fu_:Nat}{r:AD}(K:Ok fu_ p0=some r):AH J 129 [.slice (some ad) p0.length c2] E [] (λw E' B'=>∃(O:Am) (U:Nat) (g0:Seg),w= sV O r U/\B'=g0/\OL 27 Ar E' O U g0 r):=by
 refine A8 func129 λQ a3 cs H Z ac=>?_;unfold Ok at K;refine zg 8 rfl (An (v:= .bool false) rfl (λρ h=>MW (a:=(some ad)) underlying80 (h _ _ rfl) (h _ _ rfl)) ?_);refine zg 5 rfl (LU (pp:=Ar) rfl rfl rfl underlying80 A2 Z λr1 g2 ag al=>?_);obtain⟨a4,am,ap⟩:=bs K;refine zg 1 rfl (EP (pp:=Ar) 1 am rfl rfl rfl rfl rfl rfl rfl underlying80 underlying80 A2 (BO type27) Bw rfl (by decide) (by decide) ag Y al rfl λaq aw a0 a1 a2=>?_);refine zg 2 rfl ?_;obtain rfl:=oi ap;exact AJ func129 rfl rfl (ac Av rfl ⟨aq,aw,a0,rfl,(by first | rfl | simp | (simp [Value.cells])),a1⟩ a2)
def Ub(fu_:Nat)(p0:AD):Option (AD):= some ([])
theorem XF{c2:Nat}{p0:AD}(ac:Ak Ar E none c2 p0){fu_:Nat}{r:AD}(K:Ub fu_ p0=some r):AH J 129 [sV none p0 c2] E [] (λw E' B'=>∃(O:Am) (U:Nat) (g0:Seg),w= sV O r U/\B'=g0/\OL 27 Ar E' O U g0 r):=by
 refine A8 func129 λQ ag cs H Y Z=>?_;unfold Ub at K;refine zg 8 rfl (An (v:= .bool true) rfl (λρ h=>MW (a:=none) underlying80 (h _ _ rfl) (h _ _ rfl)) ?_);refine zg 6 rfl ?_;obtain rfl:=oi K;exact AJ func129 rfl rfl (Z Av rfl ⟨none,0,[],rfl,rfl,OL.nil⟩ Y)
def f129(fu_:Nat)(p0:AD):Option AD:=Ok fu_ p0
theorem Z8{a1:Am}{c2:Nat}{p0:AD}(O:Ak Ar E a1 c2 p0){fu_:Nat}{r:AD}(K:f129 fu_ p0=some r):AH J 129 [.slice a1 p0.length c2] E [] (λw E' B'=>∃(U:Am) (Y:Nat) (g0:Seg),w= .slice U r.length Y/\B'=g0/\OL 27 Ar E' U Y g0 r):=by
 cases a1 with
 | some ad=>exact XR O K
 | none=>
  have Z:p0= []:=by
   rcases O.2 with h | ⟨_,_,h,_⟩
   ·exact h.1
   ·cases h
  subst Z;have ac:r= []:=by
   have ag:Ok fu_ []=some []:=rfl;unfold f129 at K;rw [ag] at K;exact(Option.some.inj K).symm
  subst ac;exact XF (fu_:=fu_) O rfl
def f43(fu_:Nat)(p0:AI):Option ((List Int)×Int):= (f70 fu_ p0 ([])).bind λK=> if K.2≠0 then(some ([],K.2)) else((f84 fu_ K.1).bind λO=> (Iu O 0 (p0.1.length:Int)).bind λU=> (f87 fu_ U).bind λY=> some (Y,0))
theorem bE{a1:Am}{c2:Nat}{ac:Am}{ag:Nat}{p0:AI}(a6:Ak (rL rI) E a1 c2 p0.1)(a7:Ak Ar E ac ag p0.2){fu_:Nat}{r:(List Int)×Int}(al:f43 fu_ p0=some r):AH J 43 [.agg #[sV a1 p0.1 c2,sV ac p0.2 ag]] E [] (λw E' B'=>∃(am:Am) (ap:Nat),w= .tuple #[sV am r.1 ap,iV r.2]/\B'= []/\Ak rI E' am ap r.1):=by
 refine A8 func43 λQ cy cs H a8 aq=>?_;unfold f43 at al;refine zg 2 rfl (Cl a8 λcz cA U aw a9=>?_);refine zg 5 rfl (BY aw BU Bp rfl rfl ?_);obtain⟨cB,bb,be⟩:=bs al;refine BP (Kq (a6.Ag U) (a7.Ag U) Ak.nil bb) rfl rfl J7 a9 ?_;rintro _ cC _ Y ⟨cD,cE,cF,cG,rfl,rfl,bi,bo⟩ bv;refine zg 3 rfl (BL bv Hy λcH bw=>?_);refine Bt 3 bw DZ λb0=>?_;refine De 3 b0 rfl λcI K b1 a0=>zg 8 rfl (AN be (λb2 b3=>?_) (λb2 b4=>?_))
 ·refine zg 6 rfl ?_;obtain rfl:=oi b3;exact AJ func43 rfl rfl (aq ((U.I Y).I K) rfl ⟨none,0,rfl,rfl,Ak.nil⟩ a0)
 ·refine zg 3 rfl (BY b1 F6 DZ rfl rfl ?_);obtain⟨cJ,b5,b6⟩:=bs b4;refine BP (Om (bi.Ag K) (bo.Ag K) b5) rfl rfl MB a0 ?_;rintro _ a2 _ a3 ⟨Z,rfl,rfl,O⟩ ca;refine BL ca ID λcK cc=>?_;refine Gy (v:= .agg Z.toArray) (l:= []) (ws:=(List.replicate 5 (iV 0):Lv_)) (us:=Z) (o:=0) 5 rfl rfl rfl cc rfl rfl rfl (by rw [BZ (kk:=5) (pp:=rI) O];exact AY type105) ((rA 5 rI).one O) rfl (by rw [BZ (kk:=5) (pp:=rI) O,BZ (kk:=5) (pp:=rI) (Fu (E:=a2) (pp:=rI) rfl)];omega) λa4=>?_;rw [IH (by rw [BZ (kk:=5) (pp:=rI) O,BZ (kk:=5) (pp:=rI) (Fu (E:=a2) (pp:=rI) rfl)])] at a4 ⊢;refine zg 3 rfl (Bz 0 (aw.Ag ((Y.I K).I a3)) underlying25 Da Dr ?_);refine JL.ln underlying22 rfl rfl rfl (De 5 a4 rfl λcM a5 ce cf=>?_);obtain⟨cN,cg,ci⟩:=bs b6;refine Ya (ws:=Z) (pp:=rI) ce (Rp.Ag _ a5 O) cg rfl rfl rfl rfl rfl underlying105 AB λck=>?_;obtain⟨cO,cm,cn⟩:=bs ci;refine BP (au ck cm) rfl rfl (AU func87 rfl) cf ?_;rintro _ cP cQ co ⟨cp,cq,_,rfl,rfl,cr⟩ ct;refine zg 3 rfl (BE 6 cr ct rfl λcR cu cv cw=>?_);obtain rfl:=oi cn;exact AJ func43 rfl rfl (aq ((((((U.I Y).I K).I a3).I a5).I co).I cu) rfl ⟨cp,cq,rfl,rfl,cv⟩ cw)
def Ti(fu_:Nat)(p0:AD)(O:AD)(K:Int):Option (Bf Int ((Int)⊕(Unit))):= if K<(p0.length:Int) then((ix p0 K).bind λY=> if(O.length:Int)<=K then(some (.done (Sum.inl 1))) else((ix O K).bind λZ=> (f113 fu_ Y Z).bind λU=> if U≠0 then(some (.done (Sum.inl U))) else((Au (K+1)).bind λac=> some (.more ac)))) else(some (.done (Sum.inr ())))
def f112(fu_:Nat)(p0:AD)(K:AD):Option Int:= Option.bind (iter (Ti fu_ p0 K) fu_ 0) λO=> Sum.elim (λr=>some r) (λU=> if(p0.length:Int)<(K.length:Int) then(some (-1)) else(some 0)) O
theorem Zh{a1:Am}{c2:Nat}{Y:Am}{Z:Nat}{p0:AD}{O:AD}(bo:Ak Ar E a1 c2 p0)(bv:Ak Ar E Y Z O){fu_:Nat}{r:Int}(a2:f112 fu_ p0 O=some r):AH J 112 [sV a1 p0 c2,sV Y O Z,(fV 113)] E [] (λw E' B'=>w=iV r/\B'= []):=by
 refine A8 func112 λQ cN cs H bw ac=>?_;unfold f112 at a2;refine zg 8 rfl (JL.ln underlying80 rfl rfl rfl ?_);obtain⟨a3,b0,al⟩:=bs a2;refine zg 2 rfl (Bi (λL s=>∃(a4:Unit) (a5:LH),a3=Sum.inr a4/\Jm E H a5 [] [(0,sV a1 p0 c2),(1,sV Y O Z)] L s) ?_ ?_)
 ·rintro _ _ ⟨a4,a5,rfl,rfl,rfl,a6,a7⟩;have b1:=elim_inr al;refine zg 4 rfl (JL.ln underlying80 rfl rfl rfl ?_);refine zg 1 rfl (JL.ln underlying80 rfl rfl rfl ?_);refine zg 2 rfl (AN b1 (λb2 b3=>?_) (λb2 b4=>?_))
  ·refine zg 4 rfl ?_;obtain rfl:=oi b3;exact AJ func112 rfl rfl (ac a6 rfl ⟨rfl,rfl⟩ a7)
  ·refine zg 5 rfl ?_;obtain rfl:=oi b4;exact AJ func112 rfl rfl (ac a6 rfl ⟨rfl,rfl⟩ a7)
 ·intro b5;refine JL.block (CI b0 (λam=> []) (λam=> [(0,sV a1 p0 c2),(1,sV Y O Z),(2,(fV 113)),(11,sV a1 p0 c2),(12,iV (p0.length:Int)),(13,iV am)]) Av bw ?_);rintro am b6 K a8 ap ⟨cO,U⟩ ca;have a9:=U;unfold Ti at a9;refine zg 5 rfl (AN a9 (λcc ce=>?_) (λcc cf=>?_))
  ·obtain⟨aq,cg,ci⟩:=bs ce;refine zg 6 rfl (JS.ix (bo.Ag K) cg underlying80 A2 ?_);rintro cP cQ _ ⟨_,_,rfl,rfl,⟨_,_,rfl,rfl,rfl⟩⟩ ck;refine BY ck DK A2 rfl rfl (BL a8 Bw λcR cm=>?_);refine zg 1 rfl (Bt 0 cm A2 λcn=>?_);refine De 0 cn rfl λcT ag co bb=>zg 6 rfl (JL.ln underlying80 rfl rfl rfl ?_);refine zg 2 rfl (AN ci (λcp cq=>?_) (λcp cr=>?_))
   ·refine zg 4 rfl ?_;obtain rfl:=oi cq;obtain rfl:=ap _ U;have ct:=elim_inl al;obtain rfl:=oi ct;exact AJ func112 rfl rfl (ac (K.I ag) rfl ⟨rfl,rfl⟩ bb)
   ·obtain⟨aw,cu,cv⟩:=bs cr;refine zg 5 rfl (JS.ix (bv.Ag (K.I ag)) cu underlying80 A2 ?_);rintro cV cW _ ⟨_,_,rfl,rfl,⟨_,_,rfl,rfl,rfl⟩⟩ cw;refine BY cw DK A2 rfl rfl (BL bb Bw λcX cy=>?_);refine Bt 1 cy A2 λcz=>?_;refine De 1 cz rfl λcY a0 cA cB=>zg 4 rfl (BY (co.Ag a0) DK A2 rfl rfl ?_);refine BY cA DK A2 rfl rfl ?_;obtain⟨cZ,cC,cD⟩:=bs cv;refine Kj (vs:= [.agg #[iV aq.1,iV aq.2.1,iV aq.2.2],.agg #[iV aw.1,iV aw.2.1,iV aw.2.2]]) (TP cC) rfl rfl rfl rfl (AU func113 rfl) rfl cB ?_;rintro _ c0 _ be ⟨rfl,rfl⟩ bi;refine zg 7 rfl (AN cD (λcE cF=>?_) (λcE cG=>?_))
    ·refine zg 5 rfl ?_;obtain rfl:=oi cF;obtain rfl:=ap _ U;have cH:=elim_inl al;obtain rfl:=oi cH;exact AJ func112 rfl rfl (ac (((K.I ag).I a0).I be) rfl ⟨rfl,rfl⟩ bi)
    ·obtain⟨cI,cJ,cK⟩:=bs cG;refine zg 3 rfl (Bd cJ rfl rfl rfl ?_);refine zg 2 rfl ?_;obtain rfl:=oi cK;exact ca cI (((K.I ag).I a0).I be) bi rfl U
  ·refine JL.exit rfl ?_;obtain rfl:=oi cf;have cM:a3=(Sum.inr ()):=(ap _ U).symm;exact AA (b5 _ _ ⟨(),b6,cM,rfl,rfl,K,a8⟩) rfl
def f74(fu_:Nat)(p0:AD)(K:AD):Option Int:= (f112 fu_ p0 K).bind λO=> some O
theorem Il{a1:Am}{c2:Nat}{O:Am}{U:Nat}{p0:AD}{K:AD}(Z:Ak Ar E a1 c2 p0)(ac:Ak Ar E O U K){fu_:Nat}{r:Int}(Y:f74 fu_ p0 K=some r):AH J 74 [sV a1 p0 c2,sV O K U] E [] (λw E' B'=>w=iV r/\B'= []):=by
 refine A8 func74 λQ a0 cs H ag al=>?_;unfold f74 at Y;obtain⟨a2,am,ap⟩:=bs Y;refine zg 8 rfl (B8 (Zh Z ac am) rfl rfl (AU func112 rfl) ag λa3 aq aw=>?_);refine zg 2 rfl ?_;obtain rfl:=oi ap;exact AJ func74 rfl rfl (al aq rfl ⟨rfl,rfl⟩ aw)
def f73(fu_:Nat)(p0:AD)(K:AD):Option Bool:= (f74 fu_ p0 K).bind λO=> some (decide (O<0))
theorem ba{a1:Am}{c2:Nat}{O:Am}{U:Nat}{p0:AD}{K:AD}(Z:Ak Ar E a1 c2 p0)(ac:Ak Ar E O U K){fu_:Nat}{r:Bool}(Y:f73 fu_ p0 K=some r):AH J 73 [sV a1 p0 c2,sV O K U] E [] (λw E' B'=>w= .bool r/\B'= []):=by
 refine A8 func73 λQ a0 cs H ag al=>?_;unfold f73 at Y;obtain⟨a2,am,ap⟩:=bs Y;refine zg 8 rfl (B8 (Il Z ac am) rfl rfl H4 ag λa3 aq aw=>?_);refine zg 3 rfl ?_;obtain rfl:=oi ap;exact AJ func73 rfl rfl (al aq rfl ⟨rfl,rfl⟩ aw)
def f72(fu_:Nat)(p0:AD×Bool)(K:AD):Option ((AD×Bool)):= Option.bind (if(!p0.2)=true then(some true) else((f73 fu_ K p0.1).bind λO=> some O)) λU=> Option.bind (if U=true then(some (K,true)) else(some p0)) λY=> some Y
theorem aV{bk:Nat}{a1:Am}{c2:Nat}{K:Am}{O:Nat}{p0:AD×Bool}{U:AD}(aq:Ak Ar E a1 c2 p0.1)(aw:Ak Ar E K O U){fu_:Nat}{r:(AD×Bool)}(a0:f72 fu_ p0 U=some r):AH J 72 [Aj bk 0,sV K U O,(fV 73)] E [(bk,.cells #[sV a1 p0.1 c2,.bool p0.2] 82 (0,0))] (λw E' B'=>∃(a2:Am) (a3:Nat),w= .tuple #[]/\B'= [(bk,.cells #[sV a2 r.1 a3,.bool r.2] 82 (0,0))]/\Ak Ar E' a2 a3 r.1):=by
 refine A8 func72 λQ ck cs H Z a7=>?_;unfold f72 at a0;refine zg 4 rfl (JL.fd underlying82 Jt rfl rfl rfl ?_);refine An (v:= .bool p0.2) rfl (λρ h=>Yl.load Mw (h _ _ rfl) (BV (j:=0) (off:=1) Z rfl rfl)) (An (v:= .bool (!p0.2)) rfl (λρ h=>Yl.not (h _ _ rfl)) ?_);obtain⟨a8,a9,bb⟩:=bs a0;refine zg 1 rfl (GU [] (λL s=>∃(Y:LH),Jm E H Y [bX bk #[sV a1 p0.1 c2,.bool p0.2] 82] [(0,Aj bk 0),(1,sV K U O),(19,.bool a8)] L s) ?_ ?_)
 ·rintro _ _ ⟨Y,rfl,rfl,al,a4⟩;obtain⟨am,be,bi⟩:=bs bb;refine JL.done (Bi (λL s=>∃(ap:LH) (ac:Am) (ag:Nat),Jn Y H ap [bX bk #[sV ac am.1 ag,.bool am.2] 82] [] L s (Ak Ar ap ac ag am.1)) ?_ ?_)
  ·rintro _ _ ⟨ap,ac,ag,rfl,rfl,bo,bv,bw⟩;obtain rfl:=oi bi;exact JL.fin (v:= .tuple #[]) rfl rfl (By.list func72 rfl (vs:= []) trivial) (a7 (al.I bo) rfl ⟨ac,ag,rfl,rfl,bw⟩ bv)
  ·intro a5;refine Cc be (λb0 b1=>?_) (λb0 b2=>?_)
   ·refine zg 5 rfl (JL.fd underlying82 Bn rfl rfl rfl ?_);refine Bt 0 a4 Bn λb3=>?_;refine zg 1 rfl (JL.fd underlying82 Jt rfl rfl rfl ?_);refine Bt 0 b3 Jt λb4=>?_;refine JL.done ?_;obtain rfl:=oi b1;exact AA (a5 _ _ ⟨Y,K,O,rfl,rfl,Av,b4,(aw.Ag al)⟩) rfl
   ·refine JL.skip ?_;obtain rfl:=oi b2;exact AA (a5 _ _ ⟨Y,a1,c2,rfl,rfl,Av,a4,(aq.Ag al)⟩) rfl
 ·intro a6;refine Ff 11 a9 (λb5 b6=>?_) (λb5 ca=>?_)
  ·refine zg 8 rfl ?_;obtain rfl:=oi b6;exact AA (a6 _ _ ⟨E,rfl,rfl,Av,Z⟩) rfl
  ·refine zg 4 rfl (JL.fd underlying82 Bn rfl rfl rfl ?_);refine An (v:= sV a1 p0.1 c2) rfl (λρ h=>Yl.load BI (h _ _ rfl) (BV (j:=0) (off:=0) Z rfl rfl)) ?_;obtain⟨cm,cc,ce⟩:=bs ca;refine Kj (vs:= [sV K U O,sV a1 p0.1 c2]) (ba aw aq cc) rfl rfl rfl rfl (AU func73 rfl) rfl Z ?_;rintro _ cf _ cg ⟨rfl,rfl⟩ ci;refine zg 1 rfl ?_;obtain rfl:=oi ce;exact AA (a6 _ _ ⟨cf,rfl,rfl,cg,ci⟩) rfl
end Pal
namespace Pal
open Go Go.Conc Go.Proofs
open Go.Proofs.Tryz
variable {J:Judge Tryz.prog}{E:LH}
def Tg(fu_:Nat)(O:List Int)(K:(AL)×Int):Option (Bf ((AL)×Int) ((AL))):= if K.2<(O.length:Int) then((ix O K.2).bind λU=> (Au (((Bx K.1 U).getD 0)+1)).bind λY=> (Au (K.2+1)).bind λZ=> some (.more ((C4 K.1 U Y),Z))) else(some (.done K.1))
def SE(fu_:Nat)(p0:AI)(K:(List AL)×Int):Option (Bf ((List AL)×Int) ((List AL))):= if K.2<(p0.1.length:Int) then((ix p0.1 K.2).bind λO=> Option.bind (iter (Tg fu_ O) fu_ (([]:AL),0)) λU=> (room K.1 U).bind λY=> (Au (K.2+1)).bind λZ=> some (.more (Y,Z))) else(some (.done K.1))
def f120(fu_:Nat)(p0:AI):Option ((List AL)):= Option.bind (iter (SE fu_ p0) fu_ ([],0)) λK=> some K
theorem ZF{a1:Am}{c2:Nat}{bo:Am}{bv:Nat}{p0:AI}(ck:Ak (rL rI) E a1 c2 p0.1)(du:Ak Ar E bo bv p0.2){fu_:Nat}{r:(List AL)}(bw:f120 fu_ p0=some r):AH J 120 [.agg #[sV a1 p0.1 c2,sV bo p0.2 bv]] E [] (λw E' B'=>∃(b0:Am) (b1:Nat),w= sV b0 r b1/\B'= []/\Ak (rM rI false rI false) E' b0 b1 r):=by
 refine A8 func120 λQ dv cs H cm cn=>?_;unfold f120 at bw;refine zg 2 rfl (Cl cm λdw a2 b2 co cp=>?_);refine zg 9 rfl (JL.fd underlying77 Bp rfl rfl rfl ?_);refine Bz 0 co underlying25 Da Dr ?_;refine JL.ln underlying22 rfl rfl rfl ?_;obtain⟨b3,cq,cr⟩:=bs bw;refine zg 2 rfl (Bi (λL s=>∃(a3:LH) (am:Am) (ap:Nat) (a4:Seg),Jn a2 H a3 [a4] [(3,sV am b3 ap)] L s (OL 197 (rM rI false rI false) a3 am ap a4 b3)) ?_ ?_)
 ·rintro _ _ ⟨a3,am,ap,a4,rfl,rfl,ct,cu,cv⟩;refine zg 5 rfl (BE 0 cv cu rfl λdx cw cy cz=>?_);obtain rfl:=oi cr;exact AJ func120 rfl rfl (cn ((b2.I ct).I cw) rfl ⟨am,ap,rfl,rfl,cy⟩ cz)
 ·intro cA;refine JL.block (CH cq (λL s K=>∃(O:LH) (U:Am) (Y:Nat) (ac:Seg),Jn a2 H O [ac] [(3,sV U K.1 Y),(11,sV a1 p0.1 c2),(12,iV (p0.1.length:Int)),(13,iV K.2)] L s (OL 197 (rM rI false rI false) O U Y ac K.1)) ⟨a2,none,0,[],rfl,rfl,Av,cp,OL.nil⟩ ?_);rintro _ _ K ⟨O,U,Y,ac,rfl,rfl,a5,b4,b5⟩ cB ⟨dy,a6⟩ cC;have b6:=a6;unfold SE at b6;refine zg 5 rfl (AN b6 (λcD cE=>?_) (λcD cF=>?_))
  ·obtain⟨ca,cG,cH⟩:=bs cE;refine zg 5 rfl (JS.ix (ck.Ag (b2.I a5)) cG underlying22 Cz ?_);rintro dz dA _ ⟨cI,cJ,rfl,cK⟩ cM;refine Ca 0 cM EK rfl rfl rfl (zg 4 rfl ?_);refine JS.makeMap rfl rfl rfl b4 λag cN=>zg 6 rfl (JL.ln underlying28 rfl rfl rfl ?_);obtain⟨cc,cO,cP⟩:=bs cH;refine zg 2 rfl (Bi (λL s=>∃(a7:LH) (aq:Obj),Jn O H a7 [ac,[(ag,aq)]] [(3,sV U K.1 Y),(6,.map (some ag)),(11,sV a1 p0.1 c2),(12,iV (p0.1.length:Int)),(13,iV K.2)] L s (BJ rI false rI false a7 aq cc)) ?_ ?_)
   ·rintro _ _ ⟨a7,aq,rfl,rfl,ce,cQ,cR⟩;refine zg 3 rfl (O5 1 cQ rfl λcf a8 cT cV=>?_);have cW:BJ rI false rI false cf aq cc:=(cR.Ag a8);obtain⟨cX,cY,cZ⟩:=bs cP;refine JS.app (pp:=(rM rI false rI false)) (v:= .map (some ag)) (a:=U) (c:=Y) 0 cY rfl rfl rfl rfl (λ_=>rfl) rfl (λ_=>rfl) rfl rfl rfl underlying156 underlying156 underlying156 HB (BO type197) (Di type197) rfl (by decide) (by decide) (by decide) (by decide) (b5.Ag (ce.I a8)) ⟨_,_,rfl,cT,cW⟩ cV rfl λdB c0 c1 c3 c4 c5=>?_;obtain⟨c6,c7,c8⟩:=bs cZ;refine zg 4 rfl (Bd c7 rfl rfl rfl ?_);refine zg 2 rfl ?_;obtain rfl:=oi c8;exact AA (cC _ _ (cX,c6) ⟨cf,c0,c1,c3,rfl,rfl,((a5.I ce).I a8),c5,c4⟩ a6) rfl
   ·intro c9;refine JL.block (CH cO (λL s Z=>∃(al:LH) (aw:Obj),Jn O H al [ac,[(ag,aw)]] [(3,sV U K.1 Y),(6,.map (some ag)),(11,sV a1 p0.1 c2),(12,iV (p0.1.length:Int)),(13,iV K.2),(18,sV cI ca cJ),(19,iV (ca.length:Int)),(20,iV Z.2)] L s (BJ rI false rI false al aw Z.1)) ⟨O,(.map #[] 0),rfl,rfl,Av,cN,BJ.nil⟩ ?_);rintro _ _ Z ⟨al,aw,rfl,rfl,a9,bb,be⟩ da ⟨dC,bi⟩ db;have cg:=bi;unfold Tg at cg;refine zg 5 rfl (AN cg (λdc dd=>?_) (λdc de=>?_))
    ·obtain⟨a0,df,dg⟩:=bs dd;refine zg 5 rfl (JS.ix (cK.Ag a9) df underlying28 AB ?_);rintro dD dE _ rfl dh;refine Ca 0 dh A6 rfl rfl rfl (zg 5 rfl ?_);refine An (v:=iV ((Bx Z.1 a0).getD 0)) rfl (λρ h=>Yl.lookup (ok:=false) (xs:=Z.1) (x0:=a0) (z0:=0) IS underlying197 B6 ⟨_,rfl,rfl⟩ be ⟨_,rfl,rfl⟩ (by rintro _ ⟨_,rfl,rfl⟩;rfl) (h _ _ rfl) (h _ _ rfl) (El (j:=1) (i:=0) bb rfl rfl)) ?_;obtain⟨ci,di,dj⟩:=bs dg;refine Bd di rfl rfl rfl (JS.mapUpdate (xs:=Z.1) (x0:=a0) (v0:=ci) 1 IS underlying197 be ⟨_,rfl,rfl⟩ ⟨_,rfl,rfl⟩ bb rfl rfl rfl rfl rfl rfl rfl λdk dn dp=>?_);obtain⟨dq,dr,dt⟩:=bs dj;refine zg 3 rfl (Bd dr rfl rfl rfl ?_);refine zg 2 rfl ?_;obtain rfl:=oi dt;exact AA (db _ _ ((C4 Z.1 a0 ci),dq) ⟨al,dk,rfl,rfl,a9,dp,dn⟩ bi) rfl
    ·refine JL.exit rfl ?_;obtain rfl:=oi de;obtain rfl:=da _ bi;exact AA (c9 _ _ ⟨al,aw,rfl,rfl,a9,bb,be⟩) rfl
  ·refine JL.exit rfl ?_;obtain rfl:=oi cF;obtain rfl:=cB _ a6;exact AA (cA _ _ ⟨O,U,Y,ac,rfl,rfl,a5,b4,b5⟩) rfl
def NK(fu_:Nat)(p0:AI)(O:(List Int))(K:(List Int)×Int):Option (Bf ((List Int)×Int) ((List Int))):= if K.2<5 then((ix O K.2).bind λU=> Option.bind (if K.2<(p0.1.length:Int) then((ix p0.1 K.2).bind λY=> (f85 fu_ Y).bind λZ=> (Au (-(U))).bind λac=> some (decide (Z<ac))) else(some false)) λag=> Option.bind (if ag=true then((room K.1 K.2).bind λal=> some al) else(some K.1)) λam=> (Au (K.2+1)).bind λap=> some (.more (am,ap))) else(some (.done K.1))
def f39(fu_:Nat)(p0:AI):Option ((List Int)×Int):= (f70 fu_ p0 ([])).bind λK=> if K.2≠0 then(some ([],K.2)) else((f84 fu_ K.1).bind λO=> Option.bind (iter (NK fu_ p0 O) fu_ ([],0)) λU=> some (U,0))
theorem Uf{a1:Am}{c2:Nat}{b1:Am}{b2:Nat}{p0:AI}(b3:Ak (rL rI) E a1 c2 p0.1)(cm:Ak Ar E b1 b2 p0.2){fu_:Nat}{r:(List Int)×Int}(b4:f39 fu_ p0=some r):AH J 39 [.agg #[sV a1 p0.1 c2,sV b1 p0.2 b2]] E [] (λw E' B'=>∃(b5:Am) (b6:Nat),w= .tuple #[sV b5 r.1 b6,iV r.2]/\B'= []/\Ak rI E' b5 b6 r.1):=by
 refine A8 func39 λQ dE cs H cn ca=>?_;unfold f39 at b4;refine zg 2 rfl (Cl cn λa6 dF al a7 co=>?_);refine zg 5 rfl (BY a7 BU Bp rfl rfl ?_);obtain⟨dG,cp,cq⟩:=bs b4;refine BP (Kq (b3.Ag al) (cm.Ag al) Ak.nil cp) rfl rfl J7 co ?_;rintro _ dH _ am ⟨dI,dJ,dK,dL,rfl,rfl,cr,ct⟩ cu;refine zg 3 rfl (BL cu Hy λdM cv=>?_);refine Bt 3 cv DZ λcw=>?_;refine De 3 cw rfl λdN O cy cc=>zg 8 rfl (AN cq (λcz cA=>?_) (λcz cB=>?_))
 ·refine zg 6 rfl ?_;obtain rfl:=oi cA;exact AJ func39 rfl rfl (ca ((al.I am).I O) rfl ⟨none,0,rfl,rfl,Ak.nil⟩ cc)
 ·refine zg 8 rfl (BY cy F6 DZ rfl rfl ?_);obtain⟨dO,cC,cD⟩:=bs cB;refine BP (Om (cr.Ag O) (ct.Ag O) cC) rfl rfl MB cc ?_;rintro _ a8 _ aq ⟨a9,rfl,rfl,cE⟩ cF;obtain⟨ce,cG,cH⟩:=bs cD;refine zg 2 rfl (Bi (λL s=>∃(bb:LH) (aw:Am) (a0:Nat) (be:Seg),Jn a8 H bb [be] [(6,sV aw ce a0)] L s (OL 3 rI bb aw a0 be ce)) ?_ ?_)
  ·rintro _ _ ⟨bb,aw,a0,be,rfl,rfl,cI,cJ,cK⟩;refine zg 6 rfl (BE 0 cK cJ rfl λdP cM cN cO=>?_);obtain rfl:=oi cH;exact AJ func39 rfl rfl (ca (((((al.I am).I O).I aq).I cI).I cM) rfl ⟨aw,a0,rfl,rfl,cN⟩ cO)
  ·intro cP;refine JL.block (CH cG (λL s K=>∃(Z:LH) (U:Am) (Y:Nat) (ac:Seg),Jn a8 H Z [ac] [(1,Aj a6 0),(6,sV U K.1 Y),(18,.agg a9.toArray),(19,iV K.2)] L s (OL 3 rI Z U Y ac K.1)) ⟨a8,none,0,[],rfl,rfl,Av,cF,OL.nil⟩ ?_);rintro _ _ K ⟨Z,U,Y,ac,rfl,rfl,ag,bi,bo⟩ cQ ⟨dQ,bv⟩ cR;have cf:=bv;unfold NK at cf;refine zg 5 rfl (AN cf (λcT cV=>?_) (λcT cW=>?_))
   ·obtain⟨dR,cX,cY⟩:=bs cV;refine zg 6 rfl (Tl (Rp.Ag _ ag cE) cX rfl rfl rfl rfl rfl underlying105 AB A6 ?_ (λ_=>rfl));rintro _ rfl;refine zg 6 rfl (Bz 0 (a7.Ag (((am.I O).I aq).I ag)) underlying25 Da Dr ?_);refine JL.ln underlying22 rfl rfl rfl ?_;obtain⟨cZ,c0,c1⟩:=bs cY;refine zg 2 rfl (GU [] (λL s=>∃(ap:LH),Jm Z H ap [ac] [(1,Aj a6 0),(6,sV U K.1 Y),(7,iV K.2),(18,.agg a9.toArray),(19,iV K.2),(38,.bool cZ)] L s) ?_ ?_)
    ·rintro _ _ ⟨ap,rfl,rfl,bw,cg⟩;obtain⟨b0,c3,c4⟩:=bs c1;refine JL.done (Bi (λL s=>∃(a2:LH) (a3:Am) (a4:Nat) (a5:Seg),Jn ap H a2 [a5] [(1,Aj a6 0),(6,sV a3 b0 a4),(18,.agg a9.toArray),(19,iV K.2)] L s (OL 3 rI a2 a3 a4 a5 b0)) ?_ ?_)
     ·rintro _ _ ⟨a2,a3,a4,a5,rfl,rfl,c5,c6,c7⟩;obtain⟨c8,c9,da⟩:=bs c4;refine zg 2 rfl (Bd c9 rfl rfl rfl ?_);refine zg 2 rfl ?_;obtain rfl:=oi da;exact AA (cR _ _ (b0,c8) ⟨a2,a3,a4,a5,rfl,rfl,((ag.I bw).I c5),c6,c7⟩ bv) rfl
     ·intro ci;refine Cc c3 (λdb dc=>?_) (λdb dd=>?_)
      ·obtain⟨dS,de,df⟩:=bs dc;refine zg 3 rfl (JS.app (pp:=rI) (v:=iV K.2) (a:=U) (c:=Y) 0 de rfl rfl rfl rfl (λ_=>rfl) rfl (λ_=>rfl) rfl rfl rfl underlying28 underlying28 underlying28 AB (BO type3) B6 rfl (by decide) (by decide) (by decide) (by decide) (bo.Ag bw) rfl cg rfl λdT dg dh di dj dk=>?_);refine zg 2 rfl ?_;obtain rfl:=oi df;exact AA (ci _ _ ⟨ap,dg,dh,di,rfl,rfl,Av,dk,dj⟩) rfl
      ·refine JL.skip ?_;obtain rfl:=oi dd;exact AA (ci _ _ ⟨ap,U,Y,ac,rfl,rfl,Av,cg,(bo.Ag bw)⟩) rfl
    ·intro ck;refine HO 28 c0 (λdn dp=>?_) (λdn dq=>?_)
     ·refine Bz 0 (a7.Ag (((am.I O).I aq).I ag)) underlying25 Da Dr ?_;obtain⟨dU,dr,dt⟩:=bs dp;refine zg 1 rfl (JS.ix (b3.Ag ((((al.I am).I O).I aq).I ag)) dr underlying22 Cz ?_);rintro dV dW _ ⟨dX,dY,rfl,du⟩ dv;refine Ca 0 dv EK rfl rfl rfl ?_;obtain⟨dZ,dw,dx⟩:=bs dt;refine B8 (HN du dw) rfl rfl Hx bi λdy dz dA=>?_;obtain⟨dB,dC,dD⟩:=bs dx;refine zg 1 rfl (An (v:=iV dB) rfl (λρ h=>Hd (h _ _ rfl) dC) ?_);refine zg 2 rfl ?_;obtain rfl:=oi dD;exact AA (ck _ _ ⟨dy,rfl,rfl,dz,dA⟩) rfl
     ·refine zg 10 rfl ?_;obtain rfl:=oi dq;exact AA (ck _ _ ⟨Z,rfl,rfl,Av,bi⟩) rfl
   ·refine JL.exit rfl ?_;obtain rfl:=oi cW;obtain rfl:=cQ _ bv;exact AA (cP _ _ ⟨Z,U,Y,ac,rfl,rfl,ag,bi,bo⟩) rfl
def Nf(fu_:Nat)(p0:List Int)(O:Int)(K:Int):Option (Bf Int ((Int)⊕(Unit))):= if K<(p0.length:Int) then((ix p0 K).bind λU=> if O=U then(some (.done (Sum.inl K))) else((Au (K+1)).bind λY=> some (.more Y))) else(some (.done (Sum.inr ())))
def f128(fu_:Nat)(p0:List Int)(K:Int):Option Int:= Option.bind (iter (Nf fu_ p0 K) fu_ 0) λO=> Sum.elim (λr=>some r) (λU=> some (-1)) O
theorem ZG{a1:Am}{c2:Nat}{p0:List Int}{U:Int}(a2:Ak rI E a1 c2 p0){fu_:Nat}{r:Int}(ac:f128 fu_ p0 U=some r):AH J 128 [sV a1 p0 c2,iV U] E [] (λw E' B'=>w=iV r/\B'= []):=by
 refine A8 func128 λQ ce cs H a3 ag=>?_;unfold f128 at ac;refine zg 8 rfl (JL.ln underlying28 rfl rfl rfl ?_);obtain⟨al,a4,am⟩:=bs ac;refine zg 2 rfl (Bi (λL s=>∃(ap:Unit) (aq:LH),al=Sum.inr ap/\Jm E H aq [] [] L s) ?_ ?_)
 ·rintro _ _ ⟨ap,aq,rfl,rfl,rfl,a5,a6⟩;have a7:=elim_inr am;refine zg 4 rfl ?_;obtain rfl:=oi a7;exact AJ func128 rfl rfl (ag a5 rfl ⟨rfl,rfl⟩ a6)
 ·intro a8;refine JL.block (CI a4 (λY=> []) (λY=> [(0,sV a1 p0 c2),(1,iV U),(7,iV (p0.length:Int)),(8,iV Y)]) Av a3 ?_);rintro Y a9 K Z aw ⟨cf,O⟩ bb;have a0:=O;unfold Nf at a0;refine zg 5 rfl (AN a0 (λbe bi=>?_) (λbe bo=>?_))
  ·obtain⟨cg,bv,bw⟩:=bs bi;refine zg 13 rfl (JS.ix (a2.Ag K) bv underlying28 AB ?_);rintro ci ck _ rfl b0;refine Ca 0 b0 A6 rfl rfl rfl (zg 2 rfl ?_);refine AN bw (λb1 b2=>?_) (λb1 b3=>?_)
   ·refine zg 5 rfl ?_;obtain rfl:=oi b2;obtain rfl:=aw _ O;have b4:=elim_inl am;obtain rfl:=oi b4;exact AJ func128 rfl rfl (ag K rfl ⟨rfl,rfl⟩ Z)
   ·obtain⟨b5,b6,ca⟩:=bs b3;refine zg 3 rfl (Bd b6 rfl rfl rfl ?_);refine zg 2 rfl ?_;obtain rfl:=oi ca;exact bb b5 K Z rfl O
  ·refine JL.exit rfl ?_;obtain rfl:=oi bo;have cc:al=(Sum.inr ()):=(aw _ O).symm;exact AA (a8 _ _ ⟨(),a9,cc,rfl,rfl,K,Z⟩) rfl
def f82(fu_:Nat)(p0:List Int)(K:Int):Option Bool:= (f128 fu_ p0 K).bind λO=> some (decide (0<=O))
theorem bF{a1:Am}{c2:Nat}{p0:List Int}{K:Int}(U:Ak rI E a1 c2 p0){fu_:Nat}{r:Bool}(O:f82 fu_ p0 K=some r):AH J 82 [sV a1 p0 c2,iV K] E [] (λw E' B'=>w= .bool r/\B'= []):=by
 refine A8 func82 λQ ap cs H Y Z=>?_;unfold f82 at O;obtain⟨aq,ac,ag⟩:=bs O;refine zg 8 rfl (B8 (ZG U ac) rfl rfl (AU func128 rfl) Y λaw al am=>?_);refine zg 3 rfl ?_;obtain rfl:=oi ag;exact AJ func82 rfl rfl (Z al rfl ⟨rfl,rfl⟩ am)
def Md(fu_:Nat)(O:AI×Int)(K:(List ((Int×Int)×Bool))×Int):Option (Bf ((List ((Int×Int)×Bool))×Int) ((List ((Int×Int)×Bool)))):= if K.2<(O.1.2.length:Int) then((ix O.1.2 K.2).bind λU=> (Au (K.2+1)).bind λY=> some (.more ((C4 K.1 (U.1,U.2.1) true),Y))) else(some (.done K.1))
def Mc(fu_:Nat)(U:AI×Int)(Y:(List ((Int×Int)×Bool)))(O:List Int)(K:AV×Int):Option (Bf (AV×Int) (AV)):= if K.2<(U.1.1.length:Int) then(Option.bind ((f82 fu_ O K.2).bind λZ=> Option.bind (if Z=true then(some true) else(if 0<(O.length:Int) then((Au ((O.length:Int) - 1)).bind λac=> (ix O ac).bind λag=> some (!((Bx Y (ag,K.2)).getD false))) else(some false))) λal=> if al=true then(some K.1) else((Cs O ([K.2]:List Int)).bind λam=> (room K.1 am).bind λap=> some ap)) λaq=> (Au (K.2+1)).bind λaw=> some (.more (aq,aw))) else(some (.done K.1))
def L5(fu_:Nat)(Z:AI×Int)(U:(List ((Int×Int)×Bool)))(Y:AV)(O:AV×Int):Option (Bf (AV×Int) (((List Int)×Int)⊕(AV))):= if O.2<(Y.length:Int) then((ix Y O.2).bind λK=> Option.bind (if 1<(K.length:Int) then((Au ((K.length:Int) - 1)).bind λac=> (ix K ac).bind λag=> (ix K (0)).bind λal=> some ((Bx U (ag,al)).getD false)) else(some false)) λam=> if am=true then(some (.done (Sum.inl (K,0)))) else(Option.bind (iter (Mc fu_ Z U K) fu_ (O.1,0)) λap=> (Au (O.2+1)).bind λaq=> some (.more (ap,aq)))) else(some (.done (Sum.inr O.1)))
def NT(fu_:Nat)(U:AI×Int)(Y:(List ((Int×Int)×Bool)))(K:AV):Option (Bf (AV) (((List Int)×Int)⊕(Unit))):= if 0<(K.length:Int) then(Option.bind (iter (L5 fu_ U Y K) fu_ ([],0)) λZ=> Sum.elim (λr=>some (.done (Sum.inl r))) (λO=> if(O.length:Int)=0 then(some (.done (Sum.inr ()))) else(some (.more O))) Z) else(some (.done (Sum.inr ())))
def f33(fu_:Nat)(p0:AI):Option ((List Int)×Int):= (f70 fu_ p0 ([])).bind λK=> if K.2≠0 then(some ([],K.2)) else(Option.bind (iter (Md fu_ K) fu_ (([]:List ((Int×Int)×Bool)),0)) λO=> Option.bind (iter (NT fu_ K O) fu_ ([[]]:AV)) λU=> Sum.elim (λr=>some r) (λY=> some ([],11)) U)
theorem Um{a1:Am}{c2:Nat}{cZ:Am}{c0:Nat}{p0:AI}(dB:Ak (rL rI) E a1 c2 p0.1)(dC:Ak Ar E cZ c0 p0.2){fu_:Nat}{r:(List Int)×Int}(c1:f33 fu_ p0=some r):AH J 33 [.agg #[sV a1 p0.1 c2,sV cZ p0.2 c0]] E [] (λw E' B'=>∃(c3:Am) (c4:Nat),w= .tuple #[sV c3 r.1 c4,iV r.2]/\B'= []/\Ak rI E' c3 c4 r.1):=by
 refine A8 func33 λQ gC cs H dD cG=>?_;unfold f33 at c1;refine zg 2 rfl (Cl dD λgD gE b4 dE dF=>?_);refine zg 6 rfl (BY dE BU Bp rfl rfl ?_);obtain⟨b5,dG,dH⟩:=bs c1;refine BP (Kq (dB.Ag b4) (dC.Ag b4) Ak.nil dG) rfl rfl J7 dF ?_;rintro _ gF _ cH ⟨gG,gH,dI,dJ,rfl,rfl,gI,dK⟩ dL;refine zg 3 rfl (BL dL Hy λag dM=>?_);refine Bt 3 dM DZ λdN=>?_;refine De 3 dN rfl λcI ci c5 c6=>zg 8 rfl (AN dH (λdO dP=>?_) (λdO dQ=>?_))
 ·refine zg 6 rfl ?_;obtain rfl:=oi dP;exact AJ func33 rfl rfl (cG ((b4.I cH).I ci) rfl ⟨none,0,rfl,rfl,Ak.nil⟩ c6)
 ·refine zg 3 rfl (JS.makeMap rfl rfl rfl c6 λK dR=>?_);refine zg 5 rfl (JL.fd underlying77 Bp rfl rfl rfl ?_);refine Bz 1 c5 underlying25 CE EB ?_;refine JL.ln underlying23 rfl rfl rfl ?_;obtain⟨bi,dS,dT⟩:=bs dQ;refine zg 2 rfl (Bi (λL s=>∃(bo:LH) (ac:Obj),Jn cI H bo [[(K,ac)]] [(4,Aj ag 0),(6,.map (some K))] L s (BJ Eu true rB false bo ac bi)) ?_ ?_)
  ·rintro _ _ ⟨bo,ac,rfl,rfl,cJ,dU,c7⟩;refine zg 2 rfl (Fv (pp:=(rL rI)) [nS] [[]] rfl rfl rfl underlying22 Cz Hz (by decide) rfl rfl rfl ⟨⟨_,_,rfl,Ak.nil⟩,trivial⟩ dU λdV dW dX dY=>?_);refine zg 3 rfl (JL.label ?_);obtain⟨cK,dZ,c8⟩:=bs dT;refine JL.seq (Bi (λL s=>∃(c9:Unit) (da:LH),cK=Sum.inr c9/\Jm bo H da [] [] L s) ?_ ?_)
   ·rintro _ _ ⟨c9,da,rfl,rfl,rfl,ea,eb⟩;have ec:=elim_inr c8;refine zg 5 rfl ?_;obtain rfl:=oi ec;exact AJ func33 rfl rfl (cG ((((b4.I cH).I ci).I cJ).I ea) rfl ⟨none,0,rfl,rfl,Ak.nil⟩ eb)
   ·intro db;refine JL.block (CH dZ (λL s O=>∃(a4:LH) (al:Am) (am:Nat) (ap:Seg),Jn bo H a4 [[(K,ac)],ap] [(4,Aj ag 0),(6,.map (some K)),(9,sV al O am)] L s (OL 28 (rL rI) a4 al am ap O)) ⟨bo,(AZ dV),1,dW,rfl,rfl,Av,dY,dX⟩ ?_);rintro _ _ O ⟨a4,al,am,ap,rfl,rfl,a5,dc,ed⟩ cM ⟨gJ,b6⟩ ee;have dd:=b6;unfold NT at dd;refine zg 4 rfl (JL.ln underlying22 rfl rfl rfl ?_);refine zg 2 rfl (AN dd (λef eg=>?_) (λef eh=>?_))
    ·refine zg 10 rfl (JL.ln underlying22 rfl rfl rfl ?_);obtain⟨de,ei,df⟩:=bs eg;refine zg 2 rfl (Bi (λL s=>∃(ca:AV) (cc:LH) (ck:Am) (cm:Nat) (cn:Seg),de=Sum.inr ca/\Jn a4 H cc [[(K,ac)],cn] [(4,Aj ag 0),(6,.map (some K)),(10,sV ck ca cm)] L s (OL 28 (rL rI) cc ck cm cn ca)) ?_ ?_)
     ·rintro _ _ ⟨ca,cc,ck,cm,cn,rfl,rfl,rfl,dg,dh,ej⟩;have ek:=elim_inr df;refine zg 8 rfl (JL.ln underlying22 rfl rfl rfl ?_);refine zg 2 rfl (AN ek (λel em=>?_) (λel en=>?_))
      ·refine JL.exit rfl (JS.drop 0 dh rfl λeo=>?_);refine JS.drop 1 eo rfl λep=>?_;obtain rfl:=oi em;have er:cK=(Sum.inr ()):=(cM _ b6).symm;exact AA (db _ _ ⟨(),cc,er,rfl,rfl,(a5.I dg),ep⟩) rfl
      ·refine zg 2 rfl ?_;obtain rfl:=oi en;exact AA (ee _ _ ca ⟨cc,ck,cm,cn,rfl,rfl,(a5.I dg),dh,ej⟩ b6) rfl
     ·intro et;refine JL.block (CH ei (λL s Y=>∃(aw:LH) (bv:Am) (bw:Nat) (b0:Seg),Jn a4 H aw [[(K,ac)],ap,b0] [(4,Aj ag 0),(6,.map (some K)),(10,sV bv Y.1 bw),(43,sV al O am),(44,iV (O.length:Int)),(45,iV Y.2)] L s (OL 28 (rL rI) aw bv bw b0 Y.1)) ⟨a4,none,0,[],rfl,rfl,Av,dc,OL.nil⟩ ?_);rintro _ _ Y ⟨aw,bv,bw,b0,rfl,rfl,a6,ce,di⟩ dj ⟨gK,co⟩ eu;have dk:=co;unfold L5 at dk;refine zg 5 rfl (AN dk (λew ex=>?_) (λew ey=>?_))
      ·obtain⟨a0,ez,eA⟩:=bs ex;refine zg 5 rfl (M9 1 (ed.Ag a6) ez rfl rfl rfl rfl rfl rfl underlying22 Cz ?_);rintro gL gM f155 _ eB ⟨a7,b1,rfl,a2⟩ eC gO gP gQ gR;refine An (v:= sV a7 a0 b1) rfl (λρ h=>Yl.load EK (h _ _ rfl) (BV (j:=1) ce eB (eC 0 _ rfl))) (zg 6 rfl ?_);refine JL.ln underlying28 rfl rfl rfl (zg 3 rfl ?_);refine Qh 15 λZ=>AX Z rfl [0,1,2] rfl ?_;obtain⟨eD,dn,eE⟩:=bs eA;refine EO 0 #[true,true,true,true,true,true,true,true,true,true,true,true,true,true,true] (λL s=>L= [(4,Aj ag 0),(6,.map (some K)),(10,sV bv Y.1 bw),(12,sV a7 a0 b1),(43,sV al O am),(44,iV (O.length:Int)),(45,iV Y.2),(65,.bool eD)]/\s=Al aw H [[(K,ac)],ap,b0]) ?_ ?_
       ·rintro _ _ ⟨rfl,rfl⟩;refine AR.fin (by decide+kernel) (Cc eE (λeF eG=>?_) (λeF eH=>?_))
        ·refine zg 6 rfl (JS.drop 0 ce rfl λeI=>?_);refine JS.drop 1 eI rfl λeJ=>JS.drop 2 eJ rfl λeK=>?_;obtain rfl:=oi eG;obtain rfl:=dj _ co;have eL:=elim_inl df;obtain rfl:=oi eL;obtain rfl:=cM _ b6;have eM:=elim_inl c8;obtain rfl:=oi eM;exact AJ func33 rfl rfl (cG (((((b4.I cH).I ci).I cJ).I a5).I a6) rfl ⟨a7,b1,rfl,rfl,a2⟩ eK)
        ·refine zg 3 rfl (JL.fd underlying77 Bp rfl rfl rfl ?_);refine Bz 0 (c5.Ag ((cJ.I a5).I a6)) underlying25 Da Dr ?_;refine JL.ln underlying22 rfl rfl rfl ?_;obtain⟨cN,eN,eO⟩:=bs eH;refine zg 2 rfl (Bi (λL s=>∃(cp:LH) (cq:Am) (cr:Nat) (ct:Seg),Jn aw H cp [[(K,ac)],ap,ct] [(4,Aj ag 0),(6,.map (some K)),(10,sV cq cN cr),(43,sV al O am),(44,iV (O.length:Int)),(45,iV Y.2)] L s (OL 28 (rL rI) cp cq cr ct cN)) ?_ ?_)
         ·rintro _ _ ⟨cp,cq,cr,ct,rfl,rfl,eP,eQ,eR⟩;obtain⟨eS,eT,eU⟩:=bs eO;refine zg 2 rfl (Bd eT rfl rfl rfl ?_);refine zg 2 rfl ?_;obtain rfl:=oi eU;exact AA (eu _ _ (cN,eS) ⟨cp,cq,cr,ct,rfl,rfl,(a6.I eP),eQ,eR⟩ co) rfl
         ·intro eV;refine JL.block (CH eN (λL s U=>∃(cf:LH) (a8:Am) (a9:Nat) (b2:Seg),Jn aw H cf [[(K,ac)],ap,b2] [(4,Aj ag 0),(6,.map (some K)),(10,sV a8 U.1 a9),(12,sV a7 a0 b1),(43,sV al O am),(44,iV (O.length:Int)),(45,iV Y.2),(70,iV (b5.1.1.length:Int)),(71,iV U.2)] L s (OL 28 (rL rI) cf a8 a9 b2 U.1)) ⟨aw,bv,bw,b0,rfl,rfl,Av,ce,di⟩ ?_);rintro _ _ U ⟨cf,a8,a9,b2,rfl,rfl,a3,dp,cO⟩ eW ⟨gS,cP⟩ eX;have dq:=cP;unfold Mc at dq;refine zg 5 rfl (AN dq (λeY eZ=>?_) (λeY e0=>?_))
          ·obtain⟨cQ,e1,e3⟩:=bs eZ;refine zg 2 rfl (Bi (λL s=>∃(cu:LH) (cv:Am) (cw:Nat) (cy:Seg),Jn cf H cu [[(K,ac)],ap,cy] [(4,Aj ag 0),(6,.map (some K)),(10,sV cv cQ cw),(12,sV a7 a0 b1),(43,sV al O am),(44,iV (O.length:Int)),(45,iV Y.2),(70,iV (b5.1.1.length:Int)),(71,iV U.2)] L s (OL 28 (rL rI) cu cv cw cy cQ)) ?_ ?_)
           ·rintro _ _ ⟨cu,cv,cw,cy,rfl,rfl,e4,e5,e6⟩;obtain⟨e7,e8,e9⟩:=bs e3;refine JL.region (Bd e8 rfl rfl rfl ?_);refine zg 2 rfl ?_;obtain rfl:=oi e9;exact AA (eX _ _ (cQ,e7) ⟨cu,cv,cw,cy,rfl,rfl,(a3.I e4),e5,e6⟩ cP) rfl
           ·intro dr;obtain⟨gT,fa,fb⟩:=bs e1;refine zg 11 rfl (B8 (bF (a2.Ag a3) fa) rfl rfl (AU func82 rfl) dp λcz aq cA=>?_);obtain⟨fc,fe,ff⟩:=bs fb;refine zg 1 rfl (GU [] (λL s=>∃(cR:LH),Jm cz H cR [[(K,ac)],ap,b2] [(4,Aj ag 0),(6,.map (some K)),(10,sV a8 U.1 a9),(12,sV a7 a0 b1),(14,iV U.2),(43,sV al O am),(44,iV (O.length:Int)),(45,iV Y.2),(70,iV (b5.1.1.length:Int)),(71,iV U.2),(94,.bool fc)] L s) ?_ ?_)
            ·rintro _ _ ⟨cR,rfl,rfl,bb,dt⟩;refine JL.done (Cc ff (λfg fh=>?_) (λfg fj=>?_))
             ·refine JL.exit rfl ?_;obtain rfl:=oi fh;exact AA (dr _ _ ⟨cR,a8,a9,b2,rfl,rfl,(aq.I bb),dt,(cO.Ag (aq.I bb))⟩) rfl
             ·refine zg 5 rfl (JL.ln underlying28 rfl rfl rfl ?_);refine zg 1 rfl (JL.ln underlying28 rfl rfl rfl ?_);refine An (v:= .slice a7 a0.length a0.length) rfl (λρ h=>O1 (Ak.spot (a2.Ag ((a3.I aq).I bb))) (And.left (a2.Ag ((a3.I aq).I bb))) underlying28 AB (h _ _ rfl) (h _ _ rfl) (h _ _ rfl)) (zg 1 rfl ?_);refine Fv (pp:=rI) [iV U.2] [U.2] rfl rfl rfl underlying28 AB B6 (by decide) rfl rfl rfl ⟨rfl,trivial⟩ dt λgU gV fk fl=>BE 3 fk fl rfl λgW cT fm fo=>?_;obtain⟨fp,fq,fs⟩:=bs fj;refine Vi (pp:=rI) fq rfl rfl rfl rfl rfl rfl rfl underlying28 underlying28 AB (BO type3) B6 rfl (by decide) (by decide) (a2.Ag (((a3.I aq).I bb).I cT)) fm fo λfu fv fw du fx fy=>?_;obtain⟨gX,fz,fA⟩:=bs fs;refine JS.app (pp:=(rL rI)) (v:= sV fv fp fw) (a:=a8) (c:=a9) 2 fz rfl rfl rfl rfl (λ_=>rfl) rfl (λ_=>rfl) rfl rfl rfl underlying22 underlying22 underlying22 Cz (BO type28) Hz rfl (by decide) (by decide) (by decide) (by decide) (cO.Ag (((aq.I bb).I cT).I du)) ⟨_,_,rfl,fx⟩ fy rfl λgY fB fC fD fE fF=>zg 3 rfl ?_;obtain rfl:=oi fA;exact AA (dr _ _ ⟨fu,fB,fC,fD,rfl,rfl,(((aq.I bb).I cT).I du),fF,fE⟩) rfl
            ·intro cV;refine Ff 77 fe (λfG fH=>?_) (λfG fI=>?_)
             ·refine zg 17 rfl ?_;obtain rfl:=oi fH;exact AA (cV _ _ ⟨cz,rfl,rfl,Av,cA⟩) rfl
             ·refine zg 1 rfl (JL.ln underlying28 rfl rfl rfl ?_);refine zg 2 rfl (HO 81 fI (λfJ fK=>?_) (λfJ fL=>?_))
              ·refine zg 3 rfl (JL.ln underlying28 rfl rfl rfl ?_);obtain⟨gZ,fM,fN⟩:=bs fK;refine Cv fM rfl rfl rfl ?_;obtain⟨cB,fO,fP⟩:=bs fN;refine JS.ix (a2.Ag (a3.I aq)) fO underlying28 AB ?_;rintro g0 g1 _ rfl fQ;refine Ca 0 fQ A6 rfl rfl rfl (zg 1 rfl ?_);refine An (v:= .agg #[iV cB,iV U.2]) rfl (λρ h=>Dy [(0,1),(1,1)] h I4 underlying101 ⟨rfl,AY type3,rfl,AY type3,trivial⟩ rfl rfl) (An (v:= .bool (((Bx bi (cB,U.2)).getD false))) rfl (λρ h=>Yl.lookup (ok:=false) (xs:=bi) (x0:=(cB,U.2)) (z0:=false) PU underlying99 LA ⟨_,rfl,rfl⟩ (c7.Ag (((a5.I a6).I a3).I aq)) ⟨_,⟨_,_,rfl,rfl,rfl⟩,rfl⟩ (by rintro _ ⟨_,rfl,rfl⟩;rfl) (h _ _ rfl) (h _ _ rfl) (El (j:=0) (i:=0) cA rfl rfl)) ?_);refine An (v:= .bool ((!((Bx bi (cB,U.2)).getD false)))) rfl (λρ h=>Yl.not (h _ _ rfl)) (zg 2 rfl ?_);obtain rfl:=oi fP;exact AA (cV _ _ ⟨cz,rfl,rfl,Av,cA⟩) rfl
              ·refine zg 13 rfl ?_;obtain rfl:=oi fL;exact AA (cV _ _ ⟨cz,rfl,rfl,Av,cA⟩) rfl
          ·refine JL.exit rfl ?_;obtain rfl:=oi e0;obtain rfl:=eW _ cP;exact AA (eV _ _ ⟨cf,a8,a9,b2,rfl,rfl,a3,dp,cO⟩) rfl
       ·intro dv;refine Gi (q:=1<(a0.length:Int)) (i:=53) rfl (λcW=>?_) (λcW=>?_)
        ·have fR:=ip dn cW;refine AX Z rfl [3,4,5] rfl ?_;obtain⟨g3,fS,fT⟩:=bs fR;refine AP 6 Z rfl rfl (λρ h s' be=>Ec (h _ _ rfl) (h _ _ rfl) fS) ?_;obtain⟨cC,fU,fW⟩:=bs fT;refine DJ 7 a2 fU Z underlying28 AB ?_;rintro g4 g5 _ rfl fX;refine AP (v:=iV cC) 8 Z rfl rfl (λρ h s' be=>Yl.load A6 (h _ _ rfl) (Mh be (At.Ll (j:=0) fX rfl))) ?_;refine B9 9 Z rfl rfl ?_;obtain⟨cD,fY,fZ⟩:=bs fW;refine DJ 10 a2 fY Z underlying28 AB ?_;rintro g6 g7 _ rfl ga;refine AP (v:=iV cD) 11 Z rfl rfl (λρ h s' be=>Yl.load A6 (h _ _ rfl) (Mh be (At.Ll (j:=0) ga rfl))) ?_;refine AP (v:= .agg #[iV cC,iV cD]) 12 Z rfl rfl (λρ h s' be=>Dy [(0,1),(1,1)] h I4 underlying101 ⟨rfl,AY type3,rfl,AY type3,trivial⟩ rfl rfl) ?_;refine AP (v:= .bool (((Bx bi (cC,cD)).getD false))) 13 Z rfl rfl (λρ h s' be=>Yl.lookup (ok:=false) (xs:=bi) (x0:=(cC,cD)) (z0:=false) PU underlying99 LA ⟨_,rfl,rfl⟩ (c7.Ag (a5.I a6)) ⟨_,⟨_,_,rfl,rfl,rfl⟩,rfl⟩ (by rintro _ ⟨_,rfl,rfl⟩;rfl) (h _ _ rfl) (h _ _ rfl) (QA be (El (j:=0) (i:=0) ce rfl rfl))) ?_;refine B9 14 Z rfl rfl ?_;obtain rfl:=oi fZ;refine Ct ?_ (dv _ _ ⟨rfl,rfl⟩);exact⟨rfl,rfl,rfl,rfl,rfl,rfl,rfl,rfl,trivial⟩
        ·have gb:=im dn cW;refine AX Z rfl [3,4,5,6,7,8,9,10,11,12,13,14] rfl ?_;obtain rfl:=oi gb;refine Ct ?_ (dv _ _ ⟨rfl,rfl⟩);exact⟨rfl,rfl,rfl,rfl,rfl,rfl,rfl,rfl,trivial⟩
      ·refine JL.exit rfl (JS.drop 1 ce rfl λgc=>?_);obtain rfl:=oi ey;have gd:de=(Sum.inr Y.1):=(dj _ co).symm;exact AA (et _ _ ⟨Y.1,aw,bv,bw,b0,gd,rfl,rfl,a6,gc,di⟩) rfl
    ·refine JL.exit rfl (JS.drop 0 dc rfl λge=>?_);refine JS.drop 1 ge rfl λgf=>?_;obtain rfl:=oi eh;have gg:cK=(Sum.inr ()):=(cM _ b6).symm;exact AA (db _ _ ⟨(),a4,gg,rfl,rfl,a5,gf⟩) rfl
  ·intro gh;refine JL.block (CH dS (λL s cg=>∃(cE:LH) (cF:Obj),Jn cI H cE [[(K,cF)]] [(4,Aj ag 0),(6,.map (some K)),(26,sV dI b5.1.2 dJ),(27,iV (b5.1.2.length:Int)),(28,iV cg.2)] L s (BJ Eu true rB false cE cF cg.1)) ⟨cI,(.map #[] 0),rfl,rfl,Av,dR,BJ.nil⟩ ?_);rintro _ _ cg ⟨cE,cF,rfl,rfl,cX,dw,dx⟩ gi ⟨g8,cY⟩ gj;have dy:=cY;unfold Md at dy;refine zg 5 rfl (AN dy (λgk gl=>?_) (λgk gm=>?_))
   ·obtain⟨b3,gn,gp⟩:=bs gl;refine zg 5 rfl (JS.ix (dK.Ag (ci.I cX)) gn underlying23 A2 ?_);rintro g9 ha _ ⟨_,_,rfl,rfl,⟨_,_,rfl,rfl,rfl⟩⟩ gq;refine BY gq DK A2 rfl rfl (BL dw Bw λhb gr=>?_);refine Bt 1 gr A2 λgt=>?_;refine De 1 gt rfl λgu dz dA gv=>zg 3 rfl (Bz 0 dA underlying27 AB A6 ?_);refine Bz 1 dA underlying27 AB A6 ?_;refine An (v:= .agg #[iV b3.1,iV b3.2.1]) rfl (λρ h=>Dy [(0,1),(1,1)] h I4 underlying101 ⟨rfl,AY type3,rfl,AY type3,trivial⟩ rfl rfl) (JS.mapUpdate (xs:=cg.1) (x0:=(b3.1,b3.2.1)) (v0:=true) 0 PU underlying99 (dx.Ag dz) ⟨_,⟨_,_,rfl,rfl,rfl⟩,rfl⟩ ⟨_,rfl,rfl⟩ gv rfl rfl rfl rfl rfl rfl rfl λgw gx gy=>?_);obtain⟨gz,gA,gB⟩:=bs gp;refine zg 3 rfl (Bd gA rfl rfl rfl ?_);refine zg 2 rfl ?_;obtain rfl:=oi gB;exact AA (gj _ _ ((C4 cg.1 (b3.1,b3.2.1) true),gz) ⟨gu,gw,rfl,rfl,(cX.I dz),gy,gx⟩ cY) rfl
   ·refine JL.exit rfl ?_;obtain rfl:=oi gm;obtain rfl:=gi _ cY;exact AA (gh _ _ ⟨cE,cF,rfl,rfl,cX,dw,dx⟩) rfl
end Pal
namespace Pal
open Go Go.Conc Go.Proofs
open Go.Proofs.Tryz
variable {J:Judge Tryz.prog}{E:LH}
def TK:List Nat:= [0,1,2,2,3,3,3,3,4,4,4,4,4,4,4,4,5,5,5,5,5,5,5,5,5,5,5,5,5,5,5,5,6,6,6,6,6,6,6,6,6,6,6,6,6,6,6,6,6,6,6,6,6,6,6,6,6,6,6,6,6,6,6,6,7,7,7,7,7,7,7,7,7,7,7,7,7,7,7,7,7,7,7,7,7,7,7,7,7,7,7,7,7,7,7,7,7,7,7,7,7,7,7,7,7,7,7,7,7,7,7,7,7,7,7,7,7,7,7,7,7,7,7,7,7,7,7,7,8,8,8,8,8,8,8,8,8,8,8,8,8,8,8,8,8,8,8,8,8,8,8,8,8,8,8,8,8,8,8,8,8,8,8,8,8,8,8,8,8,8,8,8,8,8,8,8,8,8,8,8,8,8,8,8,8,8,8,8,8,8,8,8,8,8,8,8,8,8,8,8,8,8,8,8,8,8,8,8,8,8,8,8,8,8,8,8,8,8,8,8,8,8,8,8,8,8,8,8,8,8,8,8,8,8,8,8,8,8,8,8,8,8,8,8,8,8,8,8,8,8,8,8,8,8,8,8]
def f146(fu_:Nat)(p0:Nat):Option Int:= Option.bind (if(((4294967296):Nat):Int)<=(((p0):Nat):Int) then(some (p0>>>32,32)) else(some (p0,0))) λK=> Option.bind (if(((65536):Nat):Int)<=(((K.1):Nat):Int) then((Au (K.2+16)).bind λY=> some (K.1>>>16,Y)) else(some K)) λO=> Option.bind (if(((256):Nat):Int)<=(((O.1):Nat):Int) then((Au (O.2+8)).bind λZ=> some (O.1>>>8,Z)) else(some O)) λU=> (Qz TK (((((U.1) % 256):Nat):Int))).bind λac=> (Au (((ac):Nat):Int)).bind λag=> (Au (U.2+ag)).bind λal=> some al
theorem Zb{p0:Nat}{fu_:Nat}{r:Int}(Y:f146 fu_ p0=some r):AH J 146 [.int .u64 ((p0:Nat):Int)] E [] (λw E' B'=>w=iV r/\B'= []):=by
 refine A8 func146 λQ cm cs H Z aq=>?_;unfold f146 at Y;obtain⟨K,aw,a0⟩:=bs Y;refine zg 10 rfl (Ep [] [(0,.int .u64 ((K.1:Nat):Int)),(2,iV K.2)] (λcn a1 ac=>?_) (λag=>?_))
 ·obtain⟨O,a2,a3⟩:=bs a0;refine zg 6 rfl (Ep [] [(0,.int .u64 ((O.1:Nat):Int)),(2,iV O.2)] (λco a4 al=>?_) (λam=>?_))
  ·obtain⟨U,a5,a6⟩:=bs a3;refine zg 6 rfl (Ep [] [(0,.int .u64 ((U.1:Nat):Int)),(2,iV U.2)] (λcp a7 a8=>?_) (λap=>?_))
   ·refine zg 4 rfl (An (v:= .int .u8 (((U.1) % 256:Nat):Int)) rfl (λρ h=>XY underlying72 underlying5 (h _ _ rfl)) ?_);obtain⟨a9,bb,be⟩:=bs a6;refine An (v:= .int .u8 ((a9:Nat):Int)) rfl (λρ h=>V3 (l:=TK) (by decide+kernel) underlying9 (h _ _ rfl) (h _ _ rfl) bb) ?_;obtain⟨bi,bo,bv⟩:=bs be;refine An (v:=iV bi) rfl (λρ h=>XX underlying5 underlying3 (h _ _ rfl) bo) ?_;obtain⟨cq,bw,b0⟩:=bs bv;refine Bd bw rfl rfl rfl (zg 2 rfl ?_);obtain rfl:=oi b0;exact AJ func146 rfl rfl (aq ((a1.I a4).I a7) rfl ⟨rfl,rfl⟩ a8)
   ·refine AN a5 (λb1 b2=>?_) (λb1 b3=>?_)
    ·refine zg 3 rfl (An (v:= .int .u64 ((O.1>>>8:Nat):Int)) rfl (λρ h=>KZ 8 (h _ _ rfl) (h _ _ rfl) (by decide)) ?_);obtain⟨cr,b4,b5⟩:=bs b2;refine zg 4 rfl (Bd b4 rfl rfl rfl ?_);refine zg 2 rfl ?_;obtain rfl:=oi b5;exact ap Av al rfl
    ·refine JL.skip ?_;obtain rfl:=oi b3;exact ap Av al rfl
  ·refine AN a2 (λb6 ca=>?_) (λb6 cc=>?_)
   ·refine zg 3 rfl (An (v:= .int .u64 ((K.1>>>16:Nat):Int)) rfl (λρ h=>KZ 16 (h _ _ rfl) (h _ _ rfl) (by decide)) ?_);obtain⟨ct,ce,cf⟩:=bs ca;refine zg 4 rfl (Bd ce rfl rfl rfl ?_);refine zg 2 rfl ?_;obtain rfl:=oi cf;exact am Av ac rfl
   ·refine JL.skip ?_;obtain rfl:=oi cc;exact am Av ac rfl
 ·refine AN aw (λcg ci=>?_) (λcg ck=>?_)
  ·refine zg 3 rfl (An (v:= .int .u64 ((p0>>>32:Nat):Int)) rfl (λρ h=>KZ 32 (h _ _ rfl) (h _ _ rfl) (by decide)) ?_);refine zg 5 rfl ?_;obtain rfl:=oi ci;exact ag Av Z rfl
  ·refine JL.skip ?_;obtain rfl:=oi ck;exact ag Av Z rfl
def f115(fu_:Nat)(p0:Nat):Option Int:= (f146 fu_ p0).bind λK=> some K
theorem NP{p0:Nat}{fu_:Nat}{r:Int}(K:f115 fu_ p0=some r):AH J 115 [.int .u64 ((p0:Nat):Int)] E [] (λw E' B'=>w=iV r/\B'= []):=by
 refine A8 func115 λQ al cs H O U=>?_;unfold f115 at K;obtain⟨am,Y,Z⟩:=bs K;refine zg 10 rfl (B8 (Zb Y) rfl rfl (AU func146 rfl) O λap ac ag=>?_);refine zg 2 rfl ?_;obtain rfl:=oi Z;exact AJ func115 rfl rfl (U ac rfl ⟨rfl,rfl⟩ ag)
def Sv(fu_:Nat)(Y:Int)(K:Int×AD):Option (Bf (Int×AD) (AD)):= Option.bind (if Y<K.1 then((ix K.2 K.1).bind λZ=> (Au (K.1 - 1)).bind λac=> (ix K.2 ac).bind λag=> (f113 fu_ Z ag).bind λal=> some (decide (al<0))) else(some false)) λam=> if am=true then((Au (K.1 - 1)).bind λO=> (Au (K.1 - 1)).bind λap=> (ix K.2 ap).bind λU=> (ix K.2 K.1).bind λaq=> (ix (K.2.set (Int.toNat K.1) U) O).bind λa0=> (Au (K.1 - 1)).bind λaw=> some (.more (aw,((K.2.set (Int.toNat K.1) U).set (Int.toNat O) aq)))) else(some (.done K.2))
def SL(fu_:Nat)(O:Int)(p2:Int)(K:Int×AD):Option (Bf (Int×AD) (AD)):= if K.1<p2 then(Option.bind (iter (Sv fu_ O) fu_ K) λU=> (Au (K.1+1)).bind λY=> some (.more (Y,U))) else(some (.done K.2))
def f193(fu_:Nat)(p0:AD)(K:Int)(p2:Int):Option (AD):= (Au (K+1)).bind λO=> Option.bind (iter (SL fu_ K p2) fu_ (O,p0)) λU=> some U
theorem YK{K:Nat}{U:Nat}{nw:Nat}{a8:Av_}{p0:AD}{al:Int}{p2:Int}(hW:WL 27 Ar E K U nw a8 p0){fu_:Nat}{r:AD}(bv:f193 fu_ p0 al p2=some r):AH J 193 [.slice (AZ K) nw U,iV al,iV p2,(fV 113)] E [(K,.cells a8 27 (0,0))] (λw E' B'=>∃(bw:Av_),w= .tuple #[]/\B'= [(K,.cells bw 27 (0,0))]/\WL 27 Ar E' K U nw bw r):=by
 refine A8 func193 λQ dt cs H cn co=>?_;unfold f193 at bv;obtain⟨du,cp,cq⟩:=bs bv;refine zg 3 rfl (Bd cp rfl rfl rfl ?_);obtain⟨cr,ct,cu⟩:=bs cq;refine zg 2 rfl (Bi (λL s=>∃(a9:LH) (f17:Av_),Jn E H a9 [bX K f17 27] [] L s (WL 27 Ar a9 K U nw f17 cr)) ?_ ?_)
 ·rintro _ _ ⟨a9,f17,rfl,rfl,cv,cw,cy⟩;obtain rfl:=oi cu;exact JL.fin (v:= .tuple #[]) rfl rfl (By.list func193 rfl (vs:= []) trivial) (co cv rfl ⟨f17,rfl,(by first | rfl | simp | (simp [Value.cells])),cy⟩ cw)
 ·intro cz;refine JL.block (CH ct (λL s ap=>∃(am:LH) (f25:Av_),Jn E H am [bX K f25 27] [(0,.slice (AZ K) nw U),(1,iV al),(2,iV p2),(3,(fV 113)),(8,iV ap.1)] L s (WL 27 Ar am K U nw f25 ap.2)) ⟨E,a8,rfl,rfl,Av,cn,hW⟩ ?_);rintro _ _ ap ⟨am,f25,rfl,rfl,b0,b1,b2⟩ cA ⟨dv,bb⟩ cB;have b3:=bb;unfold SL at b3;refine zg 7 rfl (AN b3 (λcC cD=>?_) (λcC cE=>?_))
  ·obtain⟨b4,cF,cG⟩:=bs cD;refine zg 8 rfl (Bi (λL s=>∃(a4:LH) (f48:Av_),Jn am H a4 [bX K f48 27] [(0,.slice (AZ K) nw U),(1,iV al),(2,iV p2),(3,(fV 113)),(8,iV ap.1)] L s (WL 27 Ar a4 K U nw f48 b4)) ?_ ?_)
   ·rintro _ _ ⟨a4,f48,rfl,rfl,cH,cI,cJ⟩;obtain⟨cK,cM,cN⟩:=bs cG;refine zg 3 rfl (Bd cM rfl rfl rfl ?_);refine zg 2 rfl ?_;obtain rfl:=oi cN;exact AA (cB _ _ (cK,b4) ⟨a4,f48,rfl,rfl,(b0.I cH),cI,cJ⟩ bb) rfl
   ·intro cO;refine JL.block (CH cF (λL s ag=>∃(a1:LH) (f58:Av_),Jn am H a1 [bX K f58 27] [(0,.slice (AZ K) nw U),(1,iV al),(2,iV p2),(3,(fV 113)),(8,iV ap.1),(9,iV ag.1)] L s (WL 27 Ar a1 K U nw f58 ag.2)) ⟨am,f25,rfl,rfl,Av,b1,b2⟩ ?_);rintro _ _ ag ⟨a1,f58,rfl,rfl,b5,a2,O⟩ cP ⟨dw,be⟩ cQ;have b6:=be;unfold Sv at b6;refine zg 2 rfl (Fw 17 [K] ⟨⟨0,_,rfl⟩,trivial⟩ a2 λac=>?_);refine AX ac rfl [0,1,2,3] rfl ?_;obtain⟨cR,ca,cT⟩:=bs b6;refine EO 0 #[true,true,true,true,true,true,true,true,true,true,true,true,true,true,true,true,true] (λL s=>∃(a5:LH),Jm a1 H a5 [bX K f58 27] [(0,.slice (AZ K) nw U),(1,iV al),(2,iV p2),(3,(fV 113)),(8,iV ap.1),(9,iV ag.1),(34,.bool cR)] L s) ?_ ?_
    ·rintro _ _ ⟨a5,rfl,rfl,aq,a6⟩;refine AR.fin (by decide+kernel) (Cc cT (λcV cW=>?_) (λcV cX=>?_))
     ·refine zg 3 rfl (Ie [15,17] [K] mixed rfl ?_);refine Bs 0 rfl rfl (Bs 1 rfl rfl ?_);refine Bs 2 rfl rfl (Bs 3 rfl rfl ?_);obtain⟨cc,cY,cZ⟩:=bs cW;refine Fy 4 true rfl rfl (λρ h s' ce=>Ec (h _ _ rfl) (h _ _ rfl) cY) (Bs 5 rfl rfl ?_);refine Bs 6 rfl rfl ?_;obtain⟨dx,c0,c1⟩:=bs cZ;refine Fy 7 true rfl rfl (λρ h s' ce=>Ec (h _ _ rfl) (h _ _ rfl) c0) ?_;obtain⟨Y,cf,c2⟩:=bs c1;obtain⟨_,⟨_,_,rfl,rfl,⟨_,_,rfl,rfl,rfl⟩⟩,c3⟩:=WL.at (O.Ag aq) cf;refine JB.ix 8 O.2 cf underlying23 A2 ?_;refine Uw 9 [iV Y.1,iV Y.2.1,iV Y.2.2] 0 a6 c3 DK A2 ?_;refine Bs 10 rfl rfl (Bs 11 rfl rfl ?_);obtain⟨Z,a7,c4⟩:=bs c2;obtain⟨_,⟨_,_,rfl,rfl,⟨_,_,rfl,rfl,rfl⟩⟩,c5⟩:=WL.at (O.Ag aq) a7;refine JB.ix 12 O.2 a7 underlying23 A2 ?_;refine Uw 13 [iV Z.1,iV Z.2.1,iV Z.2.2] 0 a6 c5 DK A2 ?_;refine JB.ix 14 O.2 a7 underlying23 A2 ?_;have a3:=WL.put (x':=Y) (ws':= [iV Y.1,iV Y.2.1,iV Y.2.2]) (O.Ag aq) O.2 a7 ⟨_,_,rfl,rfl,⟨_,_,rfl,rfl,rfl⟩⟩;refine Fa 15 0 a6 A2 a3.2 λc6=>?_;obtain⟨dy,bi,c7⟩:=bs c4;obtain⟨_,⟨_,_,rfl,rfl,⟨_,_,rfl,rfl,rfl⟩⟩,dz⟩:=WL.at a3.1 bi;refine JB.ix 16 (a3.1).2 bi underlying23 A2 ?_;have cg:=WL.put (x':=Z) (ws':= [iV Z.1,iV Z.2.1,iV Z.2.2]) a3.1 (a3.1).2 bi ⟨_,_,rfl,rfl,⟨_,_,rfl,rfl,rfl⟩⟩;refine Fa 17 0 c6 A2 cg.2 λc8=>?_;refine JB.fin (by decide+kernel) ?_;obtain⟨c9,da,db⟩:=bs c7;refine zg 3 rfl (Cv da rfl rfl rfl ?_);refine zg 2 rfl ?_;obtain rfl:=oi db;exact AA (cQ _ _ (c9,((ag.2.set (Int.toNat ag.1) Y).set (Int.toNat cc) Z)) ⟨a5,(Bh (Bh f58 (Int.toNat (ag.1)*3) [iV Y.1,iV Y.2.1,iV Y.2.2]) (Int.toNat (cc)*3) [iV Z.1,iV Z.2.1,iV Z.2.2]),rfl,rfl,(b5.I aq),c8,cg.1⟩ be) rfl
     ·refine JL.exit rfl ?_;obtain rfl:=oi cX;obtain rfl:=cP _ be;exact AA (cO _ _ ⟨a5,f58,rfl,rfl,(b5.I aq),a6,(O.Ag aq)⟩) rfl
    ·intro ci;refine Gi (q:=al<ag.1) (i:=21) rfl (λbo=>?_) (λbo=>?_)
     ·have dc:=ip ca bo;refine AX ac rfl [4,5,6] rfl ?_;obtain⟨aw,ck,dd⟩:=bs dc;obtain⟨_,⟨_,_,rfl,rfl,⟨_,_,rfl,rfl,rfl⟩⟩,de⟩:=WL.at O ck;refine JG.ix 7 ac (O).2 ck underlying23 A2 ?_;refine Uq 8 ac [iV aw.1,iV aw.2.1,iV aw.2.2] 0 a2 de DK A2 ?_;refine AX ac rfl [9,10] rfl ?_;obtain⟨dA,df,dg⟩:=bs dd;refine AP 11 ac rfl rfl (λρ h s' ce=>Ec (h _ _ rfl) (h _ _ rfl) df) ?_;obtain⟨a0,cm,dh⟩:=bs dg;obtain⟨_,⟨_,_,rfl,rfl,⟨_,_,rfl,rfl,rfl⟩⟩,di⟩:=WL.at O cm;refine JG.ix 12 ac (O).2 cm underlying23 A2 ?_;refine Uq 13 ac [iV a0.1,iV a0.2.1,iV a0.2.2] 0 a2 di DK A2 ?_;obtain⟨dB,dj,dk⟩:=bs dh;refine Jw (i:=14) ⟨⟨0,_,rfl⟩,trivial⟩ (vs:= [.agg #[iV aw.1,iV aw.2.1,iV aw.2.2],.agg #[iV a0.1,iV a0.2.1,iV a0.2.2]]) (TP dj) (by decide+kernel) rfl rfl rfl rfl (AU func113 rfl) rfl a2 ?_;rintro _ dn _ dp ⟨rfl,rfl⟩ dq;refine AX ac rfl [15,16] rfl ?_;obtain rfl:=oi dk;refine Ct ?_ (ci _ _ ⟨dn,rfl,rfl,dp,dq⟩);exact⟨rfl,rfl,rfl,rfl,rfl,rfl,rfl,trivial⟩
     ·have dr:=im ca bo;refine AX ac rfl [4,5,6,7,8,9,10,11,12,13,14,15,16] rfl ?_;obtain rfl:=oi dr;refine Ct ?_ (ci _ _ ⟨a1,rfl,rfl,Av,a2⟩);exact⟨rfl,rfl,rfl,rfl,rfl,rfl,rfl,trivial⟩
  ·refine JL.exit rfl ?_;obtain rfl:=oi cE;obtain rfl:=cA _ bb;exact AA (cz _ _ ⟨am,f25,rfl,rfl,b0,b1,b2⟩) rfl
def Sz(fu_:Nat)(p0:AD)(K:Int)(p2:Int)(p3:Int)(Y:Unit):Option (Bf Unit ((AD)⊕(Unit))):= (Au (p2 - K)).bind λO=> if O<=12 then((f193 fu_ p0 K p2).bind λU=> some (.done (Sum.inl U))) else(if p3=0 then(none) else(none))
def f169(fu_:Nat)(p0:AD)(K:Int)(p2:Int)(p3:Int):Option (AD):= Option.bind (iter (Sz fu_ p0 K p2 p3) fu_ ()) λO=> Sum.elim (λr=>some r) (λU=> none) O
theorem ZW{K:Nat}{O:Nat}{nw:Nat}{U:Av_}{p0:AD}{Y:Int}{p2:Int}{p3:Int}(hW:WL 27 Ar E K O nw U p0){fu_:Nat}{r:AD}(Z:f169 fu_ p0 Y p2 p3=some r):AH J 169 [.slice (AZ K) nw O,iV Y,iV p2,iV p3,(fV 113)] E [(K,.cells U 27 (0,0))] (λw E' B'=>∃(ac:Av_),w= .tuple #[]/\B'= [(K,.cells ac 27 (0,0))]/\WL 27 Ar E' K O nw ac r):=by
 refine A8 func169 λQ b3 cs H aq aw=>?_;unfold f169 at Z;obtain⟨b4,a0,a1⟩:=bs Z;refine zg 8 rfl (Bi (λL s=>False) ?_ ?_)
 ·intro _ _ a2;exact a2.elim
 ·intro b5;refine JL.block (CI a0 (λag=> [bX K U 27]) (λag=> [(0,.slice (AZ K) nw O),(1,iV Y),(2,iV p2),(3,iV p3),(4,(fV 113)),(10,.bool true),(11,.bool true)]) Av aq ?_);rintro ag b6 al a3 a4 ⟨ca,am⟩ cc;have ap:=am;unfold Sz at ap;obtain⟨ce,a5,a6⟩:=bs ap;refine zg 5 rfl (Cv a5 rfl rfl rfl ?_);refine zg 8 rfl (AN a6 (λa7 a8=>?_) (λa7 a9=>?_))
  ·obtain⟨cf,bb,be⟩:=bs a8;refine zg 6 rfl (CG 0 (YK (hW.Ag al) bb) rfl rfl (AU func193 rfl) a3 rfl ?_);rintro _ cg _ bi ⟨f32,rfl,rfl,bo⟩ bv;refine JL.done ?_;obtain rfl:=oi be;obtain rfl:=a4 _ am;have bw:=elim_inl a1;obtain rfl:=oi bw;exact AJ func169 rfl rfl (aw (al.I bi) rfl ⟨f32,rfl,(by first | rfl | simp | (simp [Value.cells])),bo⟩ bv)
  ·refine zg 7 rfl (AN a9 (λb0 b1=>?_) (λb0 b2=>?_))
   ·refine zg 6 rfl ?_;cases b1
   ·refine zg 5 rfl (An (v:= .bool false) rfl (λρ h=>Yl.not (c:=true) (h _ _ rfl)) ?_);refine zg 9 rfl ?_;cases b2
def f130(fu_:Nat)(p0:AD):Option (AD):= (f115 fu_ (Dh (p0.length:Int))).bind λK=> (f169 fu_ p0 0 (p0.length:Int) K).bind λO=> some O
theorem Zd{K:Nat}{O:Nat}{nw:Nat}{U:Av_}{p0:AD}(hW:WL 27 Ar E K O nw U p0){fu_:Nat}{r:AD}(Y:f130 fu_ p0=some r):AH J 130 [.slice (AZ K) nw O,(fV 113)] E [(K,.cells U 27 (0,0))] (λw E' B'=>∃(Z:Av_),w= .tuple #[]/\B'= [(K,.cells Z 27 (0,0))]/\WL 27 Ar E' K O nw Z r):=by
 refine A8 func130 λQ a4 cs H ag al=>?_;unfold f130 at Y;refine zg 3 rfl (An (v:=iV (p0.length:Int)) rfl (λρ h=>Sn (hW).2 rfl underlying80 (h _ _ rfl)) ?_);refine zg 6 rfl (An (v:= .int .u64 ((Dh (p0.length:Int):Nat):Int)) rfl (λρ h=>Yl.Dh underlying3 underlying136 (h _ _ rfl)) ?_);obtain⟨a5,am,ap⟩:=bs Y;refine B8 (NP am) rfl rfl Mx ag λa6 ac aq=>?_;obtain⟨a7,aw,a0⟩:=bs ap;refine zg 1 rfl (CG 0 (ZW (hW.Ag ac) aw) rfl rfl (AU func169 rfl) aq rfl ?_);rintro _ a8 _ a1 ⟨f12,rfl,rfl,a2⟩ a3;refine JL.done ?_;obtain rfl:=oi a0;exact JL.fin (v:= .tuple #[]) rfl rfl (By.list func130 rfl (vs:= []) trivial) (al (ac.I a1) rfl ⟨f12,rfl,(by first | rfl | simp | (simp [Value.cells])),a2⟩ a3)
def RP(fu_:Nat)(O:Int)(K:Int)(Y:Unit):Option (Bf Unit Unit):= Option.bind (if O<K then(none) else(some false)) λU=> if U=true then((Au (K - 1)).bind λZ=> (Au (K - 1)).bind λac=> none) else(some (.done ()))
def RS(fu_:Nat)(O:Int)(p2:Int)(K:Int):Option (Bf Int Unit):= if K<p2 then(Option.bind (iter (RP fu_ O K) fu_ ()) λY=> (Au (K+1)).bind λU=> some (.more U)) else(some (.done ()))
def Qm(fu_:Nat)(K:Int)(p2:Int):Option Unit:= (Au (K+1)).bind λO=> Option.bind (iter (RS fu_ K p2) fu_ O) λU=> some ()
theorem Ym{U:Int}{p2:Int}{fu_:Nat}{r:Unit}(ac:Qm fu_ U p2=some r):AH J 193 [nS,iV U,iV p2,(fV 113)] E [] (λw E' B'=>w= .tuple #[]/\B'= []):=by
 refine A8 func193 λQ cB cs H a3 a4=>?_;unfold Qm at ac;obtain⟨cC,a5,a6⟩:=bs ac;refine zg 3 rfl (Bd a5 rfl rfl rfl ?_);obtain⟨cD,a7,a8⟩:=bs a6;refine zg 2 rfl (Ep [] [] (λcE a9 bb=>?_) (λbe=>?_))
 ·obtain rfl:=oi a8;exact JL.fin (v:= .tuple #[]) rfl rfl (By.list func193 rfl (vs:= []) trivial) (a4 a9 rfl ⟨rfl,rfl⟩ bb)
 ·refine JL.block (CI a7 (λK=> []) (λK=> [(0,.slice none 0 0),(1,iV U),(2,iV p2),(3,(fV 113)),(8,iV K)]) Av a3 ?_);rintro K cF ag al bi ⟨cG,Y⟩ bo;have am:=Y;unfold RS at am;refine zg 7 rfl (AN am (λbv bw=>?_) (λbv b0=>?_))
  ·obtain⟨cH,b1,b2⟩:=bs bw;refine zg 8 rfl (Ep [] [(0,.slice none 0 0),(1,iV U),(2,iV p2),(3,(fV 113)),(8,iV K)] (λcI b3 b4=>?_) (λb5=>?_))
   ·obtain⟨b6,ca,cc⟩:=bs b2;refine zg 3 rfl (Bd ca rfl rfl rfl ?_);refine zg 2 rfl ?_;obtain rfl:=oi cc;exact bo b6 (ag.I b3) b4 rfl Y
   ·refine JL.block (CI b1 (λap=> []) (λap=> [(0,.slice none 0 0),(1,iV U),(2,iV p2),(3,(fV 113)),(8,iV K),(9,iV K)]) Av al ?_);rintro ap aq ce cf cg ⟨cJ,aw⟩ cK;have a0:=aw;unfold RP at a0;refine zg 2 rfl (DG 17 λO=>?_);refine AX O rfl [0,1,2,3] rfl ?_;obtain⟨ci,a1,ck⟩:=bs a0;refine EO 0 #[true,true,true,true,true,true,true,true,true,true,true,true,true,true,true,true,true] (λL s=>∃(a2:LH),Jm aq H a2 [] [(0,.slice none 0 0),(1,iV U),(2,iV p2),(3,(fV 113)),(8,iV K),(9,iV K),(34,.bool ci)] L s) ?_ ?_
    ·rintro _ _ ⟨a2,rfl,rfl,cm,cn⟩;refine AR.fin (by decide+kernel) (Cc ck (λco cp=>?_) (λco cq=>?_))
     ·refine zg 3 rfl (DG 16 λO=>?_);refine AX O rfl [0,1,2,3] rfl ?_;obtain⟨cM,cr,ct⟩:=bs cp;refine AP 4 O rfl rfl (λρ h s' cu=>Ec (h _ _ rfl) (h _ _ rfl) cr) (AX O rfl [5,6] rfl ?_);obtain⟨cN,cv,cw⟩:=bs ct;refine AP 7 O rfl rfl (λρ h s' cu=>Ec (h _ _ rfl) (h _ _ rfl) cv) ?_;cases cw
     ·refine JL.exit rfl ?_;obtain rfl:=oi cq;obtain rfl:=cg _ aw;exact b5 (ce.I cm) cn rfl
    ·intro cy;refine Gi (q:=U<K) (i:=21) rfl (λZ=>?_) (λZ=>?_)
     ·have cz:=ip a1 Z;refine AX O rfl [4,5,6] rfl ?_;cases cz
     ·have cA:=im a1 Z;refine AX O rfl [4,5,6,7,8,9,10,11,12,13,14,15,16] rfl ?_;obtain rfl:=oi cA;refine Ct ?_ (cy _ _ ⟨aq,rfl,rfl,Av,cf⟩);exact⟨rfl,rfl,rfl,rfl,rfl,rfl,rfl,trivial⟩
  ·refine JL.exit rfl ?_;obtain rfl:=oi b0;obtain rfl:=bi _ Y;exact be ag al rfl
def RO(fu_:Nat)(K:Int)(p2:Int)(p3:Int)(U:Unit):Option (Bf Unit ((Unit)⊕(Unit))):= (Au (p2 - K)).bind λO=> if O<=12 then((Qm fu_ K p2).bind λY=> some (.done (Sum.inl ()))) else(if p3=0 then(none) else(none))
def Qq(fu_:Nat)(K:Int)(p2:Int)(p3:Int):Option Unit:= Option.bind (iter (RO fu_ K p2 p3) fu_ ()) λO=> Sum.elim (λr=>some r) (λU=> none) O
theorem Yh{K:Int}{p2:Int}{p3:Int}{fu_:Nat}{r:Unit}(O:Qq fu_ K p2 p3=some r):AH J 169 [nS,iV K,iV p2,iV p3,(fV 113)] E [] (λw E' B'=>w= .tuple #[]/\B'= []):=by
 refine A8 func169 λQ bv cs H ac ag=>?_;unfold Qq at O;obtain⟨bw,al,am⟩:=bs O;refine zg 8 rfl (Bi (λL s=>False) ?_ ?_)
 ·intro _ _ ap;exact ap.elim
 ·intro b0;refine JL.block (CI al (λU=> []) (λU=> [(0,.slice none 0 0),(1,iV K),(2,iV p2),(3,iV p3),(4,(fV 113)),(10,.bool true),(11,.bool true)]) Av ac ?_);rintro U b1 aq aw a0 ⟨b2,Y⟩ b3;have Z:=Y;unfold RO at Z;obtain⟨b4,a1,a2⟩:=bs Z;refine zg 5 rfl (Cv a1 rfl rfl rfl ?_);refine zg 8 rfl (AN a2 (λa3 a4=>?_) (λa3 a5=>?_))
  ·obtain⟨b5,a6,a7⟩:=bs a4;refine zg 6 rfl (B8 (Ym a6) rfl rfl (AU func193 rfl) aw λb6 a8 a9=>?_);refine JL.done ?_;obtain rfl:=oi a7;obtain rfl:=a0 _ Y;have bb:=elim_inl am;obtain rfl:=oi bb;exact AJ func169 rfl rfl (ag (aq.I a8) rfl ⟨rfl,rfl⟩ a9)
  ·refine zg 7 rfl (AN a5 (λbe bi=>?_) (λbe bo=>?_))
   ·refine zg 6 rfl ?_;cases bi
   ·refine zg 5 rfl (An (v:= .bool false) rfl (λρ h=>Yl.not (c:=true) (h _ _ rfl)) ?_);refine zg 9 rfl ?_;cases bo
def Uv(fu_:Nat):Option Unit:= (f115 fu_ (Dh ((0:Nat):Int))).bind λK=> (Qq fu_ 0 ((0:Nat):Int) K).bind λO=> some ()
theorem Yv{fu_:Nat}{r:Unit}(K:Uv fu_=some r):AH J 130 [nS,(fV 113)] E [] (λw E' B'=>w= .tuple #[]/\B'= []):=by
 refine A8 func130 λQ aw cs H O U=>?_;unfold Uv at K;refine zg 3 rfl (JL.ln underlying80 rfl rfl rfl ?_);refine zg 6 rfl (An (v:= .int .u64 ((Dh ((0:Nat):Int):Nat):Int)) rfl (λρ h=>Yl.Dh underlying3 underlying136 (h _ _ rfl)) ?_);obtain⟨a0,Y,Z⟩:=bs K;refine B8 (NP Y) rfl rfl Mx O λa1 ac ag=>?_;obtain⟨a2,al,am⟩:=bs Z;refine zg 1 rfl (B8 (Yh al) rfl rfl (AU func169 rfl) ag λa3 ap aq=>?_);refine JL.done ?_;obtain rfl:=oi am;exact JL.fin (v:= .tuple #[]) rfl rfl (By.list func130 rfl (vs:= []) trivial) (U (ac.I ap) rfl ⟨rfl,rfl⟩ aq)
theorem X5{J:Judge Tryz.prog}{E:LH}{a:Am}{c:Nat}{g:Seg}{p0:AD}(Y:OL 27 Ar E a c g p0){fu_:Nat}{r:AD}(K:f130 fu_ p0=some r):
  AH J 130 [.slice a p0.length c,.func (.func 113) #[] #[]] E g (λw E' B'=>w= .tuple #[]/\OL 27 Ar E' a c B' r/\r.length=p0.length):=by
 rcases Y.cases with⟨rfl,rfl,rfl,rfl⟩ | ⟨bk,f,rfl,rfl,hW⟩
 ·have Z:r= []:=by
   cases fu_ with
   | zero=>exact absurd K (by simp [f130,f169,f193,iter])
   | succ fu_=>
    cases fu_ with
    | zero=>exact(Option.some.inj (K.symm.trans (by rfl:f130 1 []=some []))).trans rfl
    | succ fu_=>exact(Option.some.inj (K.symm.trans (by rfl:f130 (fu_+2) []=some []))).trans rfl
  subst Z;refine(Yv (fu_:=10) (r:=()) rfl).Ag ?_;rintro w E' B' hle ⟨O,rfl⟩;exact⟨O,OL.nil,rfl⟩
 ·refine(Zd hW K).Ag ?_;rintro w E' B' hle ⟨ac,O,rfl,U⟩;exact⟨O,U.1,U.2⟩
def f90(fu_:Nat)(p0:AD):Option (AD):= (f129 fu_ p0).bind λK=> (f130 fu_ K).bind λO=> some O
theorem aI{a1:Am}{c2:Nat}{p0:AD}(al:Ak Ar E a1 c2 p0){fu_:Nat}{r:AD}(Z:f90 fu_ p0=some r):AH J 90 [sV a1 p0 c2] E [] (λw E' B'=>∃(ac:Am) (ag:Nat),w= sV ac r ag/\B'= []/\Ak Ar E' ac ag r):=by
 refine A8 func90 λQ bi cs H am ap=>?_;unfold f90 at Z;obtain⟨bo,aq,aw⟩:=bs Z;refine zg 7 rfl (BP (Z8 al aq) rfl rfl (AU func129 rfl) am ?_);rintro _ bv bw a0 ⟨K,O,_,rfl,rfl,a2⟩ a3;obtain⟨U,a4,a5⟩:=bs aw;refine zg 5 rfl (CG 1 (X5 a2 a4) rfl rfl (AU func130 rfl) a3 rfl ?_);rintro _ b0 b1 a6 ⟨rfl,a7,Y⟩ a8;refine Fe (L':= [(6,.tuple #[]),(0,.slice K U.length O),(2,.slice none 0 0),(3,.slice a1 p0.length c2),(4,.slice K U.length O),(5,.slice K U.length O)]) ⟨rfl,by rw [Y];rfl,rfl,rfl,by rw [Y];rfl,by rw [Y];rfl,trivial⟩ ?_;refine zg 6 rfl (BE 1 a7 a8 rfl λb2 a9 bb be=>?_);obtain rfl:=oi a5;exact AJ func90 rfl rfl (ap ((a0.I a6).I a9) rfl ⟨K,O,rfl,rfl,bb⟩ be)
end Pal
namespace Pal
open Go Go.Conc
section
variable {P:Program}{J:Judge P}{Q:Gs_}{b:Frame}{n:Nat}{ds:Ld_}{ops:Ao_}{k:Li_}{cs:Lf_}{m fuel:Nat}{listed:Array Bool}{L:Env}{s:St}{E H:LH}{S:List Seg}
variable {d:Option Tmp}{x y:Operand}{t ty e:TypeId}{p:String}{af:Ae_}{g:On_}{v:Value}{i:Nat}
theorem Take.y0{oi:Oper}(hi:ops[i]? =some oi)(K:(!Ed oi.op&&Bj n oi.dst)=true)(hw:AT L ops oi=some true)(O:∀ρ,Fb L ρ->Yl P oi ρ s v)
  (h:AR J Q b n ds ops k cs m Dc fuel (Bb listed i) (Ax L oi.dst v) s):Take J Q b n ds ops k cs m Dc fuel listed L s i:=
 Take.KG hi K hw λρ U=>by
  have:=O ρ U
  unfold Yl at this
  refine Ew _ this ?_ (λ_ _ h=>h)
  rintro Y s' ⟨rfl,rfl⟩
  exact h
end
end Pal
namespace Pal
open Go Go.Conc
def GH{P:Program}(J:Judge P)(f:FuncId)(args:Lv_)(E:LH)(B:Seg)(p:Bool)(pv:Value)(R:Value->LH->Seg->Prop):Prop:=
 ∀(Q:Gs_) (bc:Frame) (Tc:Av_) (dsc:Ld_) (K:Li_) (cs:Lf_) (H:LH),Nd E H B->
  (p=false->∀v E' B',Le E E'->R v E' B'->Nd E' H B'->J.ok Q (G ((fr bc Tc dsc K).finish v) cs) (mk E' H B'))->
  (p=true->∀E' B',Le E E'->Nd E' H B'->J.ok Q (G (G5 bc Tc dsc K (raised pv)) cs) (mk E' H B'))->
  J.ok Q (G (Frame.enter P f args.toArray .normal) (fr bc Tc dsc K::cs)) (mk E H B)
section
variable {P:Program}{J:Judge P}{Q:Gs_}{b bc:Frame}{n:Nat}{L:Env}{ds dsc:Ld_}{k:Li_}{cs:Lf_}{E H:LH}{S:List Seg}{i:Nat}{rest:List Nat}{d:Option Tmp}{ty e t:TypeId}{pp:String}{af:Ae_}{g:On_}{ops:Ao_}{pv:Value}
theorem GH.enter{f:FuncId}{fn:Func}{c:Code}{vs:Lv_}{B:Seg}{R:Value->LH->Seg->Prop}{p:Bool}(ac:P.funcs[f]? =some fn)(hb:fn.body=some c)(a1:vs.length<=fn.ntmps)
  (h:∀(Q:Gs_) (bc:Frame) (Tc:Av_) (dsc:Ld_) (O:Li_) (cs:Lf_) (H:LH),Ap E H [B]->
   (p=false->∀v E' S' B',Le E E'->S'.flatten=B'->R v E' B'->Ap E' H S'->J.ok Q (G ((fr bc Tc dsc O).finish v) cs) (Al E' H S'))->
   (p=true->∀E' S',Le E E'->Ap E' H S'->J.ok Q (G (G5 bc Tc dsc O (raised pv)) cs) (Al E' H S'))->
   JL J Q (base f) fn.ntmps (Gl 0 vs) [] [.code c] (fr bc Tc dsc O::cs) (Al E H [B])):GH J f vs E B p pv R:=λQ bc Tc dsc O cs H ag al K=>by
 have he:Frame.enter P f vs.toArray .normal=fr (base f) (vs.toArray++Array.replicate (fn.ntmps - vs.length) undef) [] [.code c]:=by
  simp [Frame.enter,fr,ac,hb,base];rfl
 have am:mk E H B=Al E H [B]:=by unfold Al;simp
 rw [he,am];refine h Q bc Tc dsc O cs H (by unfold Ap;simpa using ag) (λU v E' S' B' hle ap aq Y=>?_) (λU E' S' hle Y=>?_) _ ⟨by simp;omega,λt v aw=>?_⟩
 ·subst ap;exact al U v E' S'.flatten hle aq Y
 ·exact K U E' S'.flatten hle Y
 ·obtain⟨_,K⟩:=Ju aw;have a0:t<vs.length:=by
   rcases Nat.lt_or_ge t vs.length with Z | Z
   ·exact Z
   ·simp at K;have:=(List.getElem?_eq_some_iff.1 K).1;omega
  rw [Array.getD_eq_getD_getElem?,Array.getElem?_append_left (by simpa using a0)];simp at K;simp [K]
theorem We{x:Operand}{f:FuncId}{caps:Lv_}{args:Array Operand}{ats:Array TypeId}{s:St}{vs:Lv_}(hb:DL P f=true)
  (U:ops[i]? =some ⟨d,.call ⟨.value x,args,ats⟩,ty,pp,af,g⟩) (hw:AT L ops ⟨d,.call ⟨.value x,args,ats⟩,ty,pp,af,g⟩=some true) (O:((b.kind != .early)&&Bj n d)=true)
  (Y:ev L x=some (.func (.func f) #[] caps.toArray)) (Z:evs L args.toList=some vs)
  (h:∀T,Has n L T->J.ok Q (G (Frame.enter P f (vs++caps).toArray .normal) (fr b T ds (.inRegion ops (i::rest)::k)::cs)) s):
  JL J Q b n L ds (.inRegion ops (i::rest)::k) cs s:=λT K=>by
 simp only [Bool.and_eq_true] at O
 have ac:args.map (BB T)=vs.toArray:=by
  rw [← Gx K.Gc Z];apply Array.ext';simp
 refine Judge.oper U (Cf K hw) (by simpa using O.1) (.inr λc ag=>by cases ag) ?_;have hd:lp P (execOp (BB T) ⟨d,.call ⟨.value x,args,ats⟩,ty,pp,af,g⟩) s (upon J Q b T ds ops i rest k cs d) (Li J Q b T ds ops i rest k cs):=by
  have al:execOp (BB T) ⟨d,.call ⟨.value x,args,ats⟩,ty,pp,af,g⟩=(do let d ← Deferred.ofValue (.func (.func f) #[] caps.toArray) vs.toArray;invoke d.target d.args):=by
   simp only [execOp,resolve,ac,K.Gc _ _ Y]
  rw [al];simp only [Deferred.ofValue,bind,Sem.bind,pure,invoke];have e: #[]++vs.toArray++caps.toArray=(vs++caps).toArray:=by simp
  rw [e];exact IE hb (h T K)
 exact hd
theorem Wi{f:FuncId}{args:Array Operand}{ats:Array TypeId}{s:St}{vs:Lv_}(hb:DL P f=true)
  (U:ops[i]? =some ⟨d,.call ⟨.value (.func f),args,ats⟩,ty,pp,af,g⟩) (hw:AT L ops ⟨d,.call ⟨.value (.func f),args,ats⟩,ty,pp,af,g⟩=some true) (O:((b.kind != .early)&&Bj n d)=true)
  (Y:evs L args.toList=some vs)
  (h:∀T,Has n L T->J.ok Q (G (Frame.enter P f vs.toArray .normal) (fr b T ds (.inRegion ops (i::rest)::k)::cs)) s):
  JL J Q b n L ds (.inRegion ops (i::rest)::k) cs s:=λT K=>by
 simp only [Bool.and_eq_true] at O
 have Z:args.map (BB T)=vs.toArray:=by
  rw [← Gx K.Gc Y];apply Array.ext';simp
 refine Judge.oper U (Cf K hw) (by simpa using O.1) (.inr λc ac=>by cases ac) ?_;have hd:lp P (execOp (BB T) ⟨d,.call ⟨.value (.func f),args,ats⟩,ty,pp,af,g⟩) s (upon J Q b T ds ops i rest k cs d) (Li J Q b T ds ops i rest k cs):=by
  simp only [execOp,resolve,bind,Sem.bind,Deferred.ofValue,BB,pure,invoke];have e: #[]++args.map (BB T)++ #[]=vs.toArray:=by rw [Z];simp
  rw [e];exact IE hb (h T K)
 exact hd
theorem Yu{g:Frame}{s:St}(O:s.q=false)(h:(∃w,Fits s w)->J.ok Q (G g cs) s):J.ok Q (G g cs) s:=by
 by_cases K:∃w,Fits s w
 ·exact h K
 ·exact J.step ⟨rfl,λw f=>absurd ⟨w,f⟩ K,λe=>by subst e;cases O⟩
theorem GH.use{f:FuncId}{vs:Lv_}{B:Seg}{R:Value->LH->Seg->Prop}{p:Bool}{Tc:Av_}{Y:Li_}(j:Nat)(ap:GH J f vs E B p pv R)(ac:Ap E H S)(ag:S[j]? =some B)
  (Z:p=false->∀v E' B',Le E E'->R v E' B'->Ap E' H (S.set j B')->J.ok Q (G ((fr bc Tc dsc Y).finish v) cs) (Al E' H (S.set j B')))
  (aq:p=true->∀E' B',Le E E'->Ap E' H (S.set j B')->J.ok Q (G (G5 bc Tc dsc Y (raised pv)) cs) (Al E' H (S.set j B'))):
  J.ok Q (G (Frame.enter P f vs.toArray .normal) (fr bc Tc dsc Y::cs)) (Al E H S):=by
 have K:S.flatten.Perm (B++(S.set j []).flatten):=(Ei (seg':=B) ag).1.trans List.perm_append_comm;have al:Nd E H (B++(S.set j []).flatten):=Nd.perm ac K;have aw:Al E H S=mk E (Bm (S.set j []).flatten H) B:=by
  rw [show Al E H S=mk E H S.flatten from rfl,Ft ac K];unfold mk;rw [F8]
 have a0:Nd E H (S.set j []).flatten:=by
  have:=al;rw [Nd.iff] at this ⊢;rw [List.map_append,List.nodup_append] at this;exact⟨this.1.2.1,λq a1=>this.2 q (List.mem_append_right _ a1)⟩
 have back:∀(g:Frame) (E':LH) (B':Seg),Le E E'->Nd E' (Bm (S.set j []).flatten H) B'->(Ap E' H (S.set j B')->J.ok Q (G g cs) (Al E' H (S.set j B')))->J.ok Q (G g cs) (mk E' (Bm (S.set j []).flatten H) B'):=λg E' B' hle U a2=>by
  have e2:mk E' (Bm (S.set j []).flatten H) B'=mk E' H (B'++(S.set j []).flatten):=by unfold mk;rw [F8]
  refine Yu rfl λ⟨w,a3⟩=>?_;have a4:Nd E' H (S.set j []).flatten:=a0.grow λx a5=>by
   have a6:=a3.d x a5;have Z:Bm B' (Bm (S.set j []).flatten H) x=none:=a6;exact(H5 Z).1
  have O:Nd E' H (B'++(S.set j []).flatten):=Nd.glue U a4;rw [e2];have am:(B'++(S.set j []).flatten).Perm (S.set j B').flatten:=List.perm_append_comm.trans (Ei ag).2.symm;rw [Ft O am];exact a2 (Nd.perm O am)
 rw [aw];refine ap Q bc Tc dsc Y cs _ (Nd.front al) (λK v E' B' hle a7 U=>back _ E' B' hle U λO=>Z K v E' B' hle a7 O) (λK E' B' hle U=>back _ E' B' hle U λO=>aq K E' B' hle O)
theorem Rj{x:Operand}{f:FuncId}{caps:Lv_}{args:Array Operand}{ats:Array TypeId}{vs:Lv_}{seg:Seg}{R:Value->LH->Seg->Prop}{p:Bool}(j:Nat)(hb:DL P f=true)
  (ac:GH J f (vs++caps) E seg p pv R) (Y:ops[i]? =some ⟨d,.call ⟨.value x,args,ats⟩,ty,pp,af,g⟩) (hw:AT L ops ⟨d,.call ⟨.value x,args,ats⟩,ty,pp,af,g⟩=some true) (K:((b.kind != .early)&&Bj n d)=true)
  (ag:ev L x=some (.func (.func f) #[] caps.toArray)) (al:evs L args.toList=some vs) (am:Ap E H S) (ap:S[j]? =some seg)
  (aq:p=true->∀E' seg',Le E E'->Ap E' H (S.set j seg')->JP J Q b n L ds cs (raised pv) (Al E' H (S.set j seg')))
  (aw:p=false->∀v E' seg',Le E E'->R v E' seg'->Ap E' H (S.set j seg')->JL J Q b n (Ax L d v) ds (.inRegion ops rest::k) cs (Al E' H (S.set j seg'))):
  JL J Q b n L ds (.inRegion ops (i::rest)::k) cs (Al E H S):=
 We hb Y hw K ag al λT Z=>GH.use j ac am ap
  (λO v E' B' hle a0 U=>by
   rw [Gz (o:=⟨d,.call ⟨.value x,args,ats⟩,ty,pp,af,g⟩) _ _ _ _ _ Y]
   simp only [Bool.and_eq_true] at K
   exact aw O v E' B' hle a0 U _ (Z.put K.2 v))
  (λO E' B' hle U=>aq O E' B' hle U T Z _)
theorem V4{f:FuncId}{args:Array Operand}{ats:Array TypeId}{vs:Lv_}{seg:Seg}{R:Value->LH->Seg->Prop}{p:Bool}(j:Nat)(hb:DL P f=true)
  (ac:GH J f vs E seg p pv R) (Y:ops[i]? =some ⟨d,.call ⟨.value (.func f),args,ats⟩,ty,pp,af,g⟩) (hw:AT L ops ⟨d,.call ⟨.value (.func f),args,ats⟩,ty,pp,af,g⟩=some true) (K:((b.kind != .early)&&Bj n d)=true)
  (ag:evs L args.toList=some vs) (al:Ap E H S) (am:S[j]? =some seg)
  (ap:p=true->∀E' seg',Le E E'->Ap E' H (S.set j seg')->JP J Q b n L ds cs (raised pv) (Al E' H (S.set j seg')))
  (aq:p=false->∀v E' seg',Le E E'->R v E' seg'->Ap E' H (S.set j seg')->JL J Q b n (Ax L d v) ds (.inRegion ops rest::k) cs (Al E' H (S.set j seg'))):
  JL J Q b n L ds (.inRegion ops (i::rest)::k) cs (Al E H S):=
 Wi hb Y hw K ag λT Z=>GH.use j ac al am
  (λO v E' B' hle aw U=>by
   rw [Gz (o:=⟨d,.call ⟨.value (.func f),args,ats⟩,ty,pp,af,g⟩) _ _ _ _ _ Y]
   simp only [Bool.and_eq_true] at K
   exact aq O v E' B' hle aw U _ (Z.put K.2 v))
  (λO E' B' hle U=>ap O E' B' hle U T Z _)
theorem Wx{ρ:Operand->Value}{x y z1:Operand}{s:St}{p:String}{a:Option Addr}{l c K m:Nat}{hi:Int}(O:∀ad,a=some ad->ad.spot=none∨c=0)(U:m<=c)(he:hi=(m:Int))(Y:P.underlying t=some (.slice e))(Z:Bq P e=some K)(ac:ρ x= .slice a l c)(ag:ρ y=iV hi)(al:ρ z1=iV hi):
  Yl P ⟨d,.slice t x none (some y) (some z1),ty,p,af,g⟩ ρ s (.slice a m m):=by
 subst he;have h:=Yl.slice (P:=P) (s:=s) (d:=d) (ty:=ty) (p:=p) (af:=af) (g:=g) (olo:=none) (ohi:=some y) (omx:=some z1) (lo:=0) (hi:=m) (mx:=m) Y Z ac al ag rfl U (Nat.le_refl _) (Nat.zero_le _);have am:(if m=0 then a else a.map (·.add (0*K)))=a:=by
  split
  ·rfl
  ·cases a with
   | none=>rfl
   | some ad=>
    have:=(O ad rfl).resolve_right (by omega);simp only [Option.map_some,Nat.zero_mul];rw [Ej this];obtain⟨b,o,sp⟩:=ad;simp only at this;subst this;simp
 rw [am] at h;simpa using h
theorem Ak.bB{α:Type}{q:Rp α}{a:Option Addr}{c:Nat}{xs ys:List α}{hi:Int}(U:Ak q E a c xs)(hC:Iu xs 0 hi=some ys):Ak q E a c ys/\ys.length<=c/\hi=(ys.length:Int):=by
 unfold Iu at hC;split at hC
 rotate_left
 ·cases hC
 rename_i hb;obtain⟨Z,ac,ag⟩:=hb;cases hC;have al:=U.1;have hlen:(((xs.take hi.toNat).drop (0:Int).toNat)).length=hi.toNat:=by simp;omega
 refine⟨⟨by rw [hlen];omega,?_⟩,by rw [hlen];omega,by rw [hlen];omega⟩;rcases U.2 with⟨h,O⟩ | ⟨bk,off,Y,O⟩
 ·exact .inl ⟨by rw [h];simp,O⟩
 ·refine .inr ⟨bk,off,Y,λi x K=>O i x ?_⟩;simp only [Int.toNat_zero,List.drop_zero] at K;rw [List.getElem?_take] at K;split at K
  ·exact K
  ·cases K
theorem Take.Pn{m fuel:Nat}{listed:Array Bool}{x y:Operand}{p:String}{α:Type}{q:Rp α}{t1:TypeId}{Y c cx:Nat}{a ax:Option Addr}{xs ys Z:List α}{ats:Array TypeId}{z:Value}(U:Cs xs ys=some Z)
  (a0:ops[i]? =some ⟨d,.call ⟨.builtin .append,#[x,y],ats⟩,ty,p,af,g⟩) (hw:AT L ops ⟨d,.call ⟨.builtin .append,#[x,y],ats⟩,ty,p,af,g⟩=some true) (a1:Bj n d=true)
  (a2:ev L x=some (.slice a xs.length xs.length)) (a3:ev L y=some (.slice ax ys.length cx)) (a4:ats[0]? =some t) (a5:ats[1]? =some t1) (a6:P.underlying t=some (.slice e)) (a7:P.underlying t1=some (.slice e)) (a8:Bq P e=some q.n) (hb:FK P e=some Y) (a9:zeroOf P e=some z) (bb:z.cells.size=q.n)
  (be:0<Y) (bi:Y<=64) (ac:Ak q E a c xs) (bo:Ak q E ax cx ys) (ag:Ap E H S)
  (h:∀E' al K,Le E E'->Ak q E' al K Z->Ap E' H (S++ [[]])->AR J Q b n ds ops k cs m Dc fuel (Bb listed i) (Ax L d (.slice al Z.length K)) (Al E' H (S++ [[]]))):
  Take J Q b n ds ops k cs m Dc fuel listed L (Al E H S) i:=by
 unfold Cs at U;split at U
 rotate_left
 ·cases U
 rename_i bv;cases U;obtain⟨wss,am,bw,b0,co⟩:=Ak.K7 (H:=H) (B:=S.flatten) ac.full;obtain⟨b1,b2,b3,b4,b5⟩:=Ak.K7 (H:=H) (B:=S.flatten) bo;have hlen:(xs++ys).length=xs.length+ys.length:=by simp
 show Take J Q b n ds ops k cs m Dc fuel listed L (mk E H S.flatten) i;refine Take.KG a0 (by simp [Ed,a1]) hw λρ ap=>?_;rw [LB,ap x _ a2,ap y _ a3];refine Aw _ _ (QL a4 a5 a7 a6 a8 hb a9 bb ag b0 b4 b5 be bv bi ?_ ?_)
 ·intro hm;have b6:ys= []:=List.eq_nil_of_length_eq_zero hm;subst b6;have ca:Ap E H (S++ [[]]):=by unfold Ap at*;rw [GV,List.append_nil];exact ag
  have cc:mk E H S.flatten=Al E H (S++ [[]]):=by unfold Al;rw [GV,List.append_nil]
  rw [cc];have:=h E a xs.length (Le.refl _) (by rw [List.append_nil];exact ac.full) ca;rw [hlen] at this;exact this
 ·intro r O K ce cf cg ci;have ck:OL e q E (some ⟨r,0,none⟩) K [(r,.cells O e (0,0))] (xs++ys):=
   ⟨wss++b1,.inr ⟨r,O,rfl,rfl,cf,by rw [hlen];exact ce,by rw [hlen,List.flatten_append];exact cg.symm⟩,by simp [am,b2],MO am bw b3⟩
  have aq:=Fq (S:=S) (seg:= [(r,.cells O e (0,0))]) ci;show AR J Q b n ds ops k cs m Dc fuel _ _ (mk E H (S.flatten++ [(r,.cells O e (0,0))]));rw [aq.1];refine Fp S.length ck aq.2 (by simp) λE' hle cm aw=>?_;have cn:(S++ [[(r,Obj.cells O e (0,0))]]).set S.length []=S++ [[]]:=Jb _ _ _ _;rw [cn] at aw ⊢;have:=h E' (some ⟨r,0,none⟩) K hle cm aw;rw [hlen] at this;exact this
theorem U1{ρ:Operand->Value}{x:Operand}{s:St}{p:String}{v:Value}{xt t1:TypeId}{f1:Array Field}(K:P.underlying t1=some (.struct f1))(O:ρ x= .iface t1 v):Yl P ⟨d,.typeAssert x xt t1 true,ty,p,af,g⟩ ρ s (.tuple #[v,.bool true]):=by
 refine FO (sm:=Instr.typeAssert (ρ x) xt t1 true) rfl ?_;rw [O];unfold Instr.typeAssert;refine Aw _ _ (CB K ?_);simp [lp,pure]
theorem UZ{ρ:Operand->Value}{x:Operand}{s:St}{p:String}{z:Value}{xt t1:TypeId}{f1:Array Field}(K:P.underlying t1=some (.struct f1))(O:zeroOf P t1=some z)(U:ρ x= .nilIface):Yl P ⟨d,.typeAssert x xt t1 true,ty,p,af,g⟩ ρ s (.tuple #[z,.bool false]):=by
 refine FO (sm:=Instr.typeAssert (ρ x) xt t1 true) rfl ?_;rw [U];unfold Instr.typeAssert;refine Aw _ _ (CB K ?_);exact Aw (x:=zeroValue t1) _ (HC O ⟨rfl,rfl⟩)
end
end Pal
