/- DebtApart, row of debt: for every input the law is true and its argument reads behind the call as before it. Part 3 of 8. -/
import Derived.Test.YtmeophcclkejkaaGreatApa
import Derived.Test.YtmeophcclkejkaaGreatApb
import Derived.Test.YtmeophcclkejkaaGreatRows
import Derived.Test.YtmeophcclkejkaaGreatChecked
import Derived.Conc.LeavingOf
import Derived.Conc.HoldsTime
import Derived.Carry
import Derived.ChangeSame
import Derived.ChangeVars
import Derived.ChangeSlices
import Derived.JoinedOf
import Derived.RowKit
import Derived.Deep.Strs
import Derived.Stop.Joined
import Derived.Test.YtmeophcclkejkaaGreatProg
set_option linter.all false
set_option maxRecDepth 100000
namespace Pal
open Go Go.Conc
open Go.ConcN (sumTo upd sumTo_upd upd_ne upd_same)
def Ma(P:Program)(R:Value->St->Prop):GP:=λg s=>
 g.status= .running/\∃v,R v s/\∀w,stepG P true g w= .ended (.done v) w #[]
section
variable {P:Program}{R:Value->St->Prop}{J:Judge P}{n:Nat}{L:Env}{s:St}{b:Frame}
theorem JO.end{fn:Func}{t:Tmp}{v:Value}(K:b.kind= .normal)(hi:P.inits.idxOf? b.fn=none)(O:P.funcs[b.fn]? =some fn)(U:fn.results= #[.tmp t])(Y:look L t=some v)(Z:R v s):JO J (Ma P R) b n L [] [] s:=λT ac todo=>by
 refine J.stop ⟨rfl,v,Z,λw=>?_⟩
 have e:results fn T=Sem.pure v:=by
  have:=ac.at_ t v Y;simp only [results,U,Array.mapM_eq_mapM_toList];show Sem.pure (T.getD t undef)=_;rw [this]
 have ag:(results fn T).run P w= .ok v w:=by rw [e];rfl
 have e2:(results fn T).events P w #[]= #[]:=by rw [e];simp [Sem.events_pure']
 simp [G,stepG,unwind,Ei,O,ag,e2,doReturn,K,GStep.after,hi,seen_none]
end
section
variable {P:Program}{R:Value->St->Prop}
def After(P:Program)(R:Value->St->Prop)(K:World)(s₀:St)(v:Value)(w':World):Prop:=
 ∃s,R v s/\Fits s w'/\(∀b o,s₀.E b=some o->s.E b=some o)/\w'.tape=K.tape/\Gq K.os w'.os/\w'.output=K.output
def Qi(P:Program)(R:Value->St->Prop)(K:World)(s₀:St)(O:Nat)(m:Machine)(t:Trace):Prop:=
 ∃gs w sl q Sh g s,m=crowd gs w sl/\Hx P gs w t q Sh g s/\Ma P R g s/\O=sumTo gs.size q/\(∀b o,s₀.E b=some o->s.E b=some o)/\w.tape=K.tape/\Gq K.os w.os/\w.output=K.output
theorem WA{ap:World}{s₀:St}(ay:Nat)(m:Machine)(t:Trace)(h:Qi P R ap s₀ ay m t):
  (∃o w ops,stepT P m=(.ended o w,ops)/\Good P (After P R ap s₀) m o w (t++ops))∨(∃m' ops az,stepT P m=(.next m',ops)/\az<ay/\Qi P R ap s₀ az m' (t++ops)):=by
 obtain⟨gs,w,sl,q,Sh,g,s,rfl,hC,bi,rfl,a0,a1,a2,a3⟩:=h;obtain⟨ac,v,a4,a5⟩:=bi;have bn:∀x∈gs,awake x:=by
  intro x Y;obtain⟨i,hi,rfl⟩:=Array.mem_iff_getElem.1 Y;rcases Nat.eq_zero_or_pos i with rfl | aq
  ·have:gs[0]=g:=by simpa [Array.getElem?_eq_getElem hi] using hC.main
   rw [this];exact awake_of (.inl ac)
  ·exact awake_of ((hC.lv.old i _ aq (Array.getElem?_eq_getElem hi)).status.elim .inl λx=> .inr (.inr x))
 obtain⟨i,x,d,a6,hi,Y,a7⟩:=crowd_pick (P:=P) (w:=w) (sl:=sl) bn ⟨0,g,hC.main,ac⟩;have a8:=hC.at_ d;have bo:0<gs.size:=(Array.getElem?_eq_some_iff.1 hC.main).1;have bv:∀(a:Nat) (fn:FuncId) (pos:String),MemOp.ofEvents a fn pos #[]= #[]:=λa fn pos=>by rw [ofEvents_eq];simp
 rcases Nat.eq_zero_or_pos i with rfl | aq
 ·obtain rfl:x=g:=by rw [hC.main] at hi;exact(Option.some.inj hi).symm
  have ag:=runT_many_ended (P:=P) (sl:=a6) (i:=0) hi (show stepG P (0==0) x (w.at d)=_ from a5 (w.at d));rw [bv] at ag;refine .inl ⟨_,_,_,a7.trans ag,v,rfl,⟨s,a4,a8.B7.fits 0 bo,a0,a1,a2,a3⟩,?_,?_,⟨λy K=>?_,rfl⟩,λj y K O=>?_⟩
  ·simpa using hC.B7.clean
  ·simpa using hC.over
  ·obtain⟨j,O⟩:=List.mem_iff_getElem?.1 K;rw [List.getElem?_drop] at O;exact⟨_,(hC.lv.old (1+j) y (by omega) (by simpa [crowd] using O)).leaves⟩
  ·have Z:=hC.lv.old j y (by omega) K;exact⟨q j,by simp only [Array.append_empty];exact Z.hears w⟩
 ·have Z:=hC.lv.old i x aq hi;have bw:(i==0)=false:=by simp;omega
  have a9:i<gs.size:=(Array.getElem?_eq_some_iff.1 hi).1;cases av:q i with
  | zero=>rw [av] at Z;rw [Z.1] at Y;cases Y
  | succ k=>
   rw [av] at Z;rcases Z with⟨bx,_⟩ | ⟨_,x',es,hm,bz,bT⟩
   ·rw [bx] at Y;cases Y
   have bY:sumTo gs.size (upd q i k)+(k+1)=sumTo gs.size q+k:=by
    have:=sumTo_upd q k id a9;simpa [av] using this
   have ag:=runT_crowd_go (P:=P) (sl:=a6) (i:=i) hi (by rw [bw];exact bz (w.at d));have aw:((gs.map (woken P x x' (w.at d))).setIfInBounds i x').size=gs.size:=by simp
   have al:∀op∈MemOp.ofEvents i x.frame.fn x.frame.place es,op.g=i:=λop U=>by obtain⟨e,_,rfl⟩:=mem_ofEvents U;rfl
   have bb:∀op∈MemOp.ofEvents i x.frame.fn x.frame.place es,op.act.touch? =none:=λop U=>by obtain⟨e,he,rfl⟩:=mem_ofEvents U;exact touch_mute (hm e he)
   have bU:Hx P ((gs.map (woken P x x' (w.at d))).setIfInBounds i x') (w.at d) (t++MemOp.ofEvents i x.frame.fn x.frame.place es) (upd q i k) Sh g s:=by
    refine⟨?_,⟨λj y O K=>?_,λj O=>?_⟩,?_,?_,?_⟩
    ·have bV:i≠0:=by omega
     rw [Array.getElem?_setIfInBounds_ne bV,Array.getElem?_map,hC.main];simp [woken_run ac]
    ·by_cases am:i=j
     ·subst am;rw [Array.getElem?_setIfInBounds_self_of_lt (by simpa using a9)] at K;obtain rfl:=Option.some.inj K;rw [upd_same,Deaf_own];exact bT
     ·rw [Array.getElem?_setIfInBounds_ne am,Array.getElem?_map] at K;obtain⟨z,bW,rfl⟩:=Option.map_eq_some_iff.1 K;have be:=hC.lv.old j z O bW;rw [woken_quitsD be,upd_ne q k (Ne.symm am),Deaf_other t am _ al];exact be
    ·rw [Deaf_other t (g':=i) (by simp at O;omega) _ al];exact hC.lv.above j (by simpa using O)
    ·rw [aw];exact a8.B7.mute al bb (λop U=>by obtain⟨e,he,rfl⟩:=mem_ofEvents U;exact low_mute (hm e he) _) rfl
    ·exact handedOver_app hC.over λop U=> .inr (bb op U)
    ·rw [Deaf_other t (by omega) _ al];exact hC.hears
   exact .inr ⟨_,_,_,a7.trans ag,by rw [← aw];rw [aw];omega,_,_,_,_,_,_,_,rfl,bU,⟨ac,v,a4,a5⟩,rfl,a0,a1,a2,a3⟩
theorem ends{gs:Array Goroutine}{w:World}{sl:Option (Nat×Nat)}{t:Trace}{q:Nat->Nat}{Sh:Nat->Prop}{g:Goroutine}{s:St}(hC:Hx P gs w t q Sh g s)(O:Ma P R g s):
  ∃N last o w' K,runNT P (N+1) (crowd gs w sl) t=(.ended o w',K)/\runN P N (crowd gs w sl)= .next last/\step P last= .ended o w'/\Good P (After P R w s) last o w' K:=
 run_of_inv Nat.lt_wfRel.wf (Qi P R w s) (Good P (After P R w s)) WA _ _ _ ⟨gs,w,sl,q,Sh,g,s,rfl,hC,O,rfl,λ_ _ h=>h,rfl,.refl _,rfl⟩
theorem Vo{m m':Machine}{t K:Trace}{n:Nat}(h:runNT P n m t=(.next m',K)):runN P n m= .next m':=by rw [← runNT_fst P n m t,h]
def G1(W:World):St:=⟨λb=>W.heap[b]?,λ_=>none,false⟩
theorem WE{W:World}{g:Goroutine}(h:(GN P).ok (Ma P R) g (G1 W)):
  ∃M last o w' K,runNT P (M+1) (solo g W) #[]=(.ended o w',K)/\runN P M (solo g W)= .next last/\step P last= .ended o w'/\Good P (After P R W (G1 W)) last o w' K:=by
 have hC:Hx P #[g] W #[] (λ_=>0) (λ_=>False) g (G1 W):=by
  have Y:∀{i:Nat} {a:Touch},touchAt #[] i=some a->False:=λ{i a} h=>by simp [touchAt,Trace.act?] at h
  refine⟨rfl,leavers_one P g,⟨λi hi=>?_,λi j hi ac bi=>by simp at hi ac;omega,λi hi b hb=>hb.elim,λb hb=>hb.elim,λsaid=>?_,by simp,λi _ b _ x a O=>(Y O).elim,λi _ b _ x a O=>(Y O).elim⟩,λi g ag=>by simp [Trace.g?] at ag,rfl⟩
  ·have:i=0:=by simp at hi;exact hi
   subst this;exact⟨λb o U=>U,λb o U=>(by cases U),λb _=>rfl⟩
  ·rintro⟨i,j,_,⟨a,b,al,_⟩,_⟩;simp [Trace.act?] at al
 obtain⟨n,gs',w',am,K,q',bn,g',s',Z,ap,aq,av,aw,ay,az⟩:=h #[g] W none #[] _ _ hC;obtain⟨N,last,o,a0,a2,k1,a3,a4,a5⟩:=ends (sl:=am) ap aq;refine⟨n+N,last,o,a0,a2,?_,?_,a4,?_⟩
 ·rw [solo_eq_crowd,Nat.add_assoc,runNT_add,Z];exact k1
 ·have a6:=Vo Z;rw [solo_eq_crowd,runN_add,a6];exact a3
 ·obtain⟨v,e,⟨s2,a1,a7,a8,a9,bb,be⟩,r⟩:=a5;exact⟨v,e,⟨s2,a1,a7,λb o hb=>a8 b o (av b o hb),a9.trans aw,ay.trans bb,be.trans az⟩,r⟩
end
end Pal
namespace Pal
open Go Go.Conc
theorem VW{P:Program}{Q:Gs_}{E H:LH}{f:FuncId}{fn:Func}{c:Code}{vs:Lv_}(U:P.funcs[f]? =some fn)(hb:fn.body=some c)(ag:fn.ntmps=fn.ntmps)(al:vs.length<=fn.ntmps)
  (h:JL (GN P) Q (base f) fn.ntmps (Gh 0 vs) [] [.code c] [] (Aj E H [[]])):(GN P).ok Q (G (Frame.enter P f vs.toArray .normal) []) (mk E H []):=by
 have he:Frame.enter P f vs.toArray .normal=fr (base f) (vs.toArray++Array.replicate (fn.ntmps - vs.length) undef) [] [.code c]:=by
  simp [Frame.enter,fr,U,hb,base];rfl
 rw [he];have Y:mk E H []=Aj E H [[]]:=by unfold Aj;simp
 rw [Y];refine h _ ⟨by simp;omega,λt v Z=>?_⟩;obtain⟨_,K⟩:=JE Z;have ac:t<vs.length:=by
  rcases Nat.lt_or_ge t vs.length with O | O
  ·exact O
  ·simp at K;have:=(List.getElem?_eq_some_iff.1 K).1;omega
 rw [Array.getD_eq_getD_getElem?,Array.getElem?_append_left (by simpa using ac)];simp at K;simp [K]
end Pal
namespace Pal
open Go Go.Conc Go.Proofs Go.ChangeShapes Go.WideShapes Go.ChangeAt Go.RowKit
open Go.Proofs.YtmeophcclkejkaaGreat
theorem Tryz.own:ownKnob Tryz.prog.godebug=none:=by kernel_rfl
theorem Tryz.laidOut:laidOutB Tryz.prog=true:=by kernel_rfl
theorem Tryz.ZA:Tryz.prog.cellsOf 3=1:=by kernel_rfl
theorem UR{R:Value->St->Prop}{W w':World}{v:Value}(h:After Tryz.prog R W (G1 W) v w'):(∃s,R v s)/\Below W.heap.size W {w' with os:=W.os}/\Go.ConcM.OsLater W.os w'.os:=by
 obtain⟨s,Y,Z,ac,ag,al,am⟩:=h;have hb:∀k,k<W.heap.size->w'.heap[k]? =W.heap[k]? :=λk O=>by
  have K:(G1 W).E k=some W.heap[k]:=Array.getElem?_eq_getElem O;have U:=Z.e k _ (ac k _ K);rw [U,Array.getElem?_eq_getElem O]
 refine⟨⟨s,Y⟩,⟨rfl,ag,am,?_,hb⟩,al⟩;show W.heap.size<=w'.heap.size;rcases Nat.eq_zero_or_pos W.heap.size with ap | ap
 ·omega
 ·have K:=hb (W.heap.size - 1) (by omega);have aq:W.heap[W.heap.size - 1]? =some W.heap[W.heap.size - 1]:=Array.getElem?_eq_getElem (by omega);rw [aq] at K;have U:=(Array.getElem?_eq_some_iff.1 K).1;omega
theorem Rn(a:Addr):a.add 0=a:=by unfold Addr.add;rw [if_pos rfl]
section
variable {H:Type}{enc:TypeId×Value->H}{W:World}{fuel:Nat}{cs:Lv_}{x:DataW H×List MemPlace}
theorem Xd{b off:Nat}{v:Value}(h:W.cell? ⟨b,off,none⟩=some v):At (G1 W).E b off [v]:=by
 unfold World.cell? at h;split at h
 ·rename_i c e f hW;simp only [Option.isSome_none,Bool.false_eq_true,if_false] at h;refine⟨c,e,f,hW,λj w K=>?_⟩
  match j,K with
  | 0,K=>simp at K;subst K;simpa using h
  | j+1,K=>simp at K
 ·cases h
theorem Wj{b off:Nat}(O:0<cs.length)(h:∀j,j<cs.length->W.cell? ⟨b,off+j,none⟩=cs[j]?):At (G1 W).E b off cs:=by
 have U:=h 0 O;rw [List.getElem?_eq_getElem O] at U;obtain⟨f,e,fr,Y,_⟩:=Xd U;have hW:W.heap[b]? =some (.cells f e fr):=Y;refine⟨f,e,fr,Y,λj w Z=>?_⟩;have ac:=(List.getElem?_eq_some_iff.1 Z).1;have K:=h j ac;rw [Z] at K;unfold World.cell? at K;simp only [hW] at K;simpa using K
theorem Zx{α:Type}{p:Rp α}{t e:TypeId}(a1:Tryz.prog.underlying t=some (.slice e))(a2:Tryz.prog.cellsOf e=p.n)(a3:0<p.n)
  (a4:∀n cs x,DataW.trod enc Tryz.prog W 0 (λ_=>true) true n e cs=some x->∃v,p.r (G1 W).E cs v)
  (a5:DataW.trod enc Tryz.prog W 0 (λ_=>true) true fuel t cs=some x):∃(a:Option Addr) (c:Nat) (aq:List α),cs= [.slice a aq.length c]/\Am p (G1 W).E a c aq:=by
 rcases DataW.trod_slice a1 a5 with⟨ac,a6⟩ | ⟨a,len,cap,elems,rest,n,_,ac,a6,_,a7,_,hlen,av,aw,_⟩
 ·exact⟨none,0,[],ac,Am.nil⟩
 ·rw [a2] at av aw;rcases Nat.eq_zero_or_pos cap with ay | ay
  ·have:len=0:=by omega
   subst this;subst ay;exact⟨some a,0,[],ac,Nat.le_refl _,.inl ⟨rfl,λ_ _=> .inr rfl⟩⟩
  ·have az:∀i,i<len->∃vs y,vs.length=p.n/\(∀j,j<p.n->W.cell? ((a.add (i*p.n)).add j)=vs[j]?)/\DataW.trod enc Tryz.prog W 0 (λ_=>true) true n e vs=some y:=λi hi=>by
    have K:=av i hi;rw [List.getElem?_eq_getElem (by omega)] at K;obtain⟨vs,al,Y⟩:=Option.bind_eq_some_iff.1 K;obtain⟨_,O,am⟩:=World.cells?_some al;exact⟨vs,_,O,am,Y⟩
   have ap:a.spot=none:=by
    have key:∀vs:Lv_,vs.length=p.n->(∀j,j<p.n->W.cell? ((a.add (0*p.n)).add j)=vs[j]?)->a.spot=none:=λvs ag U=>by
     have:=U 0 a3;rw [List.getElem?_eq_getElem (by omega),Rn,Nat.zero_mul,Rn] at this;exact World.cell?_spot this
    rcases Nat.eq_zero_or_pos len with K | K
    ·obtain⟨al,Y⟩:=aw rfl;have O:=Y 0 (by omega);rw [List.getElem?_eq_getElem (by omega)] at O;obtain⟨vs,am,_⟩:=Option.bind_eq_some_iff.1 O;obtain⟨_,ag,U⟩:=World.cells?_some am;rw [K] at U;exact key vs ag U
    ·obtain⟨vs,y,ag,U,_⟩:=az 0 K;exact key vs ag U
   have a0:∀i:Fin len,∃z:α,∃vs,p.r (G1 W).E vs z/\At (G1 W).E a.block (a.off+i*p.n) vs:=λi=>by
    obtain⟨vs,y,al,Y,O⟩:=az i i.2;obtain⟨z,Z⟩:=a4 _ _ _ O;refine⟨z,vs,Z,Wj (by omega) λj a8=>?_⟩;have:=Y j (by omega);rw [Dz ap,Dz rfl] at this;exact this
   refine⟨some a,cap,List.ofFn λi=>Classical.choose (a0 i),by simpa using ac,by simpa using a7,.inr ⟨a.block,a.off,?_,λi z Z=>?_⟩⟩
   ·obtain⟨b,o,s⟩:=a;simp only at ap;subst ap;rfl
   ·have hi:i<len:=by have:=(List.getElem?_eq_some_iff.1 Z).1;simpa using this
    simp [hi] at Z;have:=Classical.choose_spec (a0 ⟨i,hi⟩);rw [Z] at this;exact this
theorem XE(h:DataW.trod enc Tryz.prog W 0 (λ_=>true) true fuel 3 cs=some x):∃z:Int,cs= [iV z]:=by
 obtain⟨n1,K,_⟩:=DataW.trod_int Tryz.underlying3 h;exact⟨n1,K⟩
theorem WQ(O:DataW.trod enc Tryz.prog W 0 (λ_=>true) true fuel 28 cs=some x):∃(a:Option Addr) (c:Nat) (K:List Int),cs= [.slice a K.length c]/\Am rI (G1 W).E a c K:=
 Zx (p:=rI) Tryz.underlying28 Tryz.ZA Nat.one_pos (λn cs x h=>by
  obtain⟨z,rfl⟩:=XE h
  exact⟨z,rfl⟩) O
theorem W7{v:Value}{O:Nat}{d:DataW H}{p:List MemPlace}(U:Value.okWide Tryz.prog W .any O 28 v)(hd:DataW.Trod enc Tryz.prog W 0 (λ_=>true) true 28 v d p):
  ∃(a:Option Addr) (c:Nat) (K:List Int),v= .slice a K.length c/\Am rI (G1 W).E a c K:=by
 obtain⟨Z,len,cap,rfl⟩:=okWide_slice Tryz.underlying28 U;obtain⟨fuel,Y⟩:=hd;obtain⟨a,c,K,e,g⟩:=WQ Y;simp [Value.cells] at e;obtain⟨rfl,rfl,rfl⟩:=e;exact⟨_,_,_,rfl,g⟩
end
end Pal
namespace Pal
open Go Go.Conc
def Hv(K:Bool)(ws:Lv_):Value:=if K then .agg ws.toArray else ws.headD undef
def Vr{α:Type}(pp:Rp α)(K:Bool)(E:LH)(v:Value)(x:α):Prop:=∃ws,pp.r E ws x/\v=Hv K ws
theorem Vr.Ah{α:Type}{pp:Rp α}{K:Bool}{E E':LH}{v:Value}{x:α}(h:Vr pp K E v x)(hle:Le E E'):Vr pp K E' v x:=
 let ⟨ws,O,U⟩:=h;⟨ws,pp.Ah hle O,U⟩
structure Gz (P:Program) (t:TypeId) {κ:Type} [DecidableEq κ] (pk:Rp κ) (ka:Bool):Prop where
 BM:∀{em:Bool} {E:LH} {v:Value} {x:κ} {s:St} {Q:Unit->St->Prop} {X:Halt->St->Prop},Vr pk ka E v x->Q () s->lp P (Instr.checkKey em 10000 t v) s Q X
 kind:∃kd,P.underlying t=some kd/\((∀v w,Instr.sameNow kd v w=none)∨∀{E:LH} {v w:Value} {x y:κ},Vr pk ka E v x->Vr pk ka E w y->Instr.sameNow kd v w=some (decide (x=y)))
 eq:∀{E:LH} {v w:Value} {x y:κ} {s:St} {Q:Bool->St->Prop} {X:Halt->St->Prop},Vr pk ka E v x->Vr pk ka E w y->Q (decide (x=y)) s->lp P (Op.equal t v w) s Q X
 same:∀{E:LH} {v:Value} {x:κ},Vr pk ka E v x->Instr.sameBits 10000 v v=true
 uniq:∀{E:LH} {v w:Value} {x:κ},Vr pk ka E v x->Vr pk ka E w x->v=w
section
variable {κ ν:Type} [DecidableEq κ] {pk:Rp κ}{pv:Rp ν}{ka va:Bool}{E E':LH}
def Dv(pk:Rp κ)(ka:Bool)(pv:Rp ν)(va:Bool)(E:LH):List MapEntry->List (κ×ν)->Prop
 | [],[]=>True
 | e::es,x::xs=>Vr pk ka E e.key x.1/\Vr pv va E e.val x.2/\Dv pk ka pv va E es xs
 | _,_=>False
theorem Dv.Ah(hle:Le E E'):∀{es:List MapEntry} {xs:List (κ×ν)},Dv pk ka pv va E es xs->Dv pk ka pv va E' es xs
 | [],[],_=>trivial
 | e::es,x::xs,h=>⟨h.1.Ah hle,h.2.1.Ah hle,Dv.Ah hle h.2.2⟩
 | [],_::_,h=>h.elim
 | _::_,[],h=>h.elim
theorem Dv.len:∀{es:List MapEntry} {xs:List (κ×ν)},Dv pk ka pv va E es xs->es.length=xs.length
 | [],[],_=>rfl
 | e::es,x::xs,h=>by simp [Dv.len h.2.2]
 | [],_::_,h=>h.elim
 | _::_,[],h=>h.elim
def Gp(x:κ):List MapEntry->List (κ×ν)->Nat->Option (Nat×Value)
 | e::es,y::ys,i=>if x=y.1 then some (i,e.val) else Gp x es ys (i+1)
 | _,_,_=>none
def BI(xs:List (κ×ν))(x:κ):Option ν:=(xs.find? λy=>decide (x=y.1)).map (·.2)
def Da(xs:List (κ×ν))(x:κ)(v:ν):List (κ×ν):=match xs with
 | []=> [(x,v)]
 | y::ys=>if x=y.1 then(x,v)::ys else y::Da ys x v
theorem Sk{x:κ}:∀{es:List MapEntry} {xs:List (κ×ν)} {i:Nat},Dv pk ka pv va E es xs->(Gp x es xs i=none/\BI xs x=none)∨∃j w v0,Gp x es xs i=some (j,w)/\BI xs x=some v0/\Vr pv va E w v0
 | [],[],i,_=> .inl ⟨rfl,rfl⟩
 | e::es,y::ys,i,h=>by
  unfold Gp BI
  by_cases K:x=y.1
  ·exact .inr ⟨i,e.val,y.2,by rw [if_pos K],by simp [K],h.2.1⟩
  ·rcases Sk (x:=x) (i:=i+1) h.2.2 with⟨O,U⟩ | ⟨j,w,v0,O,U,Y⟩
   ·exact .inl ⟨by rw [if_neg K];exact O,by simpa [K,BI] using U⟩
   ·exact .inr ⟨j,w,v0,by rw [if_neg K];exact O,by simpa [K,BI] using U,Y⟩
 | [],_::_,_,h=>h.elim
 | _::_,[],_,h=>h.elim
theorem Dv.put{x:κ}{v0:ν}{O w:Value}(U:Vr pk ka E O x)(hw:Vr pv va E w v0)(Z:Nat):∀{es:List MapEntry} {xs:List (κ×ν)} {i:Nat},Dv pk ka pv va E es xs->
  (Gp x es xs i=none/\Dv pk ka pv va E (es++ [{key:=O,val:=w,born:=Z}]) (Da xs x v0))∨
  ∃j u,Gp x es xs i=some (i+j,u)/\j<es.length/\(∀e,es[j]? =some e->Vr pk ka E e.key x)/\Dv pk ka pv va E (es.modify j λe=>{e with key:=O,val:=w}) (Da xs x v0)
 | [],[],i,_=> .inl ⟨rfl,U,hw,trivial⟩
 | e::es,y::ys,i,h=>by
  unfold Gp Da
  by_cases K:x=y.1
  ·refine .inr ⟨0,e.val,by rw [if_pos K];rfl,by simp,λac he=>?_,?_⟩
   ·simp at he;subst he;rw [K];exact h.1
   ·rw [if_pos K];exact⟨U,hw,h.2.2⟩
  ·rcases Dv.put U hw Z (i:=i+1) h.2.2 with⟨Y,ag⟩ | ⟨j,u,Y,ag,al,am⟩
   ·exact .inl ⟨by rw [if_neg K];exact Y,by rw [if_neg K];exact⟨h.1,h.2.1,ag⟩⟩
   ·refine .inr ⟨j+1,u,by rw [if_neg K,Y];congr 2;omega,by simp;omega,λac he=>al ac (by simpa using he),?_⟩;rw [if_neg K];exact⟨h.1,h.2.1,am⟩
 | [],_::_,_,h=>h.elim
 | _::_,[],_,h=>h.elim
def KG(pk:Rp κ)(ka:Bool)(pv:Rp ν)(va:Bool)(E:LH)(o:Obj)(xs:List (κ×ν)):Prop:=
 ∃es clock,o= .map es clock/\Dv pk ka pv va E es.toList xs/\(es.toList.map (·.born)).Pairwise (·<·)/\∀e∈es.toList,e.born<clock
theorem KG.Ah{o:Obj}{xs:List (κ×ν)}(h:KG pk ka pv va E o xs)(hle:Le E E'):KG pk ka pv va E' o xs:=
 let ⟨es,c,K,O,U⟩:=h;⟨es,c,K,O.Ah hle,U⟩
variable {P:Program}{s:St}{t tm te:TypeId}{X:Halt->St->Prop}
theorem Qw(U:Gz P t pk ka){k:Value}{x:κ}(Y:Vr pk ka E k x){Q:Option (Nat×Value)->St->Prop}:∀{es:List MapEntry} {xs:List (κ×ν)} {i:Nat},Dv pk ka pv va E es xs->Q (Gp x es xs i) s->lp P (Instr.findAsking t k es i) s Q X
 | [],[],i,_,h=>h
 | e::es,y::ys,i,h,K=>by
  unfold Instr.findAsking
  refine As _ _ (U.eq Y h.1 ?_)
  unfold Gp at K
  by_cases O:x=y.1
  ·rw [decide_eq_true O]
   rw [if_pos O] at K;exact K
  ·rw [decide_eq_false O];rw [if_neg O] at K;exact Qw U Y h.2.2 K
 | [],_::_,_,h,_=>h.elim
 | _::_,[],_,h,_=>h.elim
theorem QP{kd:TypeDesc}{k:Value}{x:κ}(O:Vr pk ka E k x)(U:∀{E:LH} {v w:Value} {x y:κ},Vr pk ka E v x->Vr pk ka E w y->Instr.sameNow kd v w=some (decide (x=y))):∀{es:List MapEntry} {xs:List (κ×ν)} {i:Nat},Dv pk ka pv va E es xs->Instr.findNow kd k es i=some (Gp x es xs i)
 | [],[],i,_=>rfl
 | e::es,y::ys,i,h=>by
  unfold Instr.findNow Gp
  rw [U O h.1]
  by_cases K:x=y.1
  ·simp [K]
  ·simp only [decide_eq_false K,if_neg K];exact QP O U h.2.2
 | [],_::_,_,h=>h.elim
 | _::_,[],_,h=>h.elim
theorem OM(O:Gz P t pk ka){k:Value}{x:κ}(U:Vr pk ka E k x){Q:Option (Nat×Value)->St->Prop}{es:List MapEntry}{xs:List (κ×ν)}(h:Dv pk ka pv va E es xs)(K:Q (Gp x es xs 0) s):lp P (Instr.findKey t k es) s Q X:=by
 unfold Instr.findKey;obtain⟨kd,Y,Z | ac⟩:=O.kind
 ·refine As _ _ (Cd Y ?_);cases es with
  | nil=>
   cases xs with
   | nil=>exact K
   | cons y ys=>exact h.elim
  | cons e es=>
   have ag:Instr.findNow kd k (e::es) 0=none:=by unfold Instr.findNow;rw [Z]
   rw [ag];exact Qw O U h K
 ·refine As _ _ (Cd Y ?_);rw [QP U ac h];exact K
theorem Wc(O:Gz P t pk ka)(hm:P.underlying tm=some (.map t te)){z:Value}{z0:ν}(Z:zeroOf P te=some z)(ac:Vr pv va E z z0){bk:Nat}{o:Obj}{xs:List (κ×ν)}{k:Value}{x:κ}(ag:s.get bk=some o)(al:KG pk ka pv va E o xs)(U:Vr pk ka E k x)(ok:Bool){Q:Value->St->Prop}
  (h:∀w,Vr pv va E w ((BI xs x).getD z0)->Q (if ok then .tuple #[w,.bool (BI xs x).isSome] else w) s):lp P (Instr.lookup tm (.map (some bk)) k ok) s Q X:=by
 obtain⟨es,c,rfl,Y,ap,aq⟩:=al;unfold Instr.lookup;refine As _ _ (Cd hm ?_);refine As _ _ ?_;unfold getObj;simp only [bind,Sem.bind,lp];refine⟨_,ag,rfl,?_⟩;refine As (x:=Instr.checkKey _ 10000 t k) _ (O.BM U ?_);refine As (x:=Instr.findKey t k es.toList) _ (OM O U Y ?_);rcases Sk (x:=x) (i:=0) Y with⟨K,e2⟩ | ⟨j,w,v0,K,e2,am⟩
 ·rw [K];simp only;refine As (x:=zeroValue te) _ (HD Z ?_);have:=h z (by rw [e2];exact ac);rw [e2] at this;exact this
 ·rw [K];have:=h w (by rw [e2];exact am);rw [e2] at this;exact this
theorem UQ(O:Gz P t pk ka)(hm:P.underlying tm=some (.map t te)){bk:Nat}{o:Obj}{xs:List (κ×ν)}{k w:Value}{x:κ}{v0:ν}(am:s.get bk=some o)(Z:s.H bk=some o)(ap:KG pk ka pv va E o xs)(K:Vr pk ka E k x)(hw:Vr pv va E w v0){Q:Unit->St->Prop}
  (h:∀o',KG pk ka pv va E o' (Da xs x v0)->Q () (s.upd bk o')):lp P (Instr.mapUpdate tm (.map (some bk)) k w) s Q X:=by
 obtain⟨es,c,rfl,ac,ag,U⟩:=ap;unfold Instr.mapUpdate;refine As _ _ (Cd hm ?_);unfold getObj;simp only [bind,Sem.bind,lp];refine⟨_,am,rfl,?_⟩;refine As (x:=Instr.checkKey false 10000 t k) _ (O.BM K ?_);refine As (x:=Instr.findKey t k es.toList) _ (OM O K ac ?_);rcases Dv.put K hw c (i:=0) ac with⟨Y,e2⟩ | ⟨j,u,Y,e2,aq,av⟩
 ·rw [Y];simp only [setObj,lp];refine⟨⟨_,Z,rfl⟩,rfl,h _ ⟨es.push {key:=k,val:=w,born:=c},c+1,rfl,by simpa using e2,?_,?_⟩⟩
  ·rw [Array.toList_push,List.map_append,List.pairwise_append];refine⟨ag,by simp,λa aw b hb=>?_⟩;simp at hb;subst hb;obtain⟨e,he,rfl⟩:=List.mem_map.1 aw;exact U e he
  ·intro e he;rw [Array.toList_push] at he;rcases List.mem_append.1 he with he | he
   ·have:=U e he;omega
   ·simp at he;subst he;simp
 ·rw [Y];have al:es[j]? =some (es[j]'(by simpa using e2)):=Array.getElem?_eq_getElem (by simpa using e2);have ay:(es[j]'(by simpa using e2)).key=k:=O.uniq (aq _ (by rw [Array.getElem?_toList];exact al)) K;simp only [Nat.zero_add,al,Option.map_some,Option.getD_some,ay];refine As (x:=Instr.keyThatStays k k) _ ?_;unfold Instr.keyThatStays;rw [if_pos (O.same K)];simp only [lp,pure,setObj];refine⟨⟨_,Z,rfl⟩,rfl,h _ ⟨_,c,rfl,by simpa using av,?_,?_⟩⟩
  ·have:(es.modify j λe=>{e with key:=k,val:=w}).toList.map (·.born)=es.toList.map (·.born):=by
    rw [Array.toList_modify];apply List.ext_getElem?;intro q;simp only [List.getElem?_map,List.getElem?_modify];split <;> cases es.toList[q]? <;> rfl
   rw [this];exact ag
  ·intro e he;rw [Array.toList_modify] at he;obtain⟨q,az,rfl⟩:=List.mem_iff_getElem.1 he;rw [List.getElem_modify];have a0:q<es.toList.length:=by simpa using az
   split
   ·show(es.toList[q]'a0).born<c;exact U _ (List.getElem_mem _)
   ·exact U _ (List.getElem_mem _)
end
end Pal
namespace Pal
open Go Go.Conc
theorem SG{l us r:Lv_}:∀j w,us[j]? =some w->(l++us++r).toArray[l.length+j]? =some w:=λj w h=>by
 have K:j<us.length:=(List.getElem?_eq_some_iff.1 h).1
 rw [List.getElem?_toArray,List.append_assoc,List.getElem?_append_right (by omega),show l.length+j - l.length=j by omega,List.getElem?_append_left K]
 exact h
section
variable {P:Program}{s:St}{t e:TypeId}{X:Halt->St->Prop}
theorem K5{c:Av_}{off:Nat}{us:Lv_}{O:Bool}(Y:Db P e=some O)(Z:Bh P e=some us.length)(ac:O=false->us.length=1)(hw:∀j w,us[j]? =some w->c[off+j]? =some w)
  {Q:Value->St->Prop} (k:Q (Hv O us) s):lp P (Go.part e c off) s Q X:=by
 unfold Go.part;refine As (x:=isAgg e) _ (M7 Y ?_);cases O with
 | true=>
  simp only [if_true];refine As (x:=Go.sizeOf e) _ (EH Z ?_);have ag:c.extract off (off+us.length)=us.toArray:=by
   apply Array.ext_getElem?;intro j;by_cases U:j<us.length
   ·have K:=hw j us[j] (List.getElem?_eq_getElem U);have al:off+j<c.size:=(Array.getElem?_eq_some_iff.1 K).1;simp only [Array.getElem?_extract];rw [if_pos (by omega),K];simp [U]
   ·simp only [Array.getElem?_extract];rw [if_neg (by omega)];simp;omega
  show Q (.agg (c.extract off (off+us.length))) s;rw [ag];exact k
 | false=>
  obtain⟨w,rfl⟩:∃w,us= [w]:=by
   match us,ac rfl with
   | [w],_=>exact⟨w,rfl⟩
  have K:=hw 0 w rfl;rw [Nat.add_zero] at K;simp only [Bool.false_eq_true,if_false,K];exact k
end
structure B4 (P:Program) (t:TypeId) {α:Type} [DecidableEq α] (pp:Rp α) (K:Bool) (dep:Nat):Prop where
 agg:Db P t=some K
 size:Bh P t=some pp.n
 one:K=false->pp.n=1
 eq:∀{n:Nat} {E E':LH} {ws ws':Lv_} {x y:α} {s:St} {Q:Bool->St->Prop} {X:Halt->St->Prop},dep<=n->pp.r E ws x->pp.r E' ws' y->Q (decide (x=y)) s->lp P (Op.equalIn n t (Hv K ws) (Hv K ws')) s Q X
 BM:∀{n:Nat} {em:Bool} {E:LH} {ws:Lv_} {x:α} {s:St} {Q:Unit->St->Prop} {X:Halt->St->Prop},dep<=n->pp.r E ws x->Q () s->lp P (Instr.checkKey em n t (Hv K ws)) s Q X
 uniq:∀{E E':LH} {ws ws':Lv_} {x:α},pp.r E ws x->pp.r E' ws' x->ws=ws'
 same:∀{E:LH} {ws:Lv_} {x:α},pp.r E ws x->∀w∈ws,∀m,Instr.sameBits (m+1) w w=true
 now:∃kd,P.underlying t=some kd/\((∀v w,Instr.sameNow kd v w=none)∨∀{E E':LH} {ws ws':Lv_} {x y:α},pp.r E ws x->pp.r E' ws' y->Instr.sameNow kd (Hv K ws) (Hv K ws')=some (decide (x=y)))
section
variable {P:Program}{t e:TypeId}
theorem B4.int{kd:IntKind}(U:P.underlying t=some (.int kd))(Y:Bh P t=some 1):B4 P t (rK kd) false 1 where
 agg:=by unfold Db;rw [U]
 size:=Y
 one _:=rfl
 eq {n E E' ws ws' x y s Q X} Z K O k:=by
  obtain⟨m,rfl⟩:∃m,n=m+1:=⟨n - 1,by omega⟩;have K:ws= [.int kd x]:=K;have O:ws'= [.int kd y]:=O;subst K O;refine Tg U ?_;have e:(x==y)=decide (x=y):=by by_cases h:x=y <;> simp [h]
  rw [e];exact k
 BM {n em E ws x s Q X} Z K k:=by
  obtain⟨m,rfl⟩:∃m,n=m+1:=⟨n - 1,by omega⟩;have K:ws= [.int kd x]:=K;subst K;unfold Instr.checkKey;refine As _ _ (Cd U ?_);exact k
 uniq K O:=by
  have K:_= [Value.int kd _]:=K;have O:_= [Value.int kd _]:=O;rw [K,O]
 same {E ws x} h w hw m:=by
  have h:ws= [Value.int kd x]:=h;subst h;simp at hw;subst hw;simp [Instr.sameBits]
 now:=⟨_,U,.inr λ{E E' ws ws' x y} K O=>by
  have K:ws= [.int kd x]:=K
  have O:ws'= [.int kd y]:=O
  subst K O
  have e:(x==y)=decide (x=y):=by by_cases h:x=y <;> simp [h]
  show(if kd=kd then some (x==y) else none)=_
  rw [if_pos rfl,e]⟩
theorem B4.nat{kd:IntKind}(U:P.underlying t=some (.int kd))(Z:Bh P t=some 1):B4 P t (rN kd) false 1 where
 agg:=by unfold Db;rw [U]
 size:=Z
 one _:=rfl
 eq {n E E' ws ws' x y s Q X} ac K O k:=by
  obtain⟨m,rfl⟩:∃m,n=m+1:=⟨n - 1,by omega⟩;have K:ws= [.int kd ((x:Nat):Int)]:=K;have O:ws'= [.int kd ((y:Nat):Int)]:=O;subst K O;refine Tg U ?_;have e:((x:Int)==(y:Int))=decide (x=y):=by
   by_cases h:x=y
   ·simp [h]
   ·have Y:¬(x:Int)=(y:Int):=by omega
    simp [h,Y]
  rw [e];exact k
 BM {n em E ws x s Q X} ac K k:=by
  obtain⟨m,rfl⟩:∃m,n=m+1:=⟨n - 1,by omega⟩;have K:ws= [.int kd ((x:Nat):Int)]:=K;subst K;unfold Instr.checkKey;refine As _ _ (Cd U ?_);exact k
 uniq K O:=by
  have K:_= [Value.int kd _]:=K;have O:_= [Value.int kd _]:=O;rw [K,O]
 same {E ws x} h w hw m:=by
  have h:ws= [Value.int kd ((x:Nat):Int)]:=h;subst h;simp at hw;subst hw;simp [Instr.sameBits]
 now:=⟨_,U,.inr λ{E E' ws ws' x y} K O=>by
  have K:ws= [.int kd ((x:Nat):Int)]:=K
  have O:ws'= [.int kd ((y:Nat):Int)]:=O
  subst K O
  have e:((x:Int)==(y:Int))=decide (x=y):=by
   by_cases h:x=y
   ·simp [h]
   ·have Y:¬(x:Int)=(y:Int):=by omega
    simp [h,Y]
  show(if kd=kd then some ((x:Int)==(y:Int)) else none)=_
  rw [if_pos rfl,e]⟩
theorem B4.up{α:Type} [DecidableEq α] {pp:Rp α}{O:Bool}{dep U:Nat}(h:B4 P t pp O dep)(hd:dep<=U):B4 P t pp O U:=
 ⟨h.agg,h.size,h.one,λK=>h.eq (Nat.le_trans hd K),λK=>h.BM (Nat.le_trans hd K),h.uniq,h.same,h.now⟩
theorem Pl{α:Type}{kk:Nat}{pp:Rp α}{E:LH}{ws:Lv_}{xs:List α}(K:(rA kk pp).r E ws xs){i:Nat}(hi:i<kk):∃x us,xs[i]? =some x/\pp.r E us x/\us.length=pp.n/\∀j w,us[j]? =some w->ws.toArray[i*pp.n+j]? =some w:=by
 have O:xs[i]? =some (xs[i]'(by rw [K.1];exact hi)):=List.getElem?_eq_getElem (by rw [K.1];exact hi);have Y:ix xs (i:Int)=some (xs[i]'(by rw [K.1];exact hi)):=by unfold ix;rw [if_pos (by omega)];simpa using O
 obtain⟨us,U,_,_,Z⟩:=HH (m:=(i:Int)) K Y;exact⟨_,us,O,U,pp.len U,λj w ac=>by have:=Z j w ac;rw [List.getElem?_toArray];simpa using this⟩
theorem B4.arr{α:Type} [DecidableEq α] {pp:Rp α}{a6:Bool}{dep kk:Nat}(h:B4 P e pp a6 dep)(Z:P.underlying t=some (.array kk e))(a7:Bh P t=some (kk*pp.n)):B4 P t (rA kk pp) true (dep+1) where
 agg:=by unfold Db;rw [Z]
 size:=a7
 one:=λh=>by cases h
 eq {n E E' ws ws' xs ys s Q X} a8 ac a0 k:=by
  obtain⟨n,rfl⟩:∃m,n=m+1:=⟨n - 1,by omega⟩;have bx:=ac.1;have bz:=a0.1;unfold Op.equalIn;refine As _ _ (Cd Z ?_);refine As (x:=Go.sizeOf e) _ (EH h.size ?_);simp only [Hv,if_true];simp only [Std.Legacy.Range.forIn_eq_forIn_range',Std.Legacy.Range.size,Nat.sub_zero,Nat.add_one_sub_one,Nat.div_one];let bd:Nat->Option Bool×Unit->Sem (ForInStep (Option Bool×Unit)):=λi _=>do
   if !(← Op.equalIn n e (← Go.part e ws.toArray (i*pp.n)) (← Go.part e ws'.toArray (i*pp.n))) then pure (ForInStep.done (some false,())) else pure (ForInStep.yield (none,()))
  have key:∀(m st:Nat),st+m=kk->(∀i,i<st->xs[i]? =ys[i]?)->∀{K:Option Bool×Unit->St->Prop},K (if xs=ys then(none,()) else(some false,())) s->lp P (forIn (List.range' st m) (none,()) bd:Sem _) s K X:=by
   intro m
   induction m with
   | zero=>
    intro st al am K O;have U:xs=ys:=by
     apply List.ext_getElem?;intro i;rcases Nat.lt_or_ge i st with hi | hi
     ·exact am i hi
     ·rw [List.getElem?_eq_none (by omega),List.getElem?_eq_none (by omega)]
    rw [if_pos U] at O;simp only [List.range'_zero,List.forIn_nil];exact O
   | succ m ap=>
    intro st al am K O;simp only [List.range'_succ,List.forIn_cons];obtain⟨a,us,ag,aq,Y,av⟩:=Pl ac (i:=st) (by omega);obtain⟨c,bT,aw,a9,a2,bb⟩:=Pl a0 (i:=st) (by omega);refine As _ _ (As _ _ (K5 h.agg (by rw [Y];exact h.size) (λq=>by rw [Y];exact h.one q) av ?_));refine As _ _ (K5 h.agg (by rw [a2];exact h.size) (λq=>by rw [a2];exact h.one q) bb ?_);refine As _ _ (h.eq (by omega) aq a9 ?_);by_cases ay:a=c
    ·subst ay;simp only [decide_true,Bool.not_true,Bool.false_eq_true,if_false,lp,pure];exact ap (st+1) (by omega) (λi hi=>by
      rcases Nat.lt_or_ge i st with a3 | a3
      ·exact am i a3
      ·obtain rfl:i=st:=by omega
       rw [ag,aw]) O
    ·have be:¬xs=ys:=λq=>ay (by rw [q] at ag;rw [ag] at aw;exact Option.some.inj aw);rw [if_neg be] at O;simp only [ay,decide_false,Bool.not_false,if_true,lp,pure];exact O
  refine As _ _ (key kk 0 (by omega) (λi hi=>by omega) ?_);by_cases U:xs=ys
  ·rw [if_pos U];simpa [lp,pure,U] using k
  ·rw [if_neg U];simpa [lp,pure,U] using k
 BM {n em E ws xs s Q X} a8 ac k:=by
  obtain⟨n,rfl⟩:∃m,n=m+1:=⟨n - 1,by omega⟩;unfold Instr.checkKey;refine As _ _ (Cd Z ?_);simp only [Hv,if_true];simp only [Std.Legacy.Range.forIn_eq_forIn_range',Std.Legacy.Range.size,Nat.sub_zero,Nat.add_one_sub_one,Nat.div_one];let bd:Nat->Unit->Sem (ForInStep Unit):=λi _=>do
   Instr.checkKey em n e (← Go.part e ws.toArray (i*(← Go.sizeOf e)))
   pure (ForInStep.yield ())
  have key:∀(m st:Nat),st+m=kk->∀{K:Unit->St->Prop},K () s->lp P (forIn (List.range' st m) () bd:Sem _) s K X:=by
   intro m
   induction m with
   | zero=>
    intro st al K O;simp only [List.range'_zero,List.forIn_nil];exact O
   | succ m ap=>
    intro st al K O;simp only [List.range'_succ,List.forIn_cons];obtain⟨a,us,ag,aq,Y,av⟩:=Pl ac (i:=st) (by omega);refine As _ _ (As (x:=Go.sizeOf e) _ (EH h.size ?_));refine As _ _ (K5 h.agg (by rw [Y];exact h.size) (λq=>by rw [Y];exact h.one q) av ?_);refine As _ _ (h.BM (by omega) aq ?_);exact ap (st+1) (by omega) O
  exact As _ _ (key kk 0 (by omega) k)
 uniq {E E' ws ws' xs} az bi:=by
  obtain⟨a1,wss,rfl,a4,c1⟩:=az;obtain⟨bU,bn,rfl,bV,c2⟩:=bi;have:wss=bn:=by
   apply List.ext_getElem (by omega);intro i hi bo;have a5:xs[i]? =some (xs[i]'(by omega)):=List.getElem?_eq_getElem (by omega);exact h.uniq (c1 i _ _ a5 (List.getElem?_eq_getElem hi)) (c2 i _ _ a5 (List.getElem?_eq_getElem bo))
  rw [this]
 same {E ws xs} az w hw m:=by
  obtain⟨a1,wss,rfl,a4,c1⟩:=az;obtain⟨us,bv,hw⟩:=List.mem_flatten.1 hw;obtain⟨i,hi⟩:=List.mem_iff_getElem?.1 bv;have bw:i<xs.length:=by rw [a1,← a4];exact(List.getElem?_eq_some_iff.1 hi).1
  exact h.same (c1 i _ us (List.getElem?_eq_getElem bw) hi) w hw m
 now:=⟨_,Z,.inl λv w=>rfl⟩
theorem B4.field{α:Type} [DecidableEq α] {pp:Rp α}{ac:Bool}{dep n:Nat}{f:Field}{s:St}{X:Halt->St->Prop}(h:B4 P f.type pp ac dep)(hd:dep<=n)(ag:f.name≠ "_"){E E':LH}{us Y:Lv_}{x y:α}(r1:pp.r E us x)(r2:pp.r E' Y y){cx Z:Av_}
  (w1:∀j w,us[j]? =some w->cx[f.offset+j]? =some w) (w2:∀j w,Y[j]? =some w->Z[f.offset+j]? =some w) {K:ForInStep (Option Bool×Unit)->St->Prop} (O:K (if x=y then .yield (none,()) else .done (some false,())) s):
  lp P (if f.name≠ "_" then do
   if !(← Op.equalIn n f.type (← Go.part f.type cx f.offset) (← Go.part f.type Z f.offset)) then pure (ForInStep.done (some false,())) else pure (ForInStep.yield (none,()))
   else pure (ForInStep.yield (none,()))) s K X:=by
 rw [if_pos ag]
 refine As _ _ (K5 h.agg (by rw [pp.len r1];exact h.size) (λq=>by rw [pp.len r1];exact h.one q) w1 ?_)
 refine As _ _ (K5 h.agg (by rw [pp.len r2];exact h.size) (λq=>by rw [pp.len r2];exact h.one q) w2 ?_)
 refine As _ _ (h.eq hd r1 r2 ?_)
 by_cases U:x=y
 ·rw [if_pos U] at O;simpa [lp,pure,U] using O
 ·rw [if_neg U] at O;simpa [lp,pure,U] using O
theorem B4.Mb{α:Type} [DecidableEq α] {pp:Rp α}{O em:Bool}{dep n:Nat}{f:Field}{s:St}{X:Halt->St->Prop}(h:B4 P f.type pp O dep)(hd:dep<=n)(U:f.name≠ "_"){E:LH}{us:Lv_}{x:α}(r1:pp.r E us x){cx:Av_}
  (w1:∀j w,us[j]? =some w->cx[f.offset+j]? =some w) {K:ForInStep Unit->St->Prop} (Y:K (.yield ()) s):
  lp P (if f.name≠ "_" then do
   Instr.checkKey em n f.type (← Go.part f.type cx f.offset)
   pure (ForInStep.yield ())
   else pure (ForInStep.yield ())) s K X:=by
 rw [if_pos U]
 refine As _ _ (K5 h.agg (by rw [pp.len r1];exact h.size) (λq=>by rw [pp.len r1];exact h.one q) w1 ?_)
 refine As _ _ (h.BM hd r1 ?_)
 exact Y
theorem Ll{us r:Lv_}{o:Nat}(K:o=0):∀j w,us[j]? =some w->(us++r).toArray[o+j]? =some w:=λj w h=>by subst K;exact SG (l:= []) j w h
theorem N7{l us r:Lv_}{o:Nat}(K:o=l.length):∀j w,us[j]? =some w->(l++(us++r)).toArray[o+j]? =some w:=λj w h=>by
 subst K
 have:=SG (l:=l) (r:=r) j w h
 rwa [List.append_assoc] at this
theorem N5{l us:Lv_}{o:Nat}(K:o=l.length):∀j w,us[j]? =some w->(l++us).toArray[o+j]? =some w:=λj w h=>by
 have:=N7 (r:= []) K j w h
 rwa [List.append_nil] at this
theorem PK{l m us:Lv_}{o:Nat}(K:o=l.length+m.length):∀j w,us[j]? =some w->(l++(m++us)).toArray[o+j]? =some w:=λj w h=>by
 have:=N5 (l:=l++m) (o:=o) (by simp [K]) j w h
 rwa [List.append_assoc] at this
theorem B4.two{α β:Type} [DecidableEq α] [DecidableEq β] {K:Rp α}{p2:Rp β}{a1 aw:Bool}{dep:Nat}{f1 f2:Field}(O:P.underlying t=some (.struct #[f1,f2]))(U:B4 P f1.type K a1 dep)(Y:B4 P f2.type p2 aw dep)(ay:P.stoodInHeld t=false)
  (n1:f1.name≠ "_") (n2:f2.name≠ "_") (ag:f1.offset=0) (al:f2.offset=K.n) (az:Bh P t=some (K.n+p2.n)):B4 P t (rP K p2) true (dep+1) where
 agg:=by unfold Db;rw [O]
 size:=az
 one:=λh=>by cases h
 eq {n E E' ws ws' x y s Q X} a0 am a2 k:=by
  obtain⟨n,rfl⟩:∃m,n=m+1:=⟨n - 1,by omega⟩;obtain⟨ap,aq,rfl,r1,r2⟩:=am;obtain⟨v1,v2,rfl,Z,av⟩:=a2;simp only [Hv,if_true];unfold Op.equalIn;refine As _ _ (Cd O ?_);refine As (x:=program) _ ?_;show lp P (if P.stoodInHeld t=true then _ else _) s _ _
  rw [if_neg (by rw [ay];exact Bool.false_ne_true)]
  dsimp only;rw [← Array.forIn_toList];simp only [List.forIn_cons,List.forIn_nil];refine As _ _ (As _ _ (U.field (by omega) n1 r1 Z (Ll ag) (Ll ag) ?_));by_cases ac:x.1=y.1
  ·rw [if_pos ac];refine As _ _ (Y.field (by omega) n2 r2 av (N5 (al.trans (K.len r1).symm)) (N5 (al.trans (K.len Z).symm)) ?_);by_cases e2:x.2=y.2
   ·have e:x=y:=Prod.ext ac e2;rw [if_pos e2];simpa [lp,pure,e] using k
   ·have e:¬x=y:=λq=>e2 (by rw [q]);rw [if_neg e2];simpa [lp,pure,e] using k
  ·have e:¬x=y:=λq=>ac (by rw [q]);rw [if_neg ac];simpa [lp,pure,e] using k
 BM {n em E ws x s Q X} a0 am k:=by
  obtain⟨n,rfl⟩:∃m,n=m+1:=⟨n - 1,by omega⟩;obtain⟨ap,aq,rfl,r1,r2⟩:=am;simp only [Hv,if_true];unfold Instr.checkKey;refine As _ _ (Cd O ?_)
  dsimp only;rw [← Array.forIn_toList];simp only [List.forIn_cons,List.forIn_nil];refine As _ _ (As _ _ (U.Mb (by omega) n1 r1 (Ll ag) ?_));refine As _ _ (Y.Mb (by omega) n2 r2 (N5 (al.trans (K.len r1).symm)) ?_);exact k
 uniq {E E' ws ws' x} a b:=by
  obtain⟨ap,aq,rfl,r1,r2⟩:=a;obtain⟨v1,v2,rfl,Z,av⟩:=b;rw [U.uniq r1 Z,Y.uniq r2 av]
 same {E ws x} a w hw m:=by
  obtain⟨ap,aq,rfl,r1,r2⟩:=a;rcases List.mem_append.1 hw with hw | hw
  ·exact U.same r1 w hw m
  ·exact Y.same r2 w hw m
 now:=⟨_,O,.inl λv w=>rfl⟩
theorem B4.three{α β a3:Type} [DecidableEq α] [DecidableEq β] [DecidableEq a3] {K:Rp α}{p2:Rp β}{p3:Rp a3}{a1 a5 a6:Bool}{dep:Nat}{f1 f2 f3:Field}(U:P.underlying t=some (.struct #[f1,f2,f3]))(Y:B4 P f1.type K a1 dep)(Z:B4 P f2.type p2 a5 dep)(ac:B4 P f3.type p3 a6 dep)(a7:P.stoodInHeld t=false)
  (n1:f1.name≠ "_") (n2:f2.name≠ "_") (a4:f3.name≠ "_") (ap:f1.offset=0) (aq:f2.offset=K.n) (av:f3.offset=K.n+p2.n) (a8:Bh P t=some (K.n+(p2.n+p3.n))):B4 P t (rP K (rP p2 p3)) true (dep+1) where
 agg:=by unfold Db;rw [U]
 size:=a8
 one:=λh=>by cases h
 eq {n E E' ws ws' x y s Q X} a9 aw bb k:=by
  obtain⟨n,rfl⟩:∃m,n=m+1:=⟨n - 1,by omega⟩;obtain⟨ay,_,rfl,r1,az,a0,rfl,r2,r3⟩:=aw;obtain⟨v1,_,rfl,O,v2,be,rfl,ag,a2⟩:=bb;simp only [Hv,if_true];unfold Op.equalIn;refine As _ _ (Cd U ?_);refine As (x:=program) _ ?_;show lp P (if P.stoodInHeld t=true then _ else _) s _ _
  rw [if_neg (by rw [a7];exact Bool.false_ne_true)]
  dsimp only;rw [← Array.forIn_toList];simp only [List.forIn_cons,List.forIn_nil];refine As _ _ (As _ _ (Y.field (by omega) n1 r1 O (Ll ap) (Ll ap) ?_));by_cases al:x.1=y.1
  ·rw [if_pos al];refine As _ _ (Z.field (by omega) n2 r2 ag (N7 (aq.trans (K.len r1).symm)) (N7 (aq.trans (K.len O).symm)) ?_);by_cases e2:x.2.1=y.2.1
   ·rw [if_pos e2];refine As _ _ (ac.field (by omega) a4 r3 a2 (PK (by rw [av,K.len r1,p2.len r2])) (PK (by rw [av,K.len O,p2.len ag])) ?_);by_cases am:x.2.2=y.2.2
    ·have e:x=y:=Prod.ext al (Prod.ext e2 am);rw [if_pos am];simpa [lp,pure,e] using k
    ·have e:¬x=y:=λq=>am (by rw [q]);rw [if_neg am];simpa [lp,pure,e] using k
   ·have e:¬x=y:=λq=>e2 (by rw [q]);rw [if_neg e2];simpa [lp,pure,e] using k
  ·have e:¬x=y:=λq=>al (by rw [q]);rw [if_neg al];simpa [lp,pure,e] using k
 BM {n em E ws x s Q X} a9 aw k:=by
  obtain⟨n,rfl⟩:∃m,n=m+1:=⟨n - 1,by omega⟩;obtain⟨ay,_,rfl,r1,az,a0,rfl,r2,r3⟩:=aw;simp only [Hv,if_true];unfold Instr.checkKey;refine As _ _ (Cd U ?_)
  dsimp only;rw [← Array.forIn_toList];simp only [List.forIn_cons,List.forIn_nil];refine As _ _ (As _ _ (Y.Mb (by omega) n1 r1 (Ll ap) ?_));refine As _ _ (Z.Mb (by omega) n2 r2 (N7 (aq.trans (K.len r1).symm)) ?_);refine As _ _ (ac.Mb (by omega) a4 r3 (PK (by rw [av,K.len r1,p2.len r2])) ?_);exact k
 uniq {E E' ws ws' x} a b:=by
  obtain⟨ay,_,rfl,r1,az,a0,rfl,r2,r3⟩:=a;obtain⟨v1,_,rfl,O,v2,be,rfl,ag,a2⟩:=b;rw [Y.uniq r1 O,Z.uniq r2 ag,ac.uniq r3 a2]
 same {E ws x} a w hw m:=by
  obtain⟨ay,_,rfl,r1,az,a0,rfl,r2,r3⟩:=a;rcases List.mem_append.1 hw with hw | hw
  ·exact Y.same r1 w hw m
  ·rcases List.mem_append.1 hw with hw | hw
   ·exact Z.same r2 w hw m
   ·exact ac.same r3 w hw m
 now:=⟨_,U,.inl λv w=>rfl⟩
theorem B4.key{α:Type} [DecidableEq α] {pp:Rp α}{K:Bool}{dep:Nat}(h:B4 P t pp K dep)(hd:dep<=10000):Gz P t pp K where
 BM:=by
  rintro em E v x s Q X ⟨ws,Y,rfl⟩ k;exact h.BM hd Y k
 kind:=by
  obtain⟨kd,O,Z⟩:=h.now;refine⟨kd,O,Z.imp id λac=>?_⟩;rintro E v w x y ⟨ws,r1,rfl⟩ ⟨ws',r2,rfl⟩;exact ac r1 r2
 eq:=by
  rintro E v w x y s Q X ⟨ws,r1,rfl⟩ ⟨ws',r2,rfl⟩ k;exact h.eq hd r1 r2 k
 same:=by
  rintro E v x ⟨ws,r1,rfl⟩;cases K with
  | false=>
   obtain⟨w,rfl⟩:∃w,ws= [w]:=by
    have:=(pp.len r1).trans (h.one rfl)
    match ws,this with
    | [w],_=>exact⟨w,rfl⟩
   exact h.same r1 w (by simp) 9999
  | true=>
   show(ws.toArray.size==ws.toArray.size&&(ws.toArray.toList.zip ws.toArray.toList).all λ(x,y)=>Instr.sameBits 9999 x y)=true;rw [Bool.and_eq_true];refine⟨by simp,List.all_eq_true.2 ?_⟩;rintro⟨a,b⟩ ag;have O:∀(l:Lv_) a b,(a,b)∈l.zip l->a=b/\a∈l:=by
    intro l
    induction l with
    | nil=>intro a b h;simp at h
    | cons c l U=>
     intro a b h;simp only [List.zip_cons_cons,List.mem_cons,Prod.mk.injEq] at h;rcases h with⟨rfl,rfl⟩ | h
     ·exact⟨rfl,by simp⟩
     ·exact⟨(U a b h).1,List.mem_cons_of_mem _ (U a b h).2⟩
   obtain⟨rfl,hm⟩:=O _ a b ag;exact h.same r1 a (by simpa using hm) 9998
 uniq:=by
  rintro E v w x ⟨ws,r1,rfl⟩ ⟨ws',r2,rfl⟩;rw [h.uniq r1 r2]
section
variable {s:St}{ρ:Operand->Value}{x y:Operand}{d:Option Tmp}{u ty:TypeId}{p:String}{af:Ae_}{g:On_}{E E':LH}{ws ws':Lv_}
theorem Sm{α:Type} [DecidableEq α] {pp:Rp α}{dep:Nat}{a b:α}(h:B4 P t pp true dep)(hd:dep<=10000)(K:P.eqGuardType P.depth t=false)(r1:pp.r E ws a)(r2:pp.r E' ws' b)(O:ρ x= .agg ws.toArray)(U:ρ y= .agg ws'.toArray):Yl P ⟨d,.binOp .neq t x y u,ty,p,af,g⟩ ρ s (.bool (decide (a≠b))):=by
 refine Fq (sm:=do eqGuard .neq t x y (ρ x) (ρ y);binOp .neq t (ρ x) (ρ y)) rfl ?_
 rw [O,U];refine As _ _ (V1 (.inr rfl) K ?_);have hb:binOp .neq t (.agg ws.toArray) (.agg ws'.toArray)=(do pure (.bool (!(← Op.equal t (.agg ws.toArray) (.agg ws'.toArray))))):=rfl
 rw [hb];exact As (x:=Op.equal t _ _) _ (h.eq hd r1 r2 ⟨by simp,rfl⟩)
end
end
end Pal
namespace Pal
open Go Go.Conc
theorem UN{E H:LH}{B:List (Nat×Obj)}(i:Nat){bk:Nat}{o:Obj}(K:Nd E H B)(h:B[i]? =some (bk,o)):∃E',Le E E'/\E' bk=some o/\Nd E' H (B.eraseIdx i)/\Cc (mk E H B) (mk E' H (B.eraseIdx i)):=by
 have ap:=List.mem_of_getElem? h;have aq:E bk=none/\H bk=none:=by
  have:∀{B:List (Nat×Obj)},Nd E H B->(bk,o)∈B->E bk=none/\H bk=none:=by
   intro B K O
   induction B with
   | nil=>simp at O
   | cons q B Y=>
    rcases List.mem_cons.1 O with rfl | O
    ·exact⟨K.1,K.2.1⟩
    ·exact Y K.2.2.2 O
  exact this K ap
 let E':LH:=λx=>if x=bk then some o else E x
 have ag:E' bk=some o:=by simp [E']
 have hle:Le E E':=λx u U=>by
  have:x≠bk:=λe=>by subst e;rw [aq.1] at U;cases U
  simp [E',this,U]
 have av:Nd E' H (B.eraseIdx i):=by
  have:∀{B:List (Nat×Obj)} {i:Nat},Nd E H B->B[i]? =some (bk,o)->Nd E' H (B.eraseIdx i)/\∀p∈B.eraseIdx i,p.1≠bk:=by
   intro B
   induction B with
   | nil=>intro i _ h;simp at h
   | cons q B Y=>
    obtain⟨c,v⟩:=q;intro i K h;have up:∀{B:List (Nat×Obj)},Nd E H B->(∀p∈B,p.1≠bk)->Nd E' H B:=by
     intro B K al
     induction B with
     | nil=>trivial
     | cons q B aw=>exact⟨by simpa [E',al q (by simp)] using K.1,K.2.1,K.2.2.1,aw K.2.2.2 λp O=>al p (List.mem_cons_of_mem _ O)⟩
    cases i with
    | zero=>
     simp at h;obtain⟨rfl,rfl⟩:=h;exact⟨up K.2.2.2 K.2.2.1,K.2.2.1⟩
    | succ i=>
     simp at h;obtain⟨Z,ac⟩:=Y K.2.2.2 h;have am:c≠bk:=λe=>K.2.2.1 (bk,o) (List.mem_of_getElem? h) e.symm;refine⟨⟨by simpa [E',am] using K.1,K.2.1,λp O=>K.2.2.1 p (List.mem_of_mem_eraseIdx O),Z⟩,λp O=>?_⟩;rcases List.mem_cons.1 O with rfl | O
     ·exact am
     ·exact ac p O
  exact(this K h).1
 refine⟨E',hle,ag,av,⟨λx u U=>hle x u U,λx u U=>(LQ K h U).2,λx u U=>?_,rfl⟩⟩;by_cases e:x=bk
 ·subst e;right;have:u=o:=by have:E' x=some u:=U;rw [ag] at this;exact(Option.some.inj this).symm
  subst this;refine⟨Jd K h,?_⟩;cases ay:(mk E' H (B.eraseIdx i)).H x with
  | none=>rfl
  | some y=>exact absurd rfl (LQ K h ay).1
 ·left;have Z:E' x=some u:=U;have ac:E' x=E x:=by simp [E',e]
  show E x=some u;rw [← ac];exact Z
theorem UE{E H:LH}{B0:List (Nat×Obj)}{e:TypeId}{K l c:Nat}{a:Option Addr}{blk:List (Nat×Obj)}{xs:Lv_}(ag:GS e K a l c blk xs)(U:Nd E H (B0++blk)):∃E',Le E E'/\Ol E' K (.slice a l c) l xs/\Nd E' H B0/\Cc (mk E H (B0++blk)) (mk E' H B0):=by
 rcases ag with⟨rfl,rfl,rfl,rfl,rfl⟩ | ⟨bk,f,rfl,rfl,al,Y,rfl⟩
 ·simp only [List.append_nil] at U ⊢;exact⟨E,Le.refl _,.nil,U,.refl _⟩
 ·have am:(B0++ [(bk,Obj.cells f e (0,0))])[B0.length]? =some (bk,Obj.cells f e (0,0)):=by simp
  obtain⟨E',hle,ap,Z,ac⟩:=UN B0.length U am;have aq:(B0++ [(bk,Obj.cells f e (0,0))]).eraseIdx B0.length=B0:=by rw [List.eraseIdx_append_of_length_le (Nat.le_refl _)];simp
  rw [aq] at Z ac;refine⟨E',hle,⟨_,c,rfl,Y,?_,.inr ⟨bk,0,f,e,(0,0),rfl,ap,λj w O=>?_⟩⟩,Z,ac⟩
  ·have:l*K<=c*K:=Nat.mul_le_mul_right _ Y;simp [al,Nat.min_eq_left this]
  ·rw [List.getElem?_take] at O;split at O
   ·simpa using O
   ·cases O
theorem UJ{α:Type}{pp:Rp α}{E H:LH}{S:List Seg}{e:TypeId}{a:Option Addr}{c:Nat}{seg:Seg}{xs:List α}(j:Nat)(U:OL e pp E a c seg xs)(ap:Aq E H S)(aq:S[j]? =some seg):∃E',Le E E'/\Am pp E' a c xs/\Aq E' H (S.set j [])/\Cc (Aj E H S) (Aj E' H (S.set j [])):=by
 obtain⟨wss,U,ac,ag⟩:=U;have av:∀ad:Addr,a=some ad->ad.spot=none:=λad K=>by
  rcases U with⟨O,_⟩ | ⟨bk,f,O,_⟩
  ·rw [O] at K;cases K
  ·rw [O] at K;cases K;rfl
 obtain⟨O,aw⟩:=Hh ap aq;obtain⟨E',hle,ay,az,al⟩:=UE U aw;rw [← O] at al;refine⟨E',hle,?_,az,al⟩;obtain⟨a0,a1,Y,a2,a7,Z⟩:=ay;obtain⟨rfl,-,rfl⟩:a=a0/\xs.length=xs.length/\c=a1:=by
  simp only [Value.slice.injEq] at Y;exact⟨Y.1,rfl,Y.2.2⟩
 refine⟨a2,?_⟩;rcases Z with Z | ⟨bk,off,f,a3,fr,a4,g2,a5⟩
 ·exact .inl ⟨List.eq_nil_of_length_eq_zero Z,λad K=> .inl (av ad K)⟩
 ·refine .inr ⟨bk,off,a4,λi x am=>?_⟩;have a6:i<wss.length:=by rw [ac];exact(List.getElem?_eq_some_iff.1 am).1
  have hw:=List.getElem?_eq_getElem a6;refine⟨wss[i],pp.Ah hle (ag i x _ am hw),f,a3,fr,g2,λm w hm=>?_⟩;rw [Nat.add_assoc];exact a5 _ w (Kk (Ig ac ag) hw m w hm)
theorem Cc.get{s s₀:St}(h:Cc s s₀){b:Nat}{o:Obj}(K:s₀.get b=some o):s.get b=some o:=by
 unfold St.get at K ⊢;cases O:s₀.E b with
 | some o'=>
  rw [O] at K;simp only at K;cases K;rcases h.EC _ _ O with U | ⟨U,_⟩
  ·rw [U]
  ·cases he:s.E b with
   | none=>exact U
   | some Y=>
    have:=h.ext _ _ he;rw [O] at this;cases this;rfl
 | none=>
  rw [O] at K;simp only at K;cases he:s.E b with
  | none=>exact h.own _ _ K
  | some Y=>
   have:=h.ext _ _ he;rw [O] at this;cases this
theorem Cc.upd{s s₀:St}(h:Cc s s₀){b:Nat}(o:Obj)(hb:(∃u,s₀.H b=some u)∨s₀.E b=none):Cc (s.upd b o) (s₀.upd b o):=by
 refine⟨h.ext,λx u K=>?_,λx u K=>?_,h.q⟩
 ·simp only [St.upd] at K ⊢;by_cases e:x=b
  ·rw [if_pos e] at K ⊢;exact K
  ·rw [if_neg e] at K ⊢;exact h.own _ _ K
 ·have O:s₀.E x=some u:=K;rcases h.EC _ _ O with U | ⟨U,Y⟩
  ·exact .inl U
  ·refine .inr ?_;have e:x≠b:=λe=>by
    subst e;rcases hb with⟨w,hw⟩ | hb
    ·rw [hw] at Y;cases Y
    ·rw [hb] at O;cases O
   simp only [St.upd,if_neg e];exact⟨U,Y⟩
theorem Cc.none{s s₀:St}(h:Cc s s₀){b:Nat}(U:s.E b=none)(O:s.H b=none):s₀.E b=none/\s₀.H b=none:=by
 constructor
 ·cases he:s₀.E b with
  | none=>rfl
  | some o=>
   rcases h.EC _ _ he with K | ⟨K,_⟩
   ·rw [U] at K;cases K
   ·rw [O] at K;cases K
 ·cases he:s₀.H b with
  | none=>rfl
  | some o=>have:=h.own _ _ he;rw [O] at this;cases this
theorem WX{P:Program}{α:Type}(x:Sem α):∀{s s₀:St} {Q:α->St->Prop} {X:Halt->St->Prop},Cc s s₀->lp P x s₀ Q X->lp P x s (λa s'=>∃Z,Cc s' Z/\Q a Z) (λh s'=>∃Z,Cc s' Z/\X h Z):=by
 induction x with
 | pure a=>intro s s₀ Q X g h;exact⟨s₀,g,h⟩
 | load m a k K=>
  intro s s₀ Q X g h;obtain⟨O,v,U,Y⟩:=h;obtain⟨o,al,am⟩:=Option.bind_eq_some_iff.1 U;exact⟨O,v,by unfold St.cell?;rw [g.get al];exact am,K v g Y⟩
 | store m a v k K=>
  intro s s₀ Q X g h;obtain⟨O,U,o,Y,ap,aq,av⟩:=h;exact⟨O,U,o,g.own _ _ Y,ap,aq,K (g.upd _ (.inl ⟨o,Y⟩)) av⟩
 | new o k K=>
  intro s s₀ Q X g h;refine⟨by rw [← g.q];exact h.1,λr O U=>?_⟩;obtain⟨ag,e2⟩:=g.none O U;exact K r (g.upd _ (.inr ag)) (h.2 r ag e2)
 | shape r k K=>intro s s₀ Q X g h;obtain⟨o,O,U⟩:=h;exact⟨o,g.get O,K _ g U⟩
 | freeze a n k K=>intro s s₀ Q X g h;exact h.elim
 | frozen a k K=>intro s s₀ Q X g h;obtain⟨o,O,U⟩:=h;exact⟨o,g.get O,K _ g U⟩
 | getObj r k K=>intro s s₀ Q X g h;obtain⟨o,O,U,Y⟩:=h;exact⟨o,g.get O,U,K _ g Y⟩
 | setObj r o k K=>
  intro s s₀ Q X g h;obtain⟨⟨o',O,aw⟩,U,Y⟩:=h;exact⟨⟨o',g.own _ _ O,aw⟩,U,K (g.upd _ (.inl ⟨o',O⟩)) Y⟩
 | choose q k K=>
  intro s s₀ Q X g h;simp only [lp] at h ⊢;split
  ·rename_i ac;rw [if_pos ac] at h;exact K _ g h
  ·rename_i ac;rw [if_neg ac] at h;exact⟨by rw [← g.q];exact h.1,λt=>K _ g (h.2 t)⟩
 | sys c k K=>intro s s₀ Q X g h;exact h.elim
 | program k K=>intro s s₀ Q X g h;exact K _ g h
 | mark m k K=>
  intro s s₀ Q X g h;refine⟨?_,K g h.2⟩;rcases h.1 with⟨O,U⟩ | O
  ·exact .inl ⟨by rw [← g.q];exact O,U⟩
  ·exact .inr O
 | halt h=>intro s s₀ Q X g ay;exact⟨s₀,g,ay⟩
section
variable {P:Program}{J:Judge P}{Q:Gs_}{b:Frame}{n:Nat}{ds:Ld_}{ops:Ao_}{k:Li_}{cs:Lf_}{m fuel:Nat}{D:Nat->Bool}{listed:Array Bool}{L:Env}{s:St}{E E' H:LH}{S:List Seg}
variable {d:Option Tmp}{x y:Operand}{t u ty e:TypeId}{p:String}{af:Ae_}{g:On_}{v:Value}{i:Nat}{kd:IntKind}
theorem Q5{f:FuncId}{args:Array Operand}{ats:Array TypeId}{vs:Lv_}{seg:Seg}{R:Value->LH->Seg->Prop}(j:Nat)(a0:∀x,D x=true->∃(O:Nat) (o:Obj),(S.set j [])[O]? =some [(x,o)])(a1:AN J f vs E seg R)(a2:Region.ready .any ops listed= [i])
  (a3:ops[i]? =some ⟨d,.call ⟨.value (.func f),args,ats⟩,ty,p,af,g⟩) (a4:Bb n d=true) (hw:AI L ops ⟨d,.call ⟨.value (.func f),args,ats⟩,ty,p,af,g⟩=some true) (hb:Dt P f=true) (a5:evs L args.toList=some vs) (Z:Aq E H S) (ac:S[j]? =some seg)
  (a6:∀v E' seg',Le E E'->R v E' seg'->Aq E' H (S.set j seg')->AJ J Q b n ds ops k cs m D fuel (A2 listed i) (Au L d v) (Aj E' H (S.set j seg'))):
  AJ J Q b n ds ops k cs m D (fuel+1) listed L (Aj E H S):=by
 have al:S.flatten.Perm (seg++(S.set j []).flatten):=(Ee (seg':=seg) ac).1.trans List.perm_append_comm;have am:Nd E H (seg++(S.set j []).flatten):=Nd.perm Z al;have a7:Aj E H S=mk E (Ba (S.set j []).flatten H) seg:=by
  rw [show Aj E H S=mk E H S.flatten from rfl,Fe Z al];unfold mk;rw [F0]
 have ap:=ED.Lu (a1 (Ba (S.set j []).flatten H) (Nd.front am)) (by rintro v s' ⟨E',B',_,_,_,rfl⟩;rfl);rw [← a7] at ap;refine AJ.call rfl a2 a3 a4 hw hb a5 ap ?_;rintro v bw ⟨⟨E',B',hle,a8,a9,rfl⟩,w,bb⟩;have e2:mk E' (Ba (S.set j []).flatten H) B'=mk E' H (B'++(S.set j []).flatten):=by unfold mk;rw [F0]
 have be:Nd E H (S.set j []).flatten:=by
  have:=am;rw [Nd.iff] at this ⊢;rw [List.map_append,List.nodup_append] at this;exact⟨this.1.2.1,λq bi=>this.2 q (List.mem_append_right _ bi)⟩
 have bn:Nd E' H (S.set j []).flatten:=be.grow λx U=>by
  have bo:=bb.d x U;have ag:Ba B' (Ba (S.set j []).flatten H) x=none:=bo;exact(Ia ag).1
 have aq:Nd E' H (B'++(S.set j []).flatten):=Nd.glue a9 bn;have av:(B'++(S.set j []).flatten).Perm (S.set j B').flatten:=List.perm_append_comm.trans (Ee ac).2.symm;have aw:Aq E' H (S.set j B'):=Nd.perm aq av;rw [e2,Fe aq av];refine⟨rfl,λx o U=>?_,a6 v E' B' hle a8 aw⟩;by_cases hd:D x=true
 ·obtain⟨O,o',Y⟩:=a0 x hd;have ay:j≠O:=λh=>by
   subst h;rw [List.getElem?_set_self (List.getElem?_eq_some_iff.1 ac).1] at Y;cases Y
  have az:S[O]? =some [(x,o')]:=by rw [List.getElem?_set_ne ay] at Y;exact Y
  have ag:(Aj E H S).get x=some o':=DJ (i:=0) Z az rfl;have bv:(Aj E' H (S.set j B')).get x=some o':=DJ (i:=0) aw (by rw [List.getElem?_set_ne ay];exact az) rfl;have K:(if D x then(Aj E H S).get x else E x)=some o:=U
  show(if D x then(Aj E' H (S.set j B')).get x else E' x)=some o
  rw [if_pos hd] at K ⊢;rw [bv,← ag];exact K
 ·have K:(if D x then(Aj E H S).get x else E x)=some o:=U
  show(if D x then(Aj E' H (S.set j B')).get x else E' x)=some o
  rw [if_neg hd] at K ⊢;exact hle _ _ K
theorem AJ.perm{S':List Seg}(K:S.flatten.Perm S'.flatten)(O:Aq E H S)(h:Aq E H S'->AJ J Q b n ds ops k cs m D fuel listed L (Aj E H S')):AJ J Q b n ds ops k cs m D fuel listed L (Aj E H S):=by
 have e:Aj E H S=Aj E H S':=Fe O K;rw [e];exact h (Nd.perm O K)
theorem JA.ghost:∀(fuel:Nat) {listed:Array Bool} {T:Av_} {s s₀:St},Cc s s₀->JA J Q b ds ops k cs m C9 fuel listed T s₀->JA J Q b ds ops k cs m C9 fuel listed T s
 | 0,listed,T,s,s₀,g,h=>⟨h.1,J.ghost g h.2⟩
 | fuel+1,listed,T,s,s₀,g,h=>by
  rcases h with⟨O,U⟩ | ⟨O,U,ac⟩
  ·exact .inl ⟨O,λt=>J.ghost g (U t)⟩
  ·refine .inr ⟨O,by rw [← g.q];exact U,λi hi o ag=>?_⟩;obtain⟨a1,al,am⟩:=ac i hi o ag;refine⟨a1,λe=>JA.ghost fuel g (al e),λe=>?_⟩;have ap:=WX _ (s:=Bu C9 s) (s₀:=Bu C9 s₀) g (am e);refine DO _ ap ?_ (λ_ s' ⟨_,_,h⟩=>h);intro aq s' K;obtain⟨Y,Z,K⟩:=K;cases aq with
   | value v=>exact JA.ghost fuel (s:=s') (s₀:=Y) Z K
   | skip=>exact JA.ghost fuel (s:=s') (s₀:=Y) Z K
   | enter f args=>
    obtain⟨R,av,aw⟩:=K;refine⟨R,λQ c cs ay=>J.ghost (s:=s') (s₀:=Y) Z (av Q c cs ay),λv az a0=>?_⟩;obtain⟨a2,a3,a4⟩:=aw v az a0;exact⟨a2,λx o K=>a3 x o (g.ext x o K),a4⟩
   | _=>exact K.elim
theorem Gb{α:Type}{pp:Rp α}{a:Option Addr}{c:Nat}{seg:Seg}{xs:List α}(j:Nat)(K:OL e pp E a c seg xs)(O:Aq E H S)(U:S[j]? =some seg)
  (h:∀E',Le E E'->Am pp E' a c xs->Aq E' H (S.set j [])->AJ J Q b n ds ops k cs m C9 fuel listed L (Aj E' H (S.set j []))):AJ J Q b n ds ops k cs m C9 fuel listed L (Aj E H S):=λT Y=>by
 obtain⟨E',Z,ac,ag,al⟩:=UJ j K O U
 exact JA.ghost _ al (h E' Z ac ag T Y)
end
end Pal
namespace Pal
open Go Go.Conc
theorem oi{α:Type}{a b:α}(h:some a=some b):a=b:=Option.some.inj h
theorem bs{α β:Type}{o:Option α}{f:α->Option β}{r:β}(h:o.bind f=some r):∃x,o=some x/\f x=some r:=bind_some h
def Il(L:Env):Env->List (Option Value)
 | []=> []
 | (t,_)::L'=>look L t::Il L L'
def It:Env->List (Option Value)
 | []=> []
 | (_,v)::L'=>some v::It L'
theorem NL{L:Env}:∀{L':Env},Il L L'=It L'->Sub L' L
 | [],_=>trivial
 | (t,v)::L',h=>by
  simp only [Il,It,List.cons.injEq] at h
  exact⟨h.1,NL h.2⟩
section
variable {P:Program}{J:Judge P}{Q:Gs_}{b:Frame}{n:Nat}{L L':Env}{ds:Ld_}{k k':Li_}{cs:Lf_}{s:St}{ops:Ao_}{i:Nat}{rest:List Nat}{v:Value}
variable {d:Option Tmp}{op:Op}{ty:TypeId}{p:String}{af:Ae_}{g:On_}
theorem Er(L':Env)(h:Il L L'=It L')(k':JL J Q b n L' ds k cs s):JL J Q b n L ds k cs s:=Fs (NL h) k'
theorem AB(k':JL J Q b n L' ds k cs s)(h:Il L L'=It L'):JL J Q b n L ds k cs s:=Fs (NL h) k'
def FA(b:Frame)(n:Nat)(L:Env)(ops:Ao_)(i:Nat):Option Oper:=
 match Jq ops.toList i with
 | some ⟨d,op,ty,p,af,g⟩=>match AI L ops ⟨d,op,ty,p,af,g⟩ with
  | some true=>match BM b n ⟨d,op,ty,p,af,g⟩ with
   | true=>some ⟨d,op,ty,p,af,g⟩
   | false=>none
  | _=>none
 | none=>none
theorem Kr{o:Oper}(h:FA b n L ops i=some o):ops[i]? =some o/\AI L ops o=some true/\BM b n o=true:=by
 unfold FA at h;split at h
 ·rename_i K;rw [La,Array.getElem?_toList] at K;split at h
  ·rename_i hw;split at h
   ·rename_i O;cases h;exact⟨K,hw,O⟩
   ·cases h
  ·cases h
 ·cases h
theorem Al(K:FA b n L ops i=some ⟨d,op,ty,p,af,g⟩)(h:∀ρ,EU L ρ->Yl P ⟨d,op,ty,p,af,g⟩ ρ s v)(O:JL J Q b n (Au L d v) ds (.inRegion ops rest::k) cs s):
  JL J Q b n L ds (.inRegion ops (i::rest)::k) cs s:=
 let ⟨U,Y,Z⟩:=Kr K
 AZ U Y Z h O
theorem PO{f:FuncId}{fn:Func}{c:Code}{E:LH}{vs:Lv_}{B:Seg}{R:Value->LH->Seg->Prop}(O:P.funcs[f]? =some fn)(hb:fn.body=some c)(U:Nat.ble vs.length fn.ntmps=true)
  (h:∀(Q:Gs_) (K:Frame) (cs:Lf_) (H:LH),Aq E H [B]->(∀v E' S' B',Le E E'->S'.flatten=B'->R v E' B'->Aq E' H S'->J.ok Q (G (K.finish v) cs) (Aj E' H S'))->JL J Q (base f) fn.ntmps (Gh 0 vs) [] [.code c] (K::cs) (Aj E H [B])):AN J f vs E B R:=
 AN.enter O hb (Nat.le_of_ble_eq_true U) h
def On(n:Nat)(L:Env)(ops:Ao_)(i:Nat):Option Env:=
 match Jq ops.toList i with
 | some ⟨d,op,ty,p,af,g⟩=>match AI L ops ⟨d,op,ty,p,af,g⟩ with
  | some true=>match Bb n d with
   | true=>match KJ L op with
    | some v=>match d with
     | some d=>some ((d,v)::L)
     | none=>some L
    | none=>none
   | false=>none
  | some false=>match Bb n d with
   | true=>match d with
    | some d=>some ((d,undef)::L)
    | none=>some L
   | false=>none
  | none=>none
 | none=>none
def GY(n:Nat)(L:Env)(ops:Ao_)(i:Nat):Option Oper:=
 match Jq ops.toList i with
 | some ⟨d,op,ty,p,af,g⟩=>match AI L ops ⟨d,op,ty,p,af,g⟩ with
  | some true=>match Bb n d with
   | true=>some ⟨d,op,ty,p,af,g⟩
   | false=>none
  | _=>none
 | none=>none
theorem OZ{o:Oper}(h:GY n L ops i=some o):ops[i]? =some o/\AI L ops o=some true/\Bb n o.dst=true:=by
 unfold GY at h;split at h
 ·rename_i K;rw [La,Array.getElem?_toList] at K;split at h
  ·rename_i hw;split at h
   ·rename_i O;cases h;exact⟨K,hw,O⟩
   ·cases h
  ·cases h
 ·cases h
theorem Xv(h:On n L ops i=some L'):∃o,ops[i]? =some o/\Bb n o.dst=true/\((∃v,AI L ops o=some true/\KJ L o.op=some v/\L'=Au L o.dst v)∨(AI L ops o=some false/\L'=Au L o.dst undef)):=by
 unfold On at h;split at h
 ·rename_i d op ty p af g O;rw [La,Array.getElem?_toList] at O;refine⟨_,O,?_⟩;split at h
  ·rename_i hw;split at h
   ·rename_i K;refine⟨K,.inl ?_⟩;split at h
    ·rename_i v U;refine⟨v,hw,U,?_⟩;cases d with
     | none=>cases h;rfl
     | some d=>cases h;rfl
    ·cases h
   ·cases h
  ·rename_i hw;split at h
   ·rename_i K;refine⟨K,.inr ⟨hw,?_⟩⟩;cases d with
    | none=>cases h;rfl
    | some d=>cases h;rfl
   ·cases h
  ·cases h
 ·cases h
variable {m:Nat}{D:Nat->Bool}{fuel:Nat}{listed:Array Bool}
theorem DF(i:Nat)(K:DD ops m=true)(O:s.q=false)(h:On n L ops i=some L')
  (U:AJ J Q b n ds ops k cs m D fuel (A2 listed i) L' s) (Y:Gl ops listed m i=true:=by decide+kernel):AJ J Q b n ds ops k cs m D (fuel+1) listed L s:=by
 obtain⟨o,Z,ac,⟨v,hw,ag,rfl⟩ | ⟨hw,rfl⟩⟩:=Xv h
 ·exact JG.val i Z K Y O hw ac (λρ al s' _=>Np al ag) U
 ·exact aK i Z K Y O hw ac U
theorem AM(i:Nat)(K:DD ops m=true)(O:s.q=false)(U:GY n L ops i=some ⟨d,op,ty,p,af,g⟩)
  (Y:∀ρ,EU L ρ->∀s':St,(∀x o,(Bu D s).E x=some o->s'.E x=some o)->Yl P ⟨d,op,ty,p,af,g⟩ ρ s' v)
  (Z:AJ J Q b n ds ops k cs m D fuel (A2 listed i) (Au L d v) s) (ac:Gl ops listed m i=true:=by decide+kernel):AJ J Q b n ds ops k cs m D (fuel+1) listed L s:=by
 obtain⟨ag,al,am⟩:=OZ U;exact JG.val i ag K ac O al am Y Z
end
end Pal
namespace Pal
open Go Go.Conc
abbrev Jn(E H E':LH)(S:List Seg)(K L:Env)(s:St)(R:Prop):Prop:=L=K/\s=Aj E' H S/\Le E E'/\Aq E' H S/\R
abbrev Jm(E H E':LH)(S:List Seg)(K L:Env)(s:St):Prop:=L=K/\s=Aj E' H S/\Le E E'/\Aq E' H S
def Ob(L:Env):List ResultVar->Option (Lv_)
 | []=>some []
 | .tmp t::rs=>match look L t with
  | some v=>match Ob L rs with
   | some vs=>some (v::vs)
   | none=>none
  | none=>none
 | _=>none
theorem Sx{P:Program}{L:Env}{s:St}:∀{rs:List ResultVar} {vs:Lv_},Ob L rs=some vs->RV P L s rs vs
 | [],vs,h=>by cases h;trivial
 | .tmp t::rs,vs,h=>by
  unfold Ob at h
  split at h
  ·rename_i v K
   split at h
   ·rename_i ws hw;cases h;exact⟨K,Sx hw⟩
   ·cases h
  ·cases h
 | .cell _ _::_,_,h=>by cases h
section
variable {P:Program}{J:Judge P}{Q:Gs_}{b:Frame}{n:Nat}{L L':Env}{ds:Ld_}{k k':Li_}{cs:Lf_}{s:St}{ops:Ao_}{i:Nat}{rest:List Nat}{v:Value}{E H:LH}{S:List Seg}
variable {d:Option Tmp}{op:Op}{x y:Operand}{t ft ty e:TypeId}{p:String}{af:Ae_}{g:On_}
theorem AY{c:Frame}{fn:Func}{vs:Lv_}(O:P.funcs[b.fn]? =some fn)(K:(b.kind== .normal&&b.roundOf.isNone)=true)(U:Ob L fn.results.toList=some vs)(h:J.ok Q (G (c.finish (Nw vs)) cs) s):JL J Q b n L [] (.code .ret::k) (c::cs) s:=by
 simp only [Bool.and_eq_true,beq_iff_eq,Option.isNone_iff_eq_none] at K;exact JL.ret K.1 K.2 (BE.list O rfl (Sx U)) h
theorem B2{f:FuncId}{args:Array Operand}{ats:Array TypeId}{vs:Lv_}{R:Value->LH->Seg->Prop}
  (O:AN J f vs E [] R) (U:FA b n L ops i=some ⟨d,.call ⟨.value (.func f),args,ats⟩,ty,p,af,g⟩) (Y:evs L args.toList=some vs) (hb:Dt P f=true)
  (Z:Aq E H S) (ac:∀v E' seg',Le E E'->R v E' seg'->Aq E' H (S++ [seg'])->JL J Q b n (Au L d v) ds (.inRegion ops rest::k) cs (Aj E' H (S++ [seg']))):
  JL J Q b n L ds (.inRegion ops (i::rest)::k) cs (Aj E H S):=by
 obtain⟨ag,al,K⟩:=Kr U;refine JS.call O ag al ?_ hb Y Z ac;simp only [BM,Bool.and_eq_true] at K ⊢;exact⟨K.1,K.2.1⟩
theorem CK{f:FuncId}{args:Array Operand}{ats:Array TypeId}{vs:Lv_}{v:Value}
  (O:AN J f vs E [] (λw E' B'=>w=v/\B'= [])) (U:FA b n L ops i=some ⟨d,.call ⟨.value (.func f),args,ats⟩,ty,p,af,g⟩) (Y:evs L args.toList=some vs) (hb:Dt P f=true)
  (K:Aq E H S) (Z:∀E',Le E E'->Aq E' H (S++ [[]])->JL J Q b n (Au L d v) ds (.inRegion ops rest::k) cs (Aj E' H (S++ [[]]))):
  JL J Q b n L ds (.inRegion ops (i::rest)::k) cs (Aj E H S):=B2 O U Y hb K (by rintro _ E' _ hle ⟨rfl,rfl⟩ K;exact Z E' hle K)
theorem Cu{f:FuncId}{args:Array Operand}{ats:Array TypeId}{vs:Lv_}{seg:Seg}{R:Value->LH->Seg->Prop}(j:Nat)
  (O:AN J f vs E seg R) (U:FA b n L ops i=some ⟨d,.call ⟨.value (.func f),args,ats⟩,ty,p,af,g⟩) (Y:evs L args.toList=some vs) (hb:Dt P f=true)
  (Z:Aq E H S) (ac:S[j]? =some seg) (ag:∀v E' seg',Le E E'->R v E' seg'->Aq E' H (S.set j seg')->JL J Q b n (Au L d v) ds (.inRegion ops rest::k) cs (Aj E' H (S.set j seg'))):
  JL J Q b n L ds (.inRegion ops (i::rest)::k) cs (Aj E H S):=by
 obtain⟨al,am,K⟩:=Kr U;refine Rx j O al am ?_ hb Y Z ac ag;simp only [BM,Bool.and_eq_true] at K ⊢;exact⟨K.1,K.2.1⟩
def Mh(K:Array Field)(i:Nat):Option (Nat×TypeId):=match K[i]? with
 | some f=>some (f.offset,f.type)
 | none=>none
theorem Bq{r m m':Int}{u:TypeId}(h:Aw (m+m')=some r)(K:FA b n L ops i=some ⟨d,.binOp .add t x y u,ty,p,af,g⟩)(O:ev L x=some (iV m))(U:ev L y=some (iV m'))
  (Y:JL J Q b n (Au L d (iV r)) ds (.inRegion ops rest::k) cs s):JL J Q b n L ds (.inRegion ops (i::rest)::k) cs s:=Al K (λ_ q=>Gc (q _ _ O) (q _ _ U) h) Y
theorem Cl{r m m':Int}{u:TypeId}(h:Aw (m - m')=some r)(K:FA b n L ops i=some ⟨d,.binOp .sub t x y u,ty,p,af,g⟩)(O:ev L x=some (iV m))(U:ev L y=some (iV m'))
  (Y:JL J Q b n (Au L d (iV r)) ds (.inRegion ops rest::k) cs s):JL J Q b n L ds (.inRegion ops (i::rest)::k) cs s:=Al K (λ_ q=>Eg (q _ _ O) (q _ _ U) h) Y
theorem JL.ln{a:Option Addr}{e:TypeId}{l c:Nat}{ats:Array TypeId}(K:P.underlying t=some (.slice e))(O:FA b n L ops i=some ⟨d,.call ⟨.builtin .len,#[x],ats⟩,ty,p,af,g⟩)(U:ats[0]? =some t)(Y:ev L x=some (.slice a l c))
  (Z:JL J Q b n (Au L d (.int .i64 l)) ds (.inRegion ops rest::k) cs s):JL J Q b n L ds (.inRegion ops (i::rest)::k) cs s:=Al O (λ_ q=>Yl.len U K (q _ _ Y)) Z
theorem JL.fd{bk o O off:Nat}{U:Array Field}{Y:Nat}(Z:P.underlying t=some (.struct U))(ac:Bh P ft=some (O+1))(ag:FA b n L ops i=some ⟨d,.fieldAddr t x Y,ty,p,af,g⟩)(al:ev L x=some (.pointer (some ⟨bk,o,none⟩)))(K:Mh U Y=some (off,ft))
  (am:JL J Q b n (Au L d (.pointer (some ⟨bk,o+off,none⟩))) ds (.inRegion ops rest::k) cs s):
  JL J Q b n L ds (.inRegion ops (i::rest)::k) cs s:=by
 unfold Mh at K;split at K
 ·rename_i f ap;cases K;refine Al ag (λρ h=>Ct (a:=⟨bk,o,none⟩) O f.offset Z ac ap rfl rfl (h _ _ al)) ?_;rw [Dz rfl];exact am
 ·cases K
theorem C8{bk o:Nat}{ws:Lv_}(j:Nat)(K:At E bk o ws)(O:Db P t=some false)(U:FA b n L ops i=some ⟨d,.load t x,ty,p,af,g⟩)(Y:ev L x=some (.pointer (some ⟨bk,o+j,none⟩)))(Z:ws[j]? =some v)
  (ac:JL J Q b n (Au L d v) ds (.inRegion ops rest::k) cs (Aj E H S)):
  JL J Q b n L ds (.inRegion ops (i::rest)::k) cs (Aj E H S):=
 Al U (λ_ h=>Yl.load O (h _ _ Y) (At.Lo K Z)) ac
theorem aL{bk off:Nat}{c:Av_}(j:Nat)(K:Aq E H S)(O:Bh P t=some v.cells.size)(U:FA b n L ops i=some ⟨d,.store t x y,ty,p,af,g⟩)
  (Y:ev L x=some (.pointer (some ⟨bk,off,none⟩))) (Z:ev L y=some v) (ac:S[j]? =some [(bk,.cells c e (0,0))])
  (h:Aq E H (S.set j [(bk,.cells (A9 c off v.cells.toList) e (0,0))])->JL J Q b n (Au L d undef) ds (.inRegion ops rest::k) cs (Aj E H (S.set j [(bk,.cells (A9 c off v.cells.toList) e (0,0))])))
  (hle:off+v.cells.size<=c.size:=by exact Nat.le_of_ble_eq_true rfl) (ag:∀u∈v.cells.toList,C7 u=true:=by simp [Value.cells,C7]):
  JL J Q b n L ds (.inRegion ops (i::rest)::k) cs (Aj E H S):=by
 obtain⟨al,am,ap⟩:=Kr U;exact JS.store j al am ap K Y Z O ag ac hle h
theorem Cj{bk o:Nat}{ws:Lv_}(K:At E bk o ws)(O:Db P t=some true)(U:Bh P t=some ws.length)(Y:FA b n L ops i=some ⟨d,.load t x,ty,p,af,g⟩)(Z:ev L x=some (.pointer (some ⟨bk,o,none⟩)))
  (ac:JL J Q b n (Au L d (.agg ws.toArray)) ds (.inRegion ops rest::k) cs (Aj E H S)):
  JL J Q b n L ds (.inRegion ops (i::rest)::k) cs (Aj E H S):=
 Al Y (λ_ h=>Jc O U (h _ _ Z) (At.PC K)) ac
variable {m:Nat}{D:Nat->Bool}{fuel:Nat}{listed:Array Bool}
theorem JG.fd{bk o O off:Nat}{U:Array Field}{Y:Nat}(i:Nat)(Z:DD ops m=true)(ac:P.underlying t=some (.struct U))(ag:Bh P ft=some (O+1))(al:s.q=false)(am:GY n L ops i=some ⟨d,.fieldAddr t x Y,ty,p,af,g⟩)(ap:ev L x=some (.pointer (some ⟨bk,o,none⟩)))(K:Mh U Y=some (off,ft))
  (aq:AJ J Q b n ds ops k cs m D fuel (A2 listed i) (Au L d (.pointer (some ⟨bk,o+off,none⟩))) s) (av:Gl ops listed m i=true:=by decide+kernel):AJ J Q b n ds ops k cs m D (fuel+1) listed L s:=by
 unfold Mh at K;split at K
 ·rename_i f aw;cases K;refine AM i Z al am (λρ h _ _=>Ct (a:=⟨bk,o,none⟩) O f.offset ac ag aw rfl rfl (h _ _ ap)) ?_ av;rw [Dz rfl];exact aq
 ·cases K
theorem EP{bk o:Nat}{ws:Lv_}(i:Nat)(K:DD ops m=true)(j:Nat)(O:At (Bu D s).E bk o ws)(U:Db P t=some false)(Y:s.q=false)(Z:GY n L ops i=some ⟨d,.load t x,ty,p,af,g⟩)(ac:ev L x=some (.pointer (some ⟨bk,o+j,none⟩)))(ag:ws[j]? =some v)
  (al:AJ J Q b n ds ops k cs m D fuel (A2 listed i) (Au L d v) s) (am:Gl ops listed m i=true:=by decide+kernel):AJ J Q b n ds ops k cs m D (fuel+1) listed L s:=
 AM i K Y Z (λ_ h _ ap=>Yl.load U (h _ _ ac) (At.Qd O ap ag)) al am
theorem Jj{bk o:Nat}{ws:Lv_}(i:Nat)(K:DD ops m=true)(O:At (Bu D s).E bk o ws)(U:Db P t=some true)(Y:Bh P t=some ws.length)(Z:s.q=false)(ac:GY n L ops i=some ⟨d,.load t x,ty,p,af,g⟩)(ag:ev L x=some (.pointer (some ⟨bk,o,none⟩)))
  (al:AJ J Q b n ds ops k cs m D fuel (A2 listed i) (Au L d (.agg ws.toArray)) s) (am:Gl ops listed m i=true:=by decide+kernel):AJ J Q b n ds ops k cs m D (fuel+1) listed L s:=
 AM i K Z ac (λ_ h _ ap=>Jc U Y (h _ _ ag) (At.Y0 O ap)) al am
end
end Pal
namespace Pal
open Go Go.Conc
abbrev Qr:=Int×List Int×Nat
abbrev AD:=List (Int×Int)
abbrev CE:=List Int×Int×Nat
abbrev Ao:=Option Addr
abbrev DZ:Rp (Int×Int):=rP rI rI
theorem ip{α:Type}{p:Prop} [Decidable p] {A B:Option α}{r:α}(h:(if p then A else B)=some r)(c:p):A=some r:=by rwa [if_pos c] at h
theorem im{α:Type}{p:Prop} [Decidable p] {A B:Option α}{r:α}(h:(if p then A else B)=some r)(c:¬p):B=some r:=by rwa [if_neg c] at h
theorem ib{α:Type}{c:Bool}{A B:Option α}{r:α}(h:(if c=true then A else B)=some r)(K:c=false):B=some r:=by subst K;simpa using h
def Qk(n:Nat)(ops:Ao_):List Nat->Nat->Env->Option (Nat×Env)
 | [],f,L=>some (f,L)
 | i::l,f+1,L=>match On n L ops i with
  | some L'=>Qk n ops l f L'
  | none=>none
 | _::_,0,_=>none
def P2(ops:Ao_)(m:Nat):Array Bool->List Nat->Bool
 | _,[]=>true
 | listed,i::l=>Gl ops listed m i&&P2 ops m (A2 listed i) l
def Uc:Array Bool->List Nat->Array Bool
 | listed,[]=>listed
 | listed,i::l=>Uc (A2 listed i) l
theorem A7{P:Program}{J:Judge P}{Q:Gs_}{b:Frame}{n:Nat}{ds:Ld_}{k:Li_}{cs:Lf_}{s:St}{ops:Ao_}{m:Nat}{D:Nat->Bool}{L':Env}{U:Nat}(Y:DD ops m=true)(Z:s.q=false):
  ∀(l:List Nat) {fuel:Nat} {listed:Array Bool} {L:Env},Qk n ops l fuel L=some (U,L')->AJ J Q b n ds ops k cs m D U (Uc listed l) L' s->(K:P2 ops m listed l=true:=by decide+kernel)->AJ J Q b n ds ops k cs m D fuel listed L s
 | [],fuel,listed,L,h,O,_=>by cases h;exact O
 | i::l,fuel,listed,L,h,O,K=>by
  cases fuel with
  | zero=>cases h
  | succ fuel=>
   unfold P2 at K;rw [Bool.and_eq_true] at K;unfold Qk at h;split at h
   ·rename_i ac e;exact DF i Y Z e (A7 Y Z l h O K.2) K.1
   ·cases h
theorem zg{P:Program}{J:Judge P}{Q:Gs_}{b:Frame}{n:Nat}{L L':Env}{ds:Ld_}{k k':Li_}{cs:Lf_}{s:St}(m:Nat)(h:NR b n m k L=some (k',L'))(K:JL J Q b n L' ds k' cs s):JL J Q b n L ds k cs s:=JL.go m h K
abbrev bX(r:Nat)(c:Av_)(t:TypeId):Seg:= [(r,.cells c t (0,0))]
end Pal
namespace Pal
open Go Go.Conc
section
variable {P:Program}{J:Judge P}{Q:Gs_}{b:Frame}{n:Nat}{L L':Env}{ds:Ld_}{k:Li_}{cs:Lf_}{s:St}{ops:Ao_}{E H:LH}{S:List Seg}
variable {α:Type}{A B:Option α}{r:α}
theorem AQ{c:Operand}{x y:Code}{p:Prop} [Decidable p] (K:(if p then A else B)=some r)(O:p->A=some r->JL J Q b n L ds (.code x::k) cs s)(U:¬p->B=some r->JL J Q b n L ds (.code y::k) cs s)
  (Y:ev L c=some (.bool (decide p)):=by exact rfl):JL J Q b n L ds (.code (.cond c x y)::k) cs s:=Gd Y (λh=>O h (ip K h)) λh=>U h (im K h)
theorem CB{c:Operand}{x y:Code}{t:Bool}(K:(if t=true then A else B)=some r)(O:t=true->A=some r->JL J Q b n L ds (.code x::k) cs s)(U:t=false->B=some r->JL J Q b n L ds (.code y::k) cs s)
  (Y:ev L c=some (.bool t):=by exact rfl):JL J Q b n L ds (.code (.cond c x y)::k) cs s:=Pd Y (λh=>O h (ip K h)) λh=>U h (ib K h)
theorem Gg{q:Prop} [Decidable q] (i:Nat)(K:(if q then A else B)=some r)(O:q->A=some r->JL J Q b n (Au L (some i) (.bool true)) ds k cs s)(U:¬q->B=some r->JL J Q b n (Au L (some i) (.bool false)) ds k cs s)
  (Y:look L i=some (.bool (decide q)):=by exact rfl):JL J Q b n L ds k cs s:=LY Y (λh=>O h (ip K h)) λh=>U h (im K h)
theorem EM{t:Bool}(i:Nat)(K:(if t=true then A else B)=some r)(O:t=true->A=some r->JL J Q b n (Au L (some i) (.bool true)) ds k cs s)(U:t=false->B=some r->JL J Q b n (Au L (some i) (.bool false)) ds k cs s)
  (Y:look L i=some (.bool t):=by exact rfl):JL J Q b n L ds k cs s:=Ko Y (λh=>O h (ip K h)) λh=>U h (ib K h)
theorem CY{K O:Type}{c:Code}{body:K->Option (Bo K O)}{f:Nat}{U:K}{a:O}(Z:iter body f U=some a)(I:Env->St->K->Prop)(ac:I L' s U)
  (round:∀L s x,I L s x->(∀Y,body x=some (.done Y)->Y=a)->(∃st,body x=some st)->(∀L' s' x',I L' s' x'->body x=some (.more x')->JL J Q b n L' ds (.inLoop c::k) cs s')->JL J Q b n L ds (.code c:: .inLoop c::k) cs s)
  (ag:Il L L'=It L':=by exact rfl):JL J Q b n L ds (.code (.loop c)::k) cs s:=Er L' ag (RB Z I ac round)
variable {m:Nat}{D:Nat->Bool}{fuel:Nat}{listed:Array Bool}
def N4(ops:Ao_):Array Bool->List Nat->Bool
 | _,[]=>true
 | l,i::t=>Region.ready .any ops l== [i]&&N4 ops (A2 l i) t
theorem SN:∀{t:List Nat} {l:Array Bool},N4 ops l t=true->∀u,Region.linearise.go .any ops t.length u l []=t
 | [],_,_,_=>rfl
 | i::t,l,h,u=>by
  unfold N4 at h
  rw [Bool.and_eq_true,beq_iff_eq] at h
  exact ZH h.1 (SN h.2) u
theorem Dk(t:List Nat)(O:JL J Q b n L ds (.inRegion ops t::k) cs s)(K:(Qb m listed&&N4 ops listed t&&(fuel+1==t.length))=true:=by decide+kernel):AJ J Q b n ds ops k cs m D (fuel+1) listed L s:=by
 rw [Bool.and_eq_true,Bool.and_eq_true,beq_iff_eq] at K;exact AJ.leaf K.1.1 (by rw [K.2];exact SN K.1.2) O
theorem Fg(m:Nat){id:Nat}(h:DD ops m=true->AJ J Q b n ds ops k cs m C9 ops.size (Array.replicate ops.size false) L (Aj E H S))(hm:P.follows .mixedOrders=true:=by exact rfl)(K:(b.kind != .early)=true:=by exact rfl)(O:DD ops m=true:=by decide+kernel):
  JL J Q b n L ds (.code (.region id ops true)::k) cs (Aj E H S):=Xb m hm K O h
theorem Fw(m:Nat)(bks:List Nat){id:Nat}(K:HR S bks)(O:Aq E H S)(h:DD ops m=true->AJ J Q b n ds ops k cs m (AW bks) ops.size (Array.replicate ops.size false) L (Aj E H S))(hm:P.follows .mixedOrders=true:=by exact rfl)(U:(b.kind != .early)=true:=by exact rfl)(Y:DD ops m=true:=by decide+kernel):
  JL J Q b n L ds (.code (.region id ops true)::k) cs (Aj E H S):=Xj m bks K O hm U Y h
theorem FN{α:Type}{pp:Rp α}{a:Option Addr}{c:Nat}{xs:List α}{xv:α}{K:Int}{d:Option Tmp}{x y:Operand}{t ty e:TypeId}{p:String}{af:Ae_}{g:On_}{kd:IntKind}(i:Nat)(O:Am pp E a c xs)(U:ix xs K=some xv)(Y:DD ops m=true)(Z:P.underlying t=some (.slice e))(ac:Bh P e=some pp.n)
  (h:∀bk o ws,pp.r E ws xv->At E bk o ws->AJ J Q b n ds ops k cs m D fuel (A2 listed i) (Au L d (.pointer (some ⟨bk,o,none⟩))) s)
  (ag:ops[i]? =some ⟨d,.indexAddr t x y,ty,p,af,g⟩:=by exact rfl) (al:Gl ops listed m i=true:=by decide+kernel) (am:s.q=false:=by exact rfl)
  (hw:AI L ops ⟨d,.indexAddr t x y,ty,p,af,g⟩=some true:=by exact rfl) (ap:Bb n d=true:=by exact rfl)
  (aq:ev L x=some (.slice a xs.length c):=by exact rfl) (av:ev L y=some (.int kd K):=by exact rfl):
  AJ J Q b n ds ops k cs m D (fuel+1) listed L s:=Z7 i O U ag Y al am hw ap aq av Z ac h
end
end Pal
namespace Pal
open Go Go.Conc
theorem Ep{P:Program}{J:Judge P}{Q:Gs_}{b:Frame}{n:Nat}{ds:Ld_}{ops:Ao_}{k:Li_}{cs:Lf_}{m fuel:Nat}{D:Nat->Bool}{listed:Array Bool}{L L':Env}{s:St}(k':AJ J Q b n ds ops k cs m D fuel listed L' s)(h:Il L L'=It L'):AJ J Q b n ds ops k cs m D fuel listed L s:=Ef (NL h) k'
instance {α:Type} [DecidableEq α] (xs:List α):Decidable (xs= []):=inferInstance
section
variable {P:Program}{J:Judge P}{Q:Gs_}{b:Frame}{n:Nat}{L L':Env}{ds:Ld_}{k:Li_}{cs:Lf_}{s:St}{ops:Ao_}{E H:LH}{S:List Seg}{i:Nat}{rest:List Nat}
variable {d:Option Tmp}{x y:Operand}{t u ty e:TypeId}{p:String}{af:Ae_}{g:On_}{v w:Value}
end
section
variable {P:Program}{J:Judge P}{Q:Gs_}{b:Frame}{n:Nat}{ds:Ld_}{ops:Ao_}{k:Li_}{cs:Lf_}{m fuel:Nat}{listed:Array Bool}{L:Env}{E H:LH}{S:List Seg}
variable {d:Option Tmp}{x y:Operand}{t ty e:TypeId}{p:String}{af:Ae_}{g:On_}{v:Value}{i:Nat}
theorem M1{s:St}{D:Nat->Bool}{i j l:Nat}(K:s.q=false)(O:Region.ready .any ops listed= [i,j,l])(hi:Take J Q b n ds ops k cs m D fuel listed L s i)(U:Take J Q b n ds ops k cs m D fuel listed L s j)(Y:Take J Q b n ds ops k cs m D fuel listed L s l):AJ J Q b n ds ops k cs m D (fuel+1) listed L s:=
 OR K O (by simp) (by intro q K;simp at K;rcases K with rfl | rfl | rfl <;> assumption)
end
theorem Am.cut{α:Type}{pp:Rp α}{E:LH}{a:Option Addr}{c:Nat}{xs ys:List α}{lo hi:Int}(Y:Am pp E a c xs)(hC:Hp xs lo hi=some ys):
  ∃Z ac,Am pp E Z ac ys/\∀{P:Program} {ρ:Operand->Value} {s:St} {d:Option Tmp} {x:Operand} {t ty e:TypeId} {p:String} {af:Ae_} {g:On_} {olo ohi:Option Operand},P.underlying t=some (.slice e)->Bh P e=some pp.n->ρ x= .slice a xs.length c->
   (match ohi with | some w=>ρ w=iV hi | none=>hi=xs.length)->(match olo with | some w=>ρ w=iV lo | none=>lo=0)->Yl P ⟨d,.slice t x olo ohi none,ty,p,af,g⟩ ρ s (.slice Z ys.length ac):=by
 unfold Hp at hC;split at hC
 rotate_left
 ·cases hC
 rename_i hb;obtain⟨a1,a2,ap⟩:=hb;cases hC;obtain⟨lo,rfl⟩:∃l:Nat,lo=l:=⟨lo.toNat,by omega⟩;obtain⟨hi,rfl⟩:∃l:Nat,hi=l:=⟨hi.toNat,by omega⟩;simp only [Int.toNat_natCast] at*;have a3:=Y.1;have hlen:((xs.take hi).drop lo).length=hi - lo:=by simp;omega
 have ag:∀ad:Addr,a=some ad->ad.spot=none∨c=0:=λad K=>by
  rcases Y.2 with⟨_,h⟩ | ⟨bk,off,h,_⟩
  ·exact h ad K
  ·rw [h] at K;cases K;exact .inl rfl
 refine⟨if c=lo then a else a.map (·.add (lo*pp.n)),c - lo,⟨by rw [hlen];omega,?_⟩,?_⟩
 ·by_cases aq:hi - lo=0
  ·left;refine⟨List.eq_nil_of_length_eq_zero (by rw [hlen];exact aq),λad K=>?_⟩;split at K
   ·exact(ag ad K).imp id λh=>by omega
   ·cases a with
    | none=>cases K
    | some av=>
     simp only [Option.map_some,Option.some.injEq] at K;subst K;exact .inl (by rw [Dz ((ag av rfl).resolve_right (by omega))])
  ·right;rcases Y.2 with⟨h,_⟩ | ⟨bk,off,rfl,O⟩
   ·subst h;simp at ap;omega
   ·refine⟨bk,off+lo*pp.n,?_,λq z U=>?_⟩
    ·rw [if_neg (by omega),Option.map_some,Dz rfl]
    ·rw [List.getElem?_drop,List.getElem?_take] at U;split at U
     ·obtain⟨ws,aw,al⟩:=O _ z U;refine⟨ws,aw,?_⟩;rw [Nat.add_mul] at al;rw [Nat.add_assoc];exact al
     ·cases U
 ·intro P ρ s d x t ty e p af g olo ohi ay az a0 O am;rw [hlen];refine Yl.slice (mx:=c) (hi:=hi) (lo:=lo) ay az a0 rfl ?_ ?_ (Nat.le_refl _) (by omega) (by omega)
  ·cases ohi with
   | none=>exact⟨by simp only at O;omega,rfl⟩
   | some w=>exact O
  ·cases olo with
   | none=>simp only at am;show lo=0;omega
   | some w=>exact am
end Pal
namespace Pal
open Go Go.Conc
section
variable {P:Program}{J:Judge P}{Q:Gs_}{b:Frame}{n:Nat}{ds:Ld_}{ops:Ao_}{k:Li_}{cs:Lf_}{m fuel:Nat}{D:Nat->Bool}{listed:Array Bool}{L:Env}{E H:LH}{S:List Seg}
theorem HF{S1 S':List Seg}(K:S=S1)(O:S1.Perm S')(U:Aq E H S)(h:Aq E H S'->AJ J Q b n ds ops k cs m D fuel listed L (Aj E H S')):AJ J Q b n ds ops k cs m D fuel listed L (Aj E H S):=by
 subst K;exact AJ.perm O.flatten U h
end
end Pal
namespace Pal
open Go Go.Conc
section
variable {P:Program}{J:Judge P}{Q:Gs_}{b:Frame}{n:Nat}{L L':Env}{ds:Ld_}{k:Li_}{cs:Lf_}{s:St}{ops:Ao_}{E H:LH}{S:List Seg}{i:Nat}{rest:List Nat}
variable {d:Option Tmp}{x y:Operand}{t u ty e e2:TypeId}{p:String}{af:Ae_}{g:On_}{v w:Value}
def J3(E:LH):Nat->Bool:=λx=>(E x).isNone
theorem YY(x:Nat):(Bu (J3 E) (Aj E H S)).E x=(Aj E H S).get x:=by
 show(if J3 E x then(Aj E H S).get x else E x)=_
 unfold J3;cases h:E x with
 | none=>simp
 | some o=>
  rw [if_neg (by simp)];unfold St.get;rw [show(Aj E H S).E x=some o from h]
theorem Qg{s':St}(K:∀x o,(Bu (J3 E) (Aj E H S)).E x=some o->s'.E x=some o){x:Nat}{o:Obj}(h:(Aj E H S).get x=some o):s'.get x=some o:=by
 have:=K x o (by rw [YY];exact h);unfold St.get;rw [this]
theorem Mm{s':St}(K:∀x o,(Bu (J3 E) (Aj E H S)).E x=some o->s'.E x=some o){a:Addr}{v:Value}(h:(Aj E H S).cell? a=some v):s'.cell? a=some v:=by
 obtain⟨o,O,U⟩:=Option.bind_eq_some_iff.1 h;unfold St.cell?;rw [Qg K O];exact U
theorem TR{s':St}(K:∀x o,(Bu (J3 E) (Aj E H S)).E x=some o->s'.E x=some o){a:Addr}{vs:Lv_}(h:∀(i:Nat) v,vs[i]? =some v->(Aj E H S).cell? (Addr.add a i)=some v):∀(i:Nat) v,vs[i]? =some v->s'.cell? (Addr.add a i)=some v:=λi v O=>Mm K (h i v O)
theorem P7(m:Nat){id:Nat}(h:DD ops m=true->AJ J Q b n ds ops k cs m (J3 E) ops.size (Array.replicate ops.size false) L (Aj E H S))(hm:P.follows .mixedOrders=true:=by exact rfl)(K:(b.kind != .early)=true:=by exact rfl)(O:DD ops m=true:=by decide+kernel):
  JL J Q b n L ds (.code (.region id ops true)::k) cs (Aj E H S):=Pf m (J3 E) rfl hm K (h O)
abbrev rs(q:Nat×Obj)(K:Seg)(p:Nat×Obj)(g2:Seg):Seg:=q::(K++ [p]++g2)
end
end Pal
namespace Pal
open Go Go.Conc
section
variable {κ ν:Type} [DecidableEq κ]
def KN(xs:List (κ×ν)):Prop:=(xs.map (·.1)).Nodup
theorem KN.perm{xs ys:List (κ×ν)}(h:KN xs)(p:ys.Perm xs):KN ys:=((p.map (λq:κ×ν=>q.1)).nodup_iff).2 h
theorem Rz{xs:List (κ×ν)}(h:KN xs){x:κ}{v:ν}:BI xs x=some v↔(x,v)∈xs:=by
 induction xs with
 | nil=>simp [BI]
 | cons y ys U=>
  have O:y.1 ∉ ys.map (·.1)/\KN ys:=by simpa [KN] using h
  by_cases e:x=y.1
  ·subst e;have K:BI (y::ys) y.1=some y.2:=by simp [BI]
   rw [K];constructor
   ·intro q;cases q;simp
   ·intro q;rcases List.mem_cons.1 q with q | q
    ·rw [← q]
    ·exact absurd (List.mem_map.2 ⟨_,q,rfl⟩) O.1
  ·have K:BI (y::ys) x=BI ys x:=by simp [BI,e]
   rw [K,U O.2];constructor
   ·intro q;exact List.mem_cons_of_mem _ q
   ·intro q;rcases List.mem_cons.1 q with q | q
    ·exact absurd (by rw [← q]) e
    ·exact q
theorem Rh{xs ys:List (κ×ν)}(h:KN xs)(p:ys.Perm xs)(x:κ):BI ys x=BI xs x:=by
 apply Option.ext;intro v;rw [Rz h,Rz (h.perm p),p.mem_iff]
def DY(xs:List (κ×ν))(x:κ):List (κ×ν):=xs.filter λy=>decide (x≠y.1)
theorem Rm{xs:List (κ×ν)}{x:κ}(h:∀y∈xs,x≠y.1):DY xs x=xs:=List.filter_eq_self.2 λy K=>by simpa using h y K
theorem M0{x:κ}{v:ν}:∀{xs:List (κ×ν)},KN xs->(Da xs x v).Perm ((x,v)::DY xs x)
 | [],_=> .refl _
 | y::ys,h=>by
  have K:y.1 ∉ ys.map (·.1)/\KN ys:=by simpa [KN] using h
  unfold Da;by_cases e:x=y.1
  ·rw [if_pos e];have e2:DY (y::ys) x=ys:=by
    have:DY (y::ys) x=DY ys x:=by simp [DY,e]
    rw [this];exact Rm λz O q=>K.1 (List.mem_map.2 ⟨z,O,by rw [← q,e]⟩)
   rw [e2]
  ·rw [if_neg e];have e2:DY (y::ys) x=y::DY ys x:=by simp [DY,e]
   rw [e2];exact((M0 K.2).cons y).trans (List.Perm.swap _ _ _)
theorem OY{xs ys:List (κ×ν)}(p:ys.Perm xs)(x:κ):(DY ys x).Perm (DY xs x):=p.filter _
theorem Vw{xs ys:List (κ×ν)}(h:KN xs)(p:ys.Perm xs)(x:κ)(v:ν):(Da ys x v).Perm (Da xs x v):=
 (M0 (h.perm p)).trans (((OY p x).cons _).trans (M0 h).symm)
theorem KN.del{xs:List (κ×ν)}(h:KN xs)(x:κ):KN (DY xs x):=by
 unfold KN DY;exact List.Nodup.sublist (List.Sublist.map _ List.filter_sublist) h
theorem KN.put{xs:List (κ×ν)}(h:KN xs)(x:κ)(v:ν):KN (Da xs x v):=by
 refine KN.perm ?_ (M0 h);unfold KN;simp only [List.map_cons,List.nodup_cons];refine⟨λq=>?_,h.del x⟩;obtain⟨z,K,e⟩:=List.mem_map.1 q;have:=(List.mem_filter.1 K).2;simp at this;exact this e.symm
variable {pk:Rp κ}{pv:Rp ν}{ka va:Bool}{E E' H:LH}
def BF(pk:Rp κ)(ka:Bool)(pv:Rp ν)(va:Bool)(E:LH)(o:Obj)(xs:List (κ×ν)):Prop:=KN xs/\∃ys,ys.Perm xs/\KG pk ka pv va E o ys
theorem BF.Ah{o:Obj}{xs:List (κ×ν)}(h:BF pk ka pv va E o xs)(hle:Le E E'):BF pk ka pv va E' o xs:=
 let ⟨K,ys,O,U⟩:=h;⟨K,ys,O,U.Ah hle⟩
theorem BF.perm{o:Obj}{xs ys:List (κ×ν)}(h:BF pk ka pv va E o xs)(p:ys.Perm xs):BF pk ka pv va E o ys:=
 let ⟨K,O,U,Y⟩:=h;⟨K.perm p,O,U.trans p.symm,Y⟩
theorem BF.nil:BF pk ka pv va E (.map #[] 0) []:=⟨List.nodup_nil,[],.refl _,⟨#[],0,rfl,trivial,.nil,by simp⟩⟩
def rM(pk:Rp κ)(ka:Bool)(pv:Rp ν)(va:Bool):Rp (List (κ×ν)):=⟨1,λE ws xs=>∃bk o,ws= [.map (some bk)]/\E bk=some o/\BF pk ka pv va E o xs,
 λhle ⟨bk,o,h,K,O⟩=>⟨bk,o,h,hle _ _ K,O.Ah hle⟩,λ⟨bk,o,h,_,_⟩=>by subst h;rfl,λ⟨bk,o,h,_,_⟩ w hw=>by subst h;simp at hw;subst hw;rfl⟩
section
variable {P:Program}{s:St}{t tm te:TypeId}{X:Halt->St->Prop}{bk:Nat}{o:Obj}{xs:List (κ×ν)}{k w:Value}{x:κ}{v0:ν}
theorem Vk(K:Gz P t pk ka)(hm:P.underlying tm=some (.map t te)){z:Value}{z0:ν}(O:zeroOf P te=some z)(U:Vr pv va E z z0)(Y:s.get bk=some o)(Z:BF pk ka pv va E o xs)(ac:Vr pk ka E k x)(ok:Bool){Q:Value->St->Prop}
  (h:∀w,Vr pv va E w ((BI xs x).getD z0)->Q (if ok then .tuple #[w,.bool (BI xs x).isSome] else w) s):lp P (Instr.lookup tm (.map (some bk)) k ok) s Q X:=by
 obtain⟨ag,ys,al,am⟩:=Z;refine Wc K hm O U Y am ac ok ?_;rw [Rh ag al];exact h
theorem UI(O:Gz P t pk ka)(hm:P.underlying tm=some (.map t te))(U:s.get bk=some o)(Y:s.H bk=some o)(Z:BF pk ka pv va E o xs)(ac:Vr pk ka E k x)(hw:Vr pv va E w v0){Q:Unit->St->Prop}
  (h:∀o',BF pk ka pv va E o' (Da xs x v0)->Q () (s.upd bk o')):lp P (Instr.mapUpdate tm (.map (some bk)) k w) s Q X:=by
 obtain⟨K,ys,ag,al⟩:=Z;exact UQ O hm U Y al ac hw λo' am=>h o' ⟨K.put _ _,_,Vw K ag _ _,am⟩
theorem Dv.erase(Y:Vr pk ka E k x):∀{es:List MapEntry} {ys:List (κ×ν)} {i:Nat},Dv pk ka pv va E es ys->KN ys->
  (Gp x es ys i=none/\DY ys x=ys)∨∃j u,Gp x es ys i=some (i+j,u)/\Dv pk ka pv va E (es.eraseIdx j) (DY ys x)
 | [],[],i,_,_=> .inl ⟨rfl,rfl⟩
 | e::es,y::ys,i,h,Z=>by
  have U:y.1 ∉ ys.map (·.1)/\KN ys:=by simpa [KN] using Z
  unfold Gp;by_cases K:x=y.1
  ·refine .inr ⟨0,e.val,by rw [if_pos K];rfl,?_⟩;have e2:DY (y::ys) x=ys:=by
    have:DY (y::ys) x=DY ys x:=by simp [DY,K]
    rw [this];exact Rm λz ac q=>U.1 (List.mem_map.2 ⟨z,ac,by rw [← q,K]⟩)
   rw [e2];exact h.2.2
  ·have e2:DY (y::ys) x=y::DY ys x:=by simp [DY,K]
   rcases Dv.erase Y (i:=i+1) h.2.2 U.2 with⟨a1,O⟩ | ⟨j,u,a1,O⟩
   ·exact .inl ⟨by rw [if_neg K];exact a1,by rw [e2,O]⟩
   ·refine .inr ⟨j+1,u,by rw [if_neg K,a1];congr 2;omega,?_⟩;rw [e2];exact⟨h.1,h.2.1,O⟩
 | [],_::_,_,h,_=>h.elim
 | _::_,[],_,h,_=>h.elim
theorem Vn(ag:Gz P t pk ka)(hm:P.underlying tm=some (.map t te))(av:s.get bk=some o)(al:s.H bk=some o)(aw:BF pk ka pv va E o xs)(K:Vr pk ka E k x){u:TypeId}{Q:Value->St->Prop}
  (h:∀o',BF pk ka pv va E o' (DY xs x)->Q (.tuple #[]) (s.upd bk o')):lp P (Builtin.delete_ #[tm,t] u #[.map (some bk),k]) s Q X:=by
 obtain⟨O,ys,U,es,c,rfl,Y,am,ap⟩:=aw;unfold Builtin.delete_;simp only [List.getElem?_toArray,List.getElem?_cons_zero,List.getElem?_cons_succ];refine As _ _ (Cd hm ?_)
 dsimp only;refine As _ _ ?_;unfold getObj;simp only [bind,Sem.bind,lp];refine⟨_,av,rfl,?_⟩;refine As (x:=Instr.checkKey _ 10000 t k) _ (ag.BM K ?_);refine As (x:=Instr.findKey t k es.toList) _ (OM ag K Y ?_);rcases Dv.erase K (i:=0) Y (O.perm U) with⟨Z,e2⟩ | ⟨j,u,Z,e2⟩
 ·rw [Z];simp only [setObj,lp,pure];refine⟨⟨_,al,rfl⟩,rfl,h _ ⟨O.del _,_,OY U x,es,c,rfl,by rw [e2];exact Y,am,ap⟩⟩
 ·rw [Z];simp only [setObj,lp,pure];have aq:(es.toList.eraseIdx j).Sublist es.toList:=List.eraseIdx_sublist _ _;have ac:(es.eraseIdxIfInBounds (0+j)).toList=es.toList.eraseIdx j:=by rw [Nat.zero_add];simp
  refine⟨⟨_,al,rfl⟩,rfl,h _ ⟨O.del _,_,OY U x,_,c,rfl,by rw [ac];exact e2,?_,?_⟩⟩
  ·rw [ac];exact am.sublist (aq.map _)
  ·rw [ac];exact λe he=>ap e (aq.subset he)
end
section
variable {P:Program}{J:Judge P}{Q:Gs_}{b:Frame}{n:Nat}{ds:Ld_}{ops:Ao_}{kk:Li_}{cs:Lf_}{L:Env}{s:St}{S:List Seg}
variable {d:Option Tmp}{x y z:Operand}{t u ty e tm te:TypeId}{p:String}{af:Ae_}{g:On_}{i:Nat}{rest:List Nat}{bk:Nat}{o:Obj}{xs:List (κ×ν)}{k w:Value}{x0:κ}{v0:ν}{ρ:Operand->Value}
theorem Yl.lookup{K v:Value}{z0:ν}{ok:Bool}(O:Gz P t pk ka)(hm:P.underlying tm=some (.map t te))(U:zeroOf P te=some K)(Y:Vr pv va E K z0)(Z:BF pk ka pv va E o xs)(ac:Vr pk ka E k x0)
  (ag:∀w,Vr pv va E w ((BI xs x0).getD z0)->(if ok then .tuple #[w,.bool (BI xs x0).isSome] else w)=v) (al:ρ x= .map (some bk)) (am:ρ y=k) (ap:s.get bk=some o):Yl P ⟨d,.lookup tm x y ok,ty,p,af,g⟩ ρ s v:=by
 refine Fq (sm:=Instr.lookup tm (ρ x) (ρ y) ok) rfl ?_;rw [al,am];exact Vk O hm U Y ap Z ac ok λw hw=>⟨ag w hw,rfl⟩
theorem JS.makeMap(K:ops[i]? =some ⟨d,.makeMap t none,ty,p,af,g⟩)(hw:AI L ops ⟨d,.makeMap t none,ty,p,af,g⟩=some true)(O:BM b n ⟨d,.makeMap t none,ty,p,af,g⟩=true)(U:Aq E H S)
  (h:∀r,Aq E H (S++ [[(r,.map #[] 0)]])->JL J Q b n (Au L d (.map (some r))) ds (.inRegion ops rest::kk) cs (Aj E H (S++ [[(r,.map #[] 0)]]))):
  JL J Q b n L ds (.inRegion ops (i::rest)::kk) cs (Aj E H S):=
 JL.op K hw O λρ ap=>by
  show lp P (do pure (Next.value (← Instr.makeMap t none))) _ _ _
  refine As _ _ ?_
  unfold Instr.makeMap
  simp only [newObj,bind,Sem.bind,pure,lp]
  refine⟨rfl,λr Y Z=>?_⟩
  obtain⟨ac,ag⟩:=Kq Y Z (.map #[] 0) U
  obtain⟨al,p2⟩:=FK ac
  have am:(Aj E H S).upd r (.map #[] 0)=Aj E H (S++ [[(r,.map #[] 0)]]):=by rw [← al,← ag];rfl
  show JL J Q b n (Au L d (.map (some r))) ds (.inRegion ops rest::kk) cs ((Aj E H S).upd r (.map #[] 0));rw [am];exact h r p2
theorem JS.mapUpdate(j:Nat)(Y:Gz P t pk ka)(hm:P.underlying tm=some (.map t te))(Z:BF pk ka pv va E o xs)(ac:Vr pk ka E k x0)(ag:Vr pv va E w v0)(K:Aq E H S)(O:S[j]? =some [(bk,o)])
  (al:ops[i]? =some ⟨d,.mapUpdate tm x y z,ty,p,af,g⟩) (hw:AI L ops ⟨d,.mapUpdate tm x y z,ty,p,af,g⟩=some true) (am:BM b n ⟨d,.mapUpdate tm x y z,ty,p,af,g⟩=true) (ap:ev L x=some (.map (some bk))) (aq:ev L y=some k) (av:ev L z=some w)
  (h:∀o',BF pk ka pv va E o' (Da xs x0 v0)->Aq E H (S.set j [(bk,o')])->JL J Q b n (Au L d undef) ds (.inRegion ops rest::kk) cs (Aj E H (S.set j [(bk,o')]))):
  JL J Q b n L ds (.inRegion ops (i::rest)::kk) cs (Aj E H S):=
 JL.op al hw am λρ U=>by
  show lp P (do Instr.mapUpdate tm (ρ x) (ρ y) (ρ z);pure Next.skip) _ _ _
  rw [U _ _ ap,U _ _ aq,U _ _ av]
  refine As _ _ (UI Y hm (DJ (i:=0) K O rfl) (J5 K O) Z ac ag λo' aw=>?_)
  obtain⟨ay,az⟩:=Ks K O o'
  rw [ay]
  exact h o' aw az
theorem UP{at1:TypeId}(j:Nat)(Y:Gz P t pk ka)(hm:P.underlying tm=some (.map t te))(Z:BF pk ka pv va E o xs)(ac:Vr pk ka E k x0)(K:Aq E H S)(O:S[j]? =some [(bk,o)])
  (ag:ops[i]? =some ⟨d,.call ⟨.builtin .delete,#[x,y],#[tm,t]⟩,ty,p,af,g⟩) (hw:AI L ops ⟨d,.call ⟨.builtin .delete,#[x,y],#[tm,t]⟩,ty,p,af,g⟩=some true) (al:BM b n ⟨d,.call ⟨.builtin .delete,#[x,y],#[tm,t]⟩,ty,p,af,g⟩=true) (am:ev L x=some (.map (some bk))) (ap:ev L y=some k)
  (h:∀o',BF pk ka pv va E o' (DY xs x0)->Aq E H (S.set j [(bk,o')])->JL J Q b n (Au L d (.tuple #[])) ds (.inRegion ops rest::kk) cs (Aj E H (S.set j [(bk,o')]))):
  JL J Q b n L ds (.inRegion ops (i::rest)::kk) cs (Aj E H S):=
 JL.op ag hw al λρ U=>by
  have aq:execOp ρ ⟨d,.call ⟨.builtin .delete,#[x,y],#[tm,t]⟩,ty,p,af,g⟩=(do pure (Next.value (← Builtin.delete_ #[tm,t] ty #[ρ x,ρ y]))):=by
   simp [execOp,resolve,Deferred.ofValue,invoke,bind,Sem.bind,pure,Go.builtin]
  rw [aq,U _ _ am,U _ _ ap];refine As _ _ (Vn Y hm (DJ (i:=0) K O rfl) (J5 K O) Z ac λo' av=>?_);obtain⟨aw,ay⟩:=Ks K O o';rw [aw];exact h o' av ay
theorem OJ{todo:Li_}(j:Nat)(O:Aq E H S)(U:S[j]? =some [(bk,o)])
  (h:∀E',Le E E'->E' bk=some o->Aq E' H (S.set j [])->JL J Q b n L ds todo cs (Aj E' H (S.set j []))):JL J Q b n L ds todo cs (Aj E H S):=by
 obtain⟨Y,Z⟩:=Hh O U;rw [Y];have ac:((S.set j []).flatten++ [(bk,o)])[(S.set j []).flatten.length]? =some (bk,o):=by simp
 refine JL.freeze (S.set j []).flatten.length Z ac λE' hle ag K=>?_;have al:((S.set j []).flatten++ [(bk,o)]).eraseIdx (S.set j []).flatten.length=(S.set j []).flatten:=by rw [List.eraseIdx_append_of_length_le (Nat.le_refl _)];simp
 rw [al] at K ⊢;exact h E' hle ag K
theorem Rd{α:Type}{m:Nat}{f:Nat->Sem α}{s:St}{Q:α->St->Prop}{X:Halt->St->Prop}(hm:0<m)(K:s.q=false)(h:∀i,i<m->lp P (f i) s Q X):lp P ((choose (.mapNext m)).bind f) s Q X:=by
 simp only [choose,Sem.bind,lp];split
 ·exact h 0 hm
 ·exact⟨K,λt=>h _ (Nat.mod_lt _ hm)⟩
theorem JS.range{es:Array MapEntry}{c:Nat}(hm:P.underlying tm=some (.map t te))(K:(Aj E H S).get bk=some (.map es c))(O:ops[i]? =some ⟨d,.range tm x,ty,p,af,g⟩)(hw:AI L ops ⟨d,.range tm x,ty,p,af,g⟩=some true)(U:BM b n ⟨d,.range tm x,ty,p,af,g⟩=true)(Y:Aq E H S)
  (Z:ev L x=some (.map (some bk)))
  (h:∀r,Aq E H (S++ [[(r,.mapIter (some bk) c #[] c)]])->JL J Q b n (Au L d (.pointer (some ⟨r,0,none⟩))) ds (.inRegion ops rest::kk) cs (Aj E H (S++ [[(r,.mapIter (some bk) c #[] c)]]))):
  JL J Q b n L ds (.inRegion ops (i::rest)::kk) cs (Aj E H S):=
 JL.op O hw U λρ ac=>by
  show lp P (do pure (Next.value (← Instr.range tm (ρ x)))) _ _ _
  rw [ac _ _ Z]
  refine As _ _ ?_
  unfold Instr.range
  refine As _ _ (Cd hm ?_)
  simp only [getObj,newObj,bind,Sem.bind,pure,lp]
  refine⟨_,K,rfl,rfl,λr ag al=>?_⟩
  obtain⟨am,ap⟩:=Kq ag al (.mapIter (some bk) c #[] c) Y
  obtain⟨aq,p2⟩:=FK am
  have av:(Aj E H S).upd r (.mapIter (some bk) c #[] c)=Aj E H (S++ [[(r,.mapIter (some bk) c #[] c)]]):=by rw [← aq,← ap];rfl
  show JL J Q b n (Au L d (.pointer (some ⟨r,0,none⟩))) ds (.inRegion ops rest::kk) cs ((Aj E H S).upd r (.mapIter (some bk) c #[] c));rw [av];exact h r p2
theorem JS.next{es:Array MapEntry}{c r:Nat}{seen:Array Nat}(j:Nat)(am:(Aj E H S).get bk=some (.map es c))(hb:∀e∈es.toList,e.born<c)(K:Aq E H S)(O:S[j]? =some [(r,.mapIter (some bk) c seen c)])
  (ap:ops[i]? =some ⟨d,.next x false,ty,p,af,g⟩) (hw:AI L ops ⟨d,.next x false,ty,p,af,g⟩=some true) (aq:BM b n ⟨d,.next x false,ty,p,af,g⟩=true) (U:ev L x=some (.pointer (some ⟨r,0,none⟩)))
  (av:∀e∈es.toList,e.born ∉ seen->Aq E H (S.set j [(r,.mapIter (some bk) c (seen.push e.born) c)])->JL J Q b n (Au L d (.tuple #[.bool true,e.key,e.val])) ds (.inRegion ops rest::kk) cs (Aj E H (S.set j [(r,.mapIter (some bk) c (seen.push e.born) c)])))
  (aw:(∀e∈es.toList,e.born∈seen)->JL J Q b n (Au L d (.tuple #[.bool false])) ds (.inRegion ops rest::kk) cs (Aj E H S)):
  JL J Q b n L ds (.inRegion ops (i::rest)::kk) cs (Aj E H S):=
 JL.op ap hw aq λρ ay=>by
  show lp P (do pure (Next.value (← Instr.next (ρ x) false ty))) _ _ _
  rw [ay _ _ U]
  refine As _ _ ?_
  unfold Instr.next
  simp only [getObj,setObj,bind,Sem.bind,pure,lp]
  refine⟨_,DJ (i:=0) K O rfl,rfl,?_⟩
  simp only [lp]
  refine⟨_,am,rfl,?_⟩
  have az:(!seen.isEmpty&& !es.isEmpty&&es.all (λe=>decide (e.born>=c)))=false:=by
   by_cases he:es.toList= []
   ·have:es.isEmpty=true:=by simpa [Array.isEmpty_iff] using he
    simp [this]
   ·obtain⟨e,ag⟩:=List.exists_mem_of_ne_nil _ he;have bi:=hb e ag;have:es.all (λe=>decide (e.born>=c))=false:=by
     cases U:es.all (λe=>decide (e.born>=c)) with
     | false=>rfl
     | true=>
      have:=Array.all_eq_true'.1 U e (Array.mem_toList_iff.1 ag);simp at this;omega
    simp [this]
  have a0:Array.filter (λx:MapEntry=>decide (x.born<c)) (Array.filter (λe=> !seen.contains e.born) es)=Array.filter (λe=> !seen.contains e.born) es:=by
   apply Array.toList_inj.1;rw [Array.toList_filter,List.filter_eq_self];intro e he;rw [Array.toList_filter] at he;simpa using hb e (List.mem_filter.1 he).1
  have e2:Array.filter (λx:MapEntry=>decide (x.born>=c)) (Array.filter (λe=> !seen.contains e.born) es)= #[]:=by
   apply Array.toList_inj.1;rw [Array.toList_filter,List.filter_eq_nil_iff];intro e he;rw [Array.toList_filter] at he;have:=hb e (List.mem_filter.1 he).1;simp;omega
  dsimp only;rw [if_neg (by rw [az];exact Bool.false_ne_true),a0,e2];have Y:∀e,e∈(Array.filter (λe=> !seen.contains e.born) es).toList↔e∈es.toList/\e.born ∉ seen:=by
   intro e;rw [Array.toList_filter,List.mem_filter];simp
  generalize Array.filter (λe:MapEntry=> !seen.contains e.born) es=left at Y ⊢;by_cases Z:left.toList= []
  ·have a1:left= #[]:=Array.toList_inj.1 Z;subst a1;refine Rd (by simp) rfl λi hi=>?_;obtain rfl:i=0:=by simp at hi;exact hi
   have a2:((if(#[]:Array MapEntry).isEmpty=true then #[none] else #[])++Array.map some ((#[]:Array MapEntry)++ #[]))[0]? =some none:=by simp
   rw [a2];refine aw λe he=>?_;by_cases al:e.born∈seen
   ·exact al
   ·have:=(Y e).2 ⟨he,al⟩;simp at this
  ·have a3:left.isEmpty=false:=by
    cases a4:left.isEmpty with
    | false=>rfl
    | true=>exact absurd (by simpa [Array.isEmpty_iff] using a4) Z
   rw [a3];simp only [Bool.false_eq_true,if_false,Array.append_empty,Array.empty_append];have a5:0<left.size:=by
    rcases Nat.eq_zero_or_pos left.size with ac | ac
    ·exact absurd (by simpa using Array.eq_empty_of_size_eq_zero ac) Z
    ·exact ac
   refine Rd (by simpa using a5) rfl λi hi=>?_;have a6:i<left.size:=by simpa using hi
   have a7:(Array.map some left)[i]? =some (some left[i]):=by simp [a6]
   rw [a7];simp only [lp];obtain⟨a8,a9⟩:=(Y left[i]).1 (Array.getElem_mem_toList _);refine⟨⟨_,J5 K O,rfl⟩,rfl,?_⟩;obtain⟨bb,be⟩:=Ks K O (.mapIter (some bk) c (seen.push left[i].born) c);rw [bb];exact av _ a8 a9 be
theorem JS.entry{es:Array MapEntry}{c r:Nat}{seen:Array Nat}{e:MapEntry}(j:Nat)(U:(Aj E H S).get bk=some (.map es c))(he:e∈es.toList)(hb:(es.toList.map (·.born)).Pairwise (·<·))(Y:Aq E H S)(Z:S[j]? =some [(r,.mapIter (some bk) c (seen.push e.born) c)])
  (ac:ops[i]? =some ⟨d,.entry x,ty,p,af,g⟩) (hw:AI L ops ⟨d,.entry x,ty,p,af,g⟩=some true) (ag:BM b n ⟨d,.entry x,ty,p,af,g⟩=true) (al:ev L x=some (.pointer (some ⟨r,0,none⟩)))
  (h:JL J Q b n (Au L d (.tuple #[e.key,e.val])) ds (.inRegion ops rest::kk) cs (Aj E H S)):
  JL J Q b n L ds (.inRegion ops (i::rest)::kk) cs (Aj E H S):=
 JL.op ac hw ag λρ am=>by
  show lp P (do pure (Next.value (← Instr.entry (ρ x)))) _ _ _
  rw [am _ _ al]
  refine As _ _ ?_
  unfold Instr.entry
  simp only [getObj,bind,Sem.bind,pure,lp]
  refine⟨_,DJ (i:=0) Y Z rfl,rfl,?_⟩
  simp only [Array.back?_push,bne_self_eq_false,lp]
  refine⟨_,U,rfl,?_⟩
  have ap:es.find? (λx=>x.born==e.born)=some e:=by
   rw [← Array.find?_toList];have key:∀(l:List MapEntry),e∈l->(l.map (·.born)).Pairwise (·<·)->l.find? (λx=>x.born==e.born)=some e:=by
    intro l
    induction l with
    | nil=>intro h;cases h
    | cons y l aq=>
     intro hm K;rw [List.map_cons,List.pairwise_cons] at K;by_cases O:y.born=e.born
     ·rcases List.mem_cons.1 hm with rfl | hm
      ·simp
      ·have:=K.1 e.born (List.mem_map.2 ⟨e,hm,rfl⟩);omega
     ·rw [List.find?_cons_of_neg (by simpa using O)];rcases List.mem_cons.1 hm with rfl | hm
      ·exact absurd rfl O
      ·exact aq hm K.2
   exact key _ he hb
  simp only [bne_self_eq_false,Bool.false_eq_true,if_false,ap,lp];exact h
end
end
end Pal
namespace Pal
open Go Go.Conc
theorem Kj{E H:LH}{S:List Seg}{bk:Nat}{o:Obj}(h:E bk=some o):(Aj E H S).get bk=some o:=by
 show(match E bk with | some o=>some o | none=>_)=some o
 rw [h]
theorem QD{α β:Type}(f:α->β){l:List α}(h:(l.map f).Nodup):l.Nodup:=by
 unfold List.Nodup at h ⊢;rw [List.pairwise_map] at h;exact h.imp λh e=>h (by rw [e])
theorem RY{α:Type}:∀{l l':List α},l.Nodup->(∀x∈l,x∈l')->l.length<=l'.length
 | [],_,_,_=>Nat.zero_le _
 | x::l,l',h,O=>by
  obtain⟨a,b,rfl⟩:=List.append_of_mem (O x (by simp))
  have U:=List.nodup_cons.1 h
  have:=RY (l:=l) (l':=a++b) U.2 (λy Y=>by
   have K:=O y (List.mem_cons_of_mem _ Y)
   have Z:y≠x:=λe=>U.1 (e▸Y)
   simp at K ⊢
   rcases K with K | K | K
   ·exact .inl K
   ·exact absurd K Z
   ·exact .inr K)
  simp at this ⊢;omega
section
variable {κ ν:Type} [DecidableEq κ] {pk:Rp κ}{pv:Rp ν}{ka va:Bool}{E E' H:LH}
def IQ(es:Array MapEntry)(ys:List (κ×ν))(seen:Array Nat)(done:List (κ×ν)):Prop:=
 ∃K:List (MapEntry×(κ×ν)),done=K.map (·.2)/\seen.toList=K.map (·.1.born)/\K.Nodup/\∀q∈K,q∈es.toList.zip ys
theorem IQ.nil{es:Array MapEntry}{ys:List (κ×ν)}:IQ es ys #[] []:=⟨[],rfl,rfl,.nil,by simp⟩
theorem RX:∀{es:List MapEntry} {ys:List (κ×ν)},(es.map (·.born)).Pairwise (·<·)->∀{p q:MapEntry×(κ×ν)},p∈es.zip ys->q∈es.zip ys->p.1.born=q.1.born->p=q
 | [],_,_,_,_,h,_,_=>by simp at h
 | _::_,[],_,_,_,h,_,_=>by simp at h
 | e::es,y::ys,U,p,q,K,O,hb=>by
  rw [List.map_cons,List.pairwise_cons] at U
  rw [List.zip_cons_cons] at K O
  have Y:∀{z:MapEntry×(κ×ν)},z∈es.zip ys->z.1.born∈es.map (·.born):=λ{z} Z=>by
   have:=(List.of_mem_zip Z).1
   exact List.mem_map.2 ⟨z.1,this,rfl⟩
  rcases List.mem_cons.1 K with rfl | K <;> rcases List.mem_cons.1 O with rfl | O
  ·rfl
  ·have:=U.1 _ (Y O);simp at hb;omega
  ·have:=U.1 _ (Y K);simp at hb;omega
  ·exact RX U.2 K O hb
theorem Dv.zip:∀{es:List MapEntry} {ys:List (κ×ν)},Dv pk ka pv va E es ys->∀{q:MapEntry×(κ×ν)},q∈es.zip ys->Vr pk ka E q.1.key q.2.1/\Vr pv va E q.1.val q.2.2
 | [],[],_,_,h=>by simp at h
 | e::es,y::ys,h,q,K=>by
  rw [List.zip_cons_cons] at K
  rcases List.mem_cons.1 K with rfl | K
  ·exact⟨h.1,h.2.1⟩
  ·exact Dv.zip h.2.2 K
 | [],_::_,h,_,_=>h.elim
 | _::_,[],h,_,_=>h.elim
theorem RJ:∀{es:List MapEntry} {ys:List (κ×ν)},KN ys->(es.map (·.born)).Pairwise (·<·)->∀{p q:MapEntry×(κ×ν)},p∈es.zip ys->q∈es.zip ys->p.2.1=q.2.1->p=q
 | [],_,_,_,_,_,h,_,_=>by simp at h
 | _::_,[],_,_,_,_,h,_,_=>by simp at h
 | e::es,y::ys,ac,Y,p,q,K,O,hb=>by
  have U:y.1 ∉ ys.map (·.1)/\KN ys:=by simpa [KN] using ac
  rw [List.map_cons,List.pairwise_cons] at Y;rw [List.zip_cons_cons] at K O;have Z:∀{z:MapEntry×(κ×ν)},z∈es.zip ys->z.2.1∈ys.map (·.1):=λ{z} ag=>List.mem_map.2 ⟨z.2,(List.of_mem_zip ag).2,rfl⟩;rcases List.mem_cons.1 K with rfl | K <;> rcases List.mem_cons.1 O with rfl | O
  ·rfl
  ·have:=Z O;simp only at hb;rw [← hb] at this;exact absurd this U.1
  ·have:=Z K;simp only at hb;rw [hb] at this;exact absurd this U.1
  ·exact RJ U.2 Y.2 K O hb
theorem IQ.len{es:Array MapEntry}{ys:List (κ×ν)}{seen:Array Nat}{done:List (κ×ν)}(h:IQ es ys seen done):done.length<=ys.length:=by
 obtain⟨Y,rfl,Z,K,O⟩:=h;rw [List.length_map];have U:=RY K O;exact Nat.le_trans U (by rw [List.length_zip];exact Nat.min_le_right _ _)
section
variable {P:Program}{J:Judge P}{Q:Gs_}{b:Frame}{n:Nat}{ds:Ld_}{ops:Ao_}{kk:Li_}{cs:Lf_}{L:Env}{s:St}{S:List Seg}
variable {d:Option Tmp}{x y z:Operand}{t u ty e tm te:TypeId}{p:String}{af:Ae_}{g:On_}{i:Nat}{rest:List Nat}{bk:Nat}{o:Obj}{xs ys:List (κ×ν)}
theorem Rw{es:Array MapEntry}{c r:Nat}{seen:Array Nat}{done:List (κ×ν)}(j:Nat)(ag:Dv pk ka pv va E es.toList ys)(Z:(es.toList.map (·.born)).Pairwise (·<·))(hb:∀e∈es.toList,e.born<c)(av:KN ys)(aw:IQ es ys seen done)(ay:(Aj E' H S).get bk=some (.map es c))(az:Aq E' H S)(a0:S[j]? =some [(r,.mapIter (some bk) c seen c)])
  (a2:ops[i]? =some ⟨d,.next x false,ty,p,af,g⟩) (hw:AI L ops ⟨d,.next x false,ty,p,af,g⟩=some true) (a3:BM b n ⟨d,.next x false,ty,p,af,g⟩=true) (a4:ev L x=some (.pointer (some ⟨r,0,none⟩)))
  (a5:∀e O,Vr pk ka E e.key O.1->Vr pv va E e.val O.2->O∈ys->O.1 ∉ done.map (·.1)->e∈es.toList->IQ es ys (seen.push e.born) (done++ [O])->Aq E' H (S.set j [(r,.mapIter (some bk) c (seen.push e.born) c)])->
   JL J Q b n (Au L d (.tuple #[.bool true,e.key,e.val])) ds (.inRegion ops rest::kk) cs (Aj E' H (S.set j [(r,.mapIter (some bk) c (seen.push e.born) c)])))
  (a6:done.Perm ys->JL J Q b n (Au L d (.tuple #[.bool false])) ds (.inRegion ops rest::kk) cs (Aj E' H S)):
  JL J Q b n L ds (.inRegion ops (i::rest)::kk) cs (Aj E' H S):=by
 obtain⟨ac,rfl,a1,al,Y⟩:=aw;have hlen:=ag.len;refine JS.next j ay hb az a0 a2 hw a3 a4 (λe he a7 a8=>?_) (λa9=>?_)
 ·obtain⟨m,hm,bb⟩:=List.mem_iff_getElem.1 he;have U:(e,ys[m]'(by omega))∈es.toList.zip ys:=by
   rw [← bb];have:(es.toList.zip ys)[m]'(by rw [List.length_zip];omega)=(es.toList[m],ys[m]'(by omega)):=List.getElem_zip;rw [← this];exact List.getElem_mem _
  obtain⟨k1,be⟩:=ag.zip U;have am:(e,ys[m]'(by omega)) ∉ ac:=λq=>a7 (by
   rw [← Array.mem_toList_iff,a1]
   exact List.mem_map.2 ⟨_,q,rfl⟩)
  refine a5 e _ k1 be (List.getElem_mem _) (λq=>?_) he ⟨ac++ [(e,ys[m]'(by omega))],by simp,by simp [a1],?_,λq K=>?_⟩ a8
  ·obtain⟨O,bi,bn⟩:=List.mem_map.1 q;obtain⟨z,ap,rfl⟩:=List.mem_map.1 bi;have:=RJ av Z (Y z ap) U bn;exact am (this▸ap)
  ·rw [List.nodup_append];exact⟨al,by simp,by intro q K z aq bo;simp at aq;subst aq bo;exact am K⟩
  ·rcases List.mem_append.1 K with K | K
   ·exact Y q K
   ·simp at K;subst K;exact U
 ·refine a6 ?_;have bv:ac.Perm (es.toList.zip ys):=by
   have bw:(es.toList.zip ys).Nodup:=by
    have:((es.toList.zip ys).map (·.1)).Nodup:=by
     rw [List.map_fst_zip (by omega)];exact QD (λe:MapEntry=>e.born) (Z.imp (λh=>Nat.ne_of_lt h))
    exact QD _ this
   refine(List.perm_ext_iff_of_nodup al bw).2 λq=>⟨λK=>Y q K,λK=>?_⟩;have:=a9 q.1 (List.of_mem_zip K).1;rw [← Array.mem_toList_iff,a1] at this;obtain⟨z,U,bx⟩:=List.mem_map.1 this;have:=RX Z (Y z U) K bx;exact this▸U
  have:=bv.map (·.2)
  rwa [List.map_snd_zip (by omega)] at this
end
end
end Pal
namespace Pal
open Go Go.Conc
section
variable {P:Program}{J:Judge P}{Q:Gs_}{b:Frame}{n:Nat}{ds:Ld_}{ops:Ao_}{k:Li_}{cs:Lf_}{fuel:Nat}{D:Nat->Bool}{listed:Array Bool}{L L':Env}{s:St}{xl:List Nat}
variable {d:Option Tmp}{op:Op}{ty:TypeId}{p:String}{af:Ae_}{g:On_}{v:Value}
theorem HT(i:Nat)(pure:Bool)(K:s.q=false)(O:GY n L ops i=some ⟨d,op,ty,p,af,g⟩)
  (U:∀ρ,EU L ρ->∀s':St,(pure=false->∀x o,(Bu D s).E x=some o->s'.E x=some o)->Yl P ⟨d,op,ty,p,af,g⟩ ρ s' v)
  (Y:Gn J Q b n ds ops k cs (AW xl) D fuel (A2 listed i) (Au L d v) s) (Z:Lt ops listed xl pure i=true:=by decide+kernel):Gn J Q b n ds ops k cs (AW xl) D (fuel+1) listed L s:=by
 obtain⟨ac,ag,al⟩:=OZ O;exact JB.val i pure ac Z K ag al U Y
def Qq(n:Nat)(L:Env)(ops:Ao_)(i:Nat):Option Env:=
 match Jq ops.toList i with
 | some ⟨d,op,ty,p,af,g⟩=>match AI L ops ⟨d,op,ty,p,af,g⟩ with
  | some true=>match Bb n d with
   | true=>match KJ L op with
    | some v=>match d with
     | some d=>some ((d,v)::L)
     | none=>some L
    | none=>none
   | false=>none
  | _=>none
 | none=>none
theorem Xm{i:Nat}(h:Qq n L ops i=some L'):∃o v,ops[i]? =some o/\Bb n o.dst=true/\AI L ops o=some true/\KJ L o.op=some v/\L'=Au L o.dst v:=by
 unfold Qq at h;split at h
 ·rename_i d op ty p af g K;rw [La,Array.getElem?_toList] at K;split at h
  ·rename_i hw;split at h
   ·rename_i O;split at h
    ·rename_i v U;refine⟨_,v,K,O,hw,U,?_⟩;cases d with
     | none=>cases h;rfl
     | some d=>cases h;rfl
    ·cases h
   ·cases h
  ·cases h
 ·cases h
theorem Bm(i:Nat)(K:s.q=false)(h:Qq n L ops i=some L')
  (O:Gn J Q b n ds ops k cs (AW xl) D fuel (A2 listed i) L' s) (U:Lt ops listed xl true i=true:=by decide+kernel):Gn J Q b n ds ops k cs (AW xl) D (fuel+1) listed L s:=by
 obtain⟨o,v,Y,Z,hw,ac,rfl⟩:=Xm h;exact JB.val i true Y U K hw Z (λρ ag s' _=>Np ag ac) O
end
end Pal
namespace Pal
open Go Go.Conc
section
variable {P:Program}{J:Judge P}{Q:Gs_}{b:Frame}{n:Nat}{L L':Env}{ds:Ld_}{k:Li_}{cs:Lf_}{s:St}{ops:Ao_}{E H:LH}{S:List Seg}{i i2:Nat}{rest:List Nat}
variable {d d2:Option Tmp}{x y x2:Operand}{t t2 ft u ty ty2 e:TypeId}{p p2:String}{af af2:Ae_}{g g2:On_}{v w:Value}
theorem Du(O:Aq E H S)(h:∀r E',Le E E'->At E' r 0 v.cells.toList->Aq E' H (S++ [[]])->JL J Q b n (Au L d (.pointer (some ⟨r,0,none⟩))) ds (.inRegion ops rest::k) cs (Aj E' H (S++ [[]])))
  (U:FA b n L ops i=some ⟨d,.box e x,ty,p,af,g⟩:=by exact rfl) (Y:ev L x=some v:=by exact rfl):JL J Q b n L ds (.inRegion ops (i::rest)::k) cs (Aj E H S):=by
 obtain⟨Z,ac,ag⟩:=Kr U;refine JS.box Z ac ag O Y λr al=>Di (bk:=r) (c:=v.cells) (e:=e) (f:=(0,0)) S.length al (by simp) λE' hle am K=>?_;have ap:(S++ [[(r,Obj.cells v.cells e (0,0))]]).set S.length []=S++ [[]]:=by simp
 rw [ap] at K ⊢;exact h r E' hle am K
theorem BV{z:Value}(K:Aq E H S)(O:zeroOf P e=some z)(h:∀r,Aq E H (S++ [[(r,.cells z.cells e (0,0))]])->JL J Q b n (Au L d (.pointer (some ⟨r,0,none⟩))) ds (.inRegion ops rest::k) cs (Aj E H (S++ [[(r,.cells z.cells e (0,0))]])))
  (U:FA b n L ops i=some ⟨d,.alloc e,ty,p,af,g⟩:=by exact rfl):JL J Q b n L ds (.inRegion ops (i::rest)::k) cs (Aj E H S):=by
 obtain⟨Y,Z,ac⟩:=Kr U;exact JS.alloc Y Z ac K O h
theorem BL{bk off K:Nat}{c:Av_}(j:Nat)(O:Aq E H S)(U:Bh P t=some K)
  (h:Aq E H (S.set j [(bk,.cells (A9 c off v.cells.toList) e (0,0))])->JL J Q b n (Au L d undef) ds (.inRegion ops rest::k) cs (Aj E H (S.set j [(bk,.cells (A9 c off v.cells.toList) e (0,0))])))
  (Y:FA b n L ops i=some ⟨d,.store t x y,ty,p,af,g⟩:=by exact rfl) (Z:ev L x=some (.pointer (some ⟨bk,off,none⟩)):=by exact rfl) (ac:ev L y=some v:=by exact rfl) (ag:S[j]? =some [(bk,.cells c e (0,0))]:=by exact rfl)
  (al:K=v.cells.size:=by exact rfl) (hle:off+v.cells.size<=c.size:=by exact Nat.le_of_ble_eq_true rfl) (am:v.cells.toList.all C7=true:=by first | exact rfl | simp [Value.cells,C7]):
  JL J Q b n L ds (.inRegion ops (i::rest)::k) cs (Aj E H S):=aL j O (by rw [← al];exact U) Y Z ac ag h hle (List.all_eq_true.1 am)
theorem B8{bk o K Y off:Nat}{O:Array Field}{U:Nat}{ws:Lv_}(j:Nat)(Z:At E bk o ws)(ac:P.underlying t=some (.struct O))(ag:Bh P ft=some (Y+1))(al:Db P t2=some false)
  (am:JL J Q b n (Au (Au L d (.pointer (some ⟨bk,K+off,none⟩))) d2 v) ds (.inRegion ops rest::k) cs (Aj E H S))
  (ap:FA b n L ops i=some ⟨d,.fieldAddr t x U,ty,p,af,g⟩:=by exact rfl) (aq:ev L x=some (.pointer (some ⟨bk,K,none⟩)):=by exact rfl) (av:Mh O U=some (off,ft):=by exact rfl)
  (aw:FA b n (Au L d (.pointer (some ⟨bk,K+off,none⟩))) ops i2=some ⟨d2,.load t2 x2,ty2,p2,af2,g2⟩:=by exact rfl) (ay:ev (Au L d (.pointer (some ⟨bk,K+off,none⟩))) x2=some (.pointer (some ⟨bk,o+j,none⟩)):=by exact rfl) (az:ws[j]? =some v:=by exact rfl):
  JL J Q b n L ds (.inRegion ops (i::i2::rest)::k) cs (Aj E H S):=JL.fd ac ag ap aq av (C8 j Z al aw ay az am)
theorem JS.ix{α:Type}{pp:Rp α}{a:Option Addr}{c:Nat}{xs:List α}{xv:α}{m:Int}{kd:IntKind}(K:Am pp E a c xs)(hm:ix xs m=some xv)(O:P.underlying t=some (.slice e))(U:Bh P e=some pp.n)
  (h:∀bk o ws,pp.r E ws xv->At E bk o ws->JL J Q b n (Au L d (.pointer (some ⟨bk,o,none⟩))) ds (.inRegion ops rest::k) cs (Aj E H S))
  (Y:FA b n L ops i=some ⟨d,.indexAddr t x y,ty,p,af,g⟩:=by exact rfl) (Z:ev L x=some (.slice a xs.length c):=by exact rfl) (ac:ev L y=some (.int kd m):=by exact rfl):
  JL J Q b n L ds (.inRegion ops (i::rest)::k) cs (Aj E H S):=by
 obtain⟨ag,al,am⟩:=Kr Y;exact Sp K hm ag al am Z ac O U h
theorem DW(K:List Seg)(O:Env){todo:Li_}{c:Code}(U:∀E',Le E E'->Aq E' H K->JL J Q b n O ds todo cs (Aj E' H K))
  (h:(∀{E':LH} {L:Env},Le E E'->Aq E' H K->Il L O=It O->JL J Q b n L ds todo cs (Aj E' H K))->JL J Q b n L ds (.code c::todo) cs (Aj E H S)):JL J Q b n L ds (.code c::todo) cs (Aj E H S):=
 h λY Z ac=>AB (U _ Y Z) ac
theorem Fi{U:List Nat}(Y Z:Nat)(K:List Seg)(O:Env){todo:Li_}(ac:∀E',Le E E'->Aq E' H K->JL J Q b n O ds (.inRegion ops (List.range' Y Z)::todo) cs (Aj E' H K))
  (h:(∀{E':LH} {L:Env},Le E E'->Aq E' H K->Il L O=It O->JL J Q b n L ds (.inRegion ops (List.range' Y Z)::todo) cs (Aj E' H K))->JL J Q b n L ds (.inRegion ops U::todo) cs (Aj E H S)):JL J Q b n L ds (.inRegion ops U::todo) cs (Aj E H S):=
 h λag al am=>AB (ac _ ag al) am
theorem Dm{O ag:Type}{c:Code}{body:O->Option (Bo O ag)}{f:Nat}{Y:O}{a:ag}{Z:LH}{k:Li_}(am:iter body f Y=some a)(K:O->List Seg)(U:O->Env)(hle:Le Z E)(ap:Aq E H (K Y))
  (round:∀x E',Le Z E'->Aq E' H (K x)->(∀al,body x=some (.done al)->al=a)->(∃st,body x=some st)->(∀{L':Env} {ac:LH} (x':O),Le Z ac->Aq ac H (K x')->Il L' (U x')=It (U x')->body x=some (.more x')->JL J Q b n L' ds (.inLoop c::k) cs (Aj ac H (K x')))->JL J Q b n (U x) ds (.code c:: .inLoop c::k) cs (Aj E' H (K x)))
  (aq:Il L (U Y)=It (U Y):=by exact rfl) (av:Aj E H S=Aj E H (K Y):=by exact rfl):JL J Q b n L ds (.code (.loop c)::k) cs (Aj E H S):=by
 rw [av];refine Er _ aq (RB am (λL s x=>∃E',Jm Z H E' (K x) (U x) L s) ⟨E,rfl,rfl,hle,ap⟩ ?_);rintro _ _ x ⟨E',rfl,rfl,aw,ay⟩ hd hb az;exact round x E' aw ay hd hb λx' a0 g2 a1 a2=>AB (az _ _ x' ⟨_,rfl,rfl,a0,g2⟩ a2) a1
theorem Bi{f:FuncId}{fn:Func}{c:Code}{E:LH}{vs:Lv_}{B:Seg}{R:Value->LH->Seg->Prop}(O:P.funcs[f]? =some fn)
  (h:∀(Q:Gs_) (K:Frame) (cs:Lf_) (H:LH),Aq E H [B]->(∀{v:Value} {E':LH} {S':List Seg} {B':Seg},Le E E'->S'.flatten=B'->R v E' B'->Aq E' H S'->J.ok Q (G (K.finish v) cs) (Aj E' H S'))->JL J Q (base f) fn.ntmps (Gh 0 vs) [] [.code c] (K::cs) (Aj E H [B]))
  (hb:fn.body=some c:=by exact rfl) (U:Nat.ble vs.length fn.ntmps=true:=by exact rfl):AN J f vs E B R:=
 PO O hb U λQ K cs H Y Z=>h Q K cs H Y λac ag al am=>Z _ _ _ _ ac ag al am
variable {m:Nat}{fuel:Nat}{listed:Array Bool}{bks xl:List Nat}
theorem Kw{bk:Nat}{c:Av_}{f:Nat×Nat}(i:Nat)(K:DD ops m=true)(o:Nat)(j:Nat)(O:Aq E H S)(U:Db P t=some false)
  (Y:AJ J Q b n ds ops k cs m (AW bks) fuel (A2 listed i) (Au L d w) (Aj E H S)) (Z:GY n L ops i=some ⟨d,.load t x,ty,p,af,g⟩:=by exact rfl) (ac:ev L x=some (.pointer (some ⟨bk,o,none⟩)):=by exact rfl)
  (ag:S[j]? =some [(bk,.cells c e f)]:=by exact rfl) (hw:c[o]? =some w:=by exact rfl) (al:AW bks bk=true:=by simp [AW]) (am:Gl ops listed m i=true:=by decide+kernel):AJ J Q b n ds ops k cs m (AW bks) (fuel+1) listed L (Aj E H S):=
 AM i K rfl Z (λρ h s' ap=>Yl.load U (h _ _ ac) (Cf (o:=o) j O ag al ap hw)) Y am
theorem JG.lp{bk o:Nat}{ws:Lv_}(i:Nat)(K:DD ops m=true)(j:Nat)(O:At E bk o ws)(U:Aq E H S)(Y:HR S bks)(Z:Db P t=some false)
  (ac:AJ J Q b n ds ops k cs m (AW bks) fuel (A2 listed i) (Au L d w) (Aj E H S)) (ag:GY n L ops i=some ⟨d,.load t x,ty,p,af,g⟩:=by exact rfl) (al:ev L x=some (.pointer (some ⟨bk,o+j,none⟩)):=by exact rfl)
  (hw:ws[j]? =some w:=by exact rfl) (am:Gl ops listed m i=true:=by decide+kernel):AJ J Q b n ds ops k cs m (AW bks) (fuel+1) listed L (Aj E H S):=
 AM i K rfl ag (λρ h s' ap=>Yl.load Z (h _ _ al) (At.Qd (j:=j) O (bB U ap Y) hw)) ac am
theorem Ub{bk o K:Nat}{c:Av_}{f:Nat×Nat}(i:Nat)(O:DD ops m=true)(vs:Lv_)(j:Nat)(U:Aq E H S)(hw:∀(q:Nat) w,vs[q]? =some w->c[o+q]? =some w)(Y:Db P t=some true)(Z:Bh P t=some K)
  (ac:AJ J Q b n ds ops k cs m (AW bks) fuel (A2 listed i) (Au L d (.agg vs.toArray)) (Aj E H S)) (ag:GY n L ops i=some ⟨d,.load t x,ty,p,af,g⟩:=by exact rfl) (al:ev L x=some (.pointer (some ⟨bk,o,none⟩)):=by exact rfl)
  (am:S[j]? =some [(bk,.cells c e f)]:=by exact rfl) (ap:K=vs.length:=by exact rfl) (aq:AW bks bk=true:=by simp [AW]) (av:Gl ops listed m i=true:=by decide+kernel):AJ J Q b n ds ops k cs m (AW bks) (fuel+1) listed L (Aj E H S):=
 AM i O rfl ag (λρ h s' aw=>Jc (vs:=vs) Y (by rw [← ap];exact Z) (h _ _ al) (λq w ay=>by rw [Dz rfl];exact Cf j U am aq aw (hw q w ay))) ac av
theorem JG.ix{D:Nat->Bool}{α:Type}{xs:List α}{xv:α}{K:Int}{bk c O U:Nat}{kd:IntKind}(i:Nat)(Y:DD ops m=true)(Z:xs.length=U)(hm:ix xs K=some xv)(ac:P.underlying t=some (.slice e))(ag:Bh P e=some O)
  (al:AJ J Q b n ds ops k cs m D fuel (A2 listed i) (Au L d (.pointer (some ⟨bk,K.toNat*O,none⟩))) s) (am:s.q=false:=by exact rfl) (ap:GY n L ops i=some ⟨d,.indexAddr t x y,ty,p,af,g⟩:=by exact rfl)
  (aq:ev L x=some (.slice (some ⟨bk,0,none⟩) U c):=by exact rfl) (av:ev L y=some (.int kd K):=by exact rfl) (aw:Gl ops listed m i=true:=by decide+kernel):AJ J Q b n ds ops k cs m D (fuel+1) listed L s:=
 AM i Y am ap (λρ h s' ay=>Ft Z hm ac ag (h _ _ aq) (h _ _ av)) al aw
theorem JB.ix{D:Nat->Bool}{α:Type}{xs:List α}{xv:α}{K:Int}{bk c O U:Nat}{kd:IntKind}(i:Nat)(Y:xs.length=U)(hm:ix xs K=some xv)(Z:P.underlying t=some (.slice e))(ac:Bh P e=some O)
  (ag:Gn J Q b n ds ops k cs (AW xl) D fuel (A2 listed i) (Au L d (.pointer (some ⟨bk,K.toNat*O,none⟩))) s) (al:s.q=false:=by exact rfl) (am:GY n L ops i=some ⟨d,.indexAddr t x y,ty,p,af,g⟩:=by exact rfl)
  (ap:ev L x=some (.slice (some ⟨bk,0,none⟩) U c):=by exact rfl) (aq:ev L y=some (.int kd K):=by exact rfl) (av:Lt ops listed xl true i=true:=by decide+kernel):Gn J Q b n ds ops k cs (AW xl) D (fuel+1) listed L s:=
 HT i true al am (λρ h s' aw=>Ft Y hm Z ac (h _ _ ap) (h _ _ aq)) ag av
theorem T2{bk o K:Nat}{c:Av_}{f:Nat×Nat}(i:Nat)(vs:Lv_)(j:Nat)(O:Aq E H S)(hw:∀(q:Nat) w,vs[q]? =some w->c[o+q]? =some w)(U:Db P t=some true)(Y:Bh P t=some K)
  (Z:Gn J Q b n ds ops k cs (AW xl) (AW bks) fuel (A2 listed i) (Au L d (.agg vs.toArray)) (Aj E H S)) (ac:GY n L ops i=some ⟨d,.load t x,ty,p,af,g⟩:=by exact rfl) (ag:ev L x=some (.pointer (some ⟨bk,o,none⟩)):=by exact rfl)
  (al:S[j]? =some [(bk,.cells c e f)]:=by exact rfl) (am:K=vs.length:=by exact rfl) (ap:AW bks bk=true:=by simp [AW]) (aq:Lt ops listed xl false i=true:=by decide+kernel):Gn J Q b n ds ops k cs (AW xl) (AW bks) (fuel+1) listed L (Aj E H S):=
 HT i false rfl ac (λρ h s' av=>Jc (vs:=vs) U (by rw [← am];exact Y) (h _ _ ag) (λq w aw=>by rw [Dz rfl];exact Cf j O al ap (av rfl) (hw q w aw))) Z aq
theorem Fh{bk off K:Nat}{c:Av_}{D:Nat->Bool}(i j:Nat)(O:Aq E H S)(U:Bh P t=some K)(hle:off+K<=c.size)
  (h:Aq E H (S.set j [(bk,.cells (A9 c off v.cells.toList) e (0,0))])->Gn J Q b n ds ops k cs (AW xl) D fuel (A2 listed i) (Au L d undef) (Aj E H (S.set j [(bk,.cells (A9 c off v.cells.toList) e (0,0))])))
  (Y:GY n L ops i=some ⟨d,.store t x y,ty,p,af,g⟩:=by exact rfl) (Z:ev L x=some (.pointer (some ⟨bk,off,none⟩)):=by exact rfl) (ac:ev L y=some v:=by exact rfl) (ag:S[j]? =some [(bk,.cells c e (0,0))]:=by exact rfl)
  (al:K=v.cells.size:=by exact rfl) (am:v.cells.toList.all C7=true:=by first | exact rfl | simp [Value.cells,C7]) (ap:Region.ready .any ops listed= [i]:=by decide+kernel) (aq:AW xl i=true:=by decide+kernel):
  Gn J Q b n ds ops k cs (AW xl) D (fuel+1) listed L (Aj E H S):=by
 obtain⟨av,aw,ay⟩:=OZ Y;subst al;exact JB.store i j ap aq av aw ay O Z ac U (List.all_eq_true.1 am) ag hle h
end
end Pal
namespace Pal
open Go Go.Conc
abbrev s8(s:Nat):Value:= .int .u8 (s:Int)
def NW(a:Nat)(n:Int):Option Nat:=if 0<=n/\n<=8 then some (a>>>n.toNat) else none
def Lz(a b:Nat):Option Nat:=if a<256/\b<256 then some (a ||| b) else none
def N3(a b:Nat):Option Nat:=if a<256/\b<256 then some (a&&& b) else none
section
variable {P:Program}{s:St}{ρ:Operand->Value}{d:Option Tmp}{t u ty:TypeId}{x y:Operand}{p:String}{af:Ae_}{g:On_}{a b c r:Nat}{m:Int}
theorem T5{m:Nat}(h:m<256):IntKind.u8.wrap (m:Int)=m:=by
 simp only [IntKind.wrap,IntKind.bits,IntKind.signed];simp;omega
theorem Om{m:Nat}(h:m<256):(BitVec.ofInt IntKind.u8.bits (m:Int)).toNat=m:=by
 simp [IntKind.bits,BitVec.toNat_ofInt];omega
theorem aV{k:Nat}(a c:Nat)(K:c<=k):((a:Int).fdiv (2 ^ (min c k)))=((a>>>c:Nat):Int):=by
 rw [Nat.min_eq_left K,Nat.shiftRight_eq_div_pow,Int.fdiv_eq_ediv_of_nonneg _ (Int.pow_nonneg (by decide)),Int.natCast_ediv]
 rfl
theorem R6(K:ρ x=s8 a)(O:ρ y=iV m)(h:NW a m=some r):Yl P ⟨d,.binOp .shr t x y u,ty,p,af,g⟩ ρ s (s8 r):=by
 unfold NW at h;split at h
 ·rename_i U;cases h;have h:=Yl.shr (P:=P) (s:=s) (d:=d) (t:=t) (u:=u) (ty:=ty) (p:=p) (af:=af) (g:=g) K O U.1;rw [show IntKind.u8.bits=8 from rfl,aV a m.toNat (by omega)] at h;exact h
 ·cases h
theorem Nf(O:ρ x=s8 a)(U:ρ y=s8 b)(h:Lz a b=some r):Yl P ⟨d,.binOp .or t x y u,ty,p,af,g⟩ ρ s (s8 r):=by
 unfold Lz at h;split at h
 ·rename_i K;cases h;have h:=Yl.or (P:=P) (s:=s) (d:=d) (t:=t) (u:=u) (ty:=ty) (p:=p) (af:=af) (g:=g) O U;rw [BitVec.toNat_or,Om K.1,Om K.2,T5 (Nat.or_lt_two_pow (n:=8) K.1 K.2)] at h;exact h
 ·cases h
theorem RA(O:ρ x=s8 a)(U:ρ y=s8 b)(h:N3 a b=some r):Yl P ⟨d,.binOp .and t x y u,ty,p,af,g⟩ ρ s (s8 r):=by
 unfold N3 at h;split at h
 ·rename_i K;cases h;have h:=Yl.and (P:=P) (s:=s) (d:=d) (t:=t) (u:=u) (ty:=ty) (p:=p) (af:=af) (g:=g) O U;rw [BitVec.toNat_and,Om K.1,Om K.2,T5 (Nat.lt_of_le_of_lt Nat.and_le_left K.1)] at h;exact h
 ·cases h
end
end Pal
namespace Pal
open Go Go.Conc
def PF(a b:Nat):Option Nat:=if a<4294967296/\b<4294967296 then some (a&&& b) else none
def PT(a:Nat)(n:Int):Option Nat:=if 0<=n/\n<=32/\a*2 ^ n.toNat<4294967296 then some (a*2 ^ n.toNat) else none
def KD(n:Int):Option Nat:=if 0<=n/\n<=8 then some ((1<<<n.toNat) % 256) else none
section
variable {P:Program}{s:St}{ρ:Operand->Value}{d:Option Tmp}{t u ty e:TypeId}{x y:Operand}{p:String}{af:Ae_}{g:On_}{a b c r:Nat}{m:Int}
theorem wrap32{m:Nat}(h:m<4294967296):IntKind.u32.wrap (m:Int)=m:=by
 simp only [IntKind.wrap,IntKind.bits,IntKind.signed];simp;omega
theorem Ug{m:Nat}(h:m<4294967296):(BitVec.ofInt IntKind.u32.bits (m:Int)).toNat=m:=by
 simp [IntKind.bits,BitVec.toNat_ofInt];omega
theorem V6(O:ρ x= .int .u32 (a:Int))(U:ρ y= .int .u32 (b:Int))(h:PF a b=some r):Yl P ⟨d,.binOp .and t x y u,ty,p,af,g⟩ ρ s (.int .u32 (r:Int)):=by
 unfold PF at h;split at h
 ·rename_i K;cases h;have h:=Yl.and (P:=P) (s:=s) (d:=d) (t:=t) (u:=u) (ty:=ty) (p:=p) (af:=af) (g:=g) O U;rw [BitVec.toNat_and,Ug K.1,Ug K.2,wrap32 (Nat.lt_of_le_of_lt Nat.and_le_left K.1)] at h;exact h
 ·cases h
theorem VQ(O:ρ x= .int .u32 (a:Int))(U:ρ y=iV m)(h:PT a m=some r):Yl P ⟨d,.binOp .shl t x y u,ty,p,af,g⟩ ρ s (.int .u32 (r:Int)):=by
 unfold PT at h;split at h
 ·rename_i K;cases h;have h:=Yl.shl (P:=P) (s:=s) (d:=d) (t:=t) (u:=u) (ty:=ty) (p:=p) (af:=af) (g:=g) O U K.1;have e:IntKind.u32.wrap ((a:Int)*2 ^ (min m.toNat IntKind.u32.bits))=((a*2 ^ m.toNat:Nat):Int):=by
   have Y:min m.toNat IntKind.u32.bits=m.toNat:=by simp [IntKind.bits];omega
   rw [Y,← wrap32 K.2.2];simp
  rw [e] at h;exact h
 ·cases h
theorem L2(K:ρ x=s8 1)(O:ρ y=iV m)(h:KD m=some r):Yl P ⟨d,.binOp .shl t x y u,ty,p,af,g⟩ ρ s (s8 r):=by
 unfold KD at h;split at h
 ·rename_i U;cases h;have h:=Yl.shl (P:=P) (s:=s) (d:=d) (t:=t) (u:=u) (ty:=ty) (p:=p) (af:=af) (g:=g) K O U.1;have e:IntKind.u8.wrap (((1:Nat):Int)*2 ^ (min m.toNat IntKind.u8.bits))=(((1<<<m.toNat) % 256:Nat):Int):=
   (by decide:∀k:Fin 9,IntKind.u8.wrap (((1:Nat):Int)*2 ^ (min k.1 IntKind.u8.bits))=(((1<<<k.1) % 256:Nat):Int)) ⟨m.toNat,by omega⟩
  rw [e] at h;exact h
 ·cases h
theorem WK(K:ρ x=s8 a)(O:ρ y=s8 b)(hb:b<=256):Yl P ⟨d,.binOp .sub t x y u,ty,p,af,g⟩ ρ s (s8 ((a+(256 - b)) % 256)):=by
 have h:=Yl.sub (P:=P) (s:=s) (d:=d) (t:=t) (u:=u) (ty:=ty) (p:=p) (af:=af) (g:=g) K O;have e:IntKind.u8.wrap ((a:Int) - (b:Int))=(((a+(256 - b)) % 256:Nat):Int):=by
  simp only [IntKind.wrap,IntKind.bits,IntKind.signed];simp;omega
 rw [e] at h;exact h
theorem XQ{kd:IntKind}{E:LH}(xs:List Nat):(rA xs.length (rN kd)).r E (xs.map λx=>Value.int kd ((x:Nat):Int)) xs:=by
 refine⟨rfl,xs.map λx=> [Value.int kd ((x:Nat):Int)],?_,by simp,λi x us K hu=>?_⟩
 ·induction xs with
  | nil=>rfl
  | cons x xs O=>simp [← O]
 ·rw [List.getElem?_map,K] at hu;exact(Option.some.inj hu).symm
theorem Ni{α:Type}{kk:Nat}{pp:Rp α}{E:LH}{us:Lv_}{x:α}(h:pp.r E us x):(rA kk pp).r E (List.replicate kk us).flatten (List.replicate kk x):=
 ⟨by simp,List.replicate kk us,rfl,by simp,λi y ws K hw=>by
  rw [List.getElem?_replicate] at K hw
  split at K
  ·rename_i O
   rw [if_pos O] at hw
   cases K;cases hw
   exact h
  ·cases K⟩
theorem W0{k K:Nat}{z v:Value}(O:P.underlying t=some (.array k e))(U:zeroOf P t=some z)(Y:Bh P e=some K)(Z: .agg z.cells=v):Yl P ⟨d,.build t #[],ty,p,af,g⟩ ρ s v:=by
 refine Fq OX ?_;unfold Instr.build;refine As (x:=zeroValue t) _ (HD U ?_);refine As _ _ (Cd O ?_);refine As (x:=Go.sizeOf e) _ (EH Y ?_);subst Z;simp [Instr.fill,lp,pure]
theorem XN{k K:Nat}{z v:Value}{L:Env}{U:Array (Nat×Operand)}{vs:List (Nat×Value)}(h:EU L ρ)(Z:P.underlying t=some (.array k e))(ac:zeroOf P t=some z)(ag:Bh P e=some K)(al:U.toList.mapM (λq=>(ev L q.2).map λv=>(q.1,v))=some vs)(O:(Instr.fill (λi=>some (i*K,K)) z.cells vs).map Value.agg=some v):Yl P ⟨d,.build t U,ty,p,af,g⟩ ρ s v:=by
 refine Fq OX ?_;unfold Instr.build;refine As (x:=zeroValue t) _ (HD ac ?_);refine As _ _ (Cd Z ?_);refine As (x:=Go.sizeOf e) _ (EH ag ?_);have am:=O1 h al;have ap:(U.map λ(j,x)=>(j,ρ x)).toList=vs:=by rw [← am,Array.toList_map]
 rw [ap];cases Y:Instr.fill (λi=>some (i*K,K)) z.cells vs with
 | none=>rw [Y] at O;cases O
 | some cells=>rw [Y] at O;cases O;exact⟨rfl,rfl⟩
end
end Pal
namespace Pal
open Go Go.Conc
section
variable {P:Program}{E H:LH}{S:List Seg}{t e:TypeId}
end
section
variable {P:Program}{J:Judge P}{Q:Gs_}{b:Frame}{n:Nat}{ds:Ld_}{ops:Ao_}{k:Li_}{cs:Lf_}{m fuel:Nat}{D:Nat->Bool}{listed:Array Bool}{L:Env}{s:St}{E E' H:LH}{S:List Seg}
variable {d:Option Tmp}{x y:Operand}{t u ty e e2:TypeId}{p:String}{af:Ae_}{g:On_}{v:Value}{i:Nat}{kd:IntKind}
end
end Pal
namespace Pal
open Go Go.Conc
def G0(b:Frame)(T:Av_)(ds:Ld_)(todo:Li_)(ch:List PanicEntry):Frame:={b with tmps:=T,todo:=todo,defers:=ds,mode:= .panicking ch}
def raised(v:Value):List PanicEntry:= [{v,recovered:=false}]
def taken(v:Value):List PanicEntry:= [{v,recovered:=true}]
section
variable {P:Program}(J:Judge P)(Q:Gs_)
def JP(b:Frame)(n:Nat)(L:Env)(ds:Ld_)(cs:Lf_)(ch:List PanicEntry)(s:St):Prop:=
 ∀T,Has n L T->∀todo,J.ok Q (G (G0 b T ds todo ch) cs) s
end
section
variable {P:Program}{J:Judge P}{Q:Gs_}{b bc:Frame}{n:Nat}{L L':Env}{ds dsc:Ld_}{k:Li_}{cs:Lf_}{s:St}{ch:List PanicEntry}{T Tc:Av_}{todoc:Li_}
variable {ops:Ao_}{i:Nat}{rest:List Nat}{d:Option Tmp}{x:Operand}{ty:TypeId}{p:String}{af:Ae_}{g:On_}{v:Value}
theorem JL.panic{t:TypeId}(O:ops[i]? =some ⟨d,.panic x,ty,p,af,g⟩)(U:b.roundOf=none)(hw:AI L ops ⟨d,.panic x,ty,p,af,g⟩=some true)(Y:ev L x=some (.iface t v))
  (h:JP J Q b n L ds cs (raised (.iface t v)) s):JL J Q b n L ds (.inRegion ops (i::rest)::k) cs s:=λT K=>
 Judge.C5 rfl (λw=>by
  have he:execOp (Bx T) ⟨d,.panic x,ty,p,af,g⟩= .halt (.panic (.iface t v)):=by
   simp [execOp,Instr.panic,K.ev Y,goPanic,bind,Sem.bind]
  rw [stepG_op O (B6 K hw)]
  simp [U,stepG.apply,he,Sem.run,Sem.runT,Sem.events,GStep.after,fr,G0,Frame.raise,G,raised,seen_none]) (h T K (.inRegion ops (i::rest)::k))
theorem JP.pop{fn:Func}(K:P.funcs[b.fn]? =some fn)(h:J.ok Q (G (G0 bc Tc dsc todoc ch) cs) s):JP J Q b n L [] (fr bc Tc dsc todoc::cs) ch s:=λT O todo=>
 Judge.C5 rfl (λw=>by simp [G,stepG,unwind,G0,fr,Frame.raise,Frame.catches,K]) h
theorem JP.PI{f:FuncId}{fn:Func}{c:Code}{vs caps:Lv_}(ap:b.roundOf=none)(O:P.funcs[f]? =some fn)(Y:(fn.name== "runtime.NumGoroutine")=false)(hb:fn.body=some c)(Z:(vs++caps).length<=fn.ntmps)
  (h:∀T,Has n L T->∀todo,JL J Q (baseD f) fn.ntmps (Gh 0 (vs++caps)) [] [.code c] (G0 b T ds todo ch::cs) s):JP J Q b n L (KC f vs.toArray caps.toArray::ds) cs ch s:=λT ac todo=>by
 have ag:¬fn.name= "runtime.NumGoroutine" :=by simpa using Y
 refine Judge.C5 rfl (λw=>?_) (h T ac todo ((vs++caps).toArray++Array.replicate (fn.ntmps - (vs++caps).length) undef) ⟨by simp;simp at Z;omega,λt v al=>?_⟩)
 ·rw [BK (b:=baseD f) rfl];have:=enter_atD (P:=P) (vs++caps).toArray O hb;simp only [List.size_toArray] at this;rw [← this];simp [G,stepG,unwind,callDeferred,G0,KC,invoke,callFunc,O,ag,hb,GStep.after,seen_none]
 ·obtain⟨_,K⟩:=JE al;have am:t<(vs++caps).length:=by
   rcases Nat.lt_or_ge t (vs++caps).length with U | U
   ·exact U
   ·simp only [Nat.sub_zero] at K;have:=(List.getElem?_eq_some_iff.1 K).1;omega
  rw [Array.getD_eq_getD_getElem?,Array.getElem?_append_left (by simpa using am)];simp only [Nat.sub_zero] at K;rw [List.getElem?_toArray,K];rfl
theorem UX{ats:Array TypeId}{K:List PanicEntry}(O:ops[i]? =some ⟨d,.call ⟨.builtin .recover,#[],ats⟩,ty,p,af,g⟩)(U:b.roundOf=none)(Y:b.kind= .deferred)(ag:Bb n d=true)(hw:AI L ops ⟨d,.call ⟨.builtin .recover,#[],ats⟩,ty,p,af,g⟩=some true)
  (h:JL J Q b n (Au L d v) ds (.inRegion ops rest::k) (G0 bc Tc dsc todoc ({v,recovered:=true}::K)::cs) s):
  JL J Q b n L ds (.inRegion ops (i::rest)::k) (G0 bc Tc dsc todoc ({v,recovered:=false}::K)::cs) s:=λT Z=>
 Judge.C5 rfl (λw=>by
  have he:execOp (Bx T) ⟨d,.call ⟨.builtin .recover,#[],ats⟩,ty,p,af,g⟩= .pure .recover:=by
   simp [execOp,resolve,Deferred.ofValue,invoke,bind,Sem.bind,pure,Go.builtin]
  have ac:=Gt (b:=b) (ds:=ds) (k:=k) T ops i rest v _ O
  simp only [fr,U,Y] at ac
  rw [stepG_op O (B6 Z hw)]
  simp [U,Y,stepG.apply,he,Sem.run,Sem.runT,Sem.events,GStep.after,fr,G0,tryRecover,G,seen_none,ac]) (h _ (Z.put ag _))
theorem UT{ats:Array TypeId}(K:ops[i]? =some ⟨d,.call ⟨.builtin .recover,#[],ats⟩,ty,p,af,g⟩)(O:b.roundOf=none)(U:b.kind= .deferred)(ac:Bb n d=true)(hw:AI L ops ⟨d,.call ⟨.builtin .recover,#[],ats⟩,ty,p,af,g⟩=some true)
  (h:JL J Q b n (Au L d .nilIface) ds (.inRegion ops rest::k) (Ei bc Tc dsc todoc::cs) s):
  JL J Q b n L ds (.inRegion ops (i::rest)::k) (Ei bc Tc dsc todoc::cs) s:=λT Y=>
 Judge.C5 rfl (λw=>by
  have he:execOp (Bx T) ⟨d,.call ⟨.builtin .recover,#[],ats⟩,ty,p,af,g⟩= .pure .recover:=by
   simp [execOp,resolve,Deferred.ofValue,invoke,bind,Sem.bind,pure,Go.builtin]
  have Z:=Gt (b:=b) (ds:=ds) (k:=k) T ops i rest .nilIface _ K
  simp only [fr,O,U] at Z
  rw [stepG_op K (B6 Y hw)]
  simp [O,U,stepG.apply,he,Sem.run,Sem.runT,Sem.events,GStep.after,fr,Ei,tryRecover,G,seen_none,Z]) (h _ (Y.put ac _))
theorem JO.YH{fn:Func}(O:b.kind= .deferred)(U:P.funcs[b.fn]? =some fn)(K:fn.results= #[])(h:J.ok Q (G (Ei bc Tc dsc todoc) cs) s):JO J Q b n L [] (G0 bc Tc dsc todoc (taken v)::cs) s:=λT Z todo=>by
 refine Judge.C5 rfl (λw=>?_) h
 have Y:=results_none K T P w
 have e2:=λ(x:Array Event)=>events_results_none (P:=P) (w:=w) K T x
 simp [G,stepG,unwind,Ei,G0,U,Y,e2,doReturn,O,GStep.after,seen_none,taken]
end
end Pal
namespace Pal
open Go Go.Conc Go.Proofs
abbrev Dq:=Int×Int×Int
abbrev Ay:=List Dq
abbrev AT:=List Ay
abbrev Bn:=List (List Int)
abbrev A4:=Bn×Ay
abbrev AA:=rP rI DZ
open Go.Proofs.Tryz
def AH:=AR Tryz.type3
def Bp:=AR Tryz.type27
def FZ:=AR Tryz.type101
def I4:=AR Tryz.type105
def MK:=AR Tryz.type227
def Bg:=CW Tryz.underlying3
def LF:=A6 Tryz.func91 rfl
def FJ:=AR Tryz.type22
def FY:=CW Tryz.underlying22
def H9:=AR Tryz.type23
def Kf:=CW Tryz.underlying23
def Ed:=CW Tryz.underlying27
def BS:=Dj Tryz.type27
def GK:=AR Tryz.type28
def Kg:=CW Tryz.underlying28
def KV:=Dj Tryz.type105
def CV:=AR Tryz.type25
def IJ:=CW Tryz.underlying105
def I3:=Dj Tryz.type101
def Hb:=Dj Tryz.type77
def ET:=CW Tryz.underlying25
def Df:=AR Tryz.type77
def FI:=CW Tryz.underlying77
def CG:=Dj Tryz.type3
def Jy:=A6 Tryz.func70 rfl
def Oz:=A6 Tryz.func84 rfl
def H8:=A6 Tryz.func74 rfl
def LL:=AR Tryz.type4
def Ou:=CW Tryz.underlying4
def A8:=AR Tryz.type80
def BC:=CW Tryz.underlying80
def HC:=AR Tryz.type197
def HB:=A6 Tryz.func85 rfl
def LJ:=Dj Tryz.type28
def LK:=Dj Tryz.type4
def ME:=A6 Tryz.func115 rfl
def KU:=Dj Tryz.type209
def H7:=A6 Tryz.func204 rfl
def OC:=Dj Tryz.type80
def MA:=CW Tryz.underlying167
def Ot:=CW Tryz.underlying83
def LG:=A6 Tryz.func71 rfl
def Oy:=A6 Tryz.func205 rfl
def Ow:=A6 Tryz.func179 rfl
def Ov:=A6 Tryz.func137 rfl
def MF:=A6 Tryz.func114 rfl
def Ke:=CW Tryz.underlying197
def OB:=Dj Tryz.type227
def MC:=CW Tryz.underlying227
def JC:=AR Tryz.type156
def MI:=Dj Tryz.type156
def MB:=CW Tryz.underlying156
def Dg:=AR Tryz.type21
def Ha:=CW Tryz.underlying21
def MM:=AR Tryz.type85
def Jz:=Dj Tryz.type25
def MJ:=A6 Tryz.func67 rfl
def Ox:=A6 Tryz.func110 rfl
def MH:=A6 Tryz.func63 rfl
def MG:=A6 Tryz.func29 rfl
def JD:=AR Tryz.type72
def MD:=CW Tryz.underlying72
def KT:=A6 Tryz.func36 rfl
def OA:=A6 Tryz.func37 rfl
theorem mixed:Tryz.prog.follows .mixedOrders=true:=rfl
theorem aH:B4 Tryz.prog 27 (rP rI (rP rI rI)) true 2:=B4.three underlying27 (B4.int underlying3 AH) (B4.int underlying3 AH) (B4.int underlying3 AH) (by decide+kernel) (by decide) (by decide) (by decide) rfl rfl rfl Bp
theorem YG:B4 Tryz.prog 101 (rP rI rI) true 2:=B4.two underlying101 (B4.int underlying3 AH) (B4.int underlying3 AH) (by decide+kernel) (by decide) (by decide) rfl rfl FZ
theorem Z2:B4 Tryz.prog 105 (rA 5 rI) true 2:=B4.arr (kk:=5) (B4.int underlying3 AH) underlying105 I4
theorem Z9:B4 Tryz.prog 225 (rA 10 rI) true 2:=B4.arr (kk:=10) (B4.int underlying3 AH) underlying225 (AR type225)
theorem Tb:B4 Tryz.prog 227 (rA 5 (rA 10 rI)) true 3:=B4.arr (kk:=5) Z9 underlying227 MK
theorem YR:B4 Tryz.prog 249 (rP (rN .u8) (rA 5 (rA 10 rI))) true 4:=B4.two underlying249 ((B4.nat underlying5 (AR type5)).up (by decide)) Tb (by decide+kernel) (by decide) (by decide) rfl rfl (AR type249)
theorem IX:Gz Tryz.prog 3 rI false:=(B4.int underlying3 AH).key (by decide)
theorem PL:Gz Tryz.prog 101 (rP rI rI) true:=YG.key (by decide)
theorem Tr:Gz Tryz.prog 227 (rA 5 (rA 10 rI)) true:=Tb.key (by decide)
theorem Tp:Gz Tryz.prog 249 (rP (rN .u8) (rA 5 (rA 10 rI))) true:=YR.key (by decide)
end Pal
namespace Pal
open Go Go.Conc Go.Proofs
open Go.Proofs.Tryz
variable {J:Judge Tryz.prog}{E:LH}
def f91(fu_:Nat)(p0:Int)(K:Int)(p2:Int):Option Bool:= Option.bind (if K<=p0 then(some (decide (p0<=p2))) else(some false)) λO=> some O
theorem Mk{p0:Int}{K:Int}{p2:Int}{fu_:Nat}{r:Bool}(O:f91 fu_ p0 K p2=some r):AN J 91 [iV p0,iV K,iV p2] E [] (λw E' B'=>w= .bool r/\B'= []):=by
 refine Bi func91 λQ ay cs H U Z=>?_;unfold f91 at O;obtain⟨ac,ag,al⟩:=bs O;refine zg 10 rfl (Fi 8 1 [] [(14,.bool ac)] (λaz am ap=>?_) (λY=>?_))
 ·refine zg 2 rfl ?_;obtain rfl:=oi al;exact AY func91 rfl rfl (Z am rfl ⟨rfl,rfl⟩ ap)
 ·refine Gg 10 ag (λaq av=>?_) (λaq aw=>?_)
  ·refine zg 4 rfl ?_;obtain rfl:=oi av;exact Y Ax U rfl
  ·refine zg 4 rfl ?_;obtain rfl:=oi aw;exact Y Ax U rfl
def f86(fu_:Nat)(p0:Int×Int×Int)(K:Int)(p2:Int):Option Int:= (Aw (K - 1)).bind λO=> (f91 fu_ p0.1 0 O).bind λU=> Option.bind (if(!U)=true then(some true) else((Aw (K - 1)).bind λY=> (f91 fu_ p0.2.1 0 Y).bind λZ=> some (!Z))) λac=> if ac=true then(some 3) else(if p0.1=p0.2.1 then(some 8) else((f91 fu_ p0.2.2 1 p2).bind λag=> if(!ag)=true then(some 1) else(some 0)))
theorem aZ{p0:Int×Int×Int}{ag:Int}{p2:Int}{fu_:Nat}{r:Int}(al:f86 fu_ p0 ag p2=some r):AN J 86 [.agg #[iV p0.1,iV p0.2.1,iV p0.2.2],iV ag,iV p2] E [] (λw E' B'=>w=iV r/\B'= []):=by
 refine Bi func86 λQ b4 cs H aw Y=>?_;unfold f86 at al;refine zg 2 rfl (Du aw λr2 b5 Z U ay=>?_);refine zg 6 rfl (B8 0 U underlying27 AH Bg ?_);obtain⟨b6,az,a0⟩:=bs al;refine zg 1 rfl (Cl az rfl rfl rfl ?_);obtain⟨a1,a2,a3⟩:=bs a0;refine CK (Mk a2) rfl rfl LF ay λb7 K am=>Al (v:= .bool (!a1)) rfl (λρ h=>Yl.not (h _ _ rfl)) ?_;obtain⟨a4,a5,a6⟩:=bs a3;refine zg 1 rfl (Fi 14 1 [] [(2,iV p2),(3,Ak r2 0),(21,.bool a4)] (λb8 O ac=>?_) (λap=>?_))
 ·refine zg 2 rfl (CB a6 (λa7 a8=>?_) (λa7 a9=>?_))
  ·refine zg 4 rfl ?_;obtain rfl:=oi a8;exact AY func86 rfl rfl (Y ((Z.Ad K).Ad O) rfl ⟨rfl,rfl⟩ ac)
  ·refine zg 2 rfl (B8 0 (U.Ah (K.Ad O)) underlying27 AH Bg ?_);refine B8 1 (U.Ah (K.Ad O)) underlying27 AH Bg ?_;refine zg 3 rfl (AQ a9 (λbb be=>?_) (λbb bi=>?_))
   ·refine zg 4 rfl ?_;obtain rfl:=oi be;exact AY func86 rfl rfl (Y ((Z.Ad K).Ad O) rfl ⟨rfl,rfl⟩ ac)
   ·refine zg 2 rfl (B8 2 (U.Ah (K.Ad O)) underlying27 AH Bg ?_);obtain⟨bn,bo,bv⟩:=bs bi;refine zg 1 rfl (CK (Mk bo) rfl rfl LF ac λb9 aq av=>?_);refine Al (v:= .bool (!bn)) rfl (λρ h=>Yl.not (h _ _ rfl)) (zg 2 rfl ?_);refine CB bv (λbw bx=>?_) (λbw bz=>?_)
    ·refine zg 4 rfl ?_;obtain rfl:=oi bx;exact AY func86 rfl rfl (Y (((Z.Ad K).Ad O).Ad aq) rfl ⟨rfl,rfl⟩ av)
    ·refine zg 6 rfl ?_;obtain rfl:=oi bz;exact AY func86 rfl rfl (Y (((Z.Ad K).Ad O).Ad aq) rfl ⟨rfl,rfl⟩ av)
 ·refine EM 14 a5 (λbT bU=>?_) (λbT bV=>?_)
  ·refine zg 7 rfl ?_;obtain rfl:=oi bU;exact ap Ax am rfl
  ·refine B8 1 (U.Ah K) underlying27 AH Bg ?_;obtain⟨ca,bW,bY⟩:=bs bV;refine zg 1 rfl (Cl bW rfl rfl rfl ?_);obtain⟨bZ,b0,b1⟩:=bs bY;refine CK (Mk b0) rfl rfl LF am λcb b2 b3=>Al (v:= .bool (!bZ)) rfl (λρ h=>Yl.not (h _ _ rfl)) (zg 1 rfl ?_);obtain rfl:=oi b1;exact ap b2 b3 rfl
def ND(fu_:Nat)(O:List Int)(K:Int):Option (Bo Int ((Int)⊕(Unit))):= if K<(O.length:Int) then((ix O K).bind λU=> (f91 fu_ U 1 9).bind λY=> if(!Y)=true then(some (.done (Sum.inl 1))) else((Aw (K+1)).bind λZ=> some (.more Z))) else(some (.done (Sum.inr ())))
def NC(fu_:Nat)(p0:A4)(K:Int):Option (Bo Int ((Int)⊕(Unit))):= if K<(p0.1.length:Int) then((ix p0.1 K).bind λO=> if 3<(O.length:Int) then(some (.done (Sum.inl 6))) else(Option.bind (iter (ND fu_ O) fu_ 0) λU=> Sum.elim (λr=>some (.done (Sum.inl r))) (λZ=> (Aw (K+1)).bind λY=> some (.more Y)) U)) else(some (.done (Sum.inr ())))
def Ty(fu_:Nat)(p0:A4)(K:Int):Option (Bo Int ((Int)⊕(Unit))):= if K<(p0.2.length:Int) then((ix p0.2 K).bind λU=> (f86 fu_ U (p0.1.length:Int) 9).bind λO=> if O≠0 then(some (.done (Sum.inl O))) else((Aw (K+1)).bind λY=> some (.more Y))) else(some (.done (Sum.inr ())))
def f47(fu_:Nat)(p0:A4):Option Int:= if(p0.1.length:Int)<2 then(some 7) else(if 5<(p0.1.length:Int) then(some 6) else(Option.bind (iter (NC fu_ p0) fu_ 0) λK=> Sum.elim (λr=>some r) (λU=> if 8<(p0.2.length:Int) then(some 6) else(Option.bind (iter (Ty fu_ p0) fu_ 0) λO=> Sum.elim (λr=>some r) (λY=> some 0) O)) K))
theorem aQ{a1:Ao}{c2:Nat}{aw:Ao}{ay:Nat}{p0:A4}(b8:Am (rL rI) E a1 c2 p0.1)(b9:Am AA E aw ay p0.2){fu_:Nat}{r:Int}(a8:f47 fu_ p0=some r):AN J 47 [.agg #[sV a1 p0.1 c2,sV aw p0.2 ay]] E [] (λw E' B'=>w=iV r/\B'= []):=by
 refine Bi func47 λQ dJ cs H ca O=>?_;unfold f47 at a8;refine zg 2 rfl (Du ca λY cb K Z az=>?_);refine zg 5 rfl (B8 0 Z underlying25 FJ FY ?_);refine JL.ln underlying22 rfl rfl rfl (zg 9 rfl ?_);refine AQ a8 (λcc cd=>?_) (λcc ce=>?_)
 ·refine zg 4 rfl ?_;obtain rfl:=oi cd;exact AY func47 rfl rfl (O K rfl ⟨rfl,rfl⟩ az)
 ·refine zg 6 rfl (AQ ce (λcf cg=>?_) (λcf ci=>?_))
  ·refine zg 4 rfl ?_;obtain rfl:=oi cg;exact AY func47 rfl rfl (O K rfl ⟨rfl,rfl⟩ az)
  ·refine zg 5 rfl (B8 0 Z underlying25 FJ FY ?_);refine JL.ln underlying22 rfl rfl rfl ?_;obtain⟨a9,ck,a0⟩:=bs ci;refine zg 2 rfl (Bw (λL s=>∃(bb:Unit) (a2:LH),a9=Sum.inr bb/\Jm cb H a2 [] [(1,Ak Y 0)] L s) ?_ ?_)
   ·rintro _ _ ⟨bb,a2,rfl,rfl,rfl,U,be⟩;have cm:=elim_inr a0;refine zg 3 rfl (B8 1 (Z.Ah U) underlying25 H9 Kf ?_);refine JL.ln underlying23 rfl rfl rfl (zg 2 rfl ?_);refine AQ cm (λcn co=>?_) (λcn cp=>?_)
    ·refine zg 4 rfl ?_;obtain rfl:=oi co;exact AY func47 rfl rfl (O (K.Ad U) rfl ⟨rfl,rfl⟩ be)
    ·refine zg 4 rfl (B8 1 (Z.Ah U) underlying25 H9 Kf ?_);refine JL.ln underlying23 rfl rfl rfl ?_;obtain⟨bi,cq,bn⟩:=bs cp;refine zg 2 rfl (Bw (λL s=>∃(bo:Unit) (bv:LH),bi=Sum.inr bo/\Jm a2 H bv [] [] L s) ?_ ?_)
     ·rintro _ _ ⟨bo,bv,rfl,rfl,rfl,cr,ct⟩;have cu:=elim_inr bn;refine zg 4 rfl ?_;obtain rfl:=oi cu;exact AY func47 rfl rfl (O ((K.Ad U).Ad cr) rfl ⟨rfl,rfl⟩ ct)
     ·intro cv;refine JL.block (Dm cq (λa3=> []) (λa3=> [(1,Ak Y 0),(46,sV aw p0.2 ay),(47,iV (p0.2.length:Int)),(48,iV a3)]) Ax be ?_);rintro a3 cw ac bw bx ⟨dK,ap⟩ cy;have bz:=ap;unfold Ty at bz;refine zg 5 rfl (AQ bz (λcz cA=>?_) (λcz cB=>?_))
      ·obtain⟨dL,cC,cD⟩:=bs cA;refine zg 5 rfl (JS.ix (b9.Ah ((K.Ad U).Ad ac)) cC underlying23 Bp ?_);rintro dM dN _ ⟨_,_,rfl,rfl,⟨_,_,rfl,rfl,rfl⟩⟩ cE;refine Cj cE Ed Bp rfl rfl (BV bw BS λdO cF=>?_);refine BL 0 cF Bp λcG=>?_;refine Di 0 cG rfl λdQ a4 cH cI=>zg 3 rfl (Cj cH Ed Bp rfl rfl ?_);refine B8 0 (Z.Ah ((U.Ad ac).Ad a4)) underlying25 FJ FY ?_;refine JL.ln underlying22 rfl rfl rfl ?_;obtain⟨dR,cJ,cK⟩:=bs cD;refine CK (aZ cJ) rfl rfl (A6 func86 rfl) cI λdS bT bU=>zg 7 rfl (AQ cK (λcM cN=>?_) (λcM cO=>?_))
       ·refine zg 5 rfl ?_;obtain rfl:=oi cN;obtain rfl:=bx _ ap;have cP:=elim_inl bn;obtain rfl:=oi cP;exact AY func47 rfl rfl (O ((((K.Ad U).Ad ac).Ad a4).Ad bT) rfl ⟨rfl,rfl⟩ bU)
       ·obtain⟨cQ,cR,cT⟩:=bs cO;refine zg 3 rfl (Bq cR rfl rfl rfl ?_);refine zg 2 rfl ?_;obtain rfl:=oi cT;exact cy cQ ((ac.Ad a4).Ad bT) bU rfl ap
      ·refine JL.exit rfl ?_;obtain rfl:=oi cB;have cV:bi=(Sum.inr ()):=(bx _ ap).symm;exact AB (cv _ _ ⟨(),cw,cV,rfl,rfl,ac,bw⟩) rfl
   ·intro cW;refine JL.block (Dm ck (λag=> []) (λag=> [(1,Ak Y 0),(21,sV a1 p0.1 c2),(22,iV (p0.1.length:Int)),(23,iV ag)]) Ax az ?_);rintro ag bV al a5 a6 ⟨dT,am⟩ cX;have bW:=am;unfold NC at bW;refine zg 5 rfl (AQ bW (λcY cZ=>?_) (λcY c0=>?_))
    ·obtain⟨bY,c1,c3⟩:=bs cZ;refine zg 5 rfl (JS.ix (b8.Ah (K.Ad al)) c1 underlying22 GK ?_);rintro dU dV _ ⟨c4,c5,rfl,c6⟩ c7;refine C8 0 c7 Kg rfl rfl rfl (zg 6 rfl ?_);refine JL.ln underlying28 rfl rfl rfl (zg 2 rfl ?_);refine AQ c3 (λc8 c9=>?_) (λc8 da=>?_)
     ·refine zg 4 rfl ?_;obtain rfl:=oi c9;obtain rfl:=a6 _ am;have db:=elim_inl a0;obtain rfl:=oi db;exact AY func47 rfl rfl (O (K.Ad al) rfl ⟨rfl,rfl⟩ a5)
     ·refine zg 4 rfl (JL.ln underlying28 rfl rfl rfl ?_);obtain⟨bZ,dc,b0⟩:=bs da;refine zg 2 rfl (Bw (λL s=>∃(b1:Unit) (b2:LH),bZ=Sum.inr b1/\Jm bV H b2 [] [(1,Ak Y 0),(21,sV a1 p0.1 c2),(22,iV (p0.1.length:Int)),(23,iV ag)] L s) ?_ ?_)
      ·rintro _ _ ⟨b1,b2,rfl,rfl,rfl,dd,de⟩;have df:=elim_inr b0;obtain⟨dg,dh,di⟩:=bs df;refine zg 2 rfl (Bq dh rfl rfl rfl ?_);refine zg 2 rfl ?_;obtain rfl:=oi di;exact cX dg (al.Ad dd) de rfl am
      ·intro dj;refine JL.block (Dm dc (λa7=> []) (λa7=> [(1,Ak Y 0),(21,sV a1 p0.1 c2),(22,iV (p0.1.length:Int)),(23,iV ag),(30,sV c4 bY c5),(31,iV (bY.length:Int)),(32,iV a7)]) Ax a5 ?_);rintro a7 dk aq b3 b4 ⟨dW,av⟩ dn;have b5:=av;unfold ND at b5;refine zg 5 rfl (AQ b5 (λdp dq=>?_) (λdp dr=>?_))
       ·obtain⟨dX,dt,du⟩:=bs dq;refine zg 5 rfl (JS.ix (c6.Ah aq) dt underlying28 AH ?_);rintro dY dZ _ rfl dv;refine C8 0 dv Bg rfl rfl rfl ?_;obtain⟨dw,dx,dy⟩:=bs du;refine zg 5 rfl (CK (Mk dx) rfl rfl LF b3 λea b6 b7=>?_);refine Al (v:= .bool (!dw)) rfl (λρ h=>Yl.not (h _ _ rfl)) (JL.done ?_);refine CB dy (λdz dA=>?_) (λdz dB=>?_)
        ·refine zg 4 rfl ?_;obtain rfl:=oi dA;obtain rfl:=b4 _ av;have dC:=elim_inl b0;obtain rfl:=oi dC;obtain rfl:=a6 _ am;have dD:=elim_inl a0;obtain rfl:=oi dD;exact AY func47 rfl rfl (O (((K.Ad al).Ad aq).Ad b6) rfl ⟨rfl,rfl⟩ b7)
        ·obtain⟨dE,dF,dG⟩:=bs dB;refine zg 3 rfl (Bq dF rfl rfl rfl ?_);refine zg 2 rfl ?_;obtain rfl:=oi dG;exact dn dE (aq.Ad b6) b7 rfl av
       ·refine JL.exit rfl ?_;obtain rfl:=oi dr;have dH:bZ=(Sum.inr ()):=(b4 _ av).symm;exact AB (dj _ _ ⟨(),dk,dH,rfl,rfl,aq,b3⟩) rfl
    ·refine JL.exit rfl ?_;obtain rfl:=oi c0;have dI:a9=(Sum.inr ()):=(a6 _ am).symm;exact AB (cW _ _ ⟨(),bV,dI,rfl,rfl,al,a5⟩) rfl
def NF(fu_:Nat)(p0:A4)(O:(List Int)×Int):Option (Bo ((List Int)×Int) ((List Int))):= if O.2<(p0.2.length:Int) then((ix p0.2 O.2).bind λK=> (ix O.1 K.2.1).bind λY=> (Aw (Y+K.2.2)).bind λU=> (ix O.1 K.2.1).bind λal=> (ix (O.1.set (Int.toNat K.2.1) U) K.1).bind λZ=> (Aw (Z - K.2.2)).bind λac=> (ix (O.1.set (Int.toNat K.2.1) U) K.1).bind λam=> (Aw (O.2+1)).bind λag=> some (.more (((O.1.set (Int.toNat K.2.1) U).set (Int.toNat K.1) ac),ag))) else(some (.done O.1))
def f84(fu_:Nat)(p0:A4):Option ((List Int)):= Option.bind (iter (NF fu_ p0) fu_ ((List.replicate 5 (0:Int)),0)) λK=> some K
theorem P3{a1:Ao}{c2:Nat}{a8:Ao}{a9:Nat}{p0:A4}(cO:Am (rL rI) E a1 c2 p0.1)(b3:Am AA E a8 a9 p0.2){fu_:Nat}{r:(List Int)}(bw:f84 fu_ p0=some r):AN J 84 [.agg #[sV a1 p0.1 c2,sV a8 p0.2 a9]] E [] (λw E' B'=>∃(bx:Lv_),w= .agg bx.toArray/\B'= []/\(rA 5 rI).r E' bx r):=by
 refine Bi func84 λQ cP cs H b4 b5=>?_;unfold f84 at bw;refine zg 2 rfl (Du b4 λcQ a2 bz b6 b7=>?_);refine BV b7 KV λa3 b8=>?_;refine zg 3 rfl (BV b8 KV λU b9=>?_);refine zg 4 rfl (JL.fd underlying77 CV rfl rfl rfl ?_);refine B8 1 b6 underlying25 H9 Kf ?_;refine JL.ln underlying23 rfl rfl rfl ?_;obtain⟨ca,cb,cc⟩:=bs bw;refine zg 2 rfl (Bw (λL s=>∃(aw:LH) (Y:Lv_),Jn a2 H aw [bX a3 (([]:Lv_)++(List.replicate 5 (iV 0):Lv_)).toArray 105,bX U (([]:Lv_)++Y).toArray 105] [(2,Ak a3 0),(3,Ak U 0)] L s ((rA 5 rI).r aw Y ca)) ?_ ?_)
 ·rintro _ _ ⟨aw,Y,rfl,rfl,cd,bT,ac⟩;refine zg 2 rfl (Al (v:= .agg Y.toArray) rfl (λρ h=>Ij (kk:=5) (pp:=rI) ac IJ I4 (h _ _ rfl) (GM (l:= []) 1 bT rfl)) ?_);refine HE (v:= .agg Y.toArray) (l:= []) (ws:=(List.replicate 5 (iV 0):Lv_)) (us:=Y) (o:=0) 0 rfl rfl rfl bT rfl rfl rfl (by rw [Cb (kk:=5) (pp:=rI) ac];exact AR type105) ((rA 5 rI).one ac) rfl (by rw [Cb (kk:=5) (pp:=rI) ac,Cb (kk:=5) (pp:=rI) (GQ (E:=aw) (pp:=rI) rfl)];omega) λbU=>?_;rw [JJ (by rw [Cb (kk:=5) (pp:=rI) ac,Cb (kk:=5) (pp:=rI) (GQ (E:=aw) (pp:=rI) rfl)])] at bU ⊢;refine JL.done (JS.drop 1 bU rfl λbV=>?_);obtain rfl:=oi cc;refine JL.ret (v:= .agg Y.toArray) rfl rfl (BE.list func84 rfl (vs:= [.agg Y.toArray]) ⟨⟨_,rfl,Ld.many (vs:=Y) IJ (by rw [Cb (kk:=5) (pp:=rI) ac];exact AR type105) (GM (l:= []) 0 bV rfl)⟩,trivial⟩) (En 0 bV rfl λce=>?_);exact b5 (bz.Ad cd) rfl ⟨Y,rfl,rfl,ac⟩ ce
 ·intro cf;refine JL.block (CY cb (λL s al=>∃(a4:LH) (am:Lv_),Jn a2 H a4 [bX a3 (([]:Lv_)++(List.replicate 5 (iV 0):Lv_)).toArray 105,bX U (([]:Lv_)++am).toArray 105] [(2,Ak a3 0),(3,Ak U 0),(8,sV a8 p0.2 a9),(9,iV (p0.2.length:Int)),(10,iV al.2)] L s ((rA 5 rI).r a4 am al.1)) ⟨a2,(List.replicate 5 (iV 0):Lv_),rfl,rfl,Ax,b9,(GQ (E:=a2) (pp:=rI) rfl)⟩ ?_);rintro _ _ al ⟨a4,am,rfl,rfl,bb,bW,ap⟩ cg ⟨cR,be⟩ ci;have bY:=be;unfold NF at bY;refine zg 5 rfl (AQ bY (λck cm=>?_) (λck cn=>?_))
  ·obtain⟨K,co,cp⟩:=bs cm;refine zg 5 rfl (JS.ix (b3.Ah (bz.Ad bb)) co underlying23 Bp ?_);rintro cT cV _ ⟨_,_,rfl,rfl,⟨_,_,rfl,rfl,rfl⟩⟩ cq;refine Cj cq Ed Bp rfl rfl (BV bW BS λcW cr=>?_);refine BL 2 cr Bp λct=>?_;refine Di 2 ct rfl λbi aq a5 ay=>zg 2 rfl (Fw 6 [U] ⟨⟨1,_,rfl⟩,trivial⟩ ay λO=>?_);refine JG.fd 0 O underlying27 AH rfl rfl rfl rfl (JG.lp 1 O 1 a5 ay ⟨⟨1,_,rfl⟩,trivial⟩ Bg ?_);obtain⟨cu,bZ,cv⟩:=bs cp;obtain⟨_,rfl,_,_,cw⟩:=HH (kk:=5) (pp:=rI) (Rp.Ah _ aq ap) bZ;refine AM (v:= .pointer (some ⟨U,0+Int.toNat (K.2.1)*1,none⟩)) 2 O rfl rfl (λρ h s' az=>Jb (kk:=5) (pp:=rI) (Rp.Ah _ aq ap) bZ underlying105 AH (h _ _ rfl) (h _ _ rfl)) (AM (v:=iV cu) 3 O rfl rfl (λρ h s' az=>Yl.load Bg (h _ _ rfl) (MZ (l:= []) 1 ay rfl (by simp [AW]) az (cw 0 _ rfl))) ?_);refine JG.fd 4 O underlying27 AH rfl rfl rfl rfl (JG.lp 5 O 2 a5 ay ⟨⟨1,_,rfl⟩,trivial⟩ Bg ?_);refine Dk [6,7,8] ?_;obtain⟨Z,cy,cz⟩:=bs cv;refine Bq cy rfl rfl rfl ?_;obtain⟨cX,bn,cA⟩:=bs cz;obtain⟨_,rfl,_,_,cY⟩:=HH (kk:=5) (pp:=rI) (Rp.Ah _ aq ap) bn;refine Al (v:= .pointer (some ⟨U,0+Int.toNat (K.2.1)*1,none⟩)) rfl (λρ h=>Jb (kk:=5) (pp:=rI) (Rp.Ah _ aq ap) bn underlying105 AH (h _ _ rfl) (h _ _ rfl)) ?_;have a6:=NI (us:= [iV Z]) (y:=Z) (Rp.Ah _ aq ap) bn rfl;refine HE (v:=iV Z) (l:= []) (ws:=am) (us:= [iV Z]) (o:=Int.toNat (K.2.1)*1) 1 rfl rfl rfl ay rfl rfl rfl AH (by simp [Value.cells,C7]) rfl a6.2 λav=>?_;replace a6:=a6.1;generalize cB:Iz am (Int.toNat (K.2.1)*1) [iV Z]=bo at av ⊢;have a0:(rA 5 rI).r bi bo (al.1.set (Int.toNat K.2.1) Z):=by rw [← cB];exact a6
   refine JL.done (Fw 6 [U] ⟨⟨1,_,rfl⟩,trivial⟩ av λO=>?_);refine JG.fd 0 O underlying27 AH rfl rfl rfl rfl (JG.lp 1 O 0 a5 av ⟨⟨1,_,rfl⟩,trivial⟩ Bg ?_);obtain⟨cC,b0,cD⟩:=bs cA;obtain⟨_,rfl,_,_,cE⟩:=HH (kk:=5) (pp:=rI) a0 b0;refine AM (v:= .pointer (some ⟨U,0+Int.toNat (K.1)*1,none⟩)) 2 O rfl rfl (λρ h s' az=>Jb (kk:=5) (pp:=rI) a0 b0 underlying105 AH (h _ _ rfl) (h _ _ rfl)) (AM (v:=iV cC) 3 O rfl rfl (λρ h s' az=>Yl.load Bg (h _ _ rfl) (MZ (l:= []) 1 av rfl (by simp [AW]) az (cE 0 _ rfl))) ?_);refine JG.fd 4 O underlying27 AH rfl rfl rfl rfl (JG.lp 5 O 2 a5 av ⟨⟨1,_,rfl⟩,trivial⟩ Bg ?_);refine Dk [6,7,8] ?_;obtain⟨ag,cF,cG⟩:=bs cD;refine Cl cF rfl rfl rfl ?_;obtain⟨cZ,bv,cH⟩:=bs cG;obtain⟨_,rfl,_,_,c0⟩:=HH (kk:=5) (pp:=rI) a0 bv;refine Al (v:= .pointer (some ⟨U,0+Int.toNat (K.1)*1,none⟩)) rfl (λρ h=>Jb (kk:=5) (pp:=rI) a0 bv underlying105 AH (h _ _ rfl) (h _ _ rfl)) ?_;have a7:=NI (us:= [iV ag]) (y:=ag) a0 bv rfl;refine HE (v:=iV ag) (l:= []) (ws:=bo) (us:= [iV ag]) (o:=Int.toNat (K.1)*1) 1 rfl rfl rfl av rfl rfl rfl AH (by simp [Value.cells,C7]) rfl a7.2 λb1=>?_;replace a7:=a7.1;generalize cI:Iz bo (Int.toNat (K.1)*1) [iV ag]=b2 at b1 ⊢;have cJ:(rA 5 rI).r bi b2 ((al.1.set (Int.toNat K.2.1) Z).set (Int.toNat K.1) ag):=by rw [← cI];exact a7
   obtain⟨cK,cM,cN⟩:=bs cH;refine zg 3 rfl (Bq cM rfl rfl rfl ?_);refine zg 2 rfl ?_;obtain rfl:=oi cN;exact AB (ci _ _ (((al.1.set (Int.toNat K.2.1) Z).set (Int.toNat K.1) ag),cK) ⟨bi,b2,rfl,rfl,(bb.Ad aq),b1,cJ⟩ be) rfl
  ·refine JL.exit rfl ?_;obtain rfl:=oi cn;obtain rfl:=cg _ be;exact AB (cf _ _ ⟨a4,am,rfl,rfl,bb,bW,ap⟩) rfl
def f204(fu_:Nat)(p0:List Int)(K:Int×Int×Int):Option ((List Int)):= (ix p0 K.1).bind λU=> (Aw (U+K.2.2)).bind λO=> (ix p0 K.1).bind λac=> (ix (p0.set (Int.toNat K.1) O) K.2.1).bind λY=> (Aw (Y - K.2.2)).bind λZ=> (ix (p0.set (Int.toNat K.1) O) K.2.1).bind λag=> some ((p0.set (Int.toNat K.1) O).set (Int.toNat K.2.1) Z)
theorem Io{w1:Lv_}{p0:List Int}{K:Int×Int×Int}(am:(rA 5 rI).r E w1 p0){fu_:Nat}{r:(List Int)}(a5:f204 fu_ p0 K=some r):AN J 204 [.agg w1.toArray,.agg #[iV K.1,iV K.2.1,iV K.2.2]] E [] (λw E' B'=>∃(a6:Lv_),w= .agg a6.toArray/\B'= []/\(rA 5 rI).r E' a6 r):=by
 refine Bi func204 λQ b5 cs H be bi=>?_;unfold f204 at a5;refine zg 2 rfl (JS.box (v:= .agg w1.toArray) rfl rfl rfl be rfl λr3 bn=>?_);refine Du bn λb6 aw ac ay bo=>?_;refine BV bo KV λb7 ap=>?_;refine zg 2 rfl (Fw 6 [r3] ⟨⟨1,_,rfl⟩,trivial⟩ ap λO=>?_);refine JG.fd 0 O underlying27 AH rfl rfl rfl rfl (JG.lp 1 O 0 ay ap ⟨⟨1,_,rfl⟩,trivial⟩ Bg ?_);obtain⟨bv,a7,bw⟩:=bs a5;obtain⟨_,rfl,_,_,bx⟩:=HH (kk:=5) (pp:=rI) (Rp.Ah _ ac am) a7;refine AM (v:= .pointer (some ⟨r3,0+Int.toNat (K.1)*1,none⟩)) 2 O rfl rfl (λρ h s' aq=>Jb (kk:=5) (pp:=rI) (Rp.Ah _ ac am) a7 underlying105 AH (h _ _ rfl) (h _ _ rfl)) (AM (v:=iV bv) 3 O rfl rfl (λρ h s' aq=>Yl.load Bg (h _ _ rfl) (MZ (l:= []) 1 ap rfl (by simp [AW]) aq (bx 0 _ rfl))) ?_);refine JG.fd 4 O underlying27 AH rfl rfl rfl rfl (JG.lp 5 O 2 ay ap ⟨⟨1,_,rfl⟩,trivial⟩ Bg ?_);refine Dk [6,7,8] ?_;obtain⟨Y,bz,bT⟩:=bs bw;refine Bq bz rfl rfl rfl ?_;obtain⟨b8,a1,bU⟩:=bs bT;obtain⟨_,rfl,_,_,b9⟩:=HH (kk:=5) (pp:=rI) (Rp.Ah _ ac am) a1;refine Al (v:= .pointer (some ⟨r3,0+Int.toNat (K.1)*1,none⟩)) rfl (λρ h=>Jb (kk:=5) (pp:=rI) (Rp.Ah _ ac am) a1 underlying105 AH (h _ _ rfl) (h _ _ rfl)) ?_;have az:=NI (us:= [iV Y]) (y:=Y) (Rp.Ah _ ac am) a1 rfl;refine HE (v:=iV Y) (l:= []) (ws:=w1) (us:= [iV Y]) (o:=Int.toNat (K.1)*1) 1 rfl rfl rfl ap rfl rfl rfl AH (by simp [Value.cells,C7]) rfl az.2 λag=>?_;replace az:=az.1;generalize bV:Iz w1 (Int.toNat (K.1)*1) [iV Y]=a2 at ag ⊢;have av:(rA 5 rI).r aw a2 (p0.set (Int.toNat K.1) Y):=by rw [← bV];exact az
 refine zg 2 rfl (Fw 6 [r3] ⟨⟨1,_,rfl⟩,trivial⟩ ag λO=>?_);refine JG.fd 0 O underlying27 AH rfl rfl rfl rfl (JG.lp 1 O 1 ay ag ⟨⟨1,_,rfl⟩,trivial⟩ Bg ?_);obtain⟨bW,a8,bY⟩:=bs bU;obtain⟨_,rfl,_,_,bZ⟩:=HH (kk:=5) (pp:=rI) av a8;refine AM (v:= .pointer (some ⟨r3,0+Int.toNat (K.2.1)*1,none⟩)) 2 O rfl rfl (λρ h s' aq=>Jb (kk:=5) (pp:=rI) av a8 underlying105 AH (h _ _ rfl) (h _ _ rfl)) (AM (v:=iV bW) 3 O rfl rfl (λρ h s' aq=>Yl.load Bg (h _ _ rfl) (MZ (l:= []) 1 ag rfl (by simp [AW]) aq (bZ 0 _ rfl))) ?_);refine JG.fd 4 O underlying27 AH rfl rfl rfl rfl (JG.lp 5 O 2 ay ag ⟨⟨1,_,rfl⟩,trivial⟩ Bg ?_);refine Dk [6,7,8] ?_;obtain⟨al,b0,b1⟩:=bs bY;refine Cl b0 rfl rfl rfl ?_;obtain⟨ca,a3,b2⟩:=bs b1;obtain⟨_,rfl,_,_,cb⟩:=HH (kk:=5) (pp:=rI) av a3;refine Al (v:= .pointer (some ⟨r3,0+Int.toNat (K.2.1)*1,none⟩)) rfl (λρ h=>Jb (kk:=5) (pp:=rI) av a3 underlying105 AH (h _ _ rfl) (h _ _ rfl)) ?_;have a0:=NI (us:= [iV al]) (y:=al) av a3 rfl;refine HE (v:=iV al) (l:= []) (ws:=a2) (us:= [iV al]) (o:=Int.toNat (K.2.1)*1) 1 rfl rfl rfl ag rfl rfl rfl AH (by simp [Value.cells,C7]) rfl a0.2 λa4=>?_;replace a0:=a0.1;generalize b3:Iz a2 (Int.toNat (K.2.1)*1) [iV al]=U at a4 ⊢;have Z:(rA 5 rI).r aw U ((p0.set (Int.toNat K.1) Y).set (Int.toNat K.2.1) al):=by rw [← b3];exact a0
 refine zg 3 rfl (Al (v:= .agg U.toArray) rfl (λρ h=>Ij (kk:=5) (pp:=rI) Z IJ I4 (h _ _ rfl) (GM (l:= []) 1 a4 rfl)) ?_);refine HE (v:= .agg U.toArray) (l:= []) (ws:=(List.replicate 5 (iV 0):Lv_)) (us:=U) (o:=0) 3 rfl rfl rfl a4 rfl rfl rfl (by rw [Cb (kk:=5) (pp:=rI) Z];exact AR type105) ((rA 5 rI).one Z) rfl (by rw [Cb (kk:=5) (pp:=rI) Z,Cb (kk:=5) (pp:=rI) (GQ (E:=aw) (pp:=rI) rfl)];omega) λa9=>?_;rw [JJ (by rw [Cb (kk:=5) (pp:=rI) Z,Cb (kk:=5) (pp:=rI) (GQ (E:=aw) (pp:=rI) rfl)])] at a9 ⊢;refine JL.done (JS.drop 1 a9 rfl λbb=>?_);obtain rfl:=oi b2;refine JL.ret (v:= .agg U.toArray) rfl rfl (BE.list func204 rfl (vs:= [.agg U.toArray]) ⟨⟨_,rfl,Ld.many (vs:=U) IJ (by rw [Cb (kk:=5) (pp:=rI) Z];exact AR type105) (GM (l:= []) 3 bb rfl)⟩,trivial⟩) (En 3 bb rfl λb4=>?_);exact bi ac rfl ⟨U,rfl,rfl,Z⟩ b4
def f106(fu_:Nat)(p0:Int)(K:Int):Option Nat:= (Aw (max p0 K - 1)).bind λO=> (ix ([1,2,4,8]:List Nat) O).bind λU=> (Aw (4*(min p0 K))).bind λY=> (PT U Y).bind λZ=> some Z
theorem TK{p0:Int}{K:Int}{fu_:Nat}{r:Nat}(O:f106 fu_ p0 K=some r):AN J 106 [iV p0,iV K] E [] (λw E' B'=>w= .int .u32 ((r:Nat):Int)/\B'= []):=by
 refine Bi func106 λQ ay cs H U Y=>?_;unfold f106 at O;refine zg 8 rfl (Al (v:=iV (min p0 K)) rfl (λρ h=>Yl.min2 (h _ _ rfl) (h _ _ rfl)) ?_);refine zg 2 rfl (Al (v:=iV (max p0 K)) rfl (λρ h=>Yl.max2 (h _ _ rfl) (h _ _ rfl)) ?_);refine zg 5 rfl (Al (v:= .agg (([1,2,4,8]:List Nat).map λx=>Value.int .u32 ((x:Nat):Int)).toArray) rfl (λρ h=>XN h underlying164 (Dj type164) (AR type86) rfl rfl) ?_);obtain⟨az,Z,ac⟩:=bs O;refine zg 1 rfl (Cl Z rfl rfl rfl ?_);obtain⟨a0,ag,al⟩:=bs ac;refine Tq (XQ (E:=E) ([1,2,4,8]:List Nat)) ag rfl rfl rfl rfl rfl underlying164 (AR type86) (CW underlying86) ?_ (λ_=>rfl);rintro _ rfl;obtain⟨a1,am,ap⟩:=bs al;refine zg 1 rfl (Al rfl (λρ h=>Nk (h _ _ rfl) (h _ _ rfl) am) ?_);obtain⟨aq,av,aw⟩:=bs ap;refine Al (v:= .int .u32 ((aq:Nat):Int)) rfl (λρ h=>VQ (h _ _ rfl) (h _ _ rfl) av) (zg 2 rfl ?_);obtain rfl:=oi aw;exact AY func106 rfl rfl (Y Ax rfl ⟨rfl,rfl⟩ U)
def f136(fu_:Nat)(p0:Nat)(K:Int)(p2:Int):Option Bool:= (f106 fu_ K p2).bind λO=> (PF p0 O).bind λU=> some (decide ((((U):Nat):Int)≠(((0):Nat):Int)))
theorem YK{p0:Nat}{K:Int}{p2:Int}{fu_:Nat}{r:Bool}(O:f136 fu_ p0 K p2=some r):AN J 136 [.int .u32 ((p0:Nat):Int),iV K,iV p2] E [] (λw E' B'=>w= .bool r/\B'= []):=by
 refine Bi func136 λQ av cs H U Y=>?_;unfold f136 at O;obtain⟨aw,Z,ac⟩:=bs O;refine zg 9 rfl (CK (TK Z) rfl rfl (A6 func106 rfl) U λay ag al=>?_);obtain⟨am,ap,aq⟩:=bs ac;refine Al (v:= .int .u32 ((am:Nat):Int)) rfl (λρ h=>V6 (h _ _ rfl) (h _ _ rfl) ap) (zg 3 rfl ?_);obtain rfl:=oi aq;exact AY func136 rfl rfl (Y ag rfl ⟨rfl,rfl⟩ al)
def Nq(fu_:Nat)(O:(AD)×Int)(K:(AD)×Int):Option (Bo ((AD)×Int) ((AD))):= if K.2<O.2 then((room K.1 (K.2,O.2)).bind λU=> (Aw (K.2+1)).bind λY=> some (.more (U,Y))) else(some (.done K.1))
def Nn(fu_:Nat)(p0:A4)(K:(AD)×Int):Option (Bo ((AD)×Int) ((AD))):= if K.2<(p0.1.length:Int) then(Option.bind (iter (Nq fu_ K) fu_ (K.1,0)) λO=> (Aw (K.2+1)).bind λU=> some (.more (O,U))) else(some (.done K.1))
def f133(fu_:Nat)(p0:A4):Option ((AD)):= Option.bind (iter (Nn fu_ p0) fu_ ([],0)) λK=> some K
theorem Zj{a1:Ao}{c2:Nat}{a8:Ao}{a9:Nat}{p0:A4}(cK:Am (rL rI) E a1 c2 p0.1)(cM:Am AA E a8 a9 p0.2){fu_:Nat}{r:(AD)}(bb:f133 fu_ p0=some r):AN J 133 [.agg #[sV a1 p0.1 c2,sV a8 p0.2 a9]] E [] (λw E' B'=>∃(be:Ao) (bi:Nat),w= sV be r bi/\B'= []/\Am DZ E' be bi r):=by
 refine Bi func133 λQ cN cs H bW bY=>?_;unfold f133 at bb;refine zg 2 rfl (Du bW λcO a2 bZ b0 b1=>?_);refine zg 9 rfl (JL.fd underlying77 CV rfl rfl rfl ?_);refine B8 0 b0 underlying25 FJ FY ?_;refine JL.ln underlying22 rfl rfl rfl ?_;obtain⟨bn,b2,b3⟩:=bs bb;refine zg 2 rfl (Bw (λL s=>∃(a3:LH) (ap:Ao) (aq:Nat) (a4:Seg),Jn a2 H a3 [a4] [(3,sV ap bn aq)] L s (OL 101 DZ a3 ap aq a4 bn)) ?_ ?_)
 ·rintro _ _ ⟨a3,ap,aq,a4,rfl,rfl,b4,b5,b6⟩;refine zg 5 rfl (Ce 0 b6 b5 rfl λcP b7 b8 b9=>?_);obtain rfl:=oi b3;exact AY func133 rfl rfl (bY ((bZ.Ad b4).Ad b7) rfl ⟨ap,aq,rfl,rfl,b8⟩ b9)
 ·intro ca;refine JL.block (CY b2 (λL s K=>∃(O:LH) (Y:Ao) (Z:Nat) (ac:Seg),Jn a2 H O [ac] [(3,sV Y K.1 Z),(9,iV (p0.1.length:Int)),(10,iV K.2)] L s (OL 101 DZ O Y Z ac K.1)) ⟨a2,none,0,[],rfl,rfl,Ax,b1,OL.nil⟩ ?_);rintro _ _ K ⟨O,Y,Z,ac,rfl,rfl,bo,bv,bw⟩ cb ⟨cQ,a5⟩ cc;have bx:=a5;unfold Nn at bx;refine zg 5 rfl (AQ bx (λcd ce=>?_) (λcd cf=>?_))
  ·obtain⟨a6,cg,ci⟩:=bs ce;refine zg 13 rfl (Bw (λL s=>∃(av:LH) (aw:Ao) (ay:Nat) (az:Seg),Jn O H av [az] [(3,sV aw a6 ay),(9,iV (p0.1.length:Int)),(10,iV K.2)] L s (OL 101 DZ av aw ay az a6)) ?_ ?_)
   ·rintro _ _ ⟨av,aw,ay,az,rfl,rfl,ck,cm,cn⟩;obtain⟨co,cp,cq⟩:=bs ci;refine zg 2 rfl (Bq cp rfl rfl rfl ?_);refine zg 2 rfl ?_;obtain rfl:=oi cq;exact AB (cc _ _ (a6,co) ⟨av,aw,ay,az,rfl,rfl,(bo.Ad ck),cm,cn⟩ a5) rfl
   ·intro cr;refine JL.block (CY cg (λL s U=>∃(ag:LH) (al:Ao) (am:Nat) (a0:Seg),Jn O H ag [a0] [(3,sV al U.1 am),(4,iV K.2),(9,iV (p0.1.length:Int)),(10,iV K.2),(13,iV K.2),(14,iV U.2)] L s (OL 101 DZ ag al am a0 U.1)) ⟨O,Y,Z,ac,rfl,rfl,Ax,bv,bw⟩ ?_);rintro _ _ U ⟨ag,al,am,a0,rfl,rfl,bz,bT,bU⟩ ct ⟨cR,a7⟩ cu;have bV:=a7;unfold Nq at bV;refine zg 5 rfl (AQ bV (λcv cw=>?_) (λcv cy=>?_))
    ·refine zg 12 rfl (Al (v:= .agg #[iV U.2,iV K.2]) rfl (λρ h=>Dh [(0,1),(1,1)] h I3 underlying101 ⟨rfl,AR type3,rfl,AR type3,trivial⟩ rfl rfl) ?_);obtain⟨cz,cA,cB⟩:=bs cw;refine JS.app (pp:=DZ) (v:= .agg #[iV U.2,iV K.2]) (a:=al) (c:=am) 0 cA rfl rfl rfl rfl (λ_=>rfl) rfl (λ_=>rfl) rfl rfl rfl underlying167 underlying167 underlying167 FZ (Eh type101) I3 rfl (by decide) (by decide) (by decide) (by decide) bU ⟨_,_,rfl,rfl,rfl⟩ bT rfl λcT cC cD cE cF cG=>?_;obtain⟨cH,cI,cJ⟩:=bs cB;refine zg 4 rfl (Bq cI rfl rfl rfl ?_);refine zg 2 rfl ?_;obtain rfl:=oi cJ;exact AB (cu _ _ (cz,cH) ⟨ag,cC,cD,cE,rfl,rfl,bz,cG,cF⟩ a7) rfl
    ·refine JL.exit rfl ?_;obtain rfl:=oi cy;obtain rfl:=ct _ a7;exact AB (cr _ _ ⟨ag,al,am,a0,rfl,rfl,bz,bT,bU⟩) rfl
  ·refine JL.exit rfl ?_;obtain rfl:=oi cf;obtain rfl:=cb _ a5;exact AB (ca _ _ ⟨O,Y,Z,ac,rfl,rfl,bo,bv,bw⟩) rfl
def f113(fu_:Nat)(p0:Int×Int×Int)(K:Int×Int×Int):Option Int:= if p0.1≠K.1 then((Aw (p0.1 - K.1)).bind λO=> some O) else(if p0.2.1≠K.2.1 then((Aw (p0.2.1 - K.2.1)).bind λU=> some U) else((Aw (p0.2.2 - K.2.2)).bind λY=> some Y))
theorem TP{p0:Int×Int×Int}{Y:Int×Int×Int}{fu_:Nat}{r:Int}(al:f113 fu_ p0 Y=some r):AN J 113 [.agg #[iV p0.1,iV p0.2.1,iV p0.2.2],.agg #[iV Y.1,iV Y.2.1,iV Y.2.2]] E [] (λw E' B'=>w=iV r/\B'= []):=by
 refine Bi func113 λQ a7 cs H am Z=>?_;unfold f113 at al;refine zg 2 rfl (Du am λr2 a8 ac O ap=>?_);refine Du ap λa9 bb K U ag=>?_;refine zg 6 rfl (B8 0 (O.Ah K) underlying27 AH Bg ?_);refine B8 0 U underlying27 AH Bg ?_;refine zg 3 rfl (AQ al (λaq av=>?_) (λaq aw=>?_))
 ·refine zg 2 rfl (B8 0 (O.Ah K) underlying27 AH Bg ?_);refine B8 0 U underlying27 AH Bg ?_;obtain⟨be,ay,az⟩:=bs av;refine Cl ay rfl rfl rfl (zg 2 rfl ?_);obtain rfl:=oi az;exact AY func113 rfl rfl (Z (ac.Ad K) rfl ⟨rfl,rfl⟩ ag)
 ·refine zg 2 rfl (B8 1 (O.Ah K) underlying27 AH Bg ?_);refine B8 1 U underlying27 AH Bg ?_;refine zg 3 rfl (AQ aw (λa0 a1=>?_) (λa0 a2=>?_))
  ·refine zg 2 rfl (B8 1 (O.Ah K) underlying27 AH Bg ?_);refine B8 1 U underlying27 AH Bg ?_;obtain⟨bi,a3,a4⟩:=bs a1;refine Cl a3 rfl rfl rfl (zg 2 rfl ?_);obtain rfl:=oi a4;exact AY func113 rfl rfl (Z (ac.Ad K) rfl ⟨rfl,rfl⟩ ag)
  ·refine zg 4 rfl (B8 2 (O.Ah K) underlying27 AH Bg ?_);refine B8 2 U underlying27 AH Bg ?_;obtain⟨bn,a5,a6⟩:=bs a2;refine Cl a5 rfl rfl rfl (zg 2 rfl ?_);obtain rfl:=oi a6;exact AY func113 rfl rfl (Z (ac.Ad K) rfl ⟨rfl,rfl⟩ ag)
def NH(fu_:Nat)(p0:List Int)(K:Int×Int):Option (Bo (Int×Int) Int):= if K.2<(p0.length:Int) then((ix p0 K.2).bind λO=> (Aw (K.1+O)).bind λU=> (Aw (K.2+1)).bind λY=> some (.more (U,Y))) else(some (.done K.1))
def f85(fu_:Nat)(p0:List Int):Option Int:= Option.bind (iter (NH fu_ p0) fu_ (0,0)) λK=> some K
theorem HO{a1:Ao}{c2:Nat}{p0:List Int}(ag:Am rI E a1 c2 p0){fu_:Nat}{r:Int}(Y:f85 fu_ p0=some r):AN J 85 [sV a1 p0 c2] E [] (λw E' B'=>w=iV r/\B'= []):=by
 refine Bi func85 λQ bv cs H al am=>?_;unfold f85 at Y;refine zg 12 rfl (JL.ln underlying28 rfl rfl rfl ?_);obtain⟨ap,aq,av⟩:=bs Y;refine zg 2 rfl (DW [] [(3,iV ap)] (λbw aw ay=>?_) (λaz=>?_))
 ·refine zg 5 rfl ?_;obtain rfl:=oi av;exact AY func85 rfl rfl (am aw rfl ⟨rfl,rfl⟩ ay)
 ·refine JL.block (Dm aq (λK=> []) (λK=> [(3,iV K.1),(6,sV a1 p0 c2),(7,iV (p0.length:Int)),(8,iV K.2)]) Ax al ?_);rintro K bx O Z a0 ⟨bz,U⟩ a2;have ac:=U;unfold NH at ac;refine zg 5 rfl (AQ ac (λa3 a4=>?_) (λa3 a5=>?_))
  ·obtain⟨bT,a6,a7⟩:=bs a4;refine zg 5 rfl (JS.ix (ag.Ah O) a6 underlying28 AH ?_);rintro bU bV _ rfl a8;refine C8 0 a8 Bg rfl rfl rfl ?_;obtain⟨a9,bb,be⟩:=bs a7;refine zg 5 rfl (Bq bb rfl rfl rfl ?_);obtain⟨bi,bn,bo⟩:=bs be;refine zg 4 rfl (Bq bn rfl rfl rfl ?_);refine zg 2 rfl ?_;obtain rfl:=oi bo;exact a2 (a9,bi) O Z rfl U
  ·refine JL.exit rfl ?_;obtain rfl:=oi a5;obtain rfl:=a0 _ U;exact az O Z rfl
end Pal
namespace Pal
open Go Go.Conc
section
variable {P:Program}{J:Judge P}{Q:Gs_}{b:Frame}{n:Nat}{ds:Ld_}{ops:Ao_}{k:Li_}{cs:Lf_}{L:Env}{E H:LH}{S:List Seg}
variable {d:Option Tmp}{x y w:Operand}{t u ty e:TypeId}{p:String}{af:Ae_}{g:On_}{i:Nat}{rest:List Nat}{s:St}{ρ:Operand->Value}
theorem Am.bO{α:Type}{pp:Rp α}{kk bk o:Nat}{ws:Lv_}{xs ys:List α}{hi:Int}(U:At E bk o ws)(O:(rA kk pp).r E ws xs)(hC:Hp xs 0 hi=some ys):Am pp E (some ⟨bk,o,none⟩) kk ys:=by
 have ag:=O.1;unfold Hp at hC;split at hC
 ·rename_i hb;cases hC;refine⟨by simp;omega,.inr ⟨bk,o,rfl,λq z K=>?_⟩⟩;simp only [Int.toNat_zero,List.drop_zero,List.getElem?_take] at K;split at K
  ·have Y:ix xs (q:Int)=some z:=by unfold ix;rw [if_pos (by omega)];simpa using K
   obtain⟨us,Z,ac,_,_⟩:=ae O U Y;exact⟨us,Z,by simpa using ac⟩
  ·cases K
 ·cases hC
theorem Ym{α:Type}{pp:Rp α}{kk bk o:Nat}{ws:Lv_}{xs ys:List α}{hi:Int}(U:At E bk o ws)(K:(rA kk pp).r E ws xs)(hC:Hp xs 0 hi=some ys)
  (Y:ops[i]? =some ⟨d,.slice t x none (some w) none,ty,p,af,g⟩) (hw:AI L ops ⟨d,.slice t x none (some w) none,ty,p,af,g⟩=some true) (Z:BM b n ⟨d,.slice t x none (some w) none,ty,p,af,g⟩=true)
  (ac:ev L x=some (.pointer (some ⟨bk,o,none⟩))) (ag:ev L w=some (iV hi)) (al:P.underlying t=some (.array kk e)) (am:Bh P e=some pp.n)
  (h:Am pp E (some ⟨bk,o,none⟩) kk ys->JL J Q b n (Au L d (.slice (some ⟨bk,o,none⟩) ys.length kk)) ds (.inRegion ops rest::k) cs s):
  JL J Q b n L ds (.inRegion ops (i::rest)::k) cs s:=by
 have ap:=Am.bO U K hC;have aw:=K.1;refine AZ Y hw Z (λρ O=>?_) (h ap);refine Fq (sm:=Instr.sliceAt t (ρ x) none (some (ρ w)) none) rfl ?_;rw [O _ _ ac,O _ _ ag];unfold Hp at hC;split at hC
 ·rename_i hb;cases hC;obtain⟨ay,az,a0⟩:=hb;unfold Instr.sliceAt;refine As _ _ (Cd al ?_);simp only [Instr.sureAddr,bind,Sem.bind,pure];have aq:Instr.sliceBounds false kk kk none (some (iV hi)) none=(pure (0,hi.toNat,kk):Sem _):=by
   simp only [Instr.sliceBounds,Instr.sliceBound,asIntOf,bind,Sem.bind,pure];rw [if_pos (by omega)];rfl
  rw [aq];simp only [pure,Sem.bind];refine As (x:=Go.sizeOf e) _ (EH am ?_);have av:(if kk=0 then(⟨bk,o,none⟩:Addr) else Addr.add ⟨bk,o,none⟩ (0*pp.n))=⟨bk,o,none⟩:=by
   split
   ·rfl
   ·rw [Dz rfl];simp
  rw [av];have e2:((xs.take hi.toNat).drop (0:Int).toNat).length=hi.toNat - 0:=by simp;omega
  rw [e2];exact⟨rfl,rfl⟩
 ·cases hC
theorem VB{a:Option Addr}{l c:Nat}(K:P.underlying t=some (.slice e))(O:ρ x= .slice a l c)(U:ρ (.const (.slice none 0 0))= .slice none 0 0):Yl P ⟨d,.binOp .neq t x (.const (.slice none 0 0)) u,ty,p,af,g⟩ ρ s (.bool (!a.isNone)):=by
 have Y:∀o,eqGuard o t x (.const (.slice none 0 0)) (.slice a l c) (.slice none 0 0)=Sem.pure ():=λo=>by cases o <;> rfl
 refine Fq (sm:=do eqGuard .neq t x (.const (.slice none 0 0)) (ρ x) (ρ (.const (.slice none 0 0)));binOp .neq t (ρ x) (ρ (.const (.slice none 0 0)))) rfl ?_
 rw [O,U,Y];simp only [bind,Sem.bind];have hb:binOp .neq t (.slice a l c) (.slice none 0 0)=(do pure (.bool (!(← Op.equal t (.slice a l c) (.slice none 0 0))))):=rfl
 rw [hb];refine As (x:=Op.equal t _ _) _ ?_;unfold Op.equal Op.maxDepth Op.equalIn;refine As _ _ (Cd K ?_);cases a with
 | none=>exact⟨rfl,rfl⟩
 | some ad=>exact⟨rfl,rfl⟩
end
end Pal
namespace Pal
open Go Go.Conc Go.Proofs
open Go.Proofs.Tryz
variable {J:Judge Tryz.prog}{E:LH}
def NQ(fu_:Nat)(p0:A4)(O:List Int)(K:Int):Option (Bo Int ((A4×Int)⊕(Unit))):= if K<(O.length:Int) then((ix O K).bind λU=> (Aw ((p0.1.length:Int) - 1)).bind λY=> (f91 fu_ U 0 Y).bind λZ=> if(!Z)=true then(some (.done (Sum.inl (([],[]),3)))) else((Aw (K+1)).bind λac=> some (.more ac))) else(some (.done (Sum.inr ())))
def f70(fu_:Nat)(p0:A4)(K:List Int):Option (A4×Int):= (f47 fu_ p0).bind λO=> if O≠0 then(some (([],[]),O)) else(Option.bind (iter (NQ fu_ p0 K) fu_ 0) λU=> Sum.elim (λr=>some r) (λag=> Option.bind (if(K.length:Int)=2 then((ix K (0)).bind λY=> (ix K (1)).bind λZ=> some (decide (Y=Z))) else(some false)) λac=> if ac=true then(some (([],[]),8)) else(some (p0,0))) U)
theorem JX{a1:Ao}{c2:Nat}{Z:Ao}{ac:Nat}{am:Ao}{ap:Nat}{p0:A4}{Y:List Int}(a5:Am (rL rI) E a1 c2 p0.1)(a6:Am AA E Z ac p0.2)(ay:Am rI E am ap Y){fu_:Nat}{r:A4×Int}(a7:f70 fu_ p0 Y=some r):AN J 70 [.agg #[sV a1 p0.1 c2,sV Z p0.2 ac],sV am Y ap] E [] (λw E' B'=>∃(a8:Ao) (a9:Nat) (bb:Ao) (be:Nat),w= .tuple #[.agg #[sV a8 r.1.1 a9,sV bb r.1.2 be],iV r.2]/\B'= []/\Am (rL rI) E' a8 a9 r.1.1/\Am AA E' bb be r.1.2):=by
 refine Bi func70 λQ c0 cs H b4 av=>?_;unfold f70 at a7;refine zg 2 rfl (Du b4 λaz c1 K a0 b5=>?_);refine BV b5 Hb λal b6=>?_;refine zg 5 rfl (Cj a0 ET CV rfl rfl ?_);obtain⟨bi,b7,b8⟩:=bs a7;refine CK (aQ (a5.Ah K) (a6.Ah K) b7) rfl rfl (A6 func47 rfl) b6 λb9 O bn=>zg 7 rfl (AQ b8 (λca cb=>?_) (λca cc=>?_))
 ·refine zg 2 rfl (Al (v:= .agg #[nS,nS]) rfl (λρ h=>Dh [(0,2)] h Hb underlying77 ⟨rfl,AR type25,trivial⟩ rfl rfl) ?_);refine zg 1 rfl (BL 2 bn Df λbo=>?_);refine zg 2 rfl ?_;obtain rfl:=oi cb;refine JL.ret (v:= .tuple #[.agg #[nS,nS],iV bi]) rfl rfl (BE.list func70 rfl (vs:= [.agg #[nS,nS],iV bi]) ⟨⟨_,rfl,Ld.many (vs:= [nS,nS]) FI Df (Hc (off:=0) 2 bo rfl rfl)⟩,rfl,trivial⟩) (En 2 bo rfl λcd=>?_);exact av (K.Ad O) rfl ⟨none,0,none,0,rfl,rfl,Am.nil,Am.nil⟩ cd
 ·refine zg 5 rfl (JL.ln underlying28 rfl rfl rfl ?_);obtain⟨bv,ce,bw⟩:=bs cc;refine zg 2 rfl (Bw (λL s=>∃(bx:Unit) (a2:LH),bv=Sum.inr bx/\Jm b9 H a2 [bX al #[nS,nS] 77] [(1,sV am Y ap),(2,Ak az 0),(4,Ak al 0)] L s) ?_ ?_)
  ·rintro _ _ ⟨bx,a2,rfl,rfl,rfl,ag,bz⟩;have cf:=elim_inr bw;refine zg 2 rfl (Fg 12 λU=>?_);refine DF 0 U rfl rfl (AM 1 U rfl rfl (λρ h s' c3=>Yl.len rfl underlying28 (h _ _ rfl)) ?_);refine A7 U rfl [2,3] rfl ?_;obtain⟨cg,bT,ci⟩:=bs cf;refine Gv 0 #[true,true,true,true,true,true,true,true,true,true,true,true] (λL s=>L= [(2,Ak az 0),(4,Ak al 0),(41,.bool cg)]/\s=Aj a2 H [bX al #[nS,nS] 77]) ?_ ?_
   ·rintro _ _ ⟨rfl,rfl⟩;refine AJ.fin (by decide+kernel) (CB ci (λck cm=>?_) (λck cn=>?_))
    ·refine zg 2 rfl (Al (v:= .agg #[nS,nS]) rfl (λρ h=>Dh [(0,2)] h Hb underlying77 ⟨rfl,AR type25,trivial⟩ rfl rfl) ?_);refine BL 0 bz Df λbU=>?_;refine zg 2 rfl ?_;obtain rfl:=oi cm;refine JL.ret (v:= .tuple #[.agg #[nS,nS],iV 8]) rfl rfl (BE.list func70 rfl (vs:= [.agg #[nS,nS],iV 8]) ⟨⟨_,rfl,Ld.many (vs:= [nS,nS]) FI Df (Hc (off:=0) 0 bU rfl rfl)⟩,rfl,trivial⟩) (En 0 bU rfl λco=>?_);exact av ((K.Ad O).Ad ag) rfl ⟨none,0,none,0,rfl,rfl,Am.nil,Am.nil⟩ co
    ·refine zg 3 rfl (Cj (a0.Ah (O.Ad ag)) ET CV rfl rfl ?_);refine Al (v:= .agg #[sV a1 p0.1 c2,sV Z p0.2 ac]) rfl (λρ h=>Dh [(0,2)] h Hb underlying77 ⟨rfl,AR type25,trivial⟩ rfl rfl) (BL 0 bz Df λbV=>?_);refine zg 2 rfl ?_;obtain rfl:=oi cn;refine JL.ret (v:= .tuple #[.agg #[sV a1 p0.1 c2,sV Z p0.2 ac],iV 0]) rfl rfl (BE.list func70 rfl (vs:= [.agg #[sV a1 p0.1 c2,sV Z p0.2 ac],iV 0]) ⟨⟨_,rfl,Ld.many (vs:= [sV a1 p0.1 c2,sV Z p0.2 ac]) FI Df (Hc (off:=0) 0 bV rfl rfl)⟩,rfl,trivial⟩) (En 0 bV rfl λcp=>?_);exact av ((K.Ad O).Ad ag) rfl ⟨a1,c2,Z,ac,rfl,rfl,(a5.Ah ((K.Ad O).Ad ag)),(a6.Ah ((K.Ad O).Ad ag))⟩ cp
   ·intro bW;refine Hd (q:=(Y.length:Int)=2) (i:=33) rfl (λa3=>?_) (λa3=>?_)
    ·have cq:=ip bT a3;refine DF 4 U rfl rfl ?_;obtain⟨c4,cr,ct⟩:=bs cq;refine FN 5 (ay.Ah ((K.Ad O).Ad ag)) cr U underlying28 AH ?_;rintro c5 c6 _ rfl cu;refine EP 6 U 0 cu Bg rfl rfl rfl rfl ?_;refine DF 7 U rfl rfl ?_;obtain⟨c7,cv,cw⟩:=bs ct;refine FN 8 (ay.Ah ((K.Ad O).Ad ag)) cv U underlying28 AH ?_;rintro c8 c9 _ rfl cy;refine EP 9 U 0 cy Bg rfl rfl rfl rfl ?_;refine A7 U rfl [10,11] rfl ?_;obtain rfl:=oi cw;refine Ef ?_ (bW _ _ ⟨rfl,rfl⟩);exact⟨rfl,rfl,rfl,trivial⟩
    ·have cz:=im bT a3;refine A7 U rfl [4,5,6,7,8,9,10,11] rfl ?_;obtain rfl:=oi cz;refine Ef ?_ (bW _ _ ⟨rfl,rfl⟩);exact⟨rfl,rfl,rfl,trivial⟩
  ·intro cA;refine JL.block (Dm ce (λa4=> [bX al #[nS,nS] 77]) (λa4=> [(1,sV am Y ap),(2,Ak az 0),(4,Ak al 0),(15,sV am Y ap),(16,iV (Y.length:Int)),(17,iV a4)]) Ax bn ?_);rintro a4 cB aq bY bZ ⟨da,aw⟩ cC;have b0:=aw;unfold NQ at b0;refine zg 5 rfl (AQ b0 (λcD cE=>?_) (λcD cF=>?_))
   ·obtain⟨db,cG,cH⟩:=bs cE;refine zg 5 rfl (JS.ix (ay.Ah ((K.Ad O).Ad aq)) cG underlying28 AH ?_);rintro dc dd _ rfl cI;refine C8 0 cI Bg rfl rfl rfl (zg 5 rfl ?_);refine B8 0 (a0.Ah (O.Ad aq)) underlying25 FJ FY ?_;refine JL.ln underlying22 rfl rfl rfl ?_;obtain⟨de,cJ,cK⟩:=bs cH;refine Cl cJ rfl rfl rfl ?_;obtain⟨cM,cN,cO⟩:=bs cK;refine CK (Mk cN) rfl rfl LF bY λdf b1 b2=>Al (v:= .bool (!cM)) rfl (λρ h=>Yl.not (h _ _ rfl)) (JL.done ?_);refine CB cO (λcP cQ=>?_) (λcP cR=>?_)
    ·refine zg 2 rfl (Al (v:= .agg #[nS,nS]) rfl (λρ h=>Dh [(0,2)] h Hb underlying77 ⟨rfl,AR type25,trivial⟩ rfl rfl) ?_);refine BL 0 b2 Df λb3=>?_;refine zg 2 rfl ?_;obtain rfl:=oi cQ;obtain rfl:=bZ _ aw;have cT:=elim_inl bw;obtain rfl:=oi cT;refine JL.ret (v:= .tuple #[.agg #[nS,nS],iV 3]) rfl rfl (BE.list func70 rfl (vs:= [.agg #[nS,nS],iV 3]) ⟨⟨_,rfl,Ld.many (vs:= [nS,nS]) FI Df (Hc (off:=0) 0 b3 rfl rfl)⟩,rfl,trivial⟩) (En 0 b3 rfl λcV=>?_);exact av (((K.Ad O).Ad aq).Ad b1) rfl ⟨none,0,none,0,rfl,rfl,Am.nil,Am.nil⟩ cV
    ·obtain⟨cW,cX,cY⟩:=bs cR;refine zg 3 rfl (Bq cX rfl rfl rfl ?_);refine zg 2 rfl ?_;obtain rfl:=oi cY;exact cC cW (aq.Ad b1) b2 rfl aw
   ·refine JL.exit rfl ?_;obtain rfl:=oi cF;have cZ:bv=(Sum.inr ()):=(bZ _ aw).symm;exact AB (cA _ _ ⟨(),cB,cZ,rfl,rfl,aq,bY⟩) rfl
def Of(fu_:Nat)(p0:List Int):Option ((List Int)):= (Ek ([]:List Int) p0).bind λK=> some K
theorem ZS{ad:Addr}{c2:Nat}{p0:List Int}(Y:Am rI E (some ad) c2 p0){fu_:Nat}{r:(List Int)}(K:Of fu_ p0=some r):AN J 87 [.slice (some ad) p0.length c2] E [] (λw E' B'=>∃(O:Ao) (U:Nat) (g0:Seg),w= sV O r U/\B'=g0/\OL 3 rI E' O U g0 r):=by
 refine Bi func87 λQ a0 cs H Z ac=>?_;unfold Of at K;refine zg 8 rfl (Al (v:= .bool false) rfl (λρ h=>MW (a:=(some ad)) underlying28 (h _ _ rfl) (h _ _ rfl)) ?_);refine zg 5 rfl (SE (pp:=rI) rfl rfl rfl underlying28 AH Z λr1 g2 ag al=>?_);obtain⟨a1,am,ap⟩:=bs K;refine zg 1 rfl (JM (pp:=rI) 1 am rfl rfl rfl rfl rfl rfl rfl underlying28 underlying28 AH (Eh type3) CG rfl (by decide) (by decide) ag Y al rfl λaq av aw ay az=>?_);refine zg 2 rfl ?_;obtain rfl:=oi ap;exact AY func87 rfl rfl (ac Ax rfl ⟨aq,av,aw,rfl,(by first | rfl | simp | (simp [Value.cells])),ay⟩ az)
def Uj(fu_:Nat)(p0:List Int):Option ((List Int)):= some ([])
theorem Zs{c2:Nat}{p0:List Int}(ac:Am rI E none c2 p0){fu_:Nat}{r:(List Int)}(K:Uj fu_ p0=some r):AN J 87 [sV none p0 c2] E [] (λw E' B'=>∃(O:Ao) (U:Nat) (g0:Seg),w= sV O r U/\B'=g0/\OL 3 rI E' O U g0 r):=by
 refine Bi func87 λQ ag cs H Y Z=>?_;unfold Uj at K;refine zg 8 rfl (Al (v:= .bool true) rfl (λρ h=>MW (a:=none) underlying28 (h _ _ rfl) (h _ _ rfl)) ?_);refine zg 6 rfl ?_;obtain rfl:=oi K;exact AY func87 rfl rfl (Z Ax rfl ⟨none,0,[],rfl,rfl,OL.nil⟩ Y)
def f87(fu_:Nat)(p0:List Int):Option (List Int):=Of fu_ p0
theorem aA{a1:Ao}{c2:Nat}{p0:List Int}(O:Am rI E a1 c2 p0){fu_:Nat}{r:List Int}(K:f87 fu_ p0=some r):AN J 87 [.slice a1 p0.length c2] E [] (λw E' B'=>∃(U:Ao) (Y:Nat) (g0:Seg),w= .slice U r.length Y/\B'=g0/\OL 3 rI E' U Y g0 r):=by
 cases a1 with
 | some ad=>exact ZS O K
 | none=>
  have Z:p0= []:=by
   rcases O.2 with h | ⟨_,_,h,_⟩
   ·exact h.1
   ·cases h
  subst Z;have ac:r= []:=by
   have ag:Of fu_ []=some []:=rfl;unfold f87 at K;rw [ag] at K;exact(Option.some.inj K).symm
  subst ac;exact Zs (fu_:=fu_) O rfl
def Ml(fu_:Nat)(p0:Ay):Option (Ay):= (Ek ([]:Ay) p0).bind λK=> some K
theorem Yh{ad:Addr}{c2:Nat}{p0:Ay}(Y:Am AA E (some ad) c2 p0){fu_:Nat}{r:Ay}(K:Ml fu_ p0=some r):AN J 129 [.slice (some ad) p0.length c2] E [] (λw E' B'=>∃(O:Ao) (U:Nat) (g0:Seg),w= sV O r U/\B'=g0/\OL 27 AA E' O U g0 r):=by
 refine Bi func129 λQ a0 cs H Z ac=>?_;unfold Ml at K;refine zg 8 rfl (Al (v:= .bool false) rfl (λρ h=>MW (a:=(some ad)) underlying80 (h _ _ rfl) (h _ _ rfl)) ?_);refine zg 5 rfl (SE (pp:=AA) rfl rfl rfl underlying80 Bp Z λr1 g2 ag al=>?_);obtain⟨a1,am,ap⟩:=bs K;refine zg 1 rfl (JM (pp:=AA) 1 am rfl rfl rfl rfl rfl rfl rfl underlying80 underlying80 Bp (Eh type27) BS rfl (by decide) (by decide) ag Y al rfl λaq av aw ay az=>?_);refine zg 2 rfl ?_;obtain rfl:=oi ap;exact AY func129 rfl rfl (ac Ax rfl ⟨aq,av,aw,rfl,(by first | rfl | simp | (simp [Value.cells])),ay⟩ az)
def TW(fu_:Nat)(p0:Ay):Option (Ay):= some ([])
theorem XC{c2:Nat}{p0:Ay}(ac:Am AA E none c2 p0){fu_:Nat}{r:Ay}(K:TW fu_ p0=some r):AN J 129 [sV none p0 c2] E [] (λw E' B'=>∃(O:Ao) (U:Nat) (g0:Seg),w= sV O r U/\B'=g0/\OL 27 AA E' O U g0 r):=by
 refine Bi func129 λQ ag cs H Y Z=>?_;unfold TW at K;refine zg 8 rfl (Al (v:= .bool true) rfl (λρ h=>MW (a:=none) underlying80 (h _ _ rfl) (h _ _ rfl)) ?_);refine zg 6 rfl ?_;obtain rfl:=oi K;exact AY func129 rfl rfl (Z Ax rfl ⟨none,0,[],rfl,rfl,OL.nil⟩ Y)
def f129(fu_:Nat)(p0:Ay):Option Ay:=Ml fu_ p0
theorem ZL{a1:Ao}{c2:Nat}{p0:Ay}(O:Am AA E a1 c2 p0){fu_:Nat}{r:Ay}(K:f129 fu_ p0=some r):AN J 129 [.slice a1 p0.length c2] E [] (λw E' B'=>∃(U:Ao) (Y:Nat) (g0:Seg),w= .slice U r.length Y/\B'=g0/\OL 27 AA E' U Y g0 r):=by
 cases a1 with
 | some ad=>exact Yh O K
 | none=>
  have Z:p0= []:=by
   rcases O.2 with h | ⟨_,_,h,_⟩
   ·exact h.1
   ·cases h
  subst Z;have ac:r= []:=by
   have ag:Ml fu_ []=some []:=rfl;unfold f129 at K;rw [ag] at K;exact(Option.some.inj K).symm
  subst ac;exact XC (fu_:=fu_) O rfl
def f43(fu_:Nat)(p0:A4):Option ((List Int)×Int):= (f70 fu_ p0 ([])).bind λK=> if K.2≠0 then(some ([],K.2)) else((f84 fu_ K.1).bind λO=> (Hp O 0 (p0.1.length:Int)).bind λU=> (f87 fu_ U).bind λY=> some (Y,0))
theorem bj{a1:Ao}{c2:Nat}{ac:Ao}{ag:Nat}{p0:A4}(a3:Am (rL rI) E a1 c2 p0.1)(a4:Am AA E ac ag p0.2){fu_:Nat}{r:(List Int)×Int}(al:f43 fu_ p0=some r):AN J 43 [.agg #[sV a1 p0.1 c2,sV ac p0.2 ag]] E [] (λw E' B'=>∃(am:Ao) (ap:Nat),w= .tuple #[sV am r.1 ap,iV r.2]/\B'= []/\Am rI E' am ap r.1):=by
 refine Bi func43 λQ cc cs H a5 aq=>?_;unfold f43 at al;refine zg 2 rfl (Du a5 λcd ce U av a6=>?_);refine zg 5 rfl (Cj av ET CV rfl rfl ?_);obtain⟨cf,a7,a8⟩:=bs al;refine B2 (JX (a3.Ah U) (a4.Ah U) Am.nil a7) rfl rfl Jy a6 ?_;rintro _ cg _ Y ⟨ci,ck,cm,cn,rfl,rfl,a9,bb⟩ be;refine zg 3 rfl (BV be Hb λco bi=>?_);refine BL 3 bi Df λbn=>?_;refine Di 3 bn rfl λcp K bo aw=>zg 8 rfl (AQ a8 (λbv bw=>?_) (λbv bx=>?_))
 ·refine zg 6 rfl ?_;obtain rfl:=oi bw;exact AY func43 rfl rfl (aq ((U.Ad Y).Ad K) rfl ⟨none,0,rfl,rfl,Am.nil⟩ aw)
 ·refine zg 3 rfl (Cj bo FI Df rfl rfl ?_);obtain⟨cq,bz,bT⟩:=bs bx;refine B2 (P3 (a9.Ah K) (bb.Ah K) bz) rfl rfl Oz aw ?_;rintro _ ay _ az ⟨Z,rfl,rfl,O⟩ bU;refine BV bU KV λcr bV=>?_;refine HE (v:= .agg Z.toArray) (l:= []) (ws:=(List.replicate 5 (iV 0):Lv_)) (us:=Z) (o:=0) 5 rfl rfl rfl bV rfl rfl rfl (by rw [Cb (kk:=5) (pp:=rI) O];exact AR type105) ((rA 5 rI).one O) rfl (by rw [Cb (kk:=5) (pp:=rI) O,Cb (kk:=5) (pp:=rI) (GQ (E:=ay) (pp:=rI) rfl)];omega) λa0=>?_;rw [JJ (by rw [Cb (kk:=5) (pp:=rI) O,Cb (kk:=5) (pp:=rI) (GQ (E:=ay) (pp:=rI) rfl)])] at a0 ⊢;refine zg 3 rfl (B8 0 (av.Ah ((Y.Ad K).Ad az)) underlying25 FJ FY ?_);refine JL.ln underlying22 rfl rfl rfl (Di 5 a0 rfl λct a2 bW bY=>?_);obtain⟨cu,bZ,b0⟩:=bs bT;refine Ym (ws:=Z) (pp:=rI) bW (Rp.Ah _ a2 O) bZ rfl rfl rfl rfl rfl underlying105 AH λb1=>?_;obtain⟨cv,b2,b3⟩:=bs b0;refine B2 (aA b1 b2) rfl rfl (A6 func87 rfl) bY ?_;rintro _ cw cy b4 ⟨b5,b6,_,rfl,rfl,b7⟩ b8;refine zg 3 rfl (Ce 6 b7 b8 rfl λcz b9 ca cb=>?_);obtain rfl:=oi b3;exact AY func43 rfl rfl (aq ((((((U.Ad Y).Ad K).Ad az).Ad a2).Ad b4).Ad b9) rfl ⟨b5,b6,rfl,rfl,ca⟩ cb)
def Ng(fu_:Nat)(p0:Ay)(O:Ay)(K:Int):Option (Bo Int ((Int)⊕(Unit))):= if K<(p0.length:Int) then((ix p0 K).bind λY=> if(O.length:Int)<=K then(some (.done (Sum.inl 1))) else((ix O K).bind λZ=> (f113 fu_ Y Z).bind λU=> if U≠0 then(some (.done (Sum.inl U))) else((Aw (K+1)).bind λac=> some (.more ac)))) else(some (.done (Sum.inr ())))
def f112(fu_:Nat)(p0:Ay)(K:Ay):Option Int:= Option.bind (iter (Ng fu_ p0 K) fu_ 0) λO=> Sum.elim (λr=>some r) (λU=> if(p0.length:Int)<(K.length:Int) then(some (-1)) else(some 0)) O
theorem ZJ{a1:Ao}{c2:Nat}{Y:Ao}{Z:Nat}{p0:Ay}{O:Ay}(bb:Am AA E a1 c2 p0)(be:Am AA E Y Z O){fu_:Nat}{r:Int}(ay:f112 fu_ p0 O=some r):AN J 112 [sV a1 p0 c2,sV Y O Z,(fV 113)] E [] (λw E' B'=>w=iV r/\B'= []):=by
 refine Bi func112 λQ cu cs H bi ac=>?_;unfold f112 at ay;refine zg 8 rfl (JL.ln underlying80 rfl rfl rfl ?_);obtain⟨az,bn,al⟩:=bs ay;refine zg 2 rfl (Bw (λL s=>∃(a0:Unit) (a2:LH),az=Sum.inr a0/\Jm E H a2 [] [(0,sV a1 p0 c2),(1,sV Y O Z)] L s) ?_ ?_)
 ·rintro _ _ ⟨a0,a2,rfl,rfl,rfl,a3,a4⟩;have bo:=elim_inr al;refine zg 4 rfl (JL.ln underlying80 rfl rfl rfl ?_);refine zg 1 rfl (JL.ln underlying80 rfl rfl rfl ?_);refine zg 2 rfl (AQ bo (λbv bw=>?_) (λbv bx=>?_))
  ·refine zg 4 rfl ?_;obtain rfl:=oi bw;exact AY func112 rfl rfl (ac a3 rfl ⟨rfl,rfl⟩ a4)
  ·refine zg 5 rfl ?_;obtain rfl:=oi bx;exact AY func112 rfl rfl (ac a3 rfl ⟨rfl,rfl⟩ a4)
 ·intro bz;refine JL.block (Dm bn (λam=> []) (λam=> [(0,sV a1 p0 c2),(1,sV Y O Z),(2,(fV 113)),(11,sV a1 p0 c2),(12,iV (p0.length:Int)),(13,iV am)]) Ax bi ?_);rintro am bT K a5 ap ⟨cv,U⟩ bU;have a6:=U;unfold Ng at a6;refine zg 5 rfl (AQ a6 (λbV bW=>?_) (λbV bY=>?_))
  ·obtain⟨aq,bZ,b0⟩:=bs bW;refine zg 6 rfl (JS.ix (bb.Ah K) bZ underlying80 Bp ?_);rintro cw cy _ ⟨_,_,rfl,rfl,⟨_,_,rfl,rfl,rfl⟩⟩ b1;refine Cj b1 Ed Bp rfl rfl (BV a5 BS λcz b2=>?_);refine zg 1 rfl (BL 0 b2 Bp λb3=>?_);refine Di 0 b3 rfl λcA ag b4 a7=>zg 6 rfl (JL.ln underlying80 rfl rfl rfl ?_);refine zg 2 rfl (AQ b0 (λb5 b6=>?_) (λb5 b7=>?_))
   ·refine zg 4 rfl ?_;obtain rfl:=oi b6;obtain rfl:=ap _ U;have b8:=elim_inl al;obtain rfl:=oi b8;exact AY func112 rfl rfl (ac (K.Ad ag) rfl ⟨rfl,rfl⟩ a7)
   ·obtain⟨av,b9,ca⟩:=bs b7;refine zg 5 rfl (JS.ix (be.Ah (K.Ad ag)) b9 underlying80 Bp ?_);rintro cB cC _ ⟨_,_,rfl,rfl,⟨_,_,rfl,rfl,rfl⟩⟩ cb;refine Cj cb Ed Bp rfl rfl (BV a7 BS λcD cc=>?_);refine BL 1 cc Bp λcd=>?_;refine Di 1 cd rfl λcE aw ce cf=>zg 4 rfl (Cj (b4.Ah aw) Ed Bp rfl rfl ?_);refine Cj ce Ed Bp rfl rfl ?_;obtain⟨cF,cg,ci⟩:=bs ca;refine K4 (vs:= [.agg #[iV aq.1,iV aq.2.1,iV aq.2.2],.agg #[iV av.1,iV av.2.1,iV av.2.2]]) (TP cg) rfl rfl rfl rfl (A6 func113 rfl) rfl cf ?_;rintro _ cG _ a8 ⟨rfl,rfl⟩ a9;refine zg 7 rfl (AQ ci (λck cm=>?_) (λck cn=>?_))
    ·refine zg 5 rfl ?_;obtain rfl:=oi cm;obtain rfl:=ap _ U;have co:=elim_inl al;obtain rfl:=oi co;exact AY func112 rfl rfl (ac (((K.Ad ag).Ad aw).Ad a8) rfl ⟨rfl,rfl⟩ a9)
    ·obtain⟨cp,cq,cr⟩:=bs cn;refine zg 3 rfl (Bq cq rfl rfl rfl ?_);refine zg 2 rfl ?_;obtain rfl:=oi cr;exact bU cp (((K.Ad ag).Ad aw).Ad a8) a9 rfl U
  ·refine JL.exit rfl ?_;obtain rfl:=oi bY;have ct:az=(Sum.inr ()):=(ap _ U).symm;exact AB (bz _ _ ⟨(),bT,ct,rfl,rfl,K,a5⟩) rfl
def f74(fu_:Nat)(p0:Ay)(K:Ay):Option Int:= (f112 fu_ p0 K).bind λO=> some O
theorem Iq{a1:Ao}{c2:Nat}{O:Ao}{U:Nat}{p0:Ay}{K:Ay}(Z:Am AA E a1 c2 p0)(ac:Am AA E O U K){fu_:Nat}{r:Int}(Y:f74 fu_ p0 K=some r):AN J 74 [sV a1 p0 c2,sV O K U] E [] (λw E' B'=>w=iV r/\B'= []):=by
 refine Bi func74 λQ aw cs H ag al=>?_;unfold f74 at Y;obtain⟨ay,am,ap⟩:=bs Y;refine zg 8 rfl (CK (ZJ Z ac am) rfl rfl (A6 func112 rfl) ag λaz aq av=>?_);refine zg 2 rfl ?_;obtain rfl:=oi ap;exact AY func74 rfl rfl (al aq rfl ⟨rfl,rfl⟩ av)
def f73(fu_:Nat)(p0:Ay)(K:Ay):Option Bool:= (f74 fu_ p0 K).bind λO=> some (decide (O<0))
theorem ba{a1:Ao}{c2:Nat}{O:Ao}{U:Nat}{p0:Ay}{K:Ay}(Z:Am AA E a1 c2 p0)(ac:Am AA E O U K){fu_:Nat}{r:Bool}(Y:f73 fu_ p0 K=some r):AN J 73 [sV a1 p0 c2,sV O K U] E [] (λw E' B'=>w= .bool r/\B'= []):=by
 refine Bi func73 λQ aw cs H ag al=>?_;unfold f73 at Y;obtain⟨ay,am,ap⟩:=bs Y;refine zg 8 rfl (CK (Iq Z ac am) rfl rfl H8 ag λaz aq av=>?_);refine zg 3 rfl ?_;obtain rfl:=oi ap;exact AY func73 rfl rfl (al aq rfl ⟨rfl,rfl⟩ av)
def f72(fu_:Nat)(p0:Ay×Bool)(K:Ay):Option ((Ay×Bool)):= Option.bind (if(!p0.2)=true then(some true) else((f73 fu_ K p0.1).bind λO=> some O)) λU=> Option.bind (if U=true then(some (K,true)) else(some p0)) λY=> some Y
theorem ai{bk:Nat}{a1:Ao}{c2:Nat}{K:Ao}{O:Nat}{p0:Ay×Bool}{U:Ay}(aq:Am AA E a1 c2 p0.1)(av:Am AA E K O U){fu_:Nat}{r:(Ay×Bool)}(aw:f72 fu_ p0 U=some r):AN J 72 [Ak bk 0,sV K U O,(fV 73)] E [(bk,.cells #[sV a1 p0.1 c2,.bool p0.2] 82 (0,0))] (λw E' B'=>∃(ay:Ao) (az:Nat),w= .tuple #[]/\B'= [(bk,.cells #[sV ay r.1 az,.bool r.2] 82 (0,0))]/\Am AA E' ay az r.1):=by
 refine Bi func72 λQ b1 cs H Z a4=>?_;unfold f72 at aw;refine zg 4 rfl (JL.fd underlying82 LL rfl rfl rfl ?_);refine Al (v:= .bool p0.2) rfl (λρ h=>Yl.load Ou (h _ _ rfl) (BY (j:=0) (off:=1) Z rfl rfl)) (Al (v:= .bool (!p0.2)) rfl (λρ h=>Yl.not (h _ _ rfl)) ?_);obtain⟨a5,a6,a7⟩:=bs aw;refine zg 1 rfl (Hg [] (λL s=>∃(Y:LH),Jm E H Y [bX bk #[sV a1 p0.1 c2,.bool p0.2] 82] [(0,Ak bk 0),(1,sV K U O),(19,.bool a5)] L s) ?_ ?_)
 ·rintro _ _ ⟨Y,rfl,rfl,al,a0⟩;obtain⟨am,a8,a9⟩:=bs a7;refine JL.done (Bw (λL s=>∃(ap:LH) (ac:Ao) (ag:Nat),Jn Y H ap [bX bk #[sV ac am.1 ag,.bool am.2] 82] [] L s (Am AA ap ac ag am.1)) ?_ ?_)
  ·rintro _ _ ⟨ap,ac,ag,rfl,rfl,bb,be,bi⟩;obtain rfl:=oi a9;exact JL.fin (v:= .tuple #[]) rfl rfl (BE.list func72 rfl (vs:= []) trivial) (a4 (al.Ad bb) rfl ⟨ac,ag,rfl,rfl,bi⟩ be)
  ·intro a2;refine CB a8 (λbn bo=>?_) (λbn bv=>?_)
   ·refine zg 5 rfl (JL.fd underlying82 A8 rfl rfl rfl ?_);refine BL 0 a0 A8 λbw=>?_;refine zg 1 rfl (JL.fd underlying82 LL rfl rfl rfl ?_);refine BL 0 bw LL λbx=>?_;refine JL.done ?_;obtain rfl:=oi bo;exact AB (a2 _ _ ⟨Y,K,O,rfl,rfl,Ax,bx,(av.Ah al)⟩) rfl
   ·refine JL.skip ?_;obtain rfl:=oi bv;exact AB (a2 _ _ ⟨Y,a1,c2,rfl,rfl,Ax,a0,(aq.Ah al)⟩) rfl
 ·intro a3;refine EM 11 a6 (λbz bT=>?_) (λbz bU=>?_)
  ·refine zg 8 rfl ?_;obtain rfl:=oi bT;exact AB (a3 _ _ ⟨E,rfl,rfl,Ax,Z⟩) rfl
  ·refine zg 4 rfl (JL.fd underlying82 A8 rfl rfl rfl ?_);refine Al (v:= sV a1 p0.1 c2) rfl (λρ h=>Yl.load BC (h _ _ rfl) (BY (j:=0) (off:=0) Z rfl rfl)) ?_;obtain⟨b2,bV,bW⟩:=bs bU;refine K4 (vs:= [sV K U O,sV a1 p0.1 c2]) (ba av aq bV) rfl rfl rfl rfl (A6 func73 rfl) rfl Z ?_;rintro _ bY _ bZ ⟨rfl,rfl⟩ b0;refine zg 1 rfl ?_;obtain rfl:=oi bW;exact AB (a3 _ _ ⟨bY,rfl,rfl,bZ,b0⟩) rfl
end Pal
namespace Pal
open Go Go.Conc Go.Proofs
open Go.Proofs.Tryz
variable {J:Judge Tryz.prog}{E:LH}
def So(fu_:Nat)(O:List Int)(K:(AD)×Int):Option (Bo ((AD)×Int) ((AD))):= if K.2<(O.length:Int) then((ix O K.2).bind λU=> (Aw (((BI K.1 U).getD 0)+1)).bind λY=> (Aw (K.2+1)).bind λZ=> some (.more ((Da K.1 U Y),Z))) else(some (.done K.1))
def SO(fu_:Nat)(p0:A4)(K:(List AD)×Int):Option (Bo ((List AD)×Int) ((List AD))):= if K.2<(p0.1.length:Int) then((ix p0.1 K.2).bind λO=> Option.bind (iter (So fu_ O) fu_ (([]:AD),0)) λU=> (room K.1 U).bind λY=> (Aw (K.2+1)).bind λZ=> some (.more (Y,Z))) else(some (.done K.1))
def f120(fu_:Nat)(p0:A4):Option ((List AD)):= Option.bind (iter (SO fu_ p0) fu_ ([],0)) λK=> some K
theorem Z6{a1:Ao}{c2:Nat}{bb:Ao}{be:Nat}{p0:A4}(b1:Am (rL rI) E a1 c2 p0.1)(c9:Am AA E bb be p0.2){fu_:Nat}{r:(List AD)}(bi:f120 fu_ p0=some r):AN J 120 [.agg #[sV a1 p0.1 c2,sV bb p0.2 be]] E [] (λw E' B'=>∃(bn:Ao) (bo:Nat),w= sV bn r bo/\B'= []/\Am (rM rI false rI false) E' bn bo r):=by
 refine Bi func120 λQ da cs H b2 b3=>?_;unfold f120 at bi;refine zg 2 rfl (Du b2 λdb ay bv b4 b5=>?_);refine zg 9 rfl (JL.fd underlying77 CV rfl rfl rfl ?_);refine B8 0 b4 underlying25 FJ FY ?_;refine JL.ln underlying22 rfl rfl rfl ?_;obtain⟨bw,b6,b7⟩:=bs bi;refine zg 2 rfl (Bw (λL s=>∃(az:LH) (am:Ao) (ap:Nat) (a0:Seg),Jn ay H az [a0] [(3,sV am bw ap)] L s (OL 197 (rM rI false rI false) az am ap a0 bw)) ?_ ?_)
 ·rintro _ _ ⟨az,am,ap,a0,rfl,rfl,b8,b9,ca⟩;refine zg 5 rfl (Ce 0 ca b9 rfl λdc cb cc cd=>?_);obtain rfl:=oi b7;exact AY func120 rfl rfl (b3 ((bv.Ad b8).Ad cb) rfl ⟨am,ap,rfl,rfl,cc⟩ cd)
 ·intro ce;refine JL.block (CY b6 (λL s K=>∃(O:LH) (U:Ao) (Y:Nat) (ac:Seg),Jn ay H O [ac] [(3,sV U K.1 Y),(11,sV a1 p0.1 c2),(12,iV (p0.1.length:Int)),(13,iV K.2)] L s (OL 197 (rM rI false rI false) O U Y ac K.1)) ⟨ay,none,0,[],rfl,rfl,Ax,b5,OL.nil⟩ ?_);rintro _ _ K ⟨O,U,Y,ac,rfl,rfl,a2,bx,bz⟩ cf ⟨dd,a3⟩ cg;have bT:=a3;unfold SO at bT;refine zg 5 rfl (AQ bT (λci ck=>?_) (λci cm=>?_))
  ·obtain⟨bU,cn,co⟩:=bs ck;refine zg 5 rfl (JS.ix (b1.Ah (bv.Ad a2)) cn underlying22 GK ?_);rintro de df _ ⟨cp,cq,rfl,cr⟩ ct;refine C8 0 ct Kg rfl rfl rfl (zg 4 rfl ?_);refine JS.makeMap rfl rfl rfl bx λag cu=>zg 6 rfl (JL.ln underlying28 rfl rfl rfl ?_);obtain⟨bV,cv,cw⟩:=bs co;refine zg 2 rfl (Bw (λL s=>∃(a4:LH) (aq:Obj),Jn O H a4 [ac,[(ag,aq)]] [(3,sV U K.1 Y),(6,.map (some ag)),(11,sV a1 p0.1 c2),(12,iV (p0.1.length:Int)),(13,iV K.2)] L s (BF rI false rI false a4 aq bV)) ?_ ?_)
   ·rintro _ _ ⟨a4,aq,rfl,rfl,bW,cy,cz⟩;refine zg 3 rfl (OJ 1 cy rfl λbY a5 cA cB=>?_);have cC:BF rI false rI false bY aq bV:=(cz.Ah a5);obtain⟨cD,cE,cF⟩:=bs cw;refine JS.app (pp:=(rM rI false rI false)) (v:= .map (some ag)) (a:=U) (c:=Y) 0 cE rfl rfl rfl rfl (λ_=>rfl) rfl (λ_=>rfl) rfl rfl rfl underlying156 underlying156 underlying156 HC (Eh type197) (Dj type197) rfl (by decide) (by decide) (by decide) (by decide) (bz.Ah (bW.Ad a5)) ⟨_,_,rfl,cA,cC⟩ cB rfl λdg cG cH cI cJ cK=>?_;obtain⟨cM,cN,cO⟩:=bs cF;refine zg 4 rfl (Bq cN rfl rfl rfl ?_);refine zg 2 rfl ?_;obtain rfl:=oi cO;exact AB (cg _ _ (cD,cM) ⟨bY,cG,cH,cI,rfl,rfl,((a2.Ad bW).Ad a5),cK,cJ⟩ a3) rfl
   ·intro cP;refine JL.block (CY cv (λL s Z=>∃(al:LH) (av:Obj),Jn O H al [ac,[(ag,av)]] [(3,sV U K.1 Y),(6,.map (some ag)),(11,sV a1 p0.1 c2),(12,iV (p0.1.length:Int)),(13,iV K.2),(18,sV cp bU cq),(19,iV (bU.length:Int)),(20,iV Z.2)] L s (BF rI false rI false al av Z.1)) ⟨O,(.map #[] 0),rfl,rfl,Ax,cu,BF.nil⟩ ?_);rintro _ _ Z ⟨al,av,rfl,rfl,a6,a7,a8⟩ cQ ⟨dh,a9⟩ cR;have bZ:=a9;unfold So at bZ;refine zg 5 rfl (AQ bZ (λcT cV=>?_) (λcT cW=>?_))
    ·obtain⟨aw,cX,cY⟩:=bs cV;refine zg 5 rfl (JS.ix (cr.Ah a6) cX underlying28 AH ?_);rintro di dj _ rfl cZ;refine C8 0 cZ Bg rfl rfl rfl (zg 5 rfl ?_);refine Al (v:=iV ((BI Z.1 aw).getD 0)) rfl (λρ h=>Yl.lookup (ok:=false) (xs:=Z.1) (x0:=aw) (z0:=0) IX underlying197 CG ⟨_,rfl,rfl⟩ a8 ⟨_,rfl,rfl⟩ (by rintro _ ⟨_,rfl,rfl⟩;rfl) (h _ _ rfl) (h _ _ rfl) (DJ (j:=1) (i:=0) a7 rfl rfl)) ?_;obtain⟨b0,c0,c1⟩:=bs cY;refine Bq c0 rfl rfl rfl (JS.mapUpdate (xs:=Z.1) (x0:=aw) (v0:=b0) 1 IX underlying197 a8 ⟨_,rfl,rfl⟩ ⟨_,rfl,rfl⟩ a7 rfl rfl rfl rfl rfl rfl rfl λc3 c4 c5=>?_);obtain⟨c6,c7,c8⟩:=bs c1;refine zg 3 rfl (Bq c7 rfl rfl rfl ?_);refine zg 2 rfl ?_;obtain rfl:=oi c8;exact AB (cR _ _ ((Da Z.1 aw b0),c6) ⟨al,c3,rfl,rfl,a6,c5,c4⟩ a9) rfl
    ·refine JL.exit rfl ?_;obtain rfl:=oi cW;obtain rfl:=cQ _ a9;exact AB (cP _ _ ⟨al,av,rfl,rfl,a6,a7,a8⟩) rfl
  ·refine JL.exit rfl ?_;obtain rfl:=oi cm;obtain rfl:=cf _ a3;exact AB (ce _ _ ⟨O,U,Y,ac,rfl,rfl,a2,bx,bz⟩) rfl
def Tl(fu_:Nat)(p0:A4)(O:(List Int))(K:(List Int)×Int):Option (Bo ((List Int)×Int) ((List Int))):= if K.2<5 then((ix O K.2).bind λU=> Option.bind (if K.2<(p0.1.length:Int) then((ix p0.1 K.2).bind λY=> (f85 fu_ Y).bind λZ=> (Aw (-(U))).bind λac=> some (decide (Z<ac))) else(some false)) λag=> Option.bind (if ag=true then((room K.1 K.2).bind λal=> some al) else(some K.1)) λam=> (Aw (K.2+1)).bind λap=> some (.more (am,ap))) else(some (.done K.1))
def f39(fu_:Nat)(p0:A4):Option ((List Int)×Int):= (f70 fu_ p0 ([])).bind λK=> if K.2≠0 then(some ([],K.2)) else((f84 fu_ K.1).bind λO=> Option.bind (iter (Tl fu_ p0 O) fu_ ([],0)) λU=> some (U,0))
theorem bu{a1:Ao}{c2:Nat}{bo:Ao}{bv:Nat}{p0:A4}(bw:Am (rL rI) E a1 c2 p0.1)(b2:Am AA E bo bv p0.2){fu_:Nat}{r:(List Int)×Int}(bx:f39 fu_ p0=some r):AN J 39 [.agg #[sV a1 p0.1 c2,sV bo p0.2 bv]] E [] (λw E' B'=>∃(bz:Ao) (bT:Nat),w= .tuple #[sV bz r.1 bT,iV r.2]/\B'= []/\Am rI E' bz bT r.1):=by
 refine Bi func39 λQ dj cs H b3 bU=>?_;unfold f39 at bx;refine zg 2 rfl (Du b3 λa3 dk al a4 b4=>?_);refine zg 5 rfl (Cj a4 ET CV rfl rfl ?_);obtain⟨dn,b5,b6⟩:=bs bx;refine B2 (JX (bw.Ah al) (b2.Ah al) Am.nil b5) rfl rfl Jy b4 ?_;rintro _ dp _ am ⟨dq,dr,dt,du,rfl,rfl,b7,b8⟩ b9;refine zg 3 rfl (BV b9 Hb λdv ca=>?_);refine BL 3 ca Df λcb=>?_;refine Di 3 cb rfl λdw O cc bV=>zg 8 rfl (AQ b6 (λcd ce=>?_) (λcd cf=>?_))
 ·refine zg 6 rfl ?_;obtain rfl:=oi ce;exact AY func39 rfl rfl (bU ((al.Ad am).Ad O) rfl ⟨none,0,rfl,rfl,Am.nil⟩ bV)
 ·refine zg 8 rfl (Cj cc FI Df rfl rfl ?_);obtain⟨dx,cg,ci⟩:=bs cf;refine B2 (P3 (b7.Ah O) (b8.Ah O) cg) rfl rfl Oz bV ?_;rintro _ a5 _ aq ⟨a6,rfl,rfl,ck⟩ cm;obtain⟨bW,cn,co⟩:=bs ci;refine zg 2 rfl (Bw (λL s=>∃(a7:LH) (av:Ao) (aw:Nat) (a8:Seg),Jn a5 H a7 [a8] [(6,sV av bW aw)] L s (OL 3 rI a7 av aw a8 bW)) ?_ ?_)
  ·rintro _ _ ⟨a7,av,aw,a8,rfl,rfl,cp,cq,cr⟩;refine zg 6 rfl (Ce 0 cr cq rfl λdy ct cu cv=>?_);obtain rfl:=oi co;exact AY func39 rfl rfl (bU (((((al.Ad am).Ad O).Ad aq).Ad cp).Ad ct) rfl ⟨av,aw,rfl,rfl,cu⟩ cv)
  ·intro cw;refine JL.block (CY cn (λL s K=>∃(Z:LH) (U:Ao) (Y:Nat) (ac:Seg),Jn a5 H Z [ac] [(1,Ak a3 0),(6,sV U K.1 Y),(18,.agg a6.toArray),(19,iV K.2)] L s (OL 3 rI Z U Y ac K.1)) ⟨a5,none,0,[],rfl,rfl,Ax,cm,OL.nil⟩ ?_);rintro _ _ K ⟨Z,U,Y,ac,rfl,rfl,ag,a9,bb⟩ cy ⟨dz,be⟩ cz;have bY:=be;unfold Tl at bY;refine zg 5 rfl (AQ bY (λcA cB=>?_) (λcA cC=>?_))
   ·obtain⟨dA,cD,cE⟩:=bs cB;refine zg 6 rfl (Tq (Rp.Ah _ ag ck) cD rfl rfl rfl rfl rfl underlying105 AH Bg ?_ (λ_=>rfl));rintro _ rfl;refine zg 6 rfl (B8 0 (a4.Ah (((am.Ad O).Ad aq).Ad ag)) underlying25 FJ FY ?_);refine JL.ln underlying22 rfl rfl rfl ?_;obtain⟨cF,cG,cH⟩:=bs cE;refine zg 2 rfl (Hg [] (λL s=>∃(ap:LH),Jm Z H ap [ac] [(1,Ak a3 0),(6,sV U K.1 Y),(7,iV K.2),(18,.agg a6.toArray),(19,iV K.2),(38,.bool cF)] L s) ?_ ?_)
    ·rintro _ _ ⟨ap,rfl,rfl,bi,bZ⟩;obtain⟨bn,cI,cJ⟩:=bs cH;refine JL.done (Bw (λL s=>∃(ay:LH) (az:Ao) (a0:Nat) (a2:Seg),Jn ap H ay [a2] [(1,Ak a3 0),(6,sV az bn a0),(18,.agg a6.toArray),(19,iV K.2)] L s (OL 3 rI ay az a0 a2 bn)) ?_ ?_)
     ·rintro _ _ ⟨ay,az,a0,a2,rfl,rfl,cK,cM,cN⟩;obtain⟨cO,cP,cQ⟩:=bs cJ;refine zg 2 rfl (Bq cP rfl rfl rfl ?_);refine zg 2 rfl ?_;obtain rfl:=oi cQ;exact AB (cz _ _ (bn,cO) ⟨ay,az,a0,a2,rfl,rfl,((ag.Ad bi).Ad cK),cM,cN⟩ be) rfl
     ·intro b0;refine CB cI (λcR cT=>?_) (λcR cV=>?_)
      ·obtain⟨dB,cW,cX⟩:=bs cT;refine zg 3 rfl (JS.app (pp:=rI) (v:=iV K.2) (a:=U) (c:=Y) 0 cW rfl rfl rfl rfl (λ_=>rfl) rfl (λ_=>rfl) rfl rfl rfl underlying28 underlying28 underlying28 AH (Eh type3) CG rfl (by decide) (by decide) (by decide) (by decide) (bb.Ah bi) rfl bZ rfl λdC cY cZ c0 c1 c3=>?_);refine zg 2 rfl ?_;obtain rfl:=oi cX;exact AB (b0 _ _ ⟨ap,cY,cZ,c0,rfl,rfl,Ax,c3,c1⟩) rfl
      ·refine JL.skip ?_;obtain rfl:=oi cV;exact AB (b0 _ _ ⟨ap,U,Y,ac,rfl,rfl,Ax,bZ,(bb.Ah bi)⟩) rfl
    ·intro b1;refine Gg 28 cG (λc4 c5=>?_) (λc4 c6=>?_)
     ·refine B8 0 (a4.Ah (((am.Ad O).Ad aq).Ad ag)) underlying25 FJ FY ?_;obtain⟨dD,c7,c8⟩:=bs c5;refine zg 1 rfl (JS.ix (bw.Ah ((((al.Ad am).Ad O).Ad aq).Ad ag)) c7 underlying22 GK ?_);rintro dE dF _ ⟨dG,dH,rfl,c9⟩ da;refine C8 0 da Kg rfl rfl rfl ?_;obtain⟨dI,db,dc⟩:=bs c8;refine CK (HO c9 db) rfl rfl HB a9 λdd de df=>?_;obtain⟨dg,dh,di⟩:=bs dc;refine zg 1 rfl (Al (v:=iV dg) rfl (λρ h=>HI (h _ _ rfl) dh) ?_);refine zg 2 rfl ?_;obtain rfl:=oi di;exact AB (b1 _ _ ⟨dd,rfl,rfl,de,df⟩) rfl
     ·refine zg 10 rfl ?_;obtain rfl:=oi c6;exact AB (b1 _ _ ⟨Z,rfl,rfl,Ax,a9⟩) rfl
   ·refine JL.exit rfl ?_;obtain rfl:=oi cC;obtain rfl:=cy _ be;exact AB (cw _ _ ⟨Z,U,Y,ac,rfl,rfl,ag,a9,bb⟩) rfl
def Sl(fu_:Nat)(p0:List Int)(O:Int)(K:Int):Option (Bo Int ((Int)⊕(Unit))):= if K<(p0.length:Int) then((ix p0 K).bind λU=> if O=U then(some (.done (Sum.inl K))) else((Aw (K+1)).bind λY=> some (.more Y))) else(some (.done (Sum.inr ())))
def f128(fu_:Nat)(p0:List Int)(K:Int):Option Int:= Option.bind (iter (Sl fu_ p0 K) fu_ 0) λO=> Sum.elim (λr=>some r) (λU=> some (-1)) O
theorem Zc{a1:Ao}{c2:Nat}{p0:List Int}{U:Int}(ay:Am rI E a1 c2 p0){fu_:Nat}{r:Int}(ac:f128 fu_ p0 U=some r):AN J 128 [sV a1 p0 c2,iV U] E [] (λw E' B'=>w=iV r/\B'= []):=by
 refine Bi func128 λQ bW cs H az ag=>?_;unfold f128 at ac;refine zg 8 rfl (JL.ln underlying28 rfl rfl rfl ?_);obtain⟨al,a0,am⟩:=bs ac;refine zg 2 rfl (Bw (λL s=>∃(ap:Unit) (aq:LH),al=Sum.inr ap/\Jm E H aq [] [] L s) ?_ ?_)
 ·rintro _ _ ⟨ap,aq,rfl,rfl,rfl,a2,a3⟩;have a4:=elim_inr am;refine zg 4 rfl ?_;obtain rfl:=oi a4;exact AY func128 rfl rfl (ag a2 rfl ⟨rfl,rfl⟩ a3)
 ·intro a5;refine JL.block (Dm a0 (λY=> []) (λY=> [(0,sV a1 p0 c2),(1,iV U),(7,iV (p0.length:Int)),(8,iV Y)]) Ax az ?_);rintro Y a6 K Z av ⟨bY,O⟩ a7;have aw:=O;unfold Sl at aw;refine zg 5 rfl (AQ aw (λa8 a9=>?_) (λa8 bb=>?_))
  ·obtain⟨bZ,be,bi⟩:=bs a9;refine zg 13 rfl (JS.ix (ay.Ah K) be underlying28 AH ?_);rintro b0 b1 _ rfl bn;refine C8 0 bn Bg rfl rfl rfl (zg 2 rfl ?_);refine AQ bi (λbo bv=>?_) (λbo bw=>?_)
   ·refine zg 5 rfl ?_;obtain rfl:=oi bv;obtain rfl:=av _ O;have bx:=elim_inl am;obtain rfl:=oi bx;exact AY func128 rfl rfl (ag K rfl ⟨rfl,rfl⟩ Z)
   ·obtain⟨bz,bT,bU⟩:=bs bw;refine zg 3 rfl (Bq bT rfl rfl rfl ?_);refine zg 2 rfl ?_;obtain rfl:=oi bU;exact a7 bz K Z rfl O
  ·refine JL.exit rfl ?_;obtain rfl:=oi bb;have bV:al=(Sum.inr ()):=(av _ O).symm;exact AB (a5 _ _ ⟨(),a6,bV,rfl,rfl,K,Z⟩) rfl
def f82(fu_:Nat)(p0:List Int)(K:Int):Option Bool:= (f128 fu_ p0 K).bind λO=> some (decide (0<=O))
theorem aT{a1:Ao}{c2:Nat}{p0:List Int}{K:Int}(U:Am rI E a1 c2 p0){fu_:Nat}{r:Bool}(O:f82 fu_ p0 K=some r):AN J 82 [sV a1 p0 c2,iV K] E [] (λw E' B'=>w= .bool r/\B'= []):=by
 refine Bi func82 λQ ap cs H Y Z=>?_;unfold f82 at O;obtain⟨aq,ac,ag⟩:=bs O;refine zg 8 rfl (CK (Zc U ac) rfl rfl (A6 func128 rfl) Y λav al am=>?_);refine zg 3 rfl ?_;obtain rfl:=oi ag;exact AY func82 rfl rfl (Z al rfl ⟨rfl,rfl⟩ am)
def TG(fu_:Nat)(O:A4×Int)(K:(List ((Int×Int)×Bool))×Int):Option (Bo ((List ((Int×Int)×Bool))×Int) ((List ((Int×Int)×Bool)))):= if K.2<(O.1.2.length:Int) then((ix O.1.2 K.2).bind λU=> (Aw (K.2+1)).bind λY=> some (.more ((Da K.1 (U.1,U.2.1) true),Y))) else(some (.done K.1))
def TQ(fu_:Nat)(U:A4×Int)(Y:(List ((Int×Int)×Bool)))(O:List Int)(K:Bn×Int):Option (Bo (Bn×Int) (Bn)):= if K.2<(U.1.1.length:Int) then(Option.bind ((f82 fu_ O K.2).bind λZ=> Option.bind (if Z=true then(some true) else(if 0<(O.length:Int) then((Aw ((O.length:Int) - 1)).bind λac=> (ix O ac).bind λag=> some (!((BI Y (ag,K.2)).getD false))) else(some false))) λal=> if al=true then(some K.1) else((Ek O ([K.2]:List Int)).bind λam=> (room K.1 am).bind λap=> some ap)) λaq=> (Aw (K.2+1)).bind λav=> some (.more (aq,av))) else(some (.done K.1))
def TI(fu_:Nat)(Z:A4×Int)(U:(List ((Int×Int)×Bool)))(Y:Bn)(O:Bn×Int):Option (Bo (Bn×Int) (((List Int)×Int)⊕(Bn))):= if O.2<(Y.length:Int) then((ix Y O.2).bind λK=> Option.bind (if 1<(K.length:Int) then((Aw ((K.length:Int) - 1)).bind λac=> (ix K ac).bind λag=> (ix K (0)).bind λal=> some ((BI U (ag,al)).getD false)) else(some false)) λam=> if am=true then(some (.done (Sum.inl (K,0)))) else(Option.bind (iter (TQ fu_ Z U K) fu_ (O.1,0)) λap=> (Aw (O.2+1)).bind λaq=> some (.more (ap,aq)))) else(some (.done (Sum.inr O.1)))
def S9(fu_:Nat)(U:A4×Int)(Y:(List ((Int×Int)×Bool)))(K:Bn):Option (Bo (Bn) (((List Int)×Int)⊕(Unit))):= if 0<(K.length:Int) then(Option.bind (iter (TI fu_ U Y K) fu_ ([],0)) λZ=> Sum.elim (λr=>some (.done (Sum.inl r))) (λO=> if(O.length:Int)=0 then(some (.done (Sum.inr ()))) else(some (.more O))) Z) else(some (.done (Sum.inr ())))
def f33(fu_:Nat)(p0:A4):Option ((List Int)×Int):= (f70 fu_ p0 ([])).bind λK=> if K.2≠0 then(some ([],K.2)) else(Option.bind (iter (TG fu_ K) fu_ (([]:List ((Int×Int)×Bool)),0)) λO=> Option.bind (iter (S9 fu_ K O) fu_ ([[]]:Bn)) λU=> Sum.elim (λr=>some r) (λY=> some ([],11)) U)
theorem aG{a1:Ao}{c2:Nat}{cF:Ao}{cG:Nat}{p0:A4}(dg:Am (rL rI) E a1 c2 p0.1)(dh:Am AA E cF cG p0.2){fu_:Nat}{r:(List Int)×Int}(cH:f33 fu_ p0=some r):AN J 33 [.agg #[sV a1 p0.1 c2,sV cF p0.2 cG]] E [] (λw E' B'=>∃(cI:Ao) (cJ:Nat),w= .tuple #[sV cI r.1 cJ,iV r.2]/\B'= []/\Am rI E' cI cJ r.1):=by
 refine Bi func33 λQ gk cs H di cn=>?_;unfold f33 at cH;refine zg 2 rfl (Du di λgl gm bx dj dk=>?_);refine zg 6 rfl (Cj dj ET CV rfl rfl ?_);obtain⟨bz,dn,dp⟩:=bs cH;refine B2 (JX (dg.Ah bx) (dh.Ah bx) Am.nil dn) rfl rfl Jy dk ?_;rintro _ gn _ co ⟨gp,gq,dq,dr,rfl,rfl,gr,dt⟩ du;refine zg 3 rfl (BV du Hb λag dv=>?_);refine BL 3 dv Df λdw=>?_;refine Di 3 dw rfl λcp b0 cK cM=>zg 8 rfl (AQ dp (λdx dy=>?_) (λdx dz=>?_))
 ·refine zg 6 rfl ?_;obtain rfl:=oi dy;exact AY func33 rfl rfl (cn ((bx.Ad co).Ad b0) rfl ⟨none,0,rfl,rfl,Am.nil⟩ cM)
 ·refine zg 3 rfl (JS.makeMap rfl rfl rfl cM λK dA=>?_);refine zg 5 rfl (JL.fd underlying77 CV rfl rfl rfl ?_);refine B8 1 cK underlying25 H9 Kf ?_;refine JL.ln underlying23 rfl rfl rfl ?_;obtain⟨a9,dB,dC⟩:=bs dz;refine zg 2 rfl (Bw (λL s=>∃(bb:LH) (ac:Obj),Jn cp H bb [[(K,ac)]] [(4,Ak ag 0),(6,.map (some K))] L s (BF DZ true rB false bb ac a9)) ?_ ?_)
  ·rintro _ _ ⟨bb,ac,rfl,rfl,cq,dD,cN⟩;refine zg 2 rfl (Fu (pp:=(rL rI)) [nS] [[]] rfl rfl rfl underlying22 GK LJ (by decide) rfl rfl rfl ⟨⟨_,_,rfl,Am.nil⟩,trivial⟩ dD λdE dF dG dH=>?_);refine zg 3 rfl (JL.label ?_);obtain⟨cr,dI,cO⟩:=bs dC;refine JL.seq (Bw (λL s=>∃(cP:Unit) (cQ:LH),cr=Sum.inr cP/\Jm bb H cQ [] [] L s) ?_ ?_)
   ·rintro _ _ ⟨cP,cQ,rfl,rfl,rfl,dJ,dK⟩;have dL:=elim_inr cO;refine zg 5 rfl ?_;obtain rfl:=oi dL;exact AY func33 rfl rfl (cn ((((bx.Ad co).Ad b0).Ad cq).Ad dJ) rfl ⟨none,0,rfl,rfl,Am.nil⟩ dK)
   ·intro cR;refine JL.block (CY dI (λL s O=>∃(a0:LH) (al:Ao) (am:Nat) (ap:Seg),Jn bb H a0 [[(K,ac)],ap] [(4,Ak ag 0),(6,.map (some K)),(9,sV al O am)] L s (OL 28 (rL rI) a0 al am ap O)) ⟨bb,(AS dE),1,dF,rfl,rfl,Ax,dH,dG⟩ ?_);rintro _ _ O ⟨a0,al,am,ap,rfl,rfl,a2,cT,dM⟩ ct ⟨gt,bT⟩ dN;have cV:=bT;unfold S9 at cV;refine zg 4 rfl (JL.ln underlying22 rfl rfl rfl ?_);refine zg 2 rfl (AQ cV (λdO dQ=>?_) (λdO dR=>?_))
    ·refine zg 10 rfl (JL.ln underlying22 rfl rfl rfl ?_);obtain⟨cW,dS,cX⟩:=bs dQ;refine zg 2 rfl (Bw (λL s=>∃(bU:Bn) (bV:LH) (b1:Ao) (b2:Nat) (b3:Seg),cW=Sum.inr bU/\Jn a0 H bV [[(K,ac)],b3] [(4,Ak ag 0),(6,.map (some K)),(10,sV b1 bU b2)] L s (OL 28 (rL rI) bV b1 b2 b3 bU)) ?_ ?_)
     ·rintro _ _ ⟨bU,bV,b1,b2,b3,rfl,rfl,rfl,cY,cZ,dT⟩;have dU:=elim_inr cX;refine zg 8 rfl (JL.ln underlying22 rfl rfl rfl ?_);refine zg 2 rfl (AQ dU (λdV dW=>?_) (λdV dX=>?_))
      ·refine JL.exit rfl (JS.drop 0 cZ rfl λdY=>?_);refine JS.drop 1 dY rfl λdZ=>?_;obtain rfl:=oi dW;have ea:cr=(Sum.inr ()):=(ct _ bT).symm;exact AB (cR _ _ ⟨(),bV,ea,rfl,rfl,(a2.Ad cY),dZ⟩) rfl
      ·refine zg 2 rfl ?_;obtain rfl:=oi dX;exact AB (dN _ _ bU ⟨bV,b1,b2,b3,rfl,rfl,(a2.Ad cY),cZ,dT⟩ bT) rfl
     ·intro eb;refine JL.block (CY dS (λL s Y=>∃(av:LH) (be:Ao) (bi:Nat) (bn:Seg),Jn a0 H av [[(K,ac)],ap,bn] [(4,Ak ag 0),(6,.map (some K)),(10,sV be Y.1 bi),(43,sV al O am),(44,iV (O.length:Int)),(45,iV Y.2)] L s (OL 28 (rL rI) av be bi bn Y.1)) ⟨a0,none,0,[],rfl,rfl,Ax,cT,OL.nil⟩ ?_);rintro _ _ Y ⟨av,be,bi,bn,rfl,rfl,a3,bW,c0⟩ c1 ⟨gu,b4⟩ ec;have c3:=b4;unfold TI at c3;refine zg 5 rfl (AQ c3 (λed ee=>?_) (λed ef=>?_))
      ·obtain⟨aw,eg,eh⟩:=bs ee;refine zg 5 rfl (L4 1 (dM.Ah a3) eg rfl rfl rfl rfl rfl rfl underlying22 GK ?_);rintro gv gw f155 _ ei ⟨a4,bo,rfl,ay⟩ ej gx gy gz gA;refine Al (v:= sV a4 aw bo) rfl (λρ h=>Yl.load Kg (h _ _ rfl) (BY (j:=1) bW ei (ej 0 _ rfl))) (zg 6 rfl ?_);refine JL.ln underlying28 rfl rfl rfl (zg 3 rfl ?_);refine P7 15 λZ=>A7 Z rfl [0,1,2] rfl ?_;obtain⟨ek,c4,el⟩:=bs eh;refine Gv 0 #[true,true,true,true,true,true,true,true,true,true,true,true,true,true,true] (λL s=>L= [(4,Ak ag 0),(6,.map (some K)),(10,sV be Y.1 bi),(12,sV a4 aw bo),(43,sV al O am),(44,iV (O.length:Int)),(45,iV Y.2),(65,.bool ek)]/\s=Aj av H [[(K,ac)],ap,bn]) ?_ ?_
       ·rintro _ _ ⟨rfl,rfl⟩;refine AJ.fin (by decide+kernel) (CB el (λem en=>?_) (λem eo=>?_))
        ·refine zg 6 rfl (JS.drop 0 bW rfl λep=>?_);refine JS.drop 1 ep rfl λer=>JS.drop 2 er rfl λet=>?_;obtain rfl:=oi en;obtain rfl:=c1 _ b4;have eu:=elim_inl cX;obtain rfl:=oi eu;obtain rfl:=ct _ bT;have ew:=elim_inl cO;obtain rfl:=oi ew;exact AY func33 rfl rfl (cn (((((bx.Ad co).Ad b0).Ad cq).Ad a2).Ad a3) rfl ⟨a4,bo,rfl,rfl,ay⟩ et)
        ·refine zg 3 rfl (JL.fd underlying77 CV rfl rfl rfl ?_);refine B8 0 (cK.Ah ((cq.Ad a2).Ad a3)) underlying25 FJ FY ?_;refine JL.ln underlying22 rfl rfl rfl ?_;obtain⟨cu,ex,ey⟩:=bs eo;refine zg 2 rfl (Bw (λL s=>∃(b5:LH) (b6:Ao) (b7:Nat) (b8:Seg),Jn av H b5 [[(K,ac)],ap,b8] [(4,Ak ag 0),(6,.map (some K)),(10,sV b6 cu b7),(43,sV al O am),(44,iV (O.length:Int)),(45,iV Y.2)] L s (OL 28 (rL rI) b5 b6 b7 b8 cu)) ?_ ?_)
         ·rintro _ _ ⟨b5,b6,b7,b8,rfl,rfl,ez,eA,eB⟩;obtain⟨eC,eD,eE⟩:=bs ey;refine zg 2 rfl (Bq eD rfl rfl rfl ?_);refine zg 2 rfl ?_;obtain rfl:=oi eE;exact AB (ec _ _ (cu,eC) ⟨b5,b6,b7,b8,rfl,rfl,(a3.Ad ez),eA,eB⟩ b4) rfl
         ·intro eF;refine JL.block (CY ex (λL s U=>∃(bY:LH) (a5:Ao) (a6:Nat) (bv:Seg),Jn av H bY [[(K,ac)],ap,bv] [(4,Ak ag 0),(6,.map (some K)),(10,sV a5 U.1 a6),(12,sV a4 aw bo),(43,sV al O am),(44,iV (O.length:Int)),(45,iV Y.2),(70,iV (bz.1.1.length:Int)),(71,iV U.2)] L s (OL 28 (rL rI) bY a5 a6 bv U.1)) ⟨av,be,bi,bn,rfl,rfl,Ax,bW,c0⟩ ?_);rintro _ _ U ⟨bY,a5,a6,bv,rfl,rfl,az,c5,cv⟩ eG ⟨gB,cw⟩ eH;have c6:=cw;unfold TQ at c6;refine zg 5 rfl (AQ c6 (λeI eJ=>?_) (λeI eK=>?_))
          ·obtain⟨cy,eL,eM⟩:=bs eJ;refine zg 2 rfl (Bw (λL s=>∃(b9:LH) (ca:Ao) (cb:Nat) (cc:Seg),Jn bY H b9 [[(K,ac)],ap,cc] [(4,Ak ag 0),(6,.map (some K)),(10,sV ca cy cb),(12,sV a4 aw bo),(43,sV al O am),(44,iV (O.length:Int)),(45,iV Y.2),(70,iV (bz.1.1.length:Int)),(71,iV U.2)] L s (OL 28 (rL rI) b9 ca cb cc cy)) ?_ ?_)
           ·rintro _ _ ⟨b9,ca,cb,cc,rfl,rfl,eN,eO,eP⟩;obtain⟨eQ,eR,eS⟩:=bs eM;refine JL.region (Bq eR rfl rfl rfl ?_);refine zg 2 rfl ?_;obtain rfl:=oi eS;exact AB (eH _ _ (cy,eQ) ⟨b9,ca,cb,cc,rfl,rfl,(az.Ad eN),eO,eP⟩ cw) rfl
           ·intro c7;obtain⟨gC,eT,eU⟩:=bs eL;refine zg 11 rfl (CK (aT (ay.Ah az) eT) rfl rfl (A6 func82 rfl) c5 λcd aq ce=>?_);obtain⟨eV,eW,eX⟩:=bs eU;refine zg 1 rfl (Hg [] (λL s=>∃(cz:LH),Jm cd H cz [[(K,ac)],ap,bv] [(4,Ak ag 0),(6,.map (some K)),(10,sV a5 U.1 a6),(12,sV a4 aw bo),(14,iV U.2),(43,sV al O am),(44,iV (O.length:Int)),(45,iV Y.2),(70,iV (bz.1.1.length:Int)),(71,iV U.2),(94,.bool eV)] L s) ?_ ?_)
            ·rintro _ _ ⟨cz,rfl,rfl,a7,c8⟩;refine JL.done (CB eX (λeY eZ=>?_) (λeY e0=>?_))
             ·refine JL.exit rfl ?_;obtain rfl:=oi eZ;exact AB (c7 _ _ ⟨cz,a5,a6,bv,rfl,rfl,(aq.Ad a7),c8,(cv.Ah (aq.Ad a7))⟩) rfl
             ·refine zg 5 rfl (JL.ln underlying28 rfl rfl rfl ?_);refine zg 1 rfl (JL.ln underlying28 rfl rfl rfl ?_);refine Al (v:= .slice a4 aw.length aw.length) rfl (λρ h=>Q0 (Am.spot (ay.Ah ((az.Ad aq).Ad a7))) (And.left (ay.Ah ((az.Ad aq).Ad a7))) underlying28 AH (h _ _ rfl) (h _ _ rfl) (h _ _ rfl)) (zg 1 rfl ?_);refine Fu (pp:=rI) [iV U.2] [U.2] rfl rfl rfl underlying28 AH CG (by decide) rfl rfl rfl ⟨rfl,trivial⟩ c8 λgD gE e1 e3=>Ce 3 e1 e3 rfl λgF cA e4 e5=>?_;obtain⟨e6,e7,e8⟩:=bs e0;refine Vt (pp:=rI) e7 rfl rfl rfl rfl rfl rfl rfl underlying28 underlying28 AH (Eh type3) CG rfl (by decide) (by decide) (ay.Ah (((az.Ad aq).Ad a7).Ad cA)) e4 e5 λe9 fa fb c9 fc fe=>?_;obtain⟨gG,ff,fg⟩:=bs e8;refine JS.app (pp:=(rL rI)) (v:= sV fa e6 fb) (a:=a5) (c:=a6) 2 ff rfl rfl rfl rfl (λ_=>rfl) rfl (λ_=>rfl) rfl rfl rfl underlying22 underlying22 underlying22 GK (Eh type28) LJ rfl (by decide) (by decide) (by decide) (by decide) (cv.Ah (((aq.Ad a7).Ad cA).Ad c9)) ⟨_,_,rfl,fc⟩ fe rfl λgH fh fj fk fl fm=>zg 3 rfl ?_;obtain rfl:=oi fg;exact AB (c7 _ _ ⟨e9,fh,fj,fk,rfl,rfl,(((aq.Ad a7).Ad cA).Ad c9),fm,fl⟩) rfl
            ·intro cB;refine EM 77 eW (λfo fp=>?_) (λfo fq=>?_)
             ·refine zg 17 rfl ?_;obtain rfl:=oi fp;exact AB (cB _ _ ⟨cd,rfl,rfl,Ax,ce⟩) rfl
             ·refine zg 1 rfl (JL.ln underlying28 rfl rfl rfl ?_);refine zg 2 rfl (Gg 81 fq (λfs fu=>?_) (λfs fv=>?_))
              ·refine zg 3 rfl (JL.ln underlying28 rfl rfl rfl ?_);obtain⟨gI,fw,fx⟩:=bs fu;refine Cl fw rfl rfl rfl ?_;obtain⟨cf,fy,fz⟩:=bs fx;refine JS.ix (ay.Ah (az.Ad aq)) fy underlying28 AH ?_;rintro gJ gK _ rfl fA;refine C8 0 fA Bg rfl rfl rfl (zg 1 rfl ?_);refine Al (v:= .agg #[iV cf,iV U.2]) rfl (λρ h=>Dh [(0,1),(1,1)] h I3 underlying101 ⟨rfl,AR type3,rfl,AR type3,trivial⟩ rfl rfl) (Al (v:= .bool (((BI a9 (cf,U.2)).getD false))) rfl (λρ h=>Yl.lookup (ok:=false) (xs:=a9) (x0:=(cf,U.2)) (z0:=false) PL underlying99 LK ⟨_,rfl,rfl⟩ (cN.Ah (((a2.Ad a3).Ad az).Ad aq)) ⟨_,⟨_,_,rfl,rfl,rfl⟩,rfl⟩ (by rintro _ ⟨_,rfl,rfl⟩;rfl) (h _ _ rfl) (h _ _ rfl) (DJ (j:=0) (i:=0) ce rfl rfl)) ?_);refine Al (v:= .bool ((!((BI a9 (cf,U.2)).getD false)))) rfl (λρ h=>Yl.not (h _ _ rfl)) (zg 2 rfl ?_);obtain rfl:=oi fz;exact AB (cB _ _ ⟨cd,rfl,rfl,Ax,ce⟩) rfl
              ·refine zg 13 rfl ?_;obtain rfl:=oi fv;exact AB (cB _ _ ⟨cd,rfl,rfl,Ax,ce⟩) rfl
          ·refine JL.exit rfl ?_;obtain rfl:=oi eK;obtain rfl:=eG _ cw;exact AB (eF _ _ ⟨bY,a5,a6,bv,rfl,rfl,az,c5,cv⟩) rfl
       ·intro da;refine Hd (q:=1<(aw.length:Int)) (i:=53) rfl (λcC=>?_) (λcC=>?_)
        ·have fB:=ip c4 cC;refine A7 Z rfl [3,4,5] rfl ?_;obtain⟨gL,fC,fD⟩:=bs fB;refine AM 6 Z rfl rfl (λρ h s' a8=>Eg (h _ _ rfl) (h _ _ rfl) fC) ?_;obtain⟨cg,fE,fF⟩:=bs fD;refine FN 7 ay fE Z underlying28 AH ?_;rintro gM gO _ rfl fG;refine AM (v:=iV cg) 8 Z rfl rfl (λρ h s' a8=>Yl.load Bg (h _ _ rfl) (Mm a8 (At.Lo (j:=0) fG rfl))) ?_;refine DF 9 Z rfl rfl ?_;obtain⟨ci,fH,fI⟩:=bs fF;refine FN 10 ay fH Z underlying28 AH ?_;rintro gP gQ _ rfl fJ;refine AM (v:=iV ci) 11 Z rfl rfl (λρ h s' a8=>Yl.load Bg (h _ _ rfl) (Mm a8 (At.Lo (j:=0) fJ rfl))) ?_;refine AM (v:= .agg #[iV cg,iV ci]) 12 Z rfl rfl (λρ h s' a8=>Dh [(0,1),(1,1)] h I3 underlying101 ⟨rfl,AR type3,rfl,AR type3,trivial⟩ rfl rfl) ?_;refine AM (v:= .bool (((BI a9 (cg,ci)).getD false))) 13 Z rfl rfl (λρ h s' a8=>Yl.lookup (ok:=false) (xs:=a9) (x0:=(cg,ci)) (z0:=false) PL underlying99 LK ⟨_,rfl,rfl⟩ (cN.Ah (a2.Ad a3)) ⟨_,⟨_,_,rfl,rfl,rfl⟩,rfl⟩ (by rintro _ ⟨_,rfl,rfl⟩;rfl) (h _ _ rfl) (h _ _ rfl) (Qg a8 (DJ (j:=0) (i:=0) bW rfl rfl))) ?_;refine DF 14 Z rfl rfl ?_;obtain rfl:=oi fI;refine Ef ?_ (da _ _ ⟨rfl,rfl⟩);exact⟨rfl,rfl,rfl,rfl,rfl,rfl,rfl,rfl,trivial⟩
        ·have fK:=im c4 cC;refine A7 Z rfl [3,4,5,6,7,8,9,10,11,12,13,14] rfl ?_;obtain rfl:=oi fK;refine Ef ?_ (da _ _ ⟨rfl,rfl⟩);exact⟨rfl,rfl,rfl,rfl,rfl,rfl,rfl,rfl,trivial⟩
      ·refine JL.exit rfl (JS.drop 1 bW rfl λfL=>?_);obtain rfl:=oi ef;have fM:cW=(Sum.inr Y.1):=(c1 _ b4).symm;exact AB (eb _ _ ⟨Y.1,av,be,bi,bn,fM,rfl,rfl,a3,fL,c0⟩) rfl
    ·refine JL.exit rfl (JS.drop 0 cT rfl λfN=>?_);refine JS.drop 1 fN rfl λfO=>?_;obtain rfl:=oi dR;have fP:cr=(Sum.inr ()):=(ct _ bT).symm;exact AB (cR _ _ ⟨(),a0,fP,rfl,rfl,a2,fO⟩) rfl
  ·intro fQ;refine JL.block (CY dB (λL s bZ=>∃(ck:LH) (cm:Obj),Jn cp H ck [[(K,cm)]] [(4,Ak ag 0),(6,.map (some K)),(26,sV dq bz.1.2 dr),(27,iV (bz.1.2.length:Int)),(28,iV bZ.2)] L s (BF DZ true rB false ck cm bZ.1)) ⟨cp,(.map #[] 0),rfl,rfl,Ax,dA,BF.nil⟩ ?_);rintro _ _ bZ ⟨ck,cm,rfl,rfl,cD,db,dc⟩ fR ⟨gR,cE⟩ fS;have dd:=cE;unfold TG at dd;refine zg 5 rfl (AQ dd (λfT fU=>?_) (λfT fW=>?_))
   ·obtain⟨bw,fX,fY⟩:=bs fU;refine zg 5 rfl (JS.ix (dt.Ah (b0.Ad cD)) fX underlying23 Bp ?_);rintro gS gT _ ⟨_,_,rfl,rfl,⟨_,_,rfl,rfl,rfl⟩⟩ fZ;refine Cj fZ Ed Bp rfl rfl (BV db BS λgU ga=>?_);refine BL 1 ga Bp λgb=>?_;refine Di 1 gb rfl λgc de df gd=>zg 3 rfl (B8 0 df underlying27 AH Bg ?_);refine B8 1 df underlying27 AH Bg ?_;refine Al (v:= .agg #[iV bw.1,iV bw.2.1]) rfl (λρ h=>Dh [(0,1),(1,1)] h I3 underlying101 ⟨rfl,AR type3,rfl,AR type3,trivial⟩ rfl rfl) (JS.mapUpdate (xs:=bZ.1) (x0:=(bw.1,bw.2.1)) (v0:=true) 0 PL underlying99 (dc.Ah de) ⟨_,⟨_,_,rfl,rfl,rfl⟩,rfl⟩ ⟨_,rfl,rfl⟩ gd rfl rfl rfl rfl rfl rfl rfl λge gf gg=>?_);obtain⟨gh,gi,gj⟩:=bs fY;refine zg 3 rfl (Bq gi rfl rfl rfl ?_);refine zg 2 rfl ?_;obtain rfl:=oi gj;exact AB (fS _ _ ((Da bZ.1 (bw.1,bw.2.1) true),gh) ⟨gc,ge,rfl,rfl,(cD.Ad de),gg,gf⟩ cE) rfl
   ·refine JL.exit rfl ?_;obtain rfl:=oi fW;obtain rfl:=fR _ cE;exact AB (fQ _ _ ⟨ck,cm,rfl,rfl,cD,db,dc⟩) rfl
end Pal
namespace Pal
open Go Go.Conc Go.Proofs
open Go.Proofs.Tryz
variable {J:Judge Tryz.prog}{E:LH}
def Tw:List Nat:= [0,1,2,2,3,3,3,3,4,4,4,4,4,4,4,4,5,5,5,5,5,5,5,5,5,5,5,5,5,5,5,5,6,6,6,6,6,6,6,6,6,6,6,6,6,6,6,6,6,6,6,6,6,6,6,6,6,6,6,6,6,6,6,6,7,7,7,7,7,7,7,7,7,7,7,7,7,7,7,7,7,7,7,7,7,7,7,7,7,7,7,7,7,7,7,7,7,7,7,7,7,7,7,7,7,7,7,7,7,7,7,7,7,7,7,7,7,7,7,7,7,7,7,7,7,7,7,7,8,8,8,8,8,8,8,8,8,8,8,8,8,8,8,8,8,8,8,8,8,8,8,8,8,8,8,8,8,8,8,8,8,8,8,8,8,8,8,8,8,8,8,8,8,8,8,8,8,8,8,8,8,8,8,8,8,8,8,8,8,8,8,8,8,8,8,8,8,8,8,8,8,8,8,8,8,8,8,8,8,8,8,8,8,8,8,8,8,8,8,8,8,8,8,8,8,8,8,8,8,8,8,8,8,8,8,8,8,8,8,8,8,8,8,8,8,8,8,8,8,8,8,8,8,8,8,8]
def f146(fu_:Nat)(p0:Nat):Option Int:= Option.bind (if(((4294967296):Nat):Int)<=(((p0):Nat):Int) then(some (p0>>>32,32)) else(some (p0,0))) λK=> Option.bind (if(((65536):Nat):Int)<=(((K.1):Nat):Int) then((Aw (K.2+16)).bind λY=> some (K.1>>>16,Y)) else(some K)) λO=> Option.bind (if(((256):Nat):Int)<=(((O.1):Nat):Int) then((Aw (O.2+8)).bind λZ=> some (O.1>>>8,Z)) else(some O)) λU=> (Qm Tw (((((U.1) % 256):Nat):Int))).bind λac=> (Aw (((ac):Nat):Int)).bind λag=> (Aw (U.2+ag)).bind λal=> some al
theorem Zv{p0:Nat}{fu_:Nat}{r:Int}(Y:f146 fu_ p0=some r):AN J 146 [.int .u64 ((p0:Nat):Int)] E [] (λw E' B'=>w=iV r/\B'= []):=by
 refine Bi func146 λQ b2 cs H Z aq=>?_;unfold f146 at Y;obtain⟨K,av,aw⟩:=bs Y;refine zg 10 rfl (DW [] [(0,.int .u64 ((K.1:Nat):Int)),(2,iV K.2)] (λb3 ay ac=>?_) (λag=>?_))
 ·obtain⟨O,az,a0⟩:=bs aw;refine zg 6 rfl (DW [] [(0,.int .u64 ((O.1:Nat):Int)),(2,iV O.2)] (λb4 a1 al=>?_) (λam=>?_))
  ·obtain⟨U,a2,a3⟩:=bs a0;refine zg 6 rfl (DW [] [(0,.int .u64 ((U.1:Nat):Int)),(2,iV U.2)] (λb5 a4 a5=>?_) (λap=>?_))
   ·refine zg 4 rfl (Al (v:= .int .u8 (((U.1) % 256:Nat):Int)) rfl (λρ h=>XT underlying72 underlying5 (h _ _ rfl)) ?_);obtain⟨a6,a7,a8⟩:=bs a3;refine Al (v:= .int .u8 ((a6:Nat):Int)) rfl (λρ h=>V2 (l:=Tw) (by decide+kernel) underlying9 (h _ _ rfl) (h _ _ rfl) a7) ?_;obtain⟨a9,bb,be⟩:=bs a8;refine Al (v:=iV a9) rfl (λρ h=>YD underlying5 underlying3 (h _ _ rfl) bb) ?_;obtain⟨b6,bi,bn⟩:=bs be;refine Bq bi rfl rfl rfl (zg 2 rfl ?_);obtain rfl:=oi bn;exact AY func146 rfl rfl (aq ((ay.Ad a1).Ad a4) rfl ⟨rfl,rfl⟩ a5)
   ·refine AQ a2 (λbo bv=>?_) (λbo bw=>?_)
    ·refine zg 3 rfl (Al (v:= .int .u64 ((O.1>>>8:Nat):Int)) rfl (λρ h=>Lc 8 (h _ _ rfl) (h _ _ rfl) (by decide)) ?_);obtain⟨b7,bx,bz⟩:=bs bv;refine zg 4 rfl (Bq bx rfl rfl rfl ?_);refine zg 2 rfl ?_;obtain rfl:=oi bz;exact ap Ax al rfl
    ·refine JL.skip ?_;obtain rfl:=oi bw;exact ap Ax al rfl
  ·refine AQ az (λbT bU=>?_) (λbT bV=>?_)
   ·refine zg 3 rfl (Al (v:= .int .u64 ((K.1>>>16:Nat):Int)) rfl (λρ h=>Lc 16 (h _ _ rfl) (h _ _ rfl) (by decide)) ?_);obtain⟨b8,bW,bY⟩:=bs bU;refine zg 4 rfl (Bq bW rfl rfl rfl ?_);refine zg 2 rfl ?_;obtain rfl:=oi bY;exact am Ax ac rfl
   ·refine JL.skip ?_;obtain rfl:=oi bV;exact am Ax ac rfl
 ·refine AQ av (λbZ b0=>?_) (λbZ b1=>?_)
  ·refine zg 3 rfl (Al (v:= .int .u64 ((p0>>>32:Nat):Int)) rfl (λρ h=>Lc 32 (h _ _ rfl) (h _ _ rfl) (by decide)) ?_);refine zg 5 rfl ?_;obtain rfl:=oi b0;exact ag Ax Z rfl
  ·refine JL.skip ?_;obtain rfl:=oi b1;exact ag Ax Z rfl
def f115(fu_:Nat)(p0:Nat):Option Int:= (f146 fu_ p0).bind λK=> some K
theorem NT{p0:Nat}{fu_:Nat}{r:Int}(K:f115 fu_ p0=some r):AN J 115 [.int .u64 ((p0:Nat):Int)] E [] (λw E' B'=>w=iV r/\B'= []):=by
 refine Bi func115 λQ al cs H O U=>?_;unfold f115 at K;obtain⟨am,Y,Z⟩:=bs K;refine zg 10 rfl (CK (Zv Y) rfl rfl (A6 func146 rfl) O λap ac ag=>?_);refine zg 2 rfl ?_;obtain rfl:=oi Z;exact AY func115 rfl rfl (U ac rfl ⟨rfl,rfl⟩ ag)
def Pp(fu_:Nat)(Y:Int)(K:Int×Ay):Option (Bo (Int×Ay) (Ay)):= Option.bind (if Y<K.1 then((ix K.2 K.1).bind λZ=> (Aw (K.1 - 1)).bind λac=> (ix K.2 ac).bind λag=> (f113 fu_ Z ag).bind λal=> some (decide (al<0))) else(some false)) λam=> if am=true then((Aw (K.1 - 1)).bind λO=> (Aw (K.1 - 1)).bind λap=> (ix K.2 ap).bind λU=> (ix K.2 K.1).bind λaq=> (ix (K.2.set (Int.toNat K.1) U) O).bind λaw=> (Aw (K.1 - 1)).bind λav=> some (.more (av,((K.2.set (Int.toNat K.1) U).set (Int.toNat O) aq)))) else(some (.done K.2))
def Nm(fu_:Nat)(O:Int)(p2:Int)(K:Int×Ay):Option (Bo (Int×Ay) (Ay)):= if K.1<p2 then(Option.bind (iter (Pp fu_ O) fu_ K) λU=> (Aw (K.1+1)).bind λY=> some (.more (Y,U))) else(some (.done K.2))
def f193(fu_:Nat)(p0:Ay)(K:Int)(p2:Int):Option (Ay):= (Aw (K+1)).bind λO=> Option.bind (iter (Nm fu_ K p2) fu_ (O,p0)) λU=> some U
theorem Z5{K:Nat}{U:Nat}{nw:Nat}{a5:Av_}{p0:Ay}{al:Int}{p2:Int}(hW:WL 27 AA E K U nw a5 p0){fu_:Nat}{r:Ay}(be:f193 fu_ p0 al p2=some r):AN J 193 [.slice (AS K) nw U,iV al,iV p2,(fV 113)] E [(K,.cells a5 27 (0,0))] (λw E' B'=>∃(bi:Av_),w= .tuple #[]/\B'= [(K,.cells bi 27 (0,0))]/\WL 27 AA E' K U nw bi r):=by
 refine Bi func193 λQ c8 cs H b3 b4=>?_;unfold f193 at be;obtain⟨c9,b5,b6⟩:=bs be;refine zg 3 rfl (Bq b5 rfl rfl rfl ?_);obtain⟨b7,b8,b9⟩:=bs b6;refine zg 2 rfl (Bw (λL s=>∃(a6:LH) (f17:Av_),Jn E H a6 [bX K f17 27] [] L s (WL 27 AA a6 K U nw f17 b7)) ?_ ?_)
 ·rintro _ _ ⟨a6,f17,rfl,rfl,ca,cb,cc⟩;obtain rfl:=oi b9;exact JL.fin (v:= .tuple #[]) rfl rfl (BE.list func193 rfl (vs:= []) trivial) (b4 ca rfl ⟨f17,rfl,(by first | rfl | simp | (simp [Value.cells])),cc⟩ cb)
 ·intro cd;refine JL.block (CY b8 (λL s ap=>∃(am:LH) (f25:Av_),Jn E H am [bX K f25 27] [(0,.slice (AS K) nw U),(1,iV al),(2,iV p2),(3,(fV 113)),(8,iV ap.1)] L s (WL 27 AA am K U nw f25 ap.2)) ⟨E,a5,rfl,rfl,Ax,b3,hW⟩ ?_);rintro _ _ ap ⟨am,f25,rfl,rfl,bn,bo,bv⟩ ce ⟨da,a7⟩ cf;have bw:=a7;unfold Nm at bw;refine zg 7 rfl (AQ bw (λcg ci=>?_) (λcg ck=>?_))
  ·obtain⟨bx,cm,cn⟩:=bs ci;refine zg 8 rfl (Bw (λL s=>∃(a1:LH) (f48:Av_),Jn am H a1 [bX K f48 27] [(0,.slice (AS K) nw U),(1,iV al),(2,iV p2),(3,(fV 113)),(8,iV ap.1)] L s (WL 27 AA a1 K U nw f48 bx)) ?_ ?_)
   ·rintro _ _ ⟨a1,f48,rfl,rfl,co,cp,cq⟩;obtain⟨cr,ct,cu⟩:=bs cn;refine zg 3 rfl (Bq ct rfl rfl rfl ?_);refine zg 2 rfl ?_;obtain rfl:=oi cu;exact AB (cf _ _ (cr,bx) ⟨a1,f48,rfl,rfl,(bn.Ad co),cp,cq⟩ a7) rfl
   ·intro cv;refine JL.block (CY cm (λL s ag=>∃(ay:LH) (f58:Av_),Jn am H ay [bX K f58 27] [(0,.slice (AS K) nw U),(1,iV al),(2,iV p2),(3,(fV 113)),(8,iV ap.1),(9,iV ag.1)] L s (WL 27 AA ay K U nw f58 ag.2)) ⟨am,f25,rfl,rfl,Ax,bo,bv⟩ ?_);rintro _ _ ag ⟨ay,f58,rfl,rfl,bz,az,O⟩ cw ⟨db,a8⟩ cy;have bT:=a8;unfold Pp at bT;refine zg 2 rfl (Fw 17 [K] ⟨⟨0,_,rfl⟩,trivial⟩ az λac=>?_);refine A7 ac rfl [0,1,2,3] rfl ?_;obtain⟨cz,bU,cA⟩:=bs bT;refine Gv 0 #[true,true,true,true,true,true,true,true,true,true,true,true,true,true,true,true,true] (λL s=>∃(a2:LH),Jm ay H a2 [bX K f58 27] [(0,.slice (AS K) nw U),(1,iV al),(2,iV p2),(3,(fV 113)),(8,iV ap.1),(9,iV ag.1),(34,.bool cz)] L s) ?_ ?_
    ·rintro _ _ ⟨a2,rfl,rfl,aq,a3⟩;refine AJ.fin (by decide+kernel) (CB cA (λcB cC=>?_) (λcB cD=>?_))
     ·refine zg 3 rfl (IM [15,17] [K] mixed rfl ?_);refine Bm 0 rfl rfl (Bm 1 rfl rfl ?_);refine Bm 2 rfl rfl (Bm 3 rfl rfl ?_);obtain⟨bV,cE,cF⟩:=bs cC;refine HT 4 true rfl rfl (λρ h s' bW=>Eg (h _ _ rfl) (h _ _ rfl) cE) (Bm 5 rfl rfl ?_);refine Bm 6 rfl rfl ?_;obtain⟨dc,cG,cH⟩:=bs cF;refine HT 7 true rfl rfl (λρ h s' bW=>Eg (h _ _ rfl) (h _ _ rfl) cG) ?_;obtain⟨Y,bY,cI⟩:=bs cH;obtain⟨_,⟨_,_,rfl,rfl,⟨_,_,rfl,rfl,rfl⟩⟩,cJ⟩:=WL.at (O.Ah aq) bY;refine JB.ix 8 O.2 bY underlying23 Bp ?_;refine T2 9 [iV Y.1,iV Y.2.1,iV Y.2.2] 0 a3 cJ Ed Bp ?_;refine Bm 10 rfl rfl (Bm 11 rfl rfl ?_);obtain⟨Z,a4,cK⟩:=bs cI;obtain⟨_,⟨_,_,rfl,rfl,⟨_,_,rfl,rfl,rfl⟩⟩,cM⟩:=WL.at (O.Ah aq) a4;refine JB.ix 12 O.2 a4 underlying23 Bp ?_;refine T2 13 [iV Z.1,iV Z.2.1,iV Z.2.2] 0 a3 cM Ed Bp ?_;refine JB.ix 14 O.2 a4 underlying23 Bp ?_;have a0:=WL.put (x':=Y) (ws':= [iV Y.1,iV Y.2.1,iV Y.2.2]) (O.Ah aq) O.2 a4 ⟨_,_,rfl,rfl,⟨_,_,rfl,rfl,rfl⟩⟩;refine Fh 15 0 a3 Bp a0.2 λcN=>?_;obtain⟨dd,a9,cO⟩:=bs cK;obtain⟨_,⟨_,_,rfl,rfl,⟨_,_,rfl,rfl,rfl⟩⟩,de⟩:=WL.at a0.1 a9;refine JB.ix 16 (a0.1).2 a9 underlying23 Bp ?_;have bZ:=WL.put (x':=Z) (ws':= [iV Z.1,iV Z.2.1,iV Z.2.2]) a0.1 (a0.1).2 a9 ⟨_,_,rfl,rfl,⟨_,_,rfl,rfl,rfl⟩⟩;refine Fh 17 0 cN Bp bZ.2 λcP=>?_;refine JB.fin (by decide+kernel) ?_;obtain⟨cQ,cR,cT⟩:=bs cO;refine zg 3 rfl (Cl cR rfl rfl rfl ?_);refine zg 2 rfl ?_;obtain rfl:=oi cT;exact AB (cy _ _ (cQ,((ag.2.set (Int.toNat ag.1) Y).set (Int.toNat bV) Z)) ⟨a2,(A9 (A9 f58 (Int.toNat (ag.1)*3) [iV Y.1,iV Y.2.1,iV Y.2.2]) (Int.toNat (bV)*3) [iV Z.1,iV Z.2.1,iV Z.2.2]),rfl,rfl,(bz.Ad aq),cP,bZ.1⟩ a8) rfl
     ·refine JL.exit rfl ?_;obtain rfl:=oi cD;obtain rfl:=cw _ a8;exact AB (cv _ _ ⟨a2,f58,rfl,rfl,(bz.Ad aq),a3,(O.Ah aq)⟩) rfl
    ·intro b0;refine Hd (q:=al<ag.1) (i:=21) rfl (λbb=>?_) (λbb=>?_)
     ·have cV:=ip bU bb;refine A7 ac rfl [4,5,6] rfl ?_;obtain⟨av,b1,cW⟩:=bs cV;obtain⟨_,⟨_,_,rfl,rfl,⟨_,_,rfl,rfl,rfl⟩⟩,cX⟩:=WL.at O b1;refine JG.ix 7 ac (O).2 b1 underlying23 Bp ?_;refine Ub 8 ac [iV av.1,iV av.2.1,iV av.2.2] 0 az cX Ed Bp ?_;refine A7 ac rfl [9,10] rfl ?_;obtain⟨df,cY,cZ⟩:=bs cW;refine AM 11 ac rfl rfl (λρ h s' bW=>Eg (h _ _ rfl) (h _ _ rfl) cY) ?_;obtain⟨aw,b2,c0⟩:=bs cZ;obtain⟨_,⟨_,_,rfl,rfl,⟨_,_,rfl,rfl,rfl⟩⟩,c1⟩:=WL.at O b2;refine JG.ix 12 ac (O).2 b2 underlying23 Bp ?_;refine Ub 13 ac [iV aw.1,iV aw.2.1,iV aw.2.2] 0 az c1 Ed Bp ?_;obtain⟨dg,c2,c3⟩:=bs c0;refine JH (i:=14) ⟨⟨0,_,rfl⟩,trivial⟩ (vs:= [.agg #[iV av.1,iV av.2.1,iV av.2.2],.agg #[iV aw.1,iV aw.2.1,iV aw.2.2]]) (TP c2) (by decide+kernel) rfl rfl rfl rfl (A6 func113 rfl) rfl az ?_;rintro _ c4 _ c5 ⟨rfl,rfl⟩ c6;refine A7 ac rfl [15,16] rfl ?_;obtain rfl:=oi c3;refine Ef ?_ (b0 _ _ ⟨c4,rfl,rfl,c5,c6⟩);exact⟨rfl,rfl,rfl,rfl,rfl,rfl,rfl,trivial⟩
     ·have c7:=im bU bb;refine A7 ac rfl [4,5,6,7,8,9,10,11,12,13,14,15,16] rfl ?_;obtain rfl:=oi c7;refine Ef ?_ (b0 _ _ ⟨ay,rfl,rfl,Ax,az⟩);exact⟨rfl,rfl,rfl,rfl,rfl,rfl,rfl,trivial⟩
  ·refine JL.exit rfl ?_;obtain rfl:=oi ck;obtain rfl:=ce _ a7;exact AB (cd _ _ ⟨am,f25,rfl,rfl,bn,bo,bv⟩) rfl
def Pn(fu_:Nat)(p0:Ay)(K:Int)(p2:Int)(p3:Int)(Y:Unit):Option (Bo Unit ((Ay)⊕(Unit))):= (Aw (p2 - K)).bind λO=> if O<=12 then((f193 fu_ p0 K p2).bind λU=> some (.done (Sum.inl U))) else(if p3=0 then(none) else(none))
def f169(fu_:Nat)(p0:Ay)(K:Int)(p2:Int)(p3:Int):Option (Ay):= Option.bind (iter (Pn fu_ p0 K p2 p3) fu_ ()) λO=> Sum.elim (λr=>some r) (λU=> none) O
theorem Zn{K:Nat}{O:Nat}{nw:Nat}{U:Av_}{p0:Ay}{Y:Int}{p2:Int}{p3:Int}(hW:WL 27 AA E K O nw U p0){fu_:Nat}{r:Ay}(Z:f169 fu_ p0 Y p2 p3=some r):AN J 169 [.slice (AS K) nw O,iV Y,iV p2,iV p3,(fV 113)] E [(K,.cells U 27 (0,0))] (λw E' B'=>∃(ac:Av_),w= .tuple #[]/\B'= [(K,.cells ac 27 (0,0))]/\WL 27 AA E' K O nw ac r):=by
 refine Bi func169 λQ bw cs H aq av=>?_;unfold f169 at Z;obtain⟨bx,aw,ay⟩:=bs Z;refine zg 8 rfl (Bw (λL s=>False) ?_ ?_)
 ·intro _ _ az;exact az.elim
 ·intro bz;refine JL.block (Dm aw (λag=> [bX K U 27]) (λag=> [(0,.slice (AS K) nw O),(1,iV Y),(2,iV p2),(3,iV p3),(4,(fV 113)),(10,.bool true),(11,.bool true)]) Ax aq ?_);rintro ag bT al a0 a1 ⟨bU,am⟩ bV;have ap:=am;unfold Pn at ap;obtain⟨bW,a2,a3⟩:=bs ap;refine zg 5 rfl (Cl a2 rfl rfl rfl ?_);refine zg 8 rfl (AQ a3 (λa4 a5=>?_) (λa4 a6=>?_))
  ·obtain⟨bY,a7,a8⟩:=bs a5;refine zg 6 rfl (Cu 0 (Z5 (hW.Ah al) a7) rfl rfl (A6 func193 rfl) a0 rfl ?_);rintro _ bZ _ a9 ⟨f32,rfl,rfl,bb⟩ be;refine JL.done ?_;obtain rfl:=oi a8;obtain rfl:=a1 _ am;have bi:=elim_inl ay;obtain rfl:=oi bi;exact AY func169 rfl rfl (av (al.Ad a9) rfl ⟨f32,rfl,(by first | rfl | simp | (simp [Value.cells])),bb⟩ be)
  ·refine zg 7 rfl (AQ a6 (λbn bo=>?_) (λbn bv=>?_))
   ·refine zg 6 rfl ?_;cases bo
   ·refine zg 5 rfl (Al (v:= .bool false) rfl (λρ h=>Yl.not (c:=true) (h _ _ rfl)) ?_);refine zg 9 rfl ?_;cases bv
def f130(fu_:Nat)(p0:Ay):Option (Ay):= (f115 fu_ (CR (p0.length:Int))).bind λK=> (f169 fu_ p0 0 (p0.length:Int) K).bind λO=> some O
theorem ZM{K:Nat}{O:Nat}{nw:Nat}{U:Av_}{p0:Ay}(hW:WL 27 AA E K O nw U p0){fu_:Nat}{r:Ay}(Y:f130 fu_ p0=some r):AN J 130 [.slice (AS K) nw O,(fV 113)] E [(K,.cells U 27 (0,0))] (λw E' B'=>∃(Z:Av_),w= .tuple #[]/\B'= [(K,.cells Z 27 (0,0))]/\WL 27 AA E' K O nw Z r):=by
 refine Bi func130 λQ a1 cs H ag al=>?_;unfold f130 at Y;refine zg 3 rfl (Al (v:=iV (p0.length:Int)) rfl (λρ h=>SZ (hW).2 rfl underlying80 (h _ _ rfl)) ?_);refine zg 6 rfl (Al (v:= .int .u64 ((CR (p0.length:Int):Nat):Int)) rfl (λρ h=>Yl.CR underlying3 underlying136 (h _ _ rfl)) ?_);obtain⟨a2,am,ap⟩:=bs Y;refine CK (NT am) rfl rfl ME ag λa3 ac aq=>?_;obtain⟨a4,av,aw⟩:=bs ap;refine zg 1 rfl (Cu 0 (Zn (hW.Ah ac) av) rfl rfl (A6 func169 rfl) aq rfl ?_);rintro _ a5 _ ay ⟨f12,rfl,rfl,az⟩ a0;refine JL.done ?_;obtain rfl:=oi aw;exact JL.fin (v:= .tuple #[]) rfl rfl (BE.list func130 rfl (vs:= []) trivial) (al (ac.Ad ay) rfl ⟨f12,rfl,(by first | rfl | simp | (simp [Value.cells])),az⟩ a0)
def R2(fu_:Nat)(O:Int)(K:Int)(Y:Unit):Option (Bo Unit Unit):= Option.bind (if O<K then(none) else(some false)) λU=> if U=true then((Aw (K - 1)).bind λZ=> (Aw (K - 1)).bind λac=> none) else(some (.done ()))
def R7(fu_:Nat)(O:Int)(p2:Int)(K:Int):Option (Bo Int Unit):= if K<p2 then(Option.bind (iter (R2 fu_ O K) fu_ ()) λY=> (Aw (K+1)).bind λU=> some (.more U)) else(some (.done ()))
def P6(fu_:Nat)(K:Int)(p2:Int):Option Unit:= (Aw (K+1)).bind λO=> Option.bind (iter (R7 fu_ K p2) fu_ O) λU=> some ()
theorem XB{U:Int}{p2:Int}{fu_:Nat}{r:Unit}(ac:P6 fu_ U p2=some r):AN J 193 [nS,iV U,iV p2,(fV 113)] E [] (λw E' B'=>w= .tuple #[]/\B'= []):=by
 refine Bi func193 λQ cf cs H a0 a1=>?_;unfold P6 at ac;obtain⟨cg,a2,a3⟩:=bs ac;refine zg 3 rfl (Bq a2 rfl rfl rfl ?_);obtain⟨ci,a4,a5⟩:=bs a3;refine zg 2 rfl (DW [] [] (λck a6 a7=>?_) (λa8=>?_))
 ·obtain rfl:=oi a5;exact JL.fin (v:= .tuple #[]) rfl rfl (BE.list func193 rfl (vs:= []) trivial) (a1 a6 rfl ⟨rfl,rfl⟩ a7)
 ·refine JL.block (Dm a4 (λK=> []) (λK=> [(0,.slice none 0 0),(1,iV U),(2,iV p2),(3,(fV 113)),(8,iV K)]) Ax a0 ?_);rintro K cm ag al a9 ⟨cn,Y⟩ bb;have am:=Y;unfold R7 at am;refine zg 7 rfl (AQ am (λbe bi=>?_) (λbe bn=>?_))
  ·obtain⟨co,bo,bv⟩:=bs bi;refine zg 8 rfl (DW [] [(0,.slice none 0 0),(1,iV U),(2,iV p2),(3,(fV 113)),(8,iV K)] (λcp bw bx=>?_) (λbz=>?_))
   ·obtain⟨bT,bU,bV⟩:=bs bv;refine zg 3 rfl (Bq bU rfl rfl rfl ?_);refine zg 2 rfl ?_;obtain rfl:=oi bV;exact bb bT (ag.Ad bw) bx rfl Y
   ·refine JL.block (Dm bo (λap=> []) (λap=> [(0,.slice none 0 0),(1,iV U),(2,iV p2),(3,(fV 113)),(8,iV K),(9,iV K)]) Ax al ?_);rintro ap aq bW bY bZ ⟨cq,av⟩ cr;have aw:=av;unfold R2 at aw;refine zg 2 rfl (Fg 17 λO=>?_);refine A7 O rfl [0,1,2,3] rfl ?_;obtain⟨b0,ay,b1⟩:=bs aw;refine Gv 0 #[true,true,true,true,true,true,true,true,true,true,true,true,true,true,true,true,true] (λL s=>∃(az:LH),Jm aq H az [] [(0,.slice none 0 0),(1,iV U),(2,iV p2),(3,(fV 113)),(8,iV K),(9,iV K),(34,.bool b0)] L s) ?_ ?_
    ·rintro _ _ ⟨az,rfl,rfl,b2,b3⟩;refine AJ.fin (by decide+kernel) (CB b1 (λb4 b5=>?_) (λb4 b6=>?_))
     ·refine zg 3 rfl (Fg 16 λO=>?_);refine A7 O rfl [0,1,2,3] rfl ?_;obtain⟨ct,b7,b8⟩:=bs b5;refine AM 4 O rfl rfl (λρ h s' b9=>Eg (h _ _ rfl) (h _ _ rfl) b7) (A7 O rfl [5,6] rfl ?_);obtain⟨cu,ca,cb⟩:=bs b8;refine AM 7 O rfl rfl (λρ h s' b9=>Eg (h _ _ rfl) (h _ _ rfl) ca) ?_;cases cb
     ·refine JL.exit rfl ?_;obtain rfl:=oi b6;obtain rfl:=bZ _ av;exact bz (bW.Ad b2) b3 rfl
    ·intro cc;refine Hd (q:=U<K) (i:=21) rfl (λZ=>?_) (λZ=>?_)
     ·have cd:=ip ay Z;refine A7 O rfl [4,5,6] rfl ?_;cases cd
     ·have ce:=im ay Z;refine A7 O rfl [4,5,6,7,8,9,10,11,12,13,14,15,16] rfl ?_;obtain rfl:=oi ce;refine Ef ?_ (cc _ _ ⟨aq,rfl,rfl,Ax,bY⟩);exact⟨rfl,rfl,rfl,rfl,rfl,rfl,rfl,trivial⟩
  ·refine JL.exit rfl ?_;obtain rfl:=oi bn;obtain rfl:=a9 _ Y;exact a8 ag al rfl
def RO(fu_:Nat)(K:Int)(p2:Int)(p3:Int)(U:Unit):Option (Bo Unit ((Unit)⊕(Unit))):= (Aw (p2 - K)).bind λO=> if O<=12 then((P6 fu_ K p2).bind λY=> some (.done (Sum.inl ()))) else(if p3=0 then(none) else(none))
def Qa(fu_:Nat)(K:Int)(p2:Int)(p3:Int):Option Unit:= Option.bind (iter (RO fu_ K p2 p3) fu_ ()) λO=> Sum.elim (λr=>some r) (λU=> none) O
theorem XI{K:Int}{p2:Int}{p3:Int}{fu_:Nat}{r:Unit}(O:Qa fu_ K p2 p3=some r):AN J 169 [nS,iV K,iV p2,iV p3,(fV 113)] E [] (λw E' B'=>w= .tuple #[]/\B'= []):=by
 refine Bi func169 λQ be cs H ac ag=>?_;unfold Qa at O;obtain⟨bi,al,am⟩:=bs O;refine zg 8 rfl (Bw (λL s=>False) ?_ ?_)
 ·intro _ _ ap;exact ap.elim
 ·intro bn;refine JL.block (Dm al (λU=> []) (λU=> [(0,.slice none 0 0),(1,iV K),(2,iV p2),(3,iV p3),(4,(fV 113)),(10,.bool true),(11,.bool true)]) Ax ac ?_);rintro U bo aq av aw ⟨bv,Y⟩ bw;have Z:=Y;unfold RO at Z;obtain⟨bx,ay,az⟩:=bs Z;refine zg 5 rfl (Cl ay rfl rfl rfl ?_);refine zg 8 rfl (AQ az (λa0 a1=>?_) (λa0 a2=>?_))
  ·obtain⟨bz,a3,a4⟩:=bs a1;refine zg 6 rfl (CK (XB a3) rfl rfl (A6 func193 rfl) av λbT a5 a6=>?_);refine JL.done ?_;obtain rfl:=oi a4;obtain rfl:=aw _ Y;have a7:=elim_inl am;obtain rfl:=oi a7;exact AY func169 rfl rfl (ag (aq.Ad a5) rfl ⟨rfl,rfl⟩ a6)
  ·refine zg 7 rfl (AQ a2 (λa8 a9=>?_) (λa8 bb=>?_))
   ·refine zg 6 rfl ?_;cases a9
   ·refine zg 5 rfl (Al (v:= .bool false) rfl (λρ h=>Yl.not (c:=true) (h _ _ rfl)) ?_);refine zg 9 rfl ?_;cases bb
def T7(fu_:Nat):Option Unit:= (f115 fu_ (CR ((0:Nat):Int))).bind λK=> (Qa fu_ 0 ((0:Nat):Int) K).bind λO=> some ()
theorem XG{fu_:Nat}{r:Unit}(K:T7 fu_=some r):AN J 130 [nS,(fV 113)] E [] (λw E' B'=>w= .tuple #[]/\B'= []):=by
 refine Bi func130 λQ av cs H O U=>?_;unfold T7 at K;refine zg 3 rfl (JL.ln underlying80 rfl rfl rfl ?_);refine zg 6 rfl (Al (v:= .int .u64 ((CR ((0:Nat):Int):Nat):Int)) rfl (λρ h=>Yl.CR underlying3 underlying136 (h _ _ rfl)) ?_);obtain⟨aw,Y,Z⟩:=bs K;refine CK (NT Y) rfl rfl ME O λay ac ag=>?_;obtain⟨az,al,am⟩:=bs Z;refine zg 1 rfl (CK (XI al) rfl rfl (A6 func169 rfl) ag λa0 ap aq=>?_);refine JL.done ?_;obtain rfl:=oi am;exact JL.fin (v:= .tuple #[]) rfl rfl (BE.list func130 rfl (vs:= []) trivial) (U (ac.Ad ap) rfl ⟨rfl,rfl⟩ aq)
theorem Ya{J:Judge Tryz.prog}{E:LH}{a:Ao}{c:Nat}{g:Seg}{p0:Ay}(Y:OL 27 AA E a c g p0){fu_:Nat}{r:Ay}(K:f130 fu_ p0=some r):
  AN J 130 [.slice a p0.length c,.func (.func 113) #[] #[]] E g (λw E' B'=>w= .tuple #[]/\OL 27 AA E' a c B' r/\r.length=p0.length):=by
 rcases Y.cases with⟨rfl,rfl,rfl,rfl⟩ | ⟨bk,f,rfl,rfl,hW⟩
 ·have Z:r= []:=by
   cases fu_ with
   | zero=>exact absurd K (by simp [f130,f169,f193,iter])
   | succ fu_=>
    cases fu_ with
    | zero=>exact(Option.some.inj (K.symm.trans (by rfl:f130 1 []=some []))).trans rfl
    | succ fu_=>exact(Option.some.inj (K.symm.trans (by rfl:f130 (fu_+2) []=some []))).trans rfl
  subst Z;refine(XG (fu_:=10) (r:=()) rfl).Ah ?_;rintro w E' B' hle ⟨O,rfl⟩;exact⟨O,OL.nil,rfl⟩
 ·refine(ZM hW K).Ah ?_;rintro w E' B' hle ⟨ac,O,rfl,U⟩;exact⟨O,U.1,U.2⟩
def f90(fu_:Nat)(p0:Ay):Option (Ay):= (f129 fu_ p0).bind λK=> (f130 fu_ K).bind λO=> some O
theorem an{a1:Ao}{c2:Nat}{p0:Ay}(al:Am AA E a1 c2 p0){fu_:Nat}{r:Ay}(Z:f90 fu_ p0=some r):AN J 90 [sV a1 p0 c2] E [] (λw E' B'=>∃(ac:Ao) (ag:Nat),w= sV ac r ag/\B'= []/\Am AA E' ac ag r):=by
 refine Bi func90 λQ a9 cs H am ap=>?_;unfold f90 at Z;obtain⟨bb,aq,av⟩:=bs Z;refine zg 7 rfl (B2 (ZL al aq) rfl rfl (A6 func129 rfl) am ?_);rintro _ be bi aw ⟨K,O,_,rfl,rfl,ay⟩ az;obtain⟨U,a0,a2⟩:=bs av;refine zg 5 rfl (Cu 1 (Ya ay a0) rfl rfl (A6 func130 rfl) az rfl ?_);rintro _ bn bo a3 ⟨rfl,a4,Y⟩ a5;refine Fs (L':= [(6,.tuple #[]),(0,.slice K U.length O),(2,.slice none 0 0),(3,.slice a1 p0.length c2),(4,.slice K U.length O),(5,.slice K U.length O)]) ⟨rfl,by rw [Y];rfl,rfl,rfl,by rw [Y];rfl,by rw [Y];rfl,trivial⟩ ?_;refine zg 6 rfl (Ce 1 a4 a5 rfl λbv a6 a7 a8=>?_);obtain rfl:=oi a2;exact AY func90 rfl rfl (ap ((aw.Ad a3).Ad a6) rfl ⟨K,O,rfl,rfl,a7⟩ a8)
end Pal
namespace Pal
open Go Go.Conc
section
variable {P:Program}{J:Judge P}{Q:Gs_}{b:Frame}{n:Nat}{ds:Ld_}{ops:Ao_}{k:Li_}{cs:Lf_}{m fuel:Nat}{listed:Array Bool}{L:Env}{s:St}{E H:LH}{S:List Seg}
variable {d:Option Tmp}{x y:Operand}{t ty e:TypeId}{p:String}{af:Ae_}{g:On_}{v:Value}{i:Nat}
theorem Take.y0{oi:Oper}(hi:ops[i]? =some oi)(K:(!Ej oi.op&&Bb n oi.dst)=true)(hw:AI L ops oi=some true)(O:∀ρ,EU L ρ->Yl P oi ρ s v)
  (h:AJ J Q b n ds ops k cs m C9 fuel (A2 listed i) (Au L oi.dst v) s):Take J Q b n ds ops k cs m C9 fuel listed L s i:=
 Take.Mv hi K hw λρ U=>by
  have:=O ρ U
  unfold Yl at this
  refine DO _ this ?_ (λ_ _ h=>h)
  rintro Y s' ⟨rfl,rfl⟩
  exact h
end
end Pal
namespace Pal
open Go Go.Conc
def GH{P:Program}(J:Judge P)(f:FuncId)(args:Lv_)(E:LH)(B:Seg)(p:Bool)(pv:Value)(R:Value->LH->Seg->Prop):Prop:=
 ∀(Q:Gs_) (bc:Frame) (Tc:Av_) (dsc:Ld_) (K:Li_) (cs:Lf_) (H:LH),Nd E H B->
  (p=false->∀v E' B',Le E E'->R v E' B'->Nd E' H B'->J.ok Q (G ((fr bc Tc dsc K).finish v) cs) (mk E' H B'))->
  (p=true->∀E' B',Le E E'->Nd E' H B'->J.ok Q (G (G0 bc Tc dsc K (raised pv)) cs) (mk E' H B'))->
  J.ok Q (G (Frame.enter P f args.toArray .normal) (fr bc Tc dsc K::cs)) (mk E H B)
section
variable {P:Program}{J:Judge P}{Q:Gs_}{b bc:Frame}{n:Nat}{L:Env}{ds dsc:Ld_}{k:Li_}{cs:Lf_}{E H:LH}{S:List Seg}{i:Nat}{rest:List Nat}{d:Option Tmp}{ty e t:TypeId}{pp:String}{af:Ae_}{g:On_}{ops:Ao_}{pv:Value}
theorem GH.enter{f:FuncId}{fn:Func}{c:Code}{vs:Lv_}{B:Seg}{R:Value->LH->Seg->Prop}{p:Bool}(ac:P.funcs[f]? =some fn)(hb:fn.body=some c)(ay:vs.length<=fn.ntmps)
  (h:∀(Q:Gs_) (bc:Frame) (Tc:Av_) (dsc:Ld_) (O:Li_) (cs:Lf_) (H:LH),Aq E H [B]->
   (p=false->∀v E' S' B',Le E E'->S'.flatten=B'->R v E' B'->Aq E' H S'->J.ok Q (G ((fr bc Tc dsc O).finish v) cs) (Aj E' H S'))->
   (p=true->∀E' S',Le E E'->Aq E' H S'->J.ok Q (G (G0 bc Tc dsc O (raised pv)) cs) (Aj E' H S'))->
   JL J Q (base f) fn.ntmps (Gh 0 vs) [] [.code c] (fr bc Tc dsc O::cs) (Aj E H [B])):GH J f vs E B p pv R:=λQ bc Tc dsc O cs H ag al K=>by
 have he:Frame.enter P f vs.toArray .normal=fr (base f) (vs.toArray++Array.replicate (fn.ntmps - vs.length) undef) [] [.code c]:=by
  simp [Frame.enter,fr,ac,hb,base];rfl
 have am:mk E H B=Aj E H [B]:=by unfold Aj;simp
 rw [he,am];refine h Q bc Tc dsc O cs H (by unfold Aq;simpa using ag) (λU v E' S' B' hle ap aq Y=>?_) (λU E' S' hle Y=>?_) _ ⟨by simp;omega,λt v av=>?_⟩
 ·subst ap;exact al U v E' S'.flatten hle aq Y
 ·exact K U E' S'.flatten hle Y
 ·obtain⟨_,K⟩:=JE av;have aw:t<vs.length:=by
   rcases Nat.lt_or_ge t vs.length with Z | Z
   ·exact Z
   ·simp at K;have:=(List.getElem?_eq_some_iff.1 K).1;omega
  rw [Array.getD_eq_getD_getElem?,Array.getElem?_append_left (by simpa using aw)];simp at K;simp [K]
theorem VV{x:Operand}{f:FuncId}{caps:Lv_}{args:Array Operand}{ats:Array TypeId}{s:St}{vs:Lv_}(hb:Dt P f=true)
  (U:ops[i]? =some ⟨d,.call ⟨.value x,args,ats⟩,ty,pp,af,g⟩) (hw:AI L ops ⟨d,.call ⟨.value x,args,ats⟩,ty,pp,af,g⟩=some true) (O:((b.kind != .early)&&Bb n d)=true)
  (Y:ev L x=some (.func (.func f) #[] caps.toArray)) (Z:evs L args.toList=some vs)
  (h:∀T,Has n L T->J.ok Q (G (Frame.enter P f (vs++caps).toArray .normal) (fr b T ds (.inRegion ops (i::rest)::k)::cs)) s):
  JL J Q b n L ds (.inRegion ops (i::rest)::k) cs s:=λT K=>by
 simp only [Bool.and_eq_true] at O
 have ac:args.map (Bx T)=vs.toArray:=by
  rw [← Gu K.Gf Z];apply Array.ext';simp
 refine Judge.oper U (B6 K hw) (by simpa using O.1) (.inr λc ag=>by cases ag) ?_;have hd:lp P (execOp (Bx T) ⟨d,.call ⟨.value x,args,ats⟩,ty,pp,af,g⟩) s (upon J Q b T ds ops i rest k cs d) (Lk J Q b T ds ops i rest k cs):=by
  have al:execOp (Bx T) ⟨d,.call ⟨.value x,args,ats⟩,ty,pp,af,g⟩=(do let d ← Deferred.ofValue (.func (.func f) #[] caps.toArray) vs.toArray;invoke d.target d.args):=by
   simp only [execOp,resolve,ac,K.Gf _ _ Y]
  rw [al];simp only [Deferred.ofValue,bind,Sem.bind,pure,invoke];have e: #[]++vs.toArray++caps.toArray=(vs++caps).toArray:=by simp
  rw [e];exact I5 hb (h T K)
 exact hd
theorem VZ{f:FuncId}{args:Array Operand}{ats:Array TypeId}{s:St}{vs:Lv_}(hb:Dt P f=true)
  (U:ops[i]? =some ⟨d,.call ⟨.value (.func f),args,ats⟩,ty,pp,af,g⟩) (hw:AI L ops ⟨d,.call ⟨.value (.func f),args,ats⟩,ty,pp,af,g⟩=some true) (O:((b.kind != .early)&&Bb n d)=true)
  (Y:evs L args.toList=some vs)
  (h:∀T,Has n L T->J.ok Q (G (Frame.enter P f vs.toArray .normal) (fr b T ds (.inRegion ops (i::rest)::k)::cs)) s):
  JL J Q b n L ds (.inRegion ops (i::rest)::k) cs s:=λT K=>by
 simp only [Bool.and_eq_true] at O
 have Z:args.map (Bx T)=vs.toArray:=by
  rw [← Gu K.Gf Y];apply Array.ext';simp
 refine Judge.oper U (B6 K hw) (by simpa using O.1) (.inr λc ac=>by cases ac) ?_;have hd:lp P (execOp (Bx T) ⟨d,.call ⟨.value (.func f),args,ats⟩,ty,pp,af,g⟩) s (upon J Q b T ds ops i rest k cs d) (Lk J Q b T ds ops i rest k cs):=by
  simp only [execOp,resolve,bind,Sem.bind,Deferred.ofValue,Bx,pure,invoke];have e: #[]++args.map (Bx T)++ #[]=vs.toArray:=by rw [Z];simp
  rw [e];exact I5 hb (h T K)
 exact hd
theorem XL{g:Frame}{s:St}(O:s.q=false)(h:(∃w,Fits s w)->J.ok Q (G g cs) s):J.ok Q (G g cs) s:=by
 by_cases K:∃w,Fits s w
 ·exact h K
 ·exact J.step ⟨rfl,λw f=>absurd ⟨w,f⟩ K,λe=>by subst e;cases O⟩
theorem GH.use{f:FuncId}{vs:Lv_}{B:Seg}{R:Value->LH->Seg->Prop}{p:Bool}{Tc:Av_}{Y:Li_}(j:Nat)(ap:GH J f vs E B p pv R)(ac:Aq E H S)(ag:S[j]? =some B)
  (Z:p=false->∀v E' B',Le E E'->R v E' B'->Aq E' H (S.set j B')->J.ok Q (G ((fr bc Tc dsc Y).finish v) cs) (Aj E' H (S.set j B')))
  (aq:p=true->∀E' B',Le E E'->Aq E' H (S.set j B')->J.ok Q (G (G0 bc Tc dsc Y (raised pv)) cs) (Aj E' H (S.set j B'))):
  J.ok Q (G (Frame.enter P f vs.toArray .normal) (fr bc Tc dsc Y::cs)) (Aj E H S):=by
 have K:S.flatten.Perm (B++(S.set j []).flatten):=(Ee (seg':=B) ag).1.trans List.perm_append_comm;have al:Nd E H (B++(S.set j []).flatten):=Nd.perm ac K;have av:Aj E H S=mk E (Ba (S.set j []).flatten H) B:=by
  rw [show Aj E H S=mk E H S.flatten from rfl,Fe ac K];unfold mk;rw [F0]
 have aw:Nd E H (S.set j []).flatten:=by
  have:=al;rw [Nd.iff] at this ⊢;rw [List.map_append,List.nodup_append] at this;exact⟨this.1.2.1,λq ay=>this.2 q (List.mem_append_right _ ay)⟩
 have back:∀(g:Frame) (E':LH) (B':Seg),Le E E'->Nd E' (Ba (S.set j []).flatten H) B'->(Aq E' H (S.set j B')->J.ok Q (G g cs) (Aj E' H (S.set j B')))->J.ok Q (G g cs) (mk E' (Ba (S.set j []).flatten H) B'):=λg E' B' hle U az=>by
  have e2:mk E' (Ba (S.set j []).flatten H) B'=mk E' H (B'++(S.set j []).flatten):=by unfold mk;rw [F0]
  refine XL rfl λ⟨w,a0⟩=>?_;have a1:Nd E' H (S.set j []).flatten:=aw.grow λx a2=>by
   have a3:=a0.d x a2;have Z:Ba B' (Ba (S.set j []).flatten H) x=none:=a3;exact(Ia Z).1
  have O:Nd E' H (B'++(S.set j []).flatten):=Nd.glue U a1;rw [e2];have am:(B'++(S.set j []).flatten).Perm (S.set j B').flatten:=List.perm_append_comm.trans (Ee ag).2.symm;rw [Fe O am];exact az (Nd.perm O am)
 rw [av];refine ap Q bc Tc dsc Y cs _ (Nd.front al) (λK v E' B' hle a4 U=>back _ E' B' hle U λO=>Z K v E' B' hle a4 O) (λK E' B' hle U=>back _ E' B' hle U λO=>aq K E' B' hle O)
theorem Ra{x:Operand}{f:FuncId}{caps:Lv_}{args:Array Operand}{ats:Array TypeId}{vs:Lv_}{seg:Seg}{R:Value->LH->Seg->Prop}{p:Bool}(j:Nat)(hb:Dt P f=true)
  (ac:GH J f (vs++caps) E seg p pv R) (Y:ops[i]? =some ⟨d,.call ⟨.value x,args,ats⟩,ty,pp,af,g⟩) (hw:AI L ops ⟨d,.call ⟨.value x,args,ats⟩,ty,pp,af,g⟩=some true) (K:((b.kind != .early)&&Bb n d)=true)
  (ag:ev L x=some (.func (.func f) #[] caps.toArray)) (al:evs L args.toList=some vs) (am:Aq E H S) (ap:S[j]? =some seg)
  (aq:p=true->∀E' seg',Le E E'->Aq E' H (S.set j seg')->JP J Q b n L ds cs (raised pv) (Aj E' H (S.set j seg')))
  (av:p=false->∀v E' seg',Le E E'->R v E' seg'->Aq E' H (S.set j seg')->JL J Q b n (Au L d v) ds (.inRegion ops rest::k) cs (Aj E' H (S.set j seg'))):
  JL J Q b n L ds (.inRegion ops (i::rest)::k) cs (Aj E H S):=
 VV hb Y hw K ag al λT Z=>GH.use j ac am ap
  (λO v E' B' hle aw U=>by
   rw [Gt (o:=⟨d,.call ⟨.value x,args,ats⟩,ty,pp,af,g⟩) _ _ _ _ _ Y]
   simp only [Bool.and_eq_true] at K
   exact av O v E' B' hle aw U _ (Z.put K.2 v))
  (λO E' B' hle U=>aq O E' B' hle U T Z _)
theorem Wm{f:FuncId}{args:Array Operand}{ats:Array TypeId}{vs:Lv_}{seg:Seg}{R:Value->LH->Seg->Prop}{p:Bool}(j:Nat)(hb:Dt P f=true)
  (ac:GH J f vs E seg p pv R) (Y:ops[i]? =some ⟨d,.call ⟨.value (.func f),args,ats⟩,ty,pp,af,g⟩) (hw:AI L ops ⟨d,.call ⟨.value (.func f),args,ats⟩,ty,pp,af,g⟩=some true) (K:((b.kind != .early)&&Bb n d)=true)
  (ag:evs L args.toList=some vs) (al:Aq E H S) (am:S[j]? =some seg)
  (ap:p=true->∀E' seg',Le E E'->Aq E' H (S.set j seg')->JP J Q b n L ds cs (raised pv) (Aj E' H (S.set j seg')))
  (aq:p=false->∀v E' seg',Le E E'->R v E' seg'->Aq E' H (S.set j seg')->JL J Q b n (Au L d v) ds (.inRegion ops rest::k) cs (Aj E' H (S.set j seg'))):
  JL J Q b n L ds (.inRegion ops (i::rest)::k) cs (Aj E H S):=
 VZ hb Y hw K ag λT Z=>GH.use j ac al am
  (λO v E' B' hle av U=>by
   rw [Gt (o:=⟨d,.call ⟨.value (.func f),args,ats⟩,ty,pp,af,g⟩) _ _ _ _ _ Y]
   simp only [Bool.and_eq_true] at K
   exact aq O v E' B' hle av U _ (Z.put K.2 v))
  (λO E' B' hle U=>ap O E' B' hle U T Z _)
theorem WO{ρ:Operand->Value}{x y z1:Operand}{s:St}{p:String}{a:Option Addr}{l c K m:Nat}{hi:Int}(O:∀ad,a=some ad->ad.spot=none∨c=0)(U:m<=c)(he:hi=(m:Int))(Y:P.underlying t=some (.slice e))(Z:Bh P e=some K)(ac:ρ x= .slice a l c)(ag:ρ y=iV hi)(al:ρ z1=iV hi):
  Yl P ⟨d,.slice t x none (some y) (some z1),ty,p,af,g⟩ ρ s (.slice a m m):=by
 subst he;have h:=Yl.slice (P:=P) (s:=s) (d:=d) (ty:=ty) (p:=p) (af:=af) (g:=g) (olo:=none) (ohi:=some y) (omx:=some z1) (lo:=0) (hi:=m) (mx:=m) Y Z ac al ag rfl U (Nat.le_refl _) (Nat.zero_le _);have am:(if m=0 then a else a.map (·.add (0*K)))=a:=by
  split
  ·rfl
  ·cases a with
   | none=>rfl
   | some ad=>
    have:=(O ad rfl).resolve_right (by omega);simp only [Option.map_some,Nat.zero_mul];rw [Dz this];obtain⟨b,o,sp⟩:=ad;simp only at this;subst this;simp
 rw [am] at h;simpa using h
theorem Am.ab{α:Type}{q:Rp α}{a:Option Addr}{c:Nat}{xs ys:List α}{hi:Int}(U:Am q E a c xs)(hC:Hp xs 0 hi=some ys):Am q E a c ys/\ys.length<=c/\hi=(ys.length:Int):=by
 unfold Hp at hC;split at hC
 rotate_left
 ·cases hC
 rename_i hb;obtain⟨Z,ac,ag⟩:=hb;cases hC;have al:=U.1;have hlen:(((xs.take hi.toNat).drop (0:Int).toNat)).length=hi.toNat:=by simp;omega
 refine⟨⟨by rw [hlen];omega,?_⟩,by rw [hlen];omega,by rw [hlen];omega⟩;rcases U.2 with⟨h,O⟩ | ⟨bk,off,Y,O⟩
 ·exact .inl ⟨by rw [h];simp,O⟩
 ·refine .inr ⟨bk,off,Y,λi x K=>O i x ?_⟩;simp only [Int.toNat_zero,List.drop_zero] at K;rw [List.getElem?_take] at K;split at K
  ·exact K
  ·cases K
theorem Take.RD{m fuel:Nat}{listed:Array Bool}{x y:Operand}{p:String}{α:Type}{q:Rp α}{t1:TypeId}{Y c cx:Nat}{a ax:Option Addr}{xs ys Z:List α}{ats:Array TypeId}{z:Value}(U:Ek xs ys=some Z)
  (aw:ops[i]? =some ⟨d,.call ⟨.builtin .append,#[x,y],ats⟩,ty,p,af,g⟩) (hw:AI L ops ⟨d,.call ⟨.builtin .append,#[x,y],ats⟩,ty,p,af,g⟩=some true) (ay:Bb n d=true)
  (az:ev L x=some (.slice a xs.length xs.length)) (a0:ev L y=some (.slice ax ys.length cx)) (a1:ats[0]? =some t) (a2:ats[1]? =some t1) (a3:P.underlying t=some (.slice e)) (a4:P.underlying t1=some (.slice e)) (a5:Bh P e=some q.n) (hb:FP P e=some Y) (a6:zeroOf P e=some z) (a7:z.cells.size=q.n)
  (a8:0<Y) (a9:Y<=64) (ac:Am q E a c xs) (bb:Am q E ax cx ys) (ag:Aq E H S)
  (h:∀E' al K,Le E E'->Am q E' al K Z->Aq E' H (S++ [[]])->AJ J Q b n ds ops k cs m C9 fuel (A2 listed i) (Au L d (.slice al Z.length K)) (Aj E' H (S++ [[]]))):
  Take J Q b n ds ops k cs m C9 fuel listed L (Aj E H S) i:=by
 unfold Ek at U;split at U
 rotate_left
 ·cases U
 rename_i be;cases U;obtain⟨wss,am,bi,bn,b4⟩:=Am.L6 (H:=H) (B:=S.flatten) ac.full;obtain⟨bo,bv,bw,bx,bz⟩:=Am.L6 (H:=H) (B:=S.flatten) bb;have hlen:(xs++ys).length=xs.length+ys.length:=by simp
 show Take J Q b n ds ops k cs m C9 fuel listed L (mk E H S.flatten) i;refine Take.Mv aw (by simp [Ej,ay]) hw λρ ap=>?_;rw [LM,ap x _ az,ap y _ a0];refine As _ _ (Qx a1 a2 a4 a3 a5 hb a6 a7 ag bn bx bz a8 be a9 ?_ ?_)
 ·intro hm;have bT:ys= []:=List.eq_nil_of_length_eq_zero hm;subst bT;have bU:Aq E H (S++ [[]]):=by unfold Aq at*;rw [He,List.append_nil];exact ag
  have bV:mk E H S.flatten=Aj E H (S++ [[]]):=by unfold Aj;rw [He,List.append_nil]
  rw [bV];have:=h E a xs.length (Le.refl _) (by rw [List.append_nil];exact ac.full) bU;rw [hlen] at this;exact this
 ·intro r O K bW bY bZ b0;have b1:OL e q E (some ⟨r,0,none⟩) K [(r,.cells O e (0,0))] (xs++ys):=
   ⟨wss++bo,.inr ⟨r,O,rfl,rfl,bY,by rw [hlen];exact bW,by rw [hlen,List.flatten_append];exact bZ.symm⟩,by simp [am,bv],MS am bi bw⟩
  have aq:=FK (S:=S) (seg:= [(r,.cells O e (0,0))]) b0;show AJ J Q b n ds ops k cs m C9 fuel _ _ (mk E H (S.flatten++ [(r,.cells O e (0,0))]));rw [aq.1];refine Gb S.length b1 aq.2 (by simp) λE' hle b2 av=>?_;have b3:(S++ [[(r,Obj.cells O e (0,0))]]).set S.length []=S++ [[]]:=Jf _ _ _ _;rw [b3] at av ⊢;have:=h E' (some ⟨r,0,none⟩) K hle b2 av;rw [hlen] at this;exact this
theorem UL{ρ:Operand->Value}{x:Operand}{s:St}{p:String}{v:Value}{xt t1:TypeId}{f1:Array Field}(K:P.underlying t1=some (.struct f1))(O:ρ x= .iface t1 v):Yl P ⟨d,.typeAssert x xt t1 true,ty,p,af,g⟩ ρ s (.tuple #[v,.bool true]):=by
 refine Fq (sm:=Instr.typeAssert (ρ x) xt t1 true) rfl ?_;rw [O];unfold Instr.typeAssert;refine As _ _ (Cd K ?_);simp [lp,pure]
theorem UK{ρ:Operand->Value}{x:Operand}{s:St}{p:String}{z:Value}{xt t1:TypeId}{f1:Array Field}(K:P.underlying t1=some (.struct f1))(O:zeroOf P t1=some z)(U:ρ x= .nilIface):Yl P ⟨d,.typeAssert x xt t1 true,ty,p,af,g⟩ ρ s (.tuple #[z,.bool false]):=by
 refine Fq (sm:=Instr.typeAssert (ρ x) xt t1 true) rfl ?_;rw [U];unfold Instr.typeAssert;refine As _ _ (Cd K ?_);exact As (x:=zeroValue t1) _ (HD O ⟨rfl,rfl⟩)
end
end Pal
