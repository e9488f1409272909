/- DebtAll: Fewest: a part (3 of 9) of the proof of its row. -/
import Derived.Test.YtmeophcclkejkaaGreatAaa
import Derived.Test.YtmeophcclkejkaaGreatAab
import Derived.Test.YtmeophcclkejkaaGreatRows
import Derived.Test.YtmeophcclkejkaaGreatChecked
import Derived.Conc.LeavingOf
import Derived.Conc.HoldsTime
import Derived.Carry
import Derived.ChangeSame
import Derived.ChangeVars
import Derived.ChangeSlices
import Derived.JoinedOf
import Derived.RowKit
import Derived.Deep.Strs
import Derived.Stop.Joined
import Derived.Test.YtmeophcclkejkaaGreatProg
set_option linter.all false
set_option maxRecDepth 100000
namespace Pal
open Go Go.Conc
open Go.ConcN (sumTo upd sumTo_upd upd_ne upd_same)
def Mh(P:Program)(R:Value->St->Prop):GP:=λg s=>
 g.status= .running/\∃v,R v s/\∀w,stepG P true g w= .ended (.done v) w #[]
variable {P:Program}{R:Value->St->Prop}{J:Judge P}{n:Nat}{L:Env}{s:St}{b:Frame}
theorem JO.end{fn:Func}{t:Tmp}{v:Value}(K:b.kind= .normal)(hi:P.inits.idxOf? b.fn=none)(O:P.funcs[b.fn]? =some fn)(U:fn.results= #[.tmp t])(Y:look L t=some v)(Z:R v s):JO J (Mh P R) b n L [] [] s:=λT ac todo=>by
 refine J.stop ⟨rfl,v,Z,λw=>?_⟩
 have e:results fn T=Sem.pure v:=by
  have:=ac.at_ t v Y;simp only [results,U,Array.mapM_eq_mapM_toList];show Sem.pure (T.getD t undef)=_;rw [this]
 have ag:(results fn T).run P w= .ok v w:=by rw [e];rfl
 have e2:(results fn T).events P w #[]= #[]:=by rw [e];simp [Sem.events_pure']
 simp [G,stepG,unwind,Eu,O,ag,e2,doReturn,K,GStep.after,hi,seen_none]
def After(P:Program)(R:Value->St->Prop)(K:World)(s₀:St)(v:Value)(w':World):Prop:=
 ∃s,R v s/\Fits s w'/\(∀b o,s₀.E b=some o->s.E b=some o)/\w'.tape=K.tape/\Gw K.os w'.os/\w'.output=K.output
def Q5(P:Program)(R:Value->St->Prop)(K:World)(s₀:St)(O:Nat)(m:Machine)(t:Trace):Prop:=
 ∃gs w sl q Sh g s,m=crowd gs w sl/\HB P gs w t q Sh g s/\Mh P R g s/\O=sumTo gs.size q/\(∀b o,s₀.E b=some o->s.E b=some o)/\w.tape=K.tape/\Gw K.os w.os/\w.output=K.output
theorem XH{ap:World}{s₀:St}(ay:Nat)(m:Machine)(t:Trace)(h:Q5 P R ap s₀ ay m t):
  (∃o w ops,stepT P m=(.ended o w,ops)/\Good P (After P R ap s₀) m o w (t++ops))∨(∃m' ops az,stepT P m=(.next m',ops)/\az<ay/\Q5 P R ap s₀ az m' (t++ops)):=by
 obtain⟨gs,w,sl,q,Sh,g,s,rfl,hC,bi,rfl,a0,a1,a2,a3⟩:=h;obtain⟨ac,v,a4,a5⟩:=bi;have bn:∀x∈gs,awake x:=by
  intro x Y;obtain⟨i,hi,rfl⟩:=Array.mem_iff_getElem.1 Y;rcases Nat.eq_zero_or_pos i with rfl | aq
  ·have:gs[0]=g:=by simpa [Array.getElem?_eq_getElem hi] using hC.main
   rw [this];exact awake_of (.inl ac)
  ·exact awake_of ((hC.lv.old i _ aq (Array.getElem?_eq_getElem hi)).status.elim .inl λx=> .inr (.inr x))
 obtain⟨i,x,d,a6,hi,Y,a7⟩:=crowd_pick (P:=P) (w:=w) (sl:=sl) bn ⟨0,g,hC.main,ac⟩;have a8:=hC.at_ d;have bo:0<gs.size:=(Array.getElem?_eq_some_iff.1 hC.main).1;have bv:∀(a:Nat) (fn:FuncId) (pos:String),MemOp.ofEvents a fn pos #[]= #[]:=λa fn pos=>by rw [ofEvents_eq];simp
 rcases Nat.eq_zero_or_pos i with rfl | aq
 ·obtain rfl:x=g:=by rw [hC.main] at hi;exact(Option.some.inj hi).symm
  have ag:=runT_many_ended (P:=P) (sl:=a6) (i:=0) hi (show stepG P (0==0) x (w.at d)=_ from a5 (w.at d));rw [bv] at ag;refine .inl ⟨_,_,_,a7.trans ag,v,V,⟨s,a4,a8.Ca.fits 0 bo,a0,a1,a2,a3⟩,?_,?_,⟨λy K=>?_,V⟩,λj y K O=>?_⟩
  ·simpa using hC.Ca.clean
  ·simpa using hC.over
  ·obtain⟨j,O⟩:=List.mem_iff_getElem?.1 K;rw [List.getElem?_drop] at O;exact⟨_,(hC.lv.old (1+j) y (by omega) (by simpa [crowd] using O)).leaves⟩
  ·have Z:=hC.lv.old j y (by omega) K;exact⟨q j,by simp only [Array.append_empty];exact Z.hears w⟩
 ·have Z:=hC.lv.old i x aq hi;have bw:(i==0)=false:=by simp;omega
  have a9:i<gs.size:=(Array.getElem?_eq_some_iff.1 hi).1;cases av:q i with
  | zero=>rw [av] at Z;rw [Z.1] at Y;cases Y
  | succ k=>
   rw [av] at Z;rcases Z with⟨bx,_⟩ | ⟨_,x',es,hm,bz,b0⟩
   ·rw [bx] at Y;cases Y
   have b4:sumTo gs.size (upd q i k)+(k+1)=sumTo gs.size q+k:=by
    have:=sumTo_upd q k id a9;simpa [av] using this
   have ag:=runT_crowd_go (P:=P) (sl:=a6) (i:=i) hi (by rw [bw];exact bz (w.at d));have aw:((gs.map (woken P x x' (w.at d))).setIfInBounds i x').size=gs.size:=by simp
   have al:∀op∈MemOp.ofEvents i x.frame.fn x.frame.place es,op.g=i:=λop U=>by obtain⟨e,_,rfl⟩:=mem_ofEvents U;rfl
   have bb:∀op∈MemOp.ofEvents i x.frame.fn x.frame.place es,op.act.touch? =none:=λop U=>by obtain⟨e,he,rfl⟩:=mem_ofEvents U;exact touch_mute (hm e he)
   have b1:HB P ((gs.map (woken P x x' (w.at d))).setIfInBounds i x') (w.at d) (t++MemOp.ofEvents i x.frame.fn x.frame.place es) (upd q i k) Sh g s:=by
    refine⟨?_,⟨λj y O K=>?_,λj O=>?_⟩,?_,?_,?_⟩
    ·have b2:i≠0:=by omega
     rw [Array.getElem?_setIfInBounds_ne b2,Array.getElem?_map,hC.main];simp [woken_run ac]
    ·by_cases am:i=j
     ·subst am;rw [Array.getElem?_setIfInBounds_self_of_lt (by simpa using a9)] at K;obtain rfl:=Option.some.inj K;rw [upd_same,Deaf_own];exact b0
     ·rw [Array.getElem?_setIfInBounds_ne am,Array.getElem?_map] at K;obtain⟨z,b3,rfl⟩:=Option.map_eq_some_iff.1 K;have be:=hC.lv.old j z O b3;rw [woken_quitsD be,upd_ne q k (Ne.symm am),Deaf_other t am _ al];exact be
    ·rw [Deaf_other t (g':=i) (by simp at O;omega) _ al];exact hC.lv.above j (by simpa using O)
    ·rw [aw];exact a8.Ca.mute al bb (λop U=>by obtain⟨e,he,rfl⟩:=mem_ofEvents U;exact low_mute (hm e he) _) V
    ·exact handedOver_app hC.over λop U=> .inr (bb op U)
    ·rw [Deaf_other t (by omega) _ al];exact hC.hears
   exact .inr ⟨_,_,_,a7.trans ag,by rw [← aw];rw [aw];omega,_,_,_,_,_,_,_,V,b1,⟨ac,v,a4,a5⟩,V,a0,a1,a2,a3⟩
theorem ends{gs:Array Goroutine}{w:World}{sl:Option (Nat×Nat)}{t:Trace}{q:Nat->Nat}{Sh:Nat->Prop}{g:Goroutine}{s:St}(hC:HB P gs w t q Sh g s)(O:Mh P R g s):
  ∃N last o w' K,runNT P (N+1) (crowd gs w sl) t=(.ended o w',K)/\runN P N (crowd gs w sl)= .next last/\step P last= .ended o w'/\Good P (After P R w s) last o w' K:=
 run_of_inv Nat.lt_wfRel.wf (Q5 P R w s) (Good P (After P R w s)) XH _ _ _ ⟨gs,w,sl,q,Sh,g,s,V,hC,O,V,λ_ _ h=>h,V,.refl _,V⟩
theorem Wi{m m':Machine}{t K:Trace}{n:Nat}(h:runNT P n m t=(.next m',K)):runN P n m= .next m':=by rw [← runNT_fst P n m t,h]
def Ha(W:World):St:=⟨λb=>W.heap[b]?,λ_=>none,false⟩
theorem Yh{W:World}{g:Goroutine}(h:(G0 P).ok (Mh P R) g (Ha W)):
  ∃M last o w' K,runNT P (M+1) (solo g W) #[]=(.ended o w',K)/\runN P M (solo g W)= .next last/\step P last= .ended o w'/\Good P (After P R W (Ha W)) last o w' K:=by
 have hC:HB P #[g] W #[] (λ_=>0) (λ_=>False) g (Ha W):=by
  have Y:∀{i:Nat} {a:Touch},touchAt #[] i=some a->False:=λ{i a} h=>by simp [touchAt,Trace.act?] at h
  refine⟨V,leavers_one P g,⟨λi hi=>?_,λi j hi ac bi=>by simp at hi ac;omega,λi hi b hb=>hb.elim,λb hb=>hb.elim,λsaid=>?_,by simp,λi _ b _ x a O=>(Y O).elim,λi _ b _ x a O=>(Y O).elim⟩,λi g ag=>by simp [Trace.g?] at ag,V⟩
  ·have:i=0:=by simp at hi;exact hi
   subst this;exact⟨λb o U=>U,λb o U=>(by cases U),λb _=>V⟩
  ·rintro⟨i,j,_,⟨a,b,al,_⟩,_⟩;simp [Trace.act?] at al
 obtain⟨n,gs',w',am,K,q',bn,g',s',Z,ap,aq,av,aw,ay,az⟩:=h #[g] W none #[] _ _ hC;obtain⟨N,last,o,a0,a2,k1,a3,a4,a5⟩:=ends (sl:=am) ap aq;refine⟨n+N,last,o,a0,a2,?_,?_,a4,?_⟩
 ·rw [solo_eq_crowd,Nat.add_assoc,runNT_add,Z];exact k1
 ·have a6:=Wi Z;rw [solo_eq_crowd,runN_add,a6];exact a3
 ·obtain⟨v,e,⟨s2,a1,a7,a8,a9,bb,be⟩,r⟩:=a5;exact⟨v,e,⟨s2,a1,a7,λb o hb=>a8 b o (av b o hb),a9.trans aw,ay.trans bb,be.trans az⟩,r⟩
end Pal
namespace Pal
open Go Go.Conc
theorem Xx{P:Program}{Q:Gs_}{E H:LH}{f:FuncId}{fn:Func}{c:Code}{vs:Lv_}(U:P.funcs[f]? =some fn)(hb:fn.body=some c)(ag:fn.ntmps=fn.ntmps)(al:vs.length<=fn.ntmps)
  (h:JL (G0 P) Q (base f) fn.ntmps (Gr 0 vs) [] [.code c] [] (Aj E H [[]])):(G0 P).ok Q (G (Frame.enter P f vs.toArray .normal) []) (mk E H []):=by
 have he:Frame.enter P f vs.toArray .normal=fr (base f) (vs.toArray++Array.replicate (fn.ntmps - vs.length) undef) [] [.code c]:=by
  simp [Frame.enter,fr,U,hb,base];rfl
 rw [he];have Y:mk E H []=Aj E H [[]]:=by unfold Aj;simp
 rw [Y];refine h _ ⟨by simp;omega,λt v Z=>?_⟩;obtain⟨_,K⟩:=JM Z;have ac:t<vs.length:=by
  rcases Nat.lt_or_ge t vs.length with O | O
  ·exact O
  ·simp at K;have:=(List.getElem?_eq_some_iff.1 K).1;omega
 rw [Array.getD_eq_getD_getElem?,Array.getElem?_append_left (by simpa using ac)];simp at K;simp [K]
open Go.ChangeAt Go.ChangeShapes Go.Proofs Go.Proofs.YtmeophcclkejkaaGreat Go.RowKit Go.WideShapes
theorem Tryz.own:ownKnob Tryz.prog.godebug=none:=by kernel_rfl
theorem Tryz.laidOut:laidOutB Tryz.prog=true:=by kernel_rfl
theorem Tryz.bq:Tryz.prog.cellsOf 3=1:=by kernel_rfl
theorem V0{R:Value->St->Prop}{W w':World}{v:Value}(h:After Tryz.prog R W (Ha W) v w'):(∃s,R v s)/\Below W.heap.size W {w' with os:=W.os}/\Go.ConcM.OsLater W.os w'.os:=by
 obtain⟨s,Y,Z,ac,ag,al,am⟩:=h;have hb:∀k,k<W.heap.size->w'.heap[k]? =W.heap[k]? :=λk O=>by
  have K:(Ha W).E k=some W.heap[k]:=Array.getElem?_eq_getElem O;have U:=Z.e k _ (ac k _ K);rw [U,Array.getElem?_eq_getElem O]
 refine⟨⟨s,Y⟩,⟨V,ag,am,?_,hb⟩,al⟩;show W.heap.size<=w'.heap.size;rcases Nat.eq_zero_or_pos W.heap.size with ap | ap
 ·omega
 ·have K:=hb (W.heap.size - 1) (by omega);have aq:W.heap[W.heap.size - 1]? =some W.heap[W.heap.size - 1]:=Array.getElem?_eq_getElem (by omega);rw [aq] at K;have U:=(Array.getElem?_eq_some_iff.1 K).1;omega
theorem Sb(a:Addr):a.add 0=a:=by unfold Addr.add;rw [if_pos rfl]
variable {H:Type}{enc:TypeId×Value->H}{W:World}{cs:Lv_}
section
variable {fuel:Nat}{x:DataW H×List MemPlace}
theorem YH{b off:Nat}{v:Value}(h:W.cell? ⟨b,off,none⟩=some v):At (Ha W).E b off [v]:=by
 unfold World.cell? at h;split at h
 ·rename_i c e f hW;simp only [Option.isSome_none,Bool.false_eq_true,if_false] at h;refine⟨c,e,f,hW,λj w K=>?_⟩
  match j,K with
  | 0,K=>simp at K;subst K;simpa using h
  | j+1,K=>simp at K
 ·cases h
theorem W2{b off:Nat}(O:0<cs.length)(h:∀j,j<cs.length->W.cell? ⟨b,off+j,none⟩=cs[j]?):At (Ha W).E b off cs:=by
 have U:=h 0 O;rw [List.getElem?_eq_getElem O] at U;obtain⟨f,e,fr,Y,_⟩:=YH U;have hW:W.heap[b]? =some (.cells f e fr):=Y;refine⟨f,e,fr,Y,λj w Z=>?_⟩;have ac:=(List.getElem?_eq_some_iff.1 Z).1;have K:=h j ac;rw [Z] at K;unfold World.cell? at K;simp only [hW] at K;simpa using K
theorem bT{α:Type}{p:Rp α}{t e:TypeId}(a1:Tryz.prog.underlying t=some (.slice e))(hc:Tryz.prog.cellsOf e=p.n)(a2:0<p.n)
  (a3:∀n cs x,DataW.trod enc Tryz.prog W 0 (λ_=>true) true n e cs=some x->∃v,p.r (Ha W).E cs v)
  (a4:DataW.trod enc Tryz.prog W 0 (λ_=>true) true fuel t cs=some x):∃(a:Option Addr) (c:Nat) (aq:List α),cs= [.slice a aq.length c]/\An p (Ha W).E a c aq:=by
 rcases DataW.trod_slice a1 a4 with⟨ac,a5⟩ | ⟨a,len,cap,elems,rest,n,_,ac,a5,_,a6,_,hlen,av,aw,_⟩
 ·exact⟨none,0,[],ac,An.nil⟩
 ·rw [hc] at av aw;rcases Nat.eq_zero_or_pos cap with ay | ay
  ·have:len=0:=by omega
   subst this;subst ay;exact⟨some a,0,[],ac,Nat.le_refl _,.inl ⟨V,λ_ _=> .inr V⟩⟩
  ·have az:∀i,i<len->∃vs y,vs.length=p.n/\(∀j,j<p.n->W.cell? ((a.add (i*p.n)).add j)=vs[j]?)/\DataW.trod enc Tryz.prog W 0 (λ_=>true) true n e vs=some y:=λi hi=>by
    have K:=av i hi;rw [List.getElem?_eq_getElem (by omega)] at K;obtain⟨vs,al,Y⟩:=Option.bind_eq_some_iff.1 K;obtain⟨_,O,am⟩:=World.cells?_some al;exact⟨vs,_,O,am,Y⟩
   have ap:a.spot=none:=by
    have key:∀vs:Lv_,vs.length=p.n->(∀j,j<p.n->W.cell? ((a.add (0*p.n)).add j)=vs[j]?)->a.spot=none:=λvs ag U=>by
     have:=U 0 a2;rw [List.getElem?_eq_getElem (by omega),Sb,Nat.zero_mul,Sb] at this;exact World.cell?_spot this
    rcases Nat.eq_zero_or_pos len with K | K
    ·obtain⟨al,Y⟩:=aw V;have O:=Y 0 (by omega);rw [List.getElem?_eq_getElem (by omega)] at O;obtain⟨vs,am,_⟩:=Option.bind_eq_some_iff.1 O;obtain⟨_,ag,U⟩:=World.cells?_some am;rw [K] at U;exact key vs ag U
    ·obtain⟨vs,y,ag,U,_⟩:=az 0 K;exact key vs ag U
   have a0:∀i:Fin len,∃z:α,∃vs,p.r (Ha W).E vs z/\At (Ha W).E a.block (a.off+i*p.n) vs:=λi=>by
    obtain⟨vs,y,al,Y,O⟩:=az i i.2;obtain⟨z,Z⟩:=a3 _ _ _ O;refine⟨z,vs,Z,W2 (by omega) λj a7=>?_⟩;have:=Y j (by omega);rw [Ef ap,Ef rfl] at this;exact this
   refine⟨some a,cap,List.ofFn λi=>Classical.choose (a0 i),by simpa using ac,by simpa using a6,.inr ⟨a.block,a.off,?_,λi z Z=>?_⟩⟩
   ·obtain⟨b,o,s⟩:=a;simp only at ap;subst ap;rfl
   ·have hi:i<len:=by have:=(List.getElem?_eq_some_iff.1 Z).1;simpa using this
    simp [hi] at Z;have:=Classical.choose_spec (a0 ⟨i,hi⟩);rw [Z] at this;exact this
theorem YO(h:DataW.trod enc Tryz.prog W 0 (λ_=>true) true fuel 3 cs=some x):∃z:Int,cs= [iV z]:=by
 obtain⟨n1,K,_⟩:=DataW.trod_int Tryz.underlying3 h;exact⟨n1,K⟩
theorem Yd(O:DataW.trod enc Tryz.prog W 0 (λ_=>true) true fuel 28 cs=some x):∃(a:Option Addr) (c:Nat) (K:List Int),cs= [.slice a K.length c]/\An rI (Ha W).E a c K:=
 bT (p:=rI) Tryz.underlying28 Tryz.bq Nat.one_pos (λn cs x h=>by
  obtain⟨z,rfl⟩:=YO h
  exact⟨z,rfl⟩) O
theorem XQ{v:Value}{O:Nat}{d:DataW H}{p:List MemPlace}(U:Value.okWide Tryz.prog W .any O 28 v)(hd:DataW.Trod enc Tryz.prog W 0 (λ_=>true) true 28 v d p):
  ∃(a:Option Addr) (c:Nat) (K:List Int),v= .slice a K.length c/\An rI (Ha W).E a c K:=by
 obtain⟨Z,len,cap,rfl⟩:=okWide_slice Tryz.underlying28 U;obtain⟨fuel,Y⟩:=hd;obtain⟨a,c,K,e,g⟩:=Yd Y;simp [Value.cells] at e;obtain⟨rfl,rfl,rfl⟩:=e;exact⟨_,_,_,V,g⟩
end
end Pal
namespace Pal
open Go Go.Conc
def HA(K:Bool)(ws:Lv_):Value:=if K then .agg ws.toArray else ws.headD undef
def Vr{α:Type}(pp:Rp α)(K:Bool)(E:LH)(v:Value)(x:α):Prop:=∃ws,pp.r E ws x/\v=HA K ws
theorem Vr.Ah{α:Type}{pp:Rp α}{K:Bool}{E E':LH}{v:Value}{x:α}(h:Vr pp K E v x)(hle:Le E E'):Vr pp K E' v x:=
 let ⟨ws,O,U⟩:=h;⟨ws,pp.Ah hle O,U⟩
structure GH (P:Program) (t:TypeId) {κ:Type} [DecidableEq κ] (pk:Rp κ) (ka:Bool):Prop where
 BM:∀{em:Bool} {E:LH} {v:Value} {x:κ} {s:St} {Q:Unit->St->Prop} {X:Halt->St->Prop},Vr pk ka E v x->Q () s->lp P (Instr.checkKey em 10000 t v) s Q X
 kind:∃kd,P.underlying t=some kd/\((∀v w,Instr.sameNow kd v w=none)∨∀{E:LH} {v w:Value} {x y:κ},Vr pk ka E v x->Vr pk ka E w y->Instr.sameNow kd v w=some (decide (x=y)))
 eq:∀{E:LH} {v w:Value} {x y:κ} {s:St} {Q:Bool->St->Prop} {X:Halt->St->Prop},Vr pk ka E v x->Vr pk ka E w y->Q (decide (x=y)) s->lp P (Op.equal t v w) s Q X
 same:∀{E:LH} {v:Value} {x:κ},Vr pk ka E v x->Instr.sameBits 10000 v v=true
 uniq:∀{E:LH} {v w:Value} {x:κ},Vr pk ka E v x->Vr pk ka E w x->v=w
variable {κ ν:Type}{pk:Rp κ}{pv:Rp ν}{ka va:Bool}{E E':LH}
variable {P:Program}{s:St}{t tm te:TypeId}{X:Halt->St->Prop}
section
variable [DecidableEq κ]
def Ec(pk:Rp κ)(ka:Bool)(pv:Rp ν)(va:Bool)(E:LH):List MapEntry->List (κ×ν)->Prop
 | [],[]=>True
 | e::es,x::xs=>Vr pk ka E e.key x.1/\Vr pv va E e.val x.2/\Ec pk ka pv va E es xs
 | _,_=>False
theorem Ec.Ah(hle:Le E E'):∀{es:List MapEntry} {xs:List (κ×ν)},Ec pk ka pv va E es xs->Ec pk ka pv va E' es xs
 | [],[],_=>trivial
 | e::es,x::xs,h=>⟨h.1.Ah hle,h.2.1.Ah hle,Ec.Ah hle h.2.2⟩
 | [],_::_,h=>h.elim
 | _::_,[],h=>h.elim
theorem Ec.len:∀{es:List MapEntry} {xs:List (κ×ν)},Ec pk ka pv va E es xs->es.length=xs.length
 | [],[],_=>rfl
 | e::es,x::xs,h=>by simp [Ec.len h.2.2]
 | [],_::_,h=>h.elim
 | _::_,[],h=>h.elim
def Gx(x:κ):List MapEntry->List (κ×ν)->Nat->Option (Nat×Value)
 | e::es,y::ys,i=>if x=y.1 then some (i,e.val) else Gx x es ys (i+1)
 | _,_,_=>none
def BC(xs:List (κ×ν))(x:κ):Option ν:=(xs.find? λy=>decide (x=y.1)).map (·.2)
def Dr(xs:List (κ×ν))(x:κ)(v:ν):List (κ×ν):=match xs with
 | []=> [(x,v)]
 | y::ys=>if x=y.1 then(x,v)::ys else y::Dr ys x v
theorem Tf{x:κ}:∀{es:List MapEntry} {xs:List (κ×ν)} {i:Nat},Ec pk ka pv va E es xs->(Gx x es xs i=none/\BC xs x=none)∨∃j w v0,Gx x es xs i=some (j,w)/\BC xs x=some v0/\Vr pv va E w v0
 | [],[],i,_=> .inl ⟨rfl,rfl⟩
 | e::es,y::ys,i,h=>by
  unfold Gx BC
  by_cases K:x=y.1
  ·exact .inr ⟨i,e.val,y.2,by rw [if_pos K],by simp [K],h.2.1⟩
  ·rcases Tf (x:=x) (i:=i+1) h.2.2 with⟨O,U⟩ | ⟨j,w,v0,O,U,Y⟩
   ·exact .inl ⟨by rw [if_neg K];exact O,by simpa [K,BC] using U⟩
   ·exact .inr ⟨j,w,v0,by rw [if_neg K];exact O,by simpa [K,BC] using U,Y⟩
 | [],_::_,_,h=>h.elim
 | _::_,[],_,h=>h.elim
theorem Ec.put{x:κ}{v0:ν}{O w:Value}(U:Vr pk ka E O x)(hw:Vr pv va E w v0)(Z:Nat):∀{es:List MapEntry} {xs:List (κ×ν)} {i:Nat},Ec pk ka pv va E es xs->
  (Gx x es xs i=none/\Ec pk ka pv va E (es++ [{key:=O,val:=w,born:=Z}]) (Dr xs x v0))∨
  ∃j u,Gx x es xs i=some (i+j,u)/\j<es.length/\(∀e,es[j]? =some e->Vr pk ka E e.key x)/\Ec pk ka pv va E (es.modify j λe=>{e with key:=O,val:=w}) (Dr xs x v0)
 | [],[],i,_=> .inl ⟨rfl,U,hw,trivial⟩
 | e::es,y::ys,i,h=>by
  unfold Gx Dr
  by_cases K:x=y.1
  ·refine .inr ⟨0,e.val,by rw [if_pos K];rfl,by simp,λac he=>?_,?_⟩
   ·simp at he;subst he;rw [K];exact h.1
   ·rw [if_pos K];exact⟨U,hw,h.2.2⟩
  ·rcases Ec.put U hw Z (i:=i+1) h.2.2 with⟨Y,ag⟩ | ⟨j,u,Y,ag,al,am⟩
   ·exact .inl ⟨by rw [if_neg K];exact Y,by rw [if_neg K];exact⟨h.1,h.2.1,ag⟩⟩
   ·refine .inr ⟨j+1,u,by rw [if_neg K,Y];congr 2;omega,by simp;omega,λac he=>al ac (by simpa using he),?_⟩;rw [if_neg K];exact⟨h.1,h.2.1,am⟩
 | [],_::_,_,h=>h.elim
 | _::_,[],_,h=>h.elim
def KX(pk:Rp κ)(ka:Bool)(pv:Rp ν)(va:Bool)(E:LH)(o:Obj)(xs:List (κ×ν)):Prop:=
 ∃es clock,o= .map es clock/\Ec pk ka pv va E es.toList xs/\(es.toList.map (·.born)).Pairwise (·<·)/\∀e∈es.toList,e.born<clock
theorem KX.Ah{o:Obj}{xs:List (κ×ν)}(h:KX pk ka pv va E o xs)(hle:Le E E'):KX pk ka pv va E' o xs:=
 let ⟨es,c,K,O,U⟩:=h;⟨es,c,K,O.Ah hle,U⟩
theorem Rg(U:GH P t pk ka){k:Value}{x:κ}(Y:Vr pk ka E k x){Q:Option (Nat×Value)->St->Prop}:∀{es:List MapEntry} {xs:List (κ×ν)} {i:Nat},Ec pk ka pv va E es xs->Q (Gx x es xs i) s->lp P (Instr.findAsking t k es i) s Q X
 | [],[],i,_,h=>h
 | e::es,y::ys,i,h,K=>by
  unfold Instr.findAsking
  refine Aw _ _ (U.eq Y h.1 ?_)
  unfold Gx at K
  by_cases O:x=y.1
  ·rw [decide_eq_true O]
   rw [if_pos O] at K;exact K
  ·rw [decide_eq_false O];rw [if_neg O] at K;exact Rg U Y h.2.2 K
 | [],_::_,_,h,_=>h.elim
 | _::_,[],_,h,_=>h.elim
theorem Rz{kd:TypeDesc}{k:Value}{x:κ}(O:Vr pk ka E k x)(U:∀{E:LH} {v w:Value} {x y:κ},Vr pk ka E v x->Vr pk ka E w y->Instr.sameNow kd v w=some (decide (x=y))):∀{es:List MapEntry} {xs:List (κ×ν)} {i:Nat},Ec pk ka pv va E es xs->Instr.findNow kd k es i=some (Gx x es xs i)
 | [],[],i,_=>rfl
 | e::es,y::ys,i,h=>by
  unfold Instr.findNow Gx
  rw [U O h.1]
  by_cases K:x=y.1
  ·simp [K]
  ·simp only [decide_eq_false K,if_neg K];exact Rz O U h.2.2
 | [],_::_,_,h=>h.elim
 | _::_,[],_,h=>h.elim
theorem Pb(O:GH P t pk ka){k:Value}{x:κ}(U:Vr pk ka E k x){Q:Option (Nat×Value)->St->Prop}{es:List MapEntry}{xs:List (κ×ν)}(h:Ec pk ka pv va E es xs)(K:Q (Gx x es xs 0) s):lp P (Instr.findKey t k es) s Q X:=by
 unfold Instr.findKey;obtain⟨kd,Y,Z | ac⟩:=O.kind
 ·refine Aw _ _ (Cn Y ?_);cases es with
  | nil=>
   cases xs with
   | nil=>exact K
   | cons y ys=>exact h.elim
  | cons e es=>
   have ag:Instr.findNow kd k (e::es) 0=none:=by unfold Instr.findNow;rw [Z]
   rw [ag];exact Rg O U h K
 ·refine Aw _ _ (Cn Y ?_);rw [Rz U ac h];exact K
theorem WA(O:GH P t pk ka)(hm:P.underlying tm=some (.map t te)){z:Value}{z0:ν}(Z:zeroOf P te=some z)(ac:Vr pv va E z z0){bk:Nat}{o:Obj}{xs:List (κ×ν)}{k:Value}{x:κ}(ag:s.get bk=some o)(al:KX pk ka pv va E o xs)(U:Vr pk ka E k x)(ok:Bool){Q:Value->St->Prop}
  (h:∀w,Vr pv va E w ((BC xs x).getD z0)->Q (if ok then .tuple #[w,.bool (BC xs x).isSome] else w) s):lp P (Instr.lookup tm (.map (some bk)) k ok) s Q X:=by
 obtain⟨es,c,rfl,Y,ap,aq⟩:=al;unfold Instr.lookup;refine Aw _ _ (Cn hm ?_);refine Aw _ _ ?_;unfold getObj;simp only [bind,Sem.bind,lp];refine⟨_,ag,V,?_⟩;refine Aw (x:=Instr.checkKey _ 10000 t k) _ (O.BM U ?_);refine Aw (x:=Instr.findKey t k es.toList) _ (Pb O U Y ?_);rcases Tf (x:=x) (i:=0) Y with⟨K,e2⟩ | ⟨j,w,v0,K,e2,am⟩
 ·rw [K];simp only;refine Aw (x:=zeroValue te) _ (HI Z ?_);have:=h z (by rw [e2];exact ac);rw [e2] at this;exact this
 ·rw [K];have:=h w (by rw [e2];exact am);rw [e2] at this;exact this
theorem VJ(O:GH P t pk ka)(hm:P.underlying tm=some (.map t te)){bk:Nat}{o:Obj}{xs:List (κ×ν)}{k w:Value}{x:κ}{v0:ν}(am:s.get bk=some o)(Z:s.H bk=some o)(ap:KX pk ka pv va E o xs)(K:Vr pk ka E k x)(hw:Vr pv va E w v0){Q:Unit->St->Prop}
  (h:∀o',KX pk ka pv va E o' (Dr xs x v0)->Q () (s.upd bk o')):lp P (Instr.mapUpdate tm (.map (some bk)) k w) s Q X:=by
 obtain⟨es,c,rfl,ac,ag,U⟩:=ap;unfold Instr.mapUpdate;refine Aw _ _ (Cn hm ?_);unfold getObj;simp only [bind,Sem.bind,lp];refine⟨_,am,V,?_⟩;refine Aw (x:=Instr.checkKey false 10000 t k) _ (O.BM K ?_);refine Aw (x:=Instr.findKey t k es.toList) _ (Pb O K ac ?_);rcases Ec.put K hw c (i:=0) ac with⟨Y,e2⟩ | ⟨j,u,Y,e2,aq,av⟩
 ·rw [Y];simp only [setObj,lp];refine⟨⟨_,Z,V⟩,V,h _ ⟨es.push {key:=k,val:=w,born:=c},c+1,V,by simpa using e2,?_,?_⟩⟩
  ·rw [Array.toList_push,List.map_append,List.pairwise_append];refine⟨ag,by simp,λa aw b hb=>?_⟩;simp at hb;subst hb;obtain⟨e,he,rfl⟩:=List.mem_map.1 aw;exact U e he
  ·intro e he;rw [Array.toList_push] at he;rcases List.mem_append.1 he with he | he
   ·have:=U e he;omega
   ·simp at he;subst he;simp
 ·rw [Y];have al:es[j]? =some (es[j]'(by simpa using e2)):=Array.getElem?_eq_getElem (by simpa using e2);have ay:(es[j]'(by simpa using e2)).key=k:=O.uniq (aq _ (by rw [Array.getElem?_toList];exact al)) K;simp only [Nat.zero_add,al,Option.map_some,Option.getD_some,ay];refine Aw (x:=Instr.keyThatStays k k) _ ?_;unfold Instr.keyThatStays;rw [if_pos (O.same K)];simp only [lp,pure,setObj];refine⟨⟨_,Z,V⟩,V,h _ ⟨_,c,V,by simpa using av,?_,?_⟩⟩
  ·have:(es.modify j λe=>{e with key:=k,val:=w}).toList.map (·.born)=es.toList.map (·.born):=by
    rw [Array.toList_modify];apply List.ext_getElem?;intro q;simp only [List.getElem?_map,List.getElem?_modify];split <;> cases es.toList[q]? <;> rfl
   rw [this];exact ag
  ·intro e he;rw [Array.toList_modify] at he;obtain⟨q,az,rfl⟩:=List.mem_iff_getElem.1 he;rw [List.getElem_modify];have a0:q<es.toList.length:=by simpa using az
   split
   ·show(es.toList[q]'a0).born<c;exact U _ (List.getElem_mem _)
   ·exact U _ (List.getElem_mem _)
end
theorem Tr{l us r:Lv_}:∀j w,us[j]? =some w->(l++us++r).toArray[l.length+j]? =some w:=λj w h=>by
 have K:j<us.length:=(List.getElem?_eq_some_iff.1 h).1
 rw [List.getElem?_toArray,List.append_assoc,List.getElem?_append_right (by omega),show l.length+j - l.length=j by omega,List.getElem?_append_left K]
 exact h
section
variable {e:TypeId}
theorem Li{c:Av_}{off:Nat}{us:Lv_}{O:Bool}(Y:Dm P e=some O)(Z:Bp P e=some us.length)(ac:O=false->us.length=1)(hw:∀j w,us[j]? =some w->c[off+j]? =some w)
  {Q:Value->St->Prop} (k:Q (HA O us) s):lp P (Go.part e c off) s Q X:=by
 unfold Go.part;refine Aw (x:=isAgg e) _ (No Y ?_);cases O with
 | true=>
  simp only [if_true];refine Aw (x:=Go.sizeOf e) _ (EY Z ?_);have ag:c.extract off (off+us.length)=us.toArray:=by
   apply Array.ext_getElem?;intro j;by_cases U:j<us.length
   ·have K:=hw j us[j] (List.getElem?_eq_getElem U);have al:off+j<c.size:=(Array.getElem?_eq_some_iff.1 K).1;simp only [Array.getElem?_extract];rw [if_pos (by omega),K];simp [U]
   ·simp only [Array.getElem?_extract];rw [if_neg (by omega)];simp;omega
  show Q (.agg (c.extract off (off+us.length))) s;rw [ag];exact k
 | false=>
  obtain⟨w,rfl⟩:∃w,us= [w]:=by
   match us,ac rfl with
   | [w],_=>exact⟨w,rfl⟩
  have K:=hw 0 w V;rw [Nat.add_zero] at K;simp only [Bool.false_eq_true,if_false,K];exact k
end
structure B8 (P:Program) (t:TypeId) {α:Type} [DecidableEq α] (pp:Rp α) (K:Bool) (dep:Nat):Prop where
 agg:Dm P t=some K
 size:Bp P t=some pp.n
 one:K=false->pp.n=1
 eq:∀{n:Nat} {E E':LH} {ws ws':Lv_} {x y:α} {s:St} {Q:Bool->St->Prop} {X:Halt->St->Prop},dep<=n->pp.r E ws x->pp.r E' ws' y->Q (decide (x=y)) s->lp P (Op.equalIn n t (HA K ws) (HA K ws')) s Q X
 BM:∀{n:Nat} {em:Bool} {E:LH} {ws:Lv_} {x:α} {s:St} {Q:Unit->St->Prop} {X:Halt->St->Prop},dep<=n->pp.r E ws x->Q () s->lp P (Instr.checkKey em n t (HA K ws)) s Q X
 uniq:∀{E E':LH} {ws ws':Lv_} {x:α},pp.r E ws x->pp.r E' ws' x->ws=ws'
 same:∀{E:LH} {ws:Lv_} {x:α},pp.r E ws x->∀w∈ws,∀m,Instr.sameBits (m+1) w w=true
 now:∃kd,P.underlying t=some kd/\((∀v w,Instr.sameNow kd v w=none)∨∀{E E':LH} {ws ws':Lv_} {x y:α},pp.r E ws x->pp.r E' ws' y->Instr.sameNow kd (HA K ws) (HA K ws')=some (decide (x=y)))
variable {ρ:Operand->Value}{d:Option Tmp}{u ty:TypeId}{p:String}{af:Ae_}{g:On_}{ws ws':Lv_}
section
variable {e:TypeId}
theorem B8.int{kd:IntKind}(U:P.underlying t=some (.int kd))(Y:Bp P t=some 1):B8 P t (rK kd) false 1 where
 agg:=by unfold Dm;rw [U]
 size:=Y
 one _:=rfl
 eq {n E E' ws ws' x y s Q X} Z K O k:=by
  obtain⟨m,rfl⟩:∃m,n=m+1:=⟨n - 1,by omega⟩;have K:ws= [.int kd x]:=K;have O:ws'= [.int kd y]:=O;subst K O;refine Uq U ?_;have e:(x==y)=decide (x=y):=by by_cases h:x=y <;> simp [h]
  rw [e];exact k
 BM {n em E ws x s Q X} Z K k:=by
  obtain⟨m,rfl⟩:∃m,n=m+1:=⟨n - 1,by omega⟩;have K:ws= [.int kd x]:=K;subst K;unfold Instr.checkKey;refine Aw _ _ (Cn U ?_);exact k
 uniq K O:=by
  have K:_= [Value.int kd _]:=K;have O:_= [Value.int kd _]:=O;rw [K,O]
 same {E ws x} h w hw m:=by
  have h:ws= [Value.int kd x]:=h;subst h;simp at hw;subst hw;simp [Instr.sameBits]
 now:=⟨_,U,.inr λ{E E' ws ws' x y} K O=>by
  have K:ws= [.int kd x]:=K
  have O:ws'= [.int kd y]:=O
  subst K O
  have e:(x==y)=decide (x=y):=by by_cases h:x=y <;> simp [h]
  show(if kd=kd then some (x==y) else none)=_
  rw [if_pos rfl,e]⟩
theorem B8.nat{kd:IntKind}(U:P.underlying t=some (.int kd))(Z:Bp P t=some 1):B8 P t (rN kd) false 1 where
 agg:=by unfold Dm;rw [U]
 size:=Z
 one _:=rfl
 eq {n E E' ws ws' x y s Q X} ac K O k:=by
  obtain⟨m,rfl⟩:∃m,n=m+1:=⟨n - 1,by omega⟩;have K:ws= [.int kd ((x:Nat):Int)]:=K;have O:ws'= [.int kd ((y:Nat):Int)]:=O;subst K O;refine Uq U ?_;have e:((x:Int)==(y:Int))=decide (x=y):=by
   by_cases h:x=y
   ·simp [h]
   ·have Y:¬(x:Int)=(y:Int):=by omega
    simp [h,Y]
  rw [e];exact k
 BM {n em E ws x s Q X} ac K k:=by
  obtain⟨m,rfl⟩:∃m,n=m+1:=⟨n - 1,by omega⟩;have K:ws= [.int kd ((x:Nat):Int)]:=K;subst K;unfold Instr.checkKey;refine Aw _ _ (Cn U ?_);exact k
 uniq K O:=by
  have K:_= [Value.int kd _]:=K;have O:_= [Value.int kd _]:=O;rw [K,O]
 same {E ws x} h w hw m:=by
  have h:ws= [Value.int kd ((x:Nat):Int)]:=h;subst h;simp at hw;subst hw;simp [Instr.sameBits]
 now:=⟨_,U,.inr λ{E E' ws ws' x y} K O=>by
  have K:ws= [.int kd ((x:Nat):Int)]:=K
  have O:ws'= [.int kd ((y:Nat):Int)]:=O
  subst K O
  have e:((x:Int)==(y:Int))=decide (x=y):=by
   by_cases h:x=y
   ·simp [h]
   ·have Y:¬(x:Int)=(y:Int):=by omega
    simp [h,Y]
  show(if kd=kd then some ((x:Int)==(y:Int)) else none)=_
  rw [if_pos rfl,e]⟩
theorem B8.up{α:Type} [DecidableEq α] {pp:Rp α}{O:Bool}{dep U:Nat}(h:B8 P t pp O dep)(hd:dep<=U):B8 P t pp O U:=
 ⟨h.agg,h.size,h.one,λK=>h.eq (Nat.le_trans hd K),λK=>h.BM (Nat.le_trans hd K),h.uniq,h.same,h.now⟩
theorem P8{α:Type}{kk:Nat}{pp:Rp α}{E:LH}{ws:Lv_}{xs:List α}(K:(rA kk pp).r E ws xs){i:Nat}(hi:i<kk):∃x us,xs[i]? =some x/\pp.r E us x/\us.length=pp.n/\∀j w,us[j]? =some w->ws.toArray[i*pp.n+j]? =some w:=by
 have O:xs[i]? =some (xs[i]'(by rw [K.1];exact hi)):=List.getElem?_eq_getElem (by rw [K.1];exact hi);have Y:ix xs (i:Int)=some (xs[i]'(by rw [K.1];exact hi)):=by unfold ix;rw [if_pos (by omega)];simpa using O
 obtain⟨us,U,_,_,Z⟩:=HL (m:=(i:Int)) K Y;exact⟨_,us,O,U,pp.len U,λj w ac=>by have:=Z j w ac;rw [List.getElem?_toArray];simpa using this⟩
theorem B8.arr{α:Type} [DecidableEq α] {pp:Rp α}{a5:Bool}{dep kk:Nat}(h:B8 P e pp a5 dep)(Z:P.underlying t=some (.array kk e))(a6:Bp P t=some (kk*pp.n)):B8 P t (rA kk pp) true (dep+1) where
 agg:=by unfold Dm;rw [Z]
 size:=a6
 one:=λh=>by cases h
 eq {n E E' ws ws' xs ys s Q X} a7 ac az k:=by
  obtain⟨n,rfl⟩:∃m,n=m+1:=⟨n - 1,by omega⟩;have bw:=ac.1;have bx:=az.1;unfold Op.equalIn;refine Aw _ _ (Cn Z ?_);refine Aw (x:=Go.sizeOf e) _ (EY h.size ?_);simp only [HA,if_true];simp only [Std.Legacy.Range.forIn_eq_forIn_range',Std.Legacy.Range.size,Nat.sub_zero,Nat.add_one_sub_one,Nat.div_one];let bd:Nat->Option Bool×Unit->Sem (ForInStep (Option Bool×Unit)):=λi _=>do
   if !(← Op.equalIn n e (← Go.part e ws.toArray (i*pp.n)) (← Go.part e ws'.toArray (i*pp.n))) then pure (ForInStep.done (some false,())) else pure (ForInStep.yield (none,()))
  have key:∀(m st:Nat),st+m=kk->(∀i,i<st->xs[i]? =ys[i]?)->∀{K:Option Bool×Unit->St->Prop},K (if xs=ys then(none,()) else(some false,())) s->lp P (forIn (List.range' st m) (none,()) bd:Sem _) s K X:=by
   intro m
   induction m with
   | zero=>
    intro st al am K O;have U:xs=ys:=by
     apply List.ext_getElem?;intro i;rcases Nat.lt_or_ge i st with hi | hi
     ·exact am i hi
     ·rw [List.getElem?_eq_none (by omega),List.getElem?_eq_none (by omega)]
    rw [if_pos U] at O;simp only [List.range'_zero,List.forIn_nil];exact O
   | succ m ap=>
    intro st al am K O;simp only [List.range'_succ,List.forIn_cons];obtain⟨a,us,ag,aq,Y,av⟩:=P8 ac (i:=st) (by omega);obtain⟨c,bz,hc,a8,a0,a9⟩:=P8 az (i:=st) (by omega);refine Aw _ _ (Aw _ _ (Li h.agg (by rw [Y];exact h.size) (λq=>by rw [Y];exact h.one q) av ?_));refine Aw _ _ (Li h.agg (by rw [a0];exact h.size) (λq=>by rw [a0];exact h.one q) a9 ?_);refine Aw _ _ (h.eq (by omega) aq a8 ?_);by_cases aw:a=c
    ·subst aw;simp only [decide_true,Bool.not_true,Bool.false_eq_true,if_false,lp,pure];exact ap (st+1) (by omega) (λi hi=>by
      rcases Nat.lt_or_ge i st with a2 | a2
      ·exact am i a2
      ·obtain rfl:i=st:=by omega
       rw [ag,hc]) O
    ·have bb:¬xs=ys:=λq=>aw (by rw [q] at ag;rw [ag] at hc;exact Option.some.inj hc);rw [if_neg bb] at O;simp only [aw,decide_false,Bool.not_false,if_true,lp,pure];exact O
  refine Aw _ _ (key kk 0 (by omega) (λi hi=>by omega) ?_);by_cases U:xs=ys
  ·rw [if_pos U];simpa [lp,pure,U] using k
  ·rw [if_neg U];simpa [lp,pure,U] using k
 BM {n em E ws xs s Q X} a7 ac k:=by
  obtain⟨n,rfl⟩:∃m,n=m+1:=⟨n - 1,by omega⟩;unfold Instr.checkKey;refine Aw _ _ (Cn Z ?_);simp only [HA,if_true];simp only [Std.Legacy.Range.forIn_eq_forIn_range',Std.Legacy.Range.size,Nat.sub_zero,Nat.add_one_sub_one,Nat.div_one];let bd:Nat->Unit->Sem (ForInStep Unit):=λi _=>do
   Instr.checkKey em n e (← Go.part e ws.toArray (i*(← Go.sizeOf e)))
   pure (ForInStep.yield ())
  have key:∀(m st:Nat),st+m=kk->∀{K:Unit->St->Prop},K () s->lp P (forIn (List.range' st m) () bd:Sem _) s K X:=by
   intro m
   induction m with
   | zero=>
    intro st al K O;simp only [List.range'_zero,List.forIn_nil];exact O
   | succ m ap=>
    intro st al K O;simp only [List.range'_succ,List.forIn_cons];obtain⟨a,us,ag,aq,Y,av⟩:=P8 ac (i:=st) (by omega);refine Aw _ _ (Aw (x:=Go.sizeOf e) _ (EY h.size ?_));refine Aw _ _ (Li h.agg (by rw [Y];exact h.size) (λq=>by rw [Y];exact h.one q) av ?_);refine Aw _ _ (h.BM (by omega) aq ?_);exact ap (st+1) (by omega) O
  exact Aw _ _ (key kk 0 (by omega) k)
 uniq {E E' ws ws' xs} ay be:=by
  obtain⟨a1,wss,rfl,a3,c1⟩:=ay;obtain⟨b0,bi,rfl,b1,c2⟩:=be;have:wss=bi:=by
   apply List.ext_getElem (by omega);intro i hi bn;have a4:xs[i]? =some (xs[i]'(by omega)):=List.getElem?_eq_getElem (by omega);exact h.uniq (c1 i _ _ a4 (List.getElem?_eq_getElem hi)) (c2 i _ _ a4 (List.getElem?_eq_getElem bn))
  rw [this]
 same {E ws xs} ay w hw m:=by
  obtain⟨a1,wss,rfl,a3,c1⟩:=ay;obtain⟨us,bo,hw⟩:=List.mem_flatten.1 hw;obtain⟨i,hi⟩:=List.mem_iff_getElem?.1 bo;have bv:i<xs.length:=by rw [a1,← a3];exact(List.getElem?_eq_some_iff.1 hi).1
  exact h.same (c1 i _ us (List.getElem?_eq_getElem bv) hi) w hw m
 now:=⟨_,Z,.inl λv w=>rfl⟩
theorem B8.field{α:Type} [DecidableEq α] {pp:Rp α}{ac:Bool}{dep n:Nat}{f:Field}{s:St}{X:Halt->St->Prop}(h:B8 P f.type pp ac dep)(hd:dep<=n)(ag:f.name≠ "_"){E E':LH}{us Y:Lv_}{x y:α}(r1:pp.r E us x)(r2:pp.r E' Y y){cx Z:Av_}
  (w1:∀j w,us[j]? =some w->cx[f.offset+j]? =some w) (w2:∀j w,Y[j]? =some w->Z[f.offset+j]? =some w) {K:ForInStep (Option Bool×Unit)->St->Prop} (O:K (if x=y then .yield (none,()) else .done (some false,())) s):
  lp P (if f.name≠ "_" then do
   if !(← Op.equalIn n f.type (← Go.part f.type cx f.offset) (← Go.part f.type Z f.offset)) then pure (ForInStep.done (some false,())) else pure (ForInStep.yield (none,()))
   else pure (ForInStep.yield (none,()))) s K X:=by
 rw [if_pos ag]
 refine Aw _ _ (Li h.agg (by rw [pp.len r1];exact h.size) (λq=>by rw [pp.len r1];exact h.one q) w1 ?_)
 refine Aw _ _ (Li h.agg (by rw [pp.len r2];exact h.size) (λq=>by rw [pp.len r2];exact h.one q) w2 ?_)
 refine Aw _ _ (h.eq hd r1 r2 ?_)
 by_cases U:x=y
 ·rw [if_pos U] at O;simpa [lp,pure,U] using O
 ·rw [if_neg U] at O;simpa [lp,pure,U] using O
theorem B8.Mn{α:Type} [DecidableEq α] {pp:Rp α}{O em:Bool}{dep n:Nat}{f:Field}{s:St}{X:Halt->St->Prop}(h:B8 P f.type pp O dep)(hd:dep<=n)(U:f.name≠ "_"){E:LH}{us:Lv_}{x:α}(r1:pp.r E us x){cx:Av_}
  (w1:∀j w,us[j]? =some w->cx[f.offset+j]? =some w) {K:ForInStep Unit->St->Prop} (Y:K (.yield ()) s):
  lp P (if f.name≠ "_" then do
   Instr.checkKey em n f.type (← Go.part f.type cx f.offset)
   pure (ForInStep.yield ())
   else pure (ForInStep.yield ())) s K X:=by
 rw [if_pos U]
 refine Aw _ _ (Li h.agg (by rw [pp.len r1];exact h.size) (λq=>by rw [pp.len r1];exact h.one q) w1 ?_)
 refine Aw _ _ (h.BM hd r1 ?_)
 exact Y
theorem LF{us r:Lv_}{o:Nat}(K:o=0):∀j w,us[j]? =some w->(us++r).toArray[o+j]? =some w:=λj w h=>by subst K;exact Tr (l:= []) j w h
theorem Oq{l us r:Lv_}{o:Nat}(K:o=l.length):∀j w,us[j]? =some w->(l++(us++r)).toArray[o+j]? =some w:=λj w h=>by
 subst K
 have:=Tr (l:=l) (r:=r) j w h
 rwa [List.append_assoc] at this
theorem Om{l us:Lv_}{o:Nat}(K:o=l.length):∀j w,us[j]? =some w->(l++us).toArray[o+j]? =some w:=λj w h=>by
 have:=Oq (r:= []) K j w h
 rwa [List.append_nil] at this
theorem Ql{l m us:Lv_}{o:Nat}(K:o=l.length+m.length):∀j w,us[j]? =some w->(l++(m++us)).toArray[o+j]? =some w:=λj w h=>by
 have:=Om (l:=l++m) (o:=o) (by simp [K]) j w h
 rwa [List.append_assoc] at this
theorem B8.two{α β:Type} [DecidableEq α] [DecidableEq β] {K:Rp α}{p2:Rp β}{a1 aw:Bool}{dep:Nat}{f1 f2:Field}(O:P.underlying t=some (.struct #[f1,f2]))(U:B8 P f1.type K a1 dep)(Y:B8 P f2.type p2 aw dep)(ay:P.stoodInHeld t=false)
  (n1:f1.name≠ "_") (n2:f2.name≠ "_") (ag:f1.offset=0) (al:f2.offset=K.n) (az:Bp P t=some (K.n+p2.n)):B8 P t (rP K p2) true (dep+1) where
 agg:=by unfold Dm;rw [O]
 size:=az
 one:=λh=>by cases h
 eq {n E E' ws ws' x y s Q X} a0 am a2 k:=by
  obtain⟨n,rfl⟩:∃m,n=m+1:=⟨n - 1,by omega⟩;obtain⟨ap,aq,rfl,r1,r2⟩:=am;obtain⟨v1,v2,rfl,Z,av⟩:=a2;simp only [HA,if_true];unfold Op.equalIn;refine Aw _ _ (Cn O ?_);refine Aw (x:=program) _ ?_;show lp P (if P.stoodInHeld t=true then _ else _) s _ _
  rw [if_neg (by rw [ay];exact Bool.false_ne_true)]
  dsimp only;rw [← Array.forIn_toList];simp only [List.forIn_cons,List.forIn_nil];refine Aw _ _ (Aw _ _ (U.field (by omega) n1 r1 Z (LF ag) (LF ag) ?_));by_cases ac:x.1=y.1
  ·rw [if_pos ac];refine Aw _ _ (Y.field (by omega) n2 r2 av (Om (al.trans (K.len r1).symm)) (Om (al.trans (K.len Z).symm)) ?_);by_cases e2:x.2=y.2
   ·have e:x=y:=Prod.ext ac e2;rw [if_pos e2];simpa [lp,pure,e] using k
   ·have e:¬x=y:=λq=>e2 (by rw [q]);rw [if_neg e2];simpa [lp,pure,e] using k
  ·have e:¬x=y:=λq=>ac (by rw [q]);rw [if_neg ac];simpa [lp,pure,e] using k
 BM {n em E ws x s Q X} a0 am k:=by
  obtain⟨n,rfl⟩:∃m,n=m+1:=⟨n - 1,by omega⟩;obtain⟨ap,aq,rfl,r1,r2⟩:=am;simp only [HA,if_true];unfold Instr.checkKey;refine Aw _ _ (Cn O ?_)
  dsimp only;rw [← Array.forIn_toList];simp only [List.forIn_cons,List.forIn_nil];refine Aw _ _ (Aw _ _ (U.Mn (by omega) n1 r1 (LF ag) ?_));refine Aw _ _ (Y.Mn (by omega) n2 r2 (Om (al.trans (K.len r1).symm)) ?_);exact k
 uniq {E E' ws ws' x} a b:=by
  obtain⟨ap,aq,rfl,r1,r2⟩:=a;obtain⟨v1,v2,rfl,Z,av⟩:=b;rw [U.uniq r1 Z,Y.uniq r2 av]
 same {E ws x} a w hw m:=by
  obtain⟨ap,aq,rfl,r1,r2⟩:=a;rcases List.mem_append.1 hw with hw | hw
  ·exact U.same r1 w hw m
  ·exact Y.same r2 w hw m
 now:=⟨_,O,.inl λv w=>rfl⟩
theorem B8.three{α β a3:Type} [DecidableEq α] [DecidableEq β] [DecidableEq a3] {K:Rp α}{p2:Rp β}{p3:Rp a3}{a1 a5 a6:Bool}{dep:Nat}{f1 f2 f3:Field}(U:P.underlying t=some (.struct #[f1,f2,f3]))(Y:B8 P f1.type K a1 dep)(Z:B8 P f2.type p2 a5 dep)(ac:B8 P f3.type p3 a6 dep)(a7:P.stoodInHeld t=false)
  (n1:f1.name≠ "_") (n2:f2.name≠ "_") (a4:f3.name≠ "_") (ap:f1.offset=0) (aq:f2.offset=K.n) (av:f3.offset=K.n+p2.n) (a8:Bp P t=some (K.n+(p2.n+p3.n))):B8 P t (rP K (rP p2 p3)) true (dep+1) where
 agg:=by unfold Dm;rw [U]
 size:=a8
 one:=λh=>by cases h
 eq {n E E' ws ws' x y s Q X} a9 aw bb k:=by
  obtain⟨n,rfl⟩:∃m,n=m+1:=⟨n - 1,by omega⟩;obtain⟨ay,_,rfl,r1,az,a0,rfl,r2,r3⟩:=aw;obtain⟨v1,_,rfl,O,v2,be,rfl,ag,a2⟩:=bb;simp only [HA,if_true];unfold Op.equalIn;refine Aw _ _ (Cn U ?_);refine Aw (x:=program) _ ?_;show lp P (if P.stoodInHeld t=true then _ else _) s _ _
  rw [if_neg (by rw [a7];exact Bool.false_ne_true)]
  dsimp only;rw [← Array.forIn_toList];simp only [List.forIn_cons,List.forIn_nil];refine Aw _ _ (Aw _ _ (Y.field (by omega) n1 r1 O (LF ap) (LF ap) ?_));by_cases al:x.1=y.1
  ·rw [if_pos al];refine Aw _ _ (Z.field (by omega) n2 r2 ag (Oq (aq.trans (K.len r1).symm)) (Oq (aq.trans (K.len O).symm)) ?_);by_cases e2:x.2.1=y.2.1
   ·rw [if_pos e2];refine Aw _ _ (ac.field (by omega) a4 r3 a2 (Ql (by rw [av,K.len r1,p2.len r2])) (Ql (by rw [av,K.len O,p2.len ag])) ?_);by_cases am:x.2.2=y.2.2
    ·have e:x=y:=Prod.ext al (Prod.ext e2 am);rw [if_pos am];simpa [lp,pure,e] using k
    ·have e:¬x=y:=λq=>am (by rw [q]);rw [if_neg am];simpa [lp,pure,e] using k
   ·have e:¬x=y:=λq=>e2 (by rw [q]);rw [if_neg e2];simpa [lp,pure,e] using k
  ·have e:¬x=y:=λq=>al (by rw [q]);rw [if_neg al];simpa [lp,pure,e] using k
 BM {n em E ws x s Q X} a9 aw k:=by
  obtain⟨n,rfl⟩:∃m,n=m+1:=⟨n - 1,by omega⟩;obtain⟨ay,_,rfl,r1,az,a0,rfl,r2,r3⟩:=aw;simp only [HA,if_true];unfold Instr.checkKey;refine Aw _ _ (Cn U ?_)
  dsimp only;rw [← Array.forIn_toList];simp only [List.forIn_cons,List.forIn_nil];refine Aw _ _ (Aw _ _ (Y.Mn (by omega) n1 r1 (LF ap) ?_));refine Aw _ _ (Z.Mn (by omega) n2 r2 (Oq (aq.trans (K.len r1).symm)) ?_);refine Aw _ _ (ac.Mn (by omega) a4 r3 (Ql (by rw [av,K.len r1,p2.len r2])) ?_);exact k
 uniq {E E' ws ws' x} a b:=by
  obtain⟨ay,_,rfl,r1,az,a0,rfl,r2,r3⟩:=a;obtain⟨v1,_,rfl,O,v2,be,rfl,ag,a2⟩:=b;rw [Y.uniq r1 O,Z.uniq r2 ag,ac.uniq r3 a2]
 same {E ws x} a w hw m:=by
  obtain⟨ay,_,rfl,r1,az,a0,rfl,r2,r3⟩:=a;rcases List.mem_append.1 hw with hw | hw
  ·exact Y.same r1 w hw m
  ·rcases List.mem_append.1 hw with hw | hw
   ·exact Z.same r2 w hw m
   ·exact ac.same r3 w hw m
 now:=⟨_,U,.inl λv w=>rfl⟩
theorem B8.key{α:Type} [DecidableEq α] {pp:Rp α}{K:Bool}{dep:Nat}(h:B8 P t pp K dep)(hd:dep<=10000):GH P t pp K where
 BM:=by
  rintro em E v x s Q X ⟨ws,Y,rfl⟩ k;exact h.BM hd Y k
 kind:=by
  obtain⟨kd,O,Z⟩:=h.now;refine⟨kd,O,Z.imp id λac=>?_⟩;rintro E v w x y ⟨ws,r1,rfl⟩ ⟨ws',r2,rfl⟩;exact ac r1 r2
 eq:=by
  rintro E v w x y s Q X ⟨ws,r1,rfl⟩ ⟨ws',r2,rfl⟩ k;exact h.eq hd r1 r2 k
 same:=by
  rintro E v x ⟨ws,r1,rfl⟩;cases K with
  | false=>
   obtain⟨w,rfl⟩:∃w,ws= [w]:=by
    have:=(pp.len r1).trans (h.one V)
    match ws,this with
    | [w],_=>exact⟨w,rfl⟩
   exact h.same r1 w (by simp) 9999
  | true=>
   show(ws.toArray.size==ws.toArray.size&&(ws.toArray.toList.zip ws.toArray.toList).all λ(x,y)=>Instr.sameBits 9999 x y)=true;rw [Bool.and_eq_true];refine⟨by simp,List.all_eq_true.2 ?_⟩;rintro⟨a,b⟩ ag;have O:∀(l:Lv_) a b,(a,b)∈l.zip l->a=b/\a∈l:=by
    intro l
    induction l with
    | nil=>intro a b h;simp at h
    | cons c l U=>
     intro a b h;simp only [List.zip_cons_cons,List.mem_cons,Prod.mk.injEq] at h;rcases h with⟨rfl,rfl⟩ | h
     ·exact⟨V,by simp⟩
     ·exact⟨(U a b h).1,List.mem_cons_of_mem _ (U a b h).2⟩
   obtain⟨rfl,hm⟩:=O _ a b ag;exact h.same r1 a (by simpa using hm) 9998
 uniq:=by
  rintro E v w x ⟨ws,r1,rfl⟩ ⟨ws',r2,rfl⟩;rw [h.uniq r1 r2]
section
variable {x y:Operand}
theorem Ti{α:Type} [DecidableEq α] {pp:Rp α}{dep:Nat}{a b:α}(h:B8 P t pp true dep)(hd:dep<=10000)(K:P.eqGuardType P.depth t=false)(r1:pp.r E ws a)(r2:pp.r E' ws' b)(O:ρ x= .agg ws.toArray)(U:ρ y= .agg ws'.toArray):Yl P ⟨d,.binOp .neq t x y u,ty,p,af,g⟩ ρ s (.bool (decide (a≠b))):=by
 refine FT (sm:=do eqGuard .neq t x y (ρ x) (ρ y);binOp .neq t (ρ x) (ρ y)) V ?_
 rw [O,U];refine Aw _ _ (WU (.inr V) K ?_);have hb:binOp .neq t (.agg ws.toArray) (.agg ws'.toArray)=(do pure (.bool (!(← Op.equal t (.agg ws.toArray) (.agg ws'.toArray))))):=V
 rw [hb];exact Aw (x:=Op.equal t _ _) _ (h.eq hd r1 r2 ⟨by simp,V⟩)
end
end
theorem VI{E H:LH}{B:List (Nat×Obj)}(i:Nat){bk:Nat}{o:Obj}(K:Nd E H B)(h:B[i]? =some (bk,o)):∃E',Le E E'/\E' bk=some o/\Nd E' H (B.eraseIdx i)/\Ci (mk E H B) (mk E' H (B.eraseIdx i)):=by
 have ap:=List.mem_of_getElem? h;have aq:E bk=none/\H bk=none:=by
  have:∀{B:List (Nat×Obj)},Nd E H B->(bk,o)∈B->E bk=none/\H bk=none:=by
   intro B K O
   induction B with
   | nil=>simp at O
   | cons q B Y=>
    rcases List.mem_cons.1 O with rfl | O
    ·exact⟨K.1,K.2.1⟩
    ·exact Y K.2.2.2 O
  exact this K ap
 let E':LH:=λx=>if x=bk then some o else E x
 have ag:E' bk=some o:=by simp [E']
 have hle:Le E E':=λx u U=>by
  have:x≠bk:=λe=>by subst e;rw [aq.1] at U;cases U
  simp [E',this,U]
 have av:Nd E' H (B.eraseIdx i):=by
  have:∀{B:List (Nat×Obj)} {i:Nat},Nd E H B->B[i]? =some (bk,o)->Nd E' H (B.eraseIdx i)/\∀p∈B.eraseIdx i,p.1≠bk:=by
   intro B
   induction B with
   | nil=>intro i _ h;simp at h
   | cons q B Y=>
    obtain⟨c,v⟩:=q;intro i K h;have up:∀{B:List (Nat×Obj)},Nd E H B->(∀p∈B,p.1≠bk)->Nd E' H B:=by
     intro B K al
     induction B with
     | nil=>trivial
     | cons q B aw=>exact⟨by simpa [E',al q (by simp)] using K.1,K.2.1,K.2.2.1,aw K.2.2.2 λp O=>al p (List.mem_cons_of_mem _ O)⟩
    cases i with
    | zero=>
     simp at h;obtain⟨rfl,rfl⟩:=h;exact⟨up K.2.2.2 K.2.2.1,K.2.2.1⟩
    | succ i=>
     simp at h;obtain⟨Z,ac⟩:=Y K.2.2.2 h;have am:c≠bk:=λe=>K.2.2.1 (bk,o) (List.mem_of_getElem? h) e.symm;refine⟨⟨by simpa [E',am] using K.1,K.2.1,λp O=>K.2.2.1 p (List.mem_of_mem_eraseIdx O),Z⟩,λp O=>?_⟩;rcases List.mem_cons.1 O with rfl | O
     ·exact am
     ·exact ac p O
  exact(this K h).1
 refine⟨E',hle,ag,av,⟨λx u U=>hle x u U,λx u U=>(L6 K h U).2,λx u U=>?_,V⟩⟩;by_cases e:x=bk
 ·subst e;right;have:u=o:=by have:E' x=some u:=U;rw [ag] at this;exact(Option.some.inj this).symm
  subst this;refine⟨Jf K h,?_⟩;cases ay:(mk E' H (B.eraseIdx i)).H x with
  | none=>rfl
  | some y=>exact absurd rfl (L6 K h ay).1
 ·left;have Z:E' x=some u:=U;have ac:E' x=E x:=by simp [E',e]
  show E x=some u;rw [← ac];exact Z
theorem Vv{E H:LH}{B0:List (Nat×Obj)}{e:TypeId}{K l c:Nat}{a:Option Addr}{blk:List (Nat×Obj)}{xs:Lv_}(ag:GS e K a l c blk xs)(U:Nd E H (B0++blk)):∃E',Le E E'/\OK E' K (.slice a l c) l xs/\Nd E' H B0/\Ci (mk E H (B0++blk)) (mk E' H B0):=by
 rcases ag with⟨rfl,rfl,rfl,rfl,rfl⟩ | ⟨bk,f,rfl,rfl,al,Y,rfl⟩
 ·simp only [List.append_nil] at U ⊢;exact⟨E,Le.refl _,.nil,U,.refl _⟩
 ·have am:(B0++ [(bk,Obj.cells f e (0,0))])[B0.length]? =some (bk,Obj.cells f e (0,0)):=by simp
  obtain⟨E',hle,ap,Z,ac⟩:=VI B0.length U am;have aq:(B0++ [(bk,Obj.cells f e (0,0))]).eraseIdx B0.length=B0:=by rw [List.eraseIdx_append_of_length_le (Nat.le_refl _)];simp
  rw [aq] at Z ac;refine⟨E',hle,⟨_,c,V,Y,?_,.inr ⟨bk,0,f,e,(0,0),V,ap,λj w O=>?_⟩⟩,Z,ac⟩
  ·have:l*K<=c*K:=Nat.mul_le_mul_right _ Y;simp [al,Nat.min_eq_left this]
  ·rw [List.getElem?_take] at O;split at O
   ·simpa using O
   ·cases O
theorem VE{α:Type}{pp:Rp α}{E H:LH}{S:List Seg}{e:TypeId}{a:Option Addr}{c:Nat}{seg:Seg}{xs:List α}(j:Nat)(U:OL e pp E a c seg xs)(ap:Aq E H S)(aq:S[j]? =some seg):∃E',Le E E'/\An pp E' a c xs/\Aq E' H (S.set j [])/\Ci (Aj E H S) (Aj E' H (S.set j [])):=by
 obtain⟨wss,U,ac,ag⟩:=U;have av:∀ad:Addr,a=some ad->ad.spot=none:=λad K=>by
  rcases U with⟨O,_⟩ | ⟨bk,f,O,_⟩
  ·rw [O] at K;cases K
  ·rw [O] at K;cases K;rfl
 obtain⟨O,aw⟩:=Hm ap aq;obtain⟨E',hle,ay,az,al⟩:=Vv U aw;rw [← O] at al;refine⟨E',hle,?_,az,al⟩;obtain⟨a0,a1,Y,a2,a7,Z⟩:=ay;obtain⟨rfl,-,rfl⟩:a=a0/\xs.length=xs.length/\c=a1:=by
  simp only [Value.slice.injEq] at Y;exact⟨Y.1,V,Y.2.2⟩
 refine⟨a2,?_⟩;rcases Z with Z | ⟨bk,off,f,a3,fr,a4,g2,a5⟩
 ·exact .inl ⟨List.eq_nil_of_length_eq_zero Z,λad K=> .inl (av ad K)⟩
 ·refine .inr ⟨bk,off,a4,λi x am=>?_⟩;have a6:i<wss.length:=by rw [ac];exact(List.getElem?_eq_some_iff.1 am).1
  have hw:=List.getElem?_eq_getElem a6;refine⟨wss[i],pp.Ah hle (ag i x _ am hw),f,a3,fr,g2,λm w hm=>?_⟩;rw [Nat.add_assoc];exact a5 _ w (Ky (Ip ac ag) hw m w hm)
theorem Ci.get{s s₀:St}(h:Ci s s₀){b:Nat}{o:Obj}(K:s₀.get b=some o):s.get b=some o:=by
 unfold St.get at K ⊢;cases O:s₀.E b with
 | some o'=>
  rw [O] at K;simp only at K;cases K;rcases h.ER _ _ O with U | ⟨U,_⟩
  ·rw [U]
  ·cases he:s.E b with
   | none=>exact U
   | some Y=>
    have:=h.ext _ _ he;rw [O] at this;cases this;rfl
 | none=>
  rw [O] at K;simp only at K;cases he:s.E b with
  | none=>exact h.own _ _ K
  | some Y=>
   have:=h.ext _ _ he;rw [O] at this;cases this
theorem Ci.upd{s s₀:St}(h:Ci s s₀){b:Nat}(o:Obj)(hb:(∃u,s₀.H b=some u)∨s₀.E b=none):Ci (s.upd b o) (s₀.upd b o):=by
 refine⟨h.ext,λx u K=>?_,λx u K=>?_,h.q⟩
 ·simp only [St.upd] at K ⊢;by_cases e:x=b
  ·rw [if_pos e] at K ⊢;exact K
  ·rw [if_neg e] at K ⊢;exact h.own _ _ K
 ·have O:s₀.E x=some u:=K;rcases h.ER _ _ O with U | ⟨U,Y⟩
  ·exact .inl U
  ·refine .inr ?_;have e:x≠b:=λe=>by
    subst e;rcases hb with⟨w,hw⟩ | hb
    ·rw [hw] at Y;cases Y
    ·rw [hb] at O;cases O
   simp only [St.upd,if_neg e];exact⟨U,Y⟩
theorem Ci.none{s s₀:St}(h:Ci s s₀){b:Nat}(U:s.E b=none)(O:s.H b=none):s₀.E b=none/\s₀.H b=none:=by
 constructor
 ·cases he:s₀.E b with
  | none=>rfl
  | some o=>
   rcases h.ER _ _ he with K | ⟨K,_⟩
   ·rw [U] at K;cases K
   ·rw [O] at K;cases K
 ·cases he:s₀.H b with
  | none=>rfl
  | some o=>have:=h.own _ _ he;rw [O] at this;cases this
theorem YI{P:Program}{α:Type}(x:Sem α):∀{s s₀:St} {Q:α->St->Prop} {X:Halt->St->Prop},Ci s s₀->lp P x s₀ Q X->lp P x s (λa s'=>∃Z,Ci s' Z/\Q a Z) (λh s'=>∃Z,Ci s' Z/\X h Z):=by
 induction x with
 | pure a=>intro s s₀ Q X g h;exact⟨s₀,g,h⟩
 | load m a k K=>
  intro s s₀ Q X g h;obtain⟨O,v,U,Y⟩:=h;obtain⟨o,al,am⟩:=Option.bind_eq_some_iff.1 U;exact⟨O,v,by unfold St.cell?;rw [g.get al];exact am,K v g Y⟩
 | store m a v k K=>
  intro s s₀ Q X g h;obtain⟨O,U,o,Y,ap,aq,av⟩:=h;exact⟨O,U,o,g.own _ _ Y,ap,aq,K (g.upd _ (.inl ⟨o,Y⟩)) av⟩
 | new o k K=>
  intro s s₀ Q X g h;refine⟨by rw [← g.q];exact h.1,λr O U=>?_⟩;obtain⟨ag,e2⟩:=g.none O U;exact K r (g.upd _ (.inr ag)) (h.2 r ag e2)
 | shape r k K=>intro s s₀ Q X g h;obtain⟨o,O,U⟩:=h;exact⟨o,g.get O,K _ g U⟩
 | freeze a n k K=>intro s s₀ Q X g h;exact h.elim
 | frozen a k K=>intro s s₀ Q X g h;obtain⟨o,O,U⟩:=h;exact⟨o,g.get O,K _ g U⟩
 | getObj r k K=>intro s s₀ Q X g h;obtain⟨o,O,U,Y⟩:=h;exact⟨o,g.get O,U,K _ g Y⟩
 | setObj r o k K=>
  intro s s₀ Q X g h;obtain⟨⟨o',O,aw⟩,U,Y⟩:=h;exact⟨⟨o',g.own _ _ O,aw⟩,U,K (g.upd _ (.inl ⟨o',O⟩)) Y⟩
 | choose q k K=>
  intro s s₀ Q X g h;simp only [lp] at h ⊢;split
  ·rename_i ac;rw [if_pos ac] at h;exact K _ g h
  ·rename_i ac;rw [if_neg ac] at h;exact⟨by rw [← g.q];exact h.1,λt=>K _ g (h.2 t)⟩
 | sys c k K=>intro s s₀ Q X g h;exact h.elim
 | program k K=>intro s s₀ Q X g h;exact K _ g h
 | mark m k K=>
  intro s s₀ Q X g h;refine⟨?_,K g h.2⟩;rcases h.1 with⟨O,U⟩ | O
  ·exact .inl ⟨by rw [← g.q];exact O,U⟩
  ·exact .inr O
 | halt h=>intro s s₀ Q X g ay;exact⟨s₀,g,ay⟩
variable {J:Judge P}{Q:Gs_}{b:Frame}{n:Nat}{ds:Ld_}{ops:Ao_}{k:Li_}{cs:Lf_}{m:Nat}{D:Nat->Bool}{L:Env}{H:LH}{S:List Seg}
variable {v:Value}{kd:IntKind}
section
variable {fuel:Nat}{listed:Array Bool}
variable {x y:Operand}{e:TypeId}{i:Nat}
theorem Sa{f:FuncId}{args:Array Operand}{ats:Array TypeId}{vs:Lv_}{seg:Seg}{R:Value->LH->Seg->Prop}(j:Nat)(a0:∀x,D x=true->∃(O:Nat) (o:Obj),(S.set j [])[O]? =some [(x,o)])(a1:AP J f vs E seg R)(a2:Region.ready .any ops listed= [i])
  (a3:ops[i]? =some ⟨d,.call ⟨.value (.func f),args,ats⟩,ty,p,af,g⟩) (a4:Bh n d=true) (hw:AN L ops ⟨d,.call ⟨.value (.func f),args,ats⟩,ty,p,af,g⟩=some true) (hb:DX P f=true) (a5:evs L args.toList=some vs) (Z:Aq E H S) (ac:S[j]? =some seg)
  (a6:∀v E' seg',Le E E'->R v E' seg'->Aq E' H (S.set j seg')->AQ J Q b n ds ops k cs m D fuel (A5 listed i) (Ax L d v) (Aj E' H (S.set j seg'))):
  AQ J Q b n ds ops k cs m D (fuel+1) listed L (Aj E H S):=by
 have al:S.flatten.Perm (seg++(S.set j []).flatten):=(Es (seg':=seg) ac).1.trans List.perm_append_comm;have am:Nd E H (seg++(S.set j []).flatten):=Nd.perm Z al;have a7:Aj E H S=mk E (Bm (S.set j []).flatten H) seg:=by
  rw [show Aj E H S=mk E H S.flatten from rfl,Fv Z al];unfold mk;rw [Ga]
 have ap:=EU.LJ (a1 (Bm (S.set j []).flatten H) (Nd.front am)) (by rintro v s' ⟨E',B',_,_,_,rfl⟩;rfl);rw [← a7] at ap;refine AQ.call V a2 a3 a4 hw hb a5 ap ?_;rintro v bw ⟨⟨E',B',hle,a8,a9,rfl⟩,w,bb⟩;have e2:mk E' (Bm (S.set j []).flatten H) B'=mk E' H (B'++(S.set j []).flatten):=by unfold mk;rw [Ga]
 have be:Nd E H (S.set j []).flatten:=by
  have:=am;rw [Nd.iff] at this ⊢;rw [List.map_append,List.nodup_append] at this;exact⟨this.1.2.1,λq bi=>this.2 q (List.mem_append_right _ bi)⟩
 have bn:Nd E' H (S.set j []).flatten:=be.grow λx U=>by
  have bo:=bb.d x U;have ag:Bm B' (Bm (S.set j []).flatten H) x=none:=bo;exact(Ie ag).1
 have aq:Nd E' H (B'++(S.set j []).flatten):=Nd.glue a9 bn;have av:(B'++(S.set j []).flatten).Perm (S.set j B').flatten:=List.perm_append_comm.trans (Es ac).2.symm;have aw:Aq E' H (S.set j B'):=Nd.perm aq av;rw [e2,Fv aq av];refine⟨V,λx o U=>?_,a6 v E' B' hle a8 aw⟩;by_cases hd:D x=true
 ·obtain⟨O,o',Y⟩:=a0 x hd;have ay:j≠O:=λh=>by
   subst h;rw [List.getElem?_set_self (List.getElem?_eq_some_iff.1 ac).1] at Y;cases Y
  have az:S[O]? =some [(x,o')]:=by rw [List.getElem?_set_ne ay] at Y;exact Y
  have ag:(Aj E H S).get x=some o':=DJ (i:=0) Z az V;have bv:(Aj E' H (S.set j B')).get x=some o':=DJ (i:=0) aw (by rw [List.getElem?_set_ne ay];exact az) rfl;have K:(if D x then(Aj E H S).get x else E x)=some o:=U
  show(if D x then(Aj E' H (S.set j B')).get x else E' x)=some o
  rw [if_pos hd] at K ⊢;rw [bv,← ag];exact K
 ·have K:(if D x then(Aj E H S).get x else E x)=some o:=U
  show(if D x then(Aj E' H (S.set j B')).get x else E' x)=some o
  rw [if_neg hd] at K ⊢;exact hle _ _ K
theorem AQ.perm{S':List Seg}(K:S.flatten.Perm S'.flatten)(O:Aq E H S)(h:Aq E H S'->AQ J Q b n ds ops k cs m D fuel listed L (Aj E H S')):AQ J Q b n ds ops k cs m D fuel listed L (Aj E H S):=by
 have e:Aj E H S=Aj E H S':=Fv O K;rw [e];exact h (Nd.perm O K)
theorem JA.ghost:∀(fuel:Nat) {listed:Array Bool} {T:Av_} {s s₀:St},Ci s s₀->JA J Q b ds ops k cs m Dp fuel listed T s₀->JA J Q b ds ops k cs m Dp fuel listed T s
 | 0,listed,T,s,s₀,g,h=>⟨h.1,J.ghost g h.2⟩
 | fuel+1,listed,T,s,s₀,g,h=>by
  rcases h with⟨O,U⟩ | ⟨O,U,ac⟩
  ·exact .inl ⟨O,λt=>J.ghost g (U t)⟩
  ·refine .inr ⟨O,by rw [← g.q];exact U,λi hi o ag=>?_⟩;obtain⟨a1,al,am⟩:=ac i hi o ag;refine⟨a1,λe=>JA.ghost fuel g (al e),λe=>?_⟩;have ap:=YI _ (s:=Bo Dp s) (s₀:=Bo Dp s₀) g (am e);refine Et _ ap ?_ (λ_ s' ⟨_,_,h⟩=>h);intro aq s' K;obtain⟨Y,Z,K⟩:=K;cases aq with
   | value v=>exact JA.ghost fuel (s:=s') (s₀:=Y) Z K
   | skip=>exact JA.ghost fuel (s:=s') (s₀:=Y) Z K
   | enter f args=>
    obtain⟨R,av,aw⟩:=K;refine⟨R,λQ c cs ay=>J.ghost (s:=s') (s₀:=Y) Z (av Q c cs ay),λv az a0=>?_⟩;obtain⟨a2,a3,a4⟩:=aw v az a0;exact⟨a2,λx o K=>a3 x o (g.ext x o K),a4⟩
   | _=>exact K.elim
theorem Gj{α:Type}{pp:Rp α}{a:Option Addr}{c:Nat}{seg:Seg}{xs:List α}(j:Nat)(K:OL e pp E a c seg xs)(O:Aq E H S)(U:S[j]? =some seg)
  (h:∀E',Le E E'->An pp E' a c xs->Aq E' H (S.set j [])->AQ J Q b n ds ops k cs m Dp fuel listed L (Aj E' H (S.set j []))):AQ J Q b n ds ops k cs m Dp fuel listed L (Aj E H S):=λT Y=>by
 obtain⟨E',Z,ac,ag,al⟩:=VE j K O U
 exact JA.ghost _ al (h E' Z ac ag T Y)
end
theorem oi{α:Type}{a b:α}(h:some a=some b):a=b:=Option.some.inj h
theorem bs{α β:Type}{o:Option α}{f:α->Option β}{r:β}(h:o.bind f=some r):∃x,o=some x/\f x=some r:=bind_some h
def Is(L:Env):Env->List (Option Value)
 | []=> []
 | (t,_)::L'=>look L t::Is L L'
def Ix:Env->List (Option Value)
 | []=> []
 | (_,v)::L'=>some v::Ix L'
theorem Oe{L:Env}:∀{L':Env},Is L L'=Ix L'->Sub L' L
 | [],_=>trivial
 | (t,v)::L',h=>by
  simp only [Is,Ix,List.cons.injEq] at h
  exact⟨h.1,Oe h.2⟩
variable {L':Env}{k':Li_}{rest:List Nat}
variable {op:Op}
section
variable {i:Nat}
theorem EA(L':Env)(h:Is L L'=Ix L')(k':JL J Q b n L' ds k cs s):JL J Q b n L ds k cs s:=Ff (Oe h) k'
theorem AB(k':JL J Q b n L' ds k cs s)(h:Is L L'=Ix L'):JL J Q b n L ds k cs s:=Ff (Oe h) k'
def FB(b:Frame)(n:Nat)(L:Env)(ops:Ao_)(i:Nat):Option Oper:=
 match Jz ops.toList i with
 | some ⟨d,op,ty,p,af,g⟩=>match AN L ops ⟨d,op,ty,p,af,g⟩ with
  | some true=>match BM b n ⟨d,op,ty,p,af,g⟩ with
   | true=>some ⟨d,op,ty,p,af,g⟩
   | false=>none
  | _=>none
 | none=>none
theorem KC{o:Oper}(h:FB b n L ops i=some o):ops[i]? =some o/\AN L ops o=some true/\BM b n o=true:=by
 unfold FB at h;split at h
 ·rename_i K;rw [Lu,Array.getElem?_toList] at K;split at h
  ·rename_i hw;split at h
   ·rename_i O;cases h;exact⟨K,hw,O⟩
   ·cases h
  ·cases h
 ·cases h
theorem Am(K:FB b n L ops i=some ⟨d,op,ty,p,af,g⟩)(h:∀ρ,EO L ρ->Yl P ⟨d,op,ty,p,af,g⟩ ρ s v)(O:JL J Q b n (Ax L d v) ds (.inRegion ops rest::k) cs s):
  JL J Q b n L ds (.inRegion ops (i::rest)::k) cs s:=
 let ⟨U,Y,Z⟩:=KC K
 A2 U Y Z h O
theorem Qu{f:FuncId}{fn:Func}{c:Code}{E:LH}{vs:Lv_}{B:Seg}{R:Value->LH->Seg->Prop}(O:P.funcs[f]? =some fn)(hb:fn.body=some c)(U:Nat.ble vs.length fn.ntmps=true)
  (h:∀(Q:Gs_) (K:Frame) (cs:Lf_) (H:LH),Aq E H [B]->(∀v E' S' B',Le E E'->S'.flatten=B'->R v E' B'->Aq E' H S'->J.ok Q (G (K.finish v) cs) (Aj E' H S'))->JL J Q (base f) fn.ntmps (Gr 0 vs) [] [.code c] (K::cs) (Aj E H [B])):AP J f vs E B R:=
 AP.enter O hb (Nat.le_of_ble_eq_true U) h
def OO(n:Nat)(L:Env)(ops:Ao_)(i:Nat):Option Env:=
 match Jz ops.toList i with
 | some ⟨d,op,ty,p,af,g⟩=>match AN L ops ⟨d,op,ty,p,af,g⟩ with
  | some true=>match Bh n d with
   | true=>match KW L op with
    | some v=>match d with
     | some d=>some ((d,v)::L)
     | none=>some L
    | none=>none
   | false=>none
  | some false=>match Bh n d with
   | true=>match d with
    | some d=>some ((d,undef)::L)
    | none=>some L
   | false=>none
  | none=>none
 | none=>none
def G8(n:Nat)(L:Env)(ops:Ao_)(i:Nat):Option Oper:=
 match Jz ops.toList i with
 | some ⟨d,op,ty,p,af,g⟩=>match AN L ops ⟨d,op,ty,p,af,g⟩ with
  | some true=>match Bh n d with
   | true=>some ⟨d,op,ty,p,af,g⟩
   | false=>none
  | _=>none
 | none=>none
theorem Pp{o:Oper}(h:G8 n L ops i=some o):ops[i]? =some o/\AN L ops o=some true/\Bh n o.dst=true:=by
 unfold G8 at h;split at h
 ·rename_i K;rw [Lu,Array.getElem?_toList] at K;split at h
  ·rename_i hw;split at h
   ·rename_i O;cases h;exact⟨K,hw,O⟩
   ·cases h
  ·cases h
 ·cases h
theorem XA(h:OO n L ops i=some L'):∃o,ops[i]? =some o/\Bh n o.dst=true/\((∃v,AN L ops o=some true/\KW L o.op=some v/\L'=Ax L o.dst v)∨(AN L ops o=some false/\L'=Ax L o.dst undef)):=by
 unfold OO at h;split at h
 ·rename_i d op ty p af g O;rw [Lu,Array.getElem?_toList] at O;refine⟨_,O,?_⟩;split at h
  ·rename_i hw;split at h
   ·rename_i K;refine⟨K,.inl ?_⟩;split at h
    ·rename_i v U;refine⟨v,hw,U,?_⟩;cases d with
     | none=>cases h;rfl
     | some d=>cases h;rfl
    ·cases h
   ·cases h
  ·rename_i hw;split at h
   ·rename_i K;refine⟨K,.inr ⟨hw,?_⟩⟩;cases d with
    | none=>cases h;rfl
    | some d=>cases h;rfl
   ·cases h
  ·cases h
 ·cases h
variable {fuel:Nat}{listed:Array Bool}
theorem Dz(i:Nat)(K:Eg ops m=true)(O:s.q=false)(h:OO n L ops i=some L')
  (U:AQ J Q b n ds ops k cs m D fuel (A5 listed i) L' s) (hc:Gs ops listed m i=true:=by decide+kernel):AQ J Q b n ds ops k cs m D (fuel+1) listed L s:=by
 obtain⟨o,Y,Z,⟨v,hw,ac,rfl⟩ | ⟨hw,rfl⟩⟩:=XA h
 ·exact JG.val i Y K hc O hw Z (λρ ag s' _=>Nz ag ac) U
 ·exact cq i Y K hc O hw Z U
theorem AJ(i:Nat)(K:Eg ops m=true)(O:s.q=false)(U:G8 n L ops i=some ⟨d,op,ty,p,af,g⟩)
  (Y:∀ρ,EO L ρ->∀s':St,(∀x o,(Bo D s).E x=some o->s'.E x=some o)->Yl P ⟨d,op,ty,p,af,g⟩ ρ s' v)
  (Z:AQ J Q b n ds ops k cs m D fuel (A5 listed i) (Ax L d v) s) (hc:Gs ops listed m i=true:=by decide+kernel):AQ J Q b n ds ops k cs m D (fuel+1) listed L s:=by
 obtain⟨ac,ag,al⟩:=Pp U;exact JG.val i ac K hc O ag al Y Z
end
abbrev Jn(E H E':LH)(S:List Seg)(K L:Env)(s:St)(R:Prop):Prop:=L=K/\s=Aj E' H S/\Le E E'/\Aq E' H S/\R
abbrev Jm(E H E':LH)(S:List Seg)(K L:Env)(s:St):Prop:=L=K/\s=Aj E' H S/\Le E E'/\Aq E' H S
def OD(L:Env):List ResultVar->Option (Lv_)
 | []=>some []
 | .tmp t::rs=>match look L t with
  | some v=>match OD L rs with
   | some vs=>some (v::vs)
   | none=>none
  | none=>none
 | _=>none
theorem S3{P:Program}{L:Env}{s:St}:∀{rs:List ResultVar} {vs:Lv_},OD L rs=some vs->RV P L s rs vs
 | [],vs,h=>by cases h;trivial
 | .tmp t::rs,vs,h=>by
  unfold OD at h
  split at h
  ·rename_i v K
   split at h
   ·rename_i ws hw;cases h;exact⟨K,S3 hw⟩
   ·cases h
  ·cases h
 | .cell _ _::_,_,h=>by cases h
variable {ft:TypeId}
section
variable {i:Nat}
variable {x y:Operand}{e:TypeId}
theorem AX{c:Frame}{fn:Func}{vs:Lv_}(O:P.funcs[b.fn]? =some fn)(K:(b.kind== .normal&&b.roundOf.isNone)=true)(U:OD L fn.results.toList=some vs)(h:J.ok Q (G (c.finish (NP vs)) cs) s):JL J Q b n L [] (.code .ret::k) (c::cs) s:=by
 simp only [Bool.and_eq_true,beq_iff_eq,Option.isNone_iff_eq_none] at K;exact JL.ret K.1 K.2 (Bz.list O V (S3 U)) h
theorem BP{f:FuncId}{args:Array Operand}{ats:Array TypeId}{vs:Lv_}{R:Value->LH->Seg->Prop}
  (O:AP J f vs E [] R) (U:FB b n L ops i=some ⟨d,.call ⟨.value (.func f),args,ats⟩,ty,p,af,g⟩) (Y:evs L args.toList=some vs) (hb:DX P f=true)
  (Z:Aq E H S) (ac:∀v E' seg',Le E E'->R v E' seg'->Aq E' H (S++ [seg'])->JL J Q b n (Ax L d v) ds (.inRegion ops rest::k) cs (Aj E' H (S++ [seg']))):
  JL J Q b n L ds (.inRegion ops (i::rest)::k) cs (Aj E H S):=by
 obtain⟨ag,al,K⟩:=KC U;refine JS.call O ag al ?_ hb Y Z ac;simp only [BM,Bool.and_eq_true] at K ⊢;exact⟨K.1,K.2.1⟩
theorem CH{f:FuncId}{args:Array Operand}{ats:Array TypeId}{vs:Lv_}{v:Value}
  (O:AP J f vs E [] (λw E' B'=>w=v/\B'= [])) (U:FB b n L ops i=some ⟨d,.call ⟨.value (.func f),args,ats⟩,ty,p,af,g⟩) (Y:evs L args.toList=some vs) (hb:DX P f=true)
  (K:Aq E H S) (Z:∀E',Le E E'->Aq E' H (S++ [[]])->JL J Q b n (Ax L d v) ds (.inRegion ops rest::k) cs (Aj E' H (S++ [[]]))):
  JL J Q b n L ds (.inRegion ops (i::rest)::k) cs (Aj E H S):=BP O U Y hb K (by rintro _ E' _ hle ⟨rfl,rfl⟩ K;exact Z E' hle K)
theorem Db{f:FuncId}{args:Array Operand}{ats:Array TypeId}{vs:Lv_}{seg:Seg}{R:Value->LH->Seg->Prop}(j:Nat)
  (O:AP J f vs E seg R) (U:FB b n L ops i=some ⟨d,.call ⟨.value (.func f),args,ats⟩,ty,p,af,g⟩) (Y:evs L args.toList=some vs) (hb:DX P f=true)
  (Z:Aq E H S) (ac:S[j]? =some seg) (ag:∀v E' seg',Le E E'->R v E' seg'->Aq E' H (S.set j seg')->JL J Q b n (Ax L d v) ds (.inRegion ops rest::k) cs (Aj E' H (S.set j seg'))):
  JL J Q b n L ds (.inRegion ops (i::rest)::k) cs (Aj E H S):=by
 obtain⟨al,am,K⟩:=KC U;refine SU j O al am ?_ hb Y Z ac ag;simp only [BM,Bool.and_eq_true] at K ⊢;exact⟨K.1,K.2.1⟩
def My(K:Array Field)(i:Nat):Option (Nat×TypeId):=match K[i]? with
 | some f=>some (f.offset,f.type)
 | none=>none
theorem Bl{r m m':Int}{u:TypeId}(h:Ar (m+m')=some r)(K:FB b n L ops i=some ⟨d,.binOp .add t x y u,ty,p,af,g⟩)(O:ev L x=some (iV m))(U:ev L y=some (iV m'))
  (Y:JL J Q b n (Ax L d (iV r)) ds (.inRegion ops rest::k) cs s):JL J Q b n L ds (.inRegion ops (i::rest)::k) cs s:=Am K (λ_ q=>FF (q _ _ O) (q _ _ U) h) Y
theorem Cu{r m m':Int}{u:TypeId}(h:Ar (m - m')=some r)(K:FB b n L ops i=some ⟨d,.binOp .sub t x y u,ty,p,af,g⟩)(O:ev L x=some (iV m))(U:ev L y=some (iV m'))
  (Y:JL J Q b n (Ax L d (iV r)) ds (.inRegion ops rest::k) cs s):JL J Q b n L ds (.inRegion ops (i::rest)::k) cs s:=Am K (λ_ q=>C3 (q _ _ O) (q _ _ U) h) Y
theorem JL.ln{a:Option Addr}{e:TypeId}{l c:Nat}{ats:Array TypeId}(K:P.underlying t=some (.slice e))(O:FB b n L ops i=some ⟨d,.call ⟨.builtin .len,#[x],ats⟩,ty,p,af,g⟩)(U:ats[0]? =some t)(Y:ev L x=some (.slice a l c))
  (Z:JL J Q b n (Ax L d (.int .i64 l)) ds (.inRegion ops rest::k) cs s):JL J Q b n L ds (.inRegion ops (i::rest)::k) cs s:=Am O (λ_ q=>Yl.len U K (q _ _ Y)) Z
theorem JL.fd{bk o O off:Nat}{U:Array Field}{Y:Nat}(Z:P.underlying t=some (.struct U))(ac:Bp P ft=some (O+1))(ag:FB b n L ops i=some ⟨d,.fieldAddr t x Y,ty,p,af,g⟩)(al:ev L x=some (.pointer (some ⟨bk,o,none⟩)))(K:My U Y=some (off,ft))
  (am:JL J Q b n (Ax L d (.pointer (some ⟨bk,o+off,none⟩))) ds (.inRegion ops rest::k) cs s):
  JL J Q b n L ds (.inRegion ops (i::rest)::k) cs s:=by
 unfold My at K;split at K
 ·rename_i f ap;cases K;refine Am ag (λρ h=>GG (a:=⟨bk,o,none⟩) O f.offset Z ac ap V V (h _ _ al)) ?_;rw [Ef rfl];exact am
 ·cases K
theorem CQ{bk o:Nat}{ws:Lv_}(j:Nat)(K:At E bk o ws)(O:Dm P t=some false)(U:FB b n L ops i=some ⟨d,.load t x,ty,p,af,g⟩)(Y:ev L x=some (.pointer (some ⟨bk,o+j,none⟩)))(Z:ws[j]? =some v)
  (ac:JL J Q b n (Ax L d v) ds (.inRegion ops rest::k) cs (Aj E H S)):
  JL J Q b n L ds (.inRegion ops (i::rest)::k) cs (Aj E H S):=
 Am U (λ_ h=>Yl.load O (h _ _ Y) (At.LC K Z)) ac
theorem du{bk off:Nat}{c:Av_}(j:Nat)(K:Aq E H S)(O:Bp P t=some v.cells.size)(U:FB b n L ops i=some ⟨d,.store t x y,ty,p,af,g⟩)
  (Y:ev L x=some (.pointer (some ⟨bk,off,none⟩))) (Z:ev L y=some v) (ac:S[j]? =some [(bk,.cells c e (0,0))])
  (h:Aq E H (S.set j [(bk,.cells (Bc c off v.cells.toList) e (0,0))])->JL J Q b n (Ax L d undef) ds (.inRegion ops rest::k) cs (Aj E H (S.set j [(bk,.cells (Bc c off v.cells.toList) e (0,0))])))
  (hle:off+v.cells.size<=c.size:=by exact Nat.le_of_ble_eq_true rfl) (ag:∀u∈v.cells.toList,Dj u=true:=by simp [Value.cells,Dj]):
  JL J Q b n L ds (.inRegion ops (i::rest)::k) cs (Aj E H S):=by
 obtain⟨al,am,ap⟩:=KC U;exact JS.store j al am ap K Y Z O ag ac hle h
theorem Cg{bk o:Nat}{ws:Lv_}(K:At E bk o ws)(O:Dm P t=some true)(U:Bp P t=some ws.length)(Y:FB b n L ops i=some ⟨d,.load t x,ty,p,af,g⟩)(Z:ev L x=some (.pointer (some ⟨bk,o,none⟩)))
  (ac:JL J Q b n (Ax L d (.agg ws.toArray)) ds (.inRegion ops rest::k) cs (Aj E H S)):
  JL J Q b n L ds (.inRegion ops (i::rest)::k) cs (Aj E H S):=
 Am Y (λ_ h=>JV O U (h _ _ Z) (At.QA K)) ac
variable {fuel:Nat}{listed:Array Bool}
theorem JG.fd{bk o O off:Nat}{U:Array Field}{Y:Nat}(i:Nat)(Z:Eg ops m=true)(ac:P.underlying t=some (.struct U))(ag:Bp P ft=some (O+1))(al:s.q=false)(am:G8 n L ops i=some ⟨d,.fieldAddr t x Y,ty,p,af,g⟩)(ap:ev L x=some (.pointer (some ⟨bk,o,none⟩)))(K:My U Y=some (off,ft))
  (aq:AQ J Q b n ds ops k cs m D fuel (A5 listed i) (Ax L d (.pointer (some ⟨bk,o+off,none⟩))) s) (hc:Gs ops listed m i=true:=by decide+kernel):AQ J Q b n ds ops k cs m D (fuel+1) listed L s:=by
 unfold My at K;split at K
 ·rename_i f av;cases K;refine AJ i Z al am (λρ h _ _=>GG (a:=⟨bk,o,none⟩) O f.offset ac ag av V V (h _ _ ap)) ?_ hc;rw [Ef rfl];exact aq
 ·cases K
theorem CP{bk o:Nat}{ws:Lv_}(i:Nat)(K:Eg ops m=true)(j:Nat)(O:At (Bo D s).E bk o ws)(U:Dm P t=some false)(Y:s.q=false)(Z:G8 n L ops i=some ⟨d,.load t x,ty,p,af,g⟩)(ac:ev L x=some (.pointer (some ⟨bk,o+j,none⟩)))(ag:ws[j]? =some v)
  (al:AQ J Q b n ds ops k cs m D fuel (A5 listed i) (Ax L d v) s) (hc:Gs ops listed m i=true:=by decide+kernel):AQ J Q b n ds ops k cs m D (fuel+1) listed L s:=
 AJ i K Y Z (λ_ h _ am=>Yl.load U (h _ _ ac) (At.Ju O am ag)) al hc
theorem Jq{bk o:Nat}{ws:Lv_}(i:Nat)(K:Eg ops m=true)(O:At (Bo D s).E bk o ws)(U:Dm P t=some true)(Y:Bp P t=some ws.length)(Z:s.q=false)(ac:G8 n L ops i=some ⟨d,.load t x,ty,p,af,g⟩)(ag:ev L x=some (.pointer (some ⟨bk,o,none⟩)))
  (al:AQ J Q b n ds ops k cs m D fuel (A5 listed i) (Ax L d (.agg ws.toArray)) s) (hc:Gs ops listed m i=true:=by decide+kernel):AQ J Q b n ds ops k cs m D (fuel+1) listed L s:=
 AJ i K Z ac (λ_ h _ am=>JV U Y (h _ _ ag) (At.bO O am)) al hc
end
abbrev Ra:=Int×List Int×Nat
abbrev AH:=List (Int×Int)
abbrev Fa:=List Int×Int×Nat
abbrev Ao:=Option Addr
abbrev Er:Rp (Int×Int):=rP rI rI
theorem ip{α:Type}{p:Prop} [Decidable p] {A B:Option α}{r:α}(h:(if p then A else B)=some r)(c:p):A=some r:=by rwa [if_pos c] at h
theorem im{α:Type}{p:Prop} [Decidable p] {A B:Option α}{r:α}(h:(if p then A else B)=some r)(c:¬p):B=some r:=by rwa [if_neg c] at h
theorem ib{α:Type}{c:Bool}{A B:Option α}{r:α}(h:(if c=true then A else B)=some r)(hc:c=false):B=some r:=by subst hc;simpa using h
def Q3(n:Nat)(ops:Ao_):List Nat->Nat->Env->Option (Nat×Env)
 | [],f,L=>some (f,L)
 | i::l,f+1,L=>match OO n L ops i with
  | some L'=>Q3 n ops l f L'
  | none=>none
 | _::_,0,_=>none
def QL(ops:Ao_)(m:Nat):Array Bool->List Nat->Bool
 | _,[]=>true
 | listed,i::l=>Gs ops listed m i&&QL ops m (A5 listed i) l
def Va:Array Bool->List Nat->Array Bool
 | listed,[]=>listed
 | listed,i::l=>Va (A5 listed i) l
theorem AR{P:Program}{J:Judge P}{Q:Gs_}{b:Frame}{n:Nat}{ds:Ld_}{k:Li_}{cs:Lf_}{s:St}{ops:Ao_}{m:Nat}{D:Nat->Bool}{L':Env}{O:Nat}(U:Eg ops m=true)(Y:s.q=false):
  ∀(l:List Nat) {fuel:Nat} {listed:Array Bool} {L:Env},Q3 n ops l fuel L=some (O,L')->AQ J Q b n ds ops k cs m D O (Va listed l) L' s->(hc:QL ops m listed l=true:=by decide+kernel)->AQ J Q b n ds ops k cs m D fuel listed L s
 | [],fuel,listed,L,h,K,_=>by cases h;exact K
 | i::l,fuel,listed,L,h,K,hc=>by
  cases fuel with
  | zero=>cases h
  | succ fuel=>
   unfold QL at hc;rw [Bool.and_eq_true] at hc;unfold Q3 at h;split at h
   ·rename_i Z e;exact Dz i U Y e (AR U Y l h K hc.2) hc.1
   ·cases h
theorem zg{P:Program}{J:Judge P}{Q:Gs_}{b:Frame}{n:Nat}{L L':Env}{ds:Ld_}{k k':Li_}{cs:Lf_}{s:St}(m:Nat)(h:Od b n m k L=some (k',L'))(K:JL J Q b n L' ds k' cs s):JL J Q b n L ds k cs s:=JL.go m h K
abbrev C:=@zg
abbrev bX(r:Nat)(c:Av_)(t:TypeId):Seg:= [(r,.cells c t (0,0))]
variable {α:Type}{A B:Option α}{r:α}
section
theorem AL{c:Operand}{x y:Code}{p:Prop} [Decidable p] (K:(if p then A else B)=some r)(O:p->A=some r->JL J Q b n L ds (.code x::k) cs s)(U:¬p->B=some r->JL J Q b n L ds (.code y::k) cs s)
  (hc:ev L c=some (.bool (decide p)):=by exact rfl):JL J Q b n L ds (.code (.cond c x y)::k) cs s:=Gp hc (λh=>O h (ip K h)) λh=>U h (im K h)
theorem Ck{c:Operand}{x y:Code}{t:Bool}(K:(if t=true then A else B)=some r)(O:t=true->A=some r->JL J Q b n L ds (.code x::k) cs s)(U:t=false->B=some r->JL J Q b n L ds (.code y::k) cs s)
  (hc:ev L c=some (.bool t):=by exact rfl):JL J Q b n L ds (.code (.cond c x y)::k) cs s:=PI hc (λh=>O h (ip K h)) λh=>U h (ib K h)
theorem FJ{q:Prop} [Decidable q] (i:Nat)(K:(if q then A else B)=some r)(O:q->A=some r->JL J Q b n (Ax L (some i) (.bool true)) ds k cs s)(U:¬q->B=some r->JL J Q b n (Ax L (some i) (.bool false)) ds k cs s)
  (hc:look L i=some (.bool (decide q)):=by exact rfl):JL J Q b n L ds k cs s:=Mc hc (λh=>O h (ip K h)) λh=>U h (im K h)
theorem EB{t:Bool}(i:Nat)(K:(if t=true then A else B)=some r)(O:t=true->A=some r->JL J Q b n (Ax L (some i) (.bool true)) ds k cs s)(U:t=false->B=some r->JL J Q b n (Ax L (some i) (.bool false)) ds k cs s)
  (hc:look L i=some (.bool t):=by exact rfl):JL J Q b n L ds k cs s:=KA hc (λh=>O h (ip K h)) λh=>U h (ib K h)
theorem CG{K O:Type}{c:Code}{body:K->Option (Bd K O)}{f:Nat}{U:K}{a:O}(Z:iter body f U=some a)(I:Env->St->K->Prop)(ac:I L' s U)
  (round:∀L s x,I L s x->(∀Y,body x=some (.done Y)->Y=a)->(∃st,body x=some st)->(∀L' s' x',I L' s' x'->body x=some (.more x')->JL J Q b n L' ds (.inLoop c::k) cs s')->JL J Q b n L ds (.code c:: .inLoop c::k) cs s)
  (ag:Is L L'=Ix L':=by exact rfl):JL J Q b n L ds (.code (.loop c)::k) cs s:=EA L' ag (Sx Z I ac round)
variable {fuel:Nat}{listed:Array Bool}
def Ow(ops:Ao_):Array Bool->List Nat->Bool
 | _,[]=>true
 | l,i::t=>Region.ready .any ops l== [i]&&Ow ops (A5 l i) t
theorem S8:∀{t:List Nat} {l:Array Bool},Ow ops l t=true->∀u,Region.linearise.go .any ops t.length u l []=t
 | [],_,_,_=>rfl
 | i::t,l,h,u=>by
  unfold Ow at h
  rw [Bool.and_eq_true,beq_iff_eq] at h
  exact aS h.1 (S8 h.2) u
theorem C4(t:List Nat)(K:JL J Q b n L ds (.inRegion ops t::k) cs s)(hc:(QP m listed&&Ow ops listed t&&(fuel+1==t.length))=true:=by decide+kernel):AQ J Q b n ds ops k cs m D (fuel+1) listed L s:=by
 rw [Bool.and_eq_true,Bool.and_eq_true,beq_iff_eq] at hc;exact AQ.leaf hc.1.1 (by rw [hc.2];exact S8 hc.1.2) K
theorem DY(m:Nat){id:Nat}(h:Eg ops m=true->AQ J Q b n ds ops k cs m Dp ops.size (Array.replicate ops.size false) L (Aj E H S))(hm:P.follows .mixedOrders=true:=by exact rfl)(K:(b.kind != .early)=true:=by exact rfl)(O:Eg ops m=true:=by decide+kernel):
  JL J Q b n L ds (.code (.region id ops true)::k) cs (Aj E H S):=X8 m hm K O h
theorem Fz(m:Nat)(bks:List Nat){id:Nat}(K:HS S bks)(O:Aq E H S)(h:Eg ops m=true->AQ J Q b n ds ops k cs m (AD bks) ops.size (Array.replicate ops.size false) L (Aj E H S))(hm:P.follows .mixedOrders=true:=by exact rfl)(U:(b.kind != .early)=true:=by exact rfl)(Y:Eg ops m=true:=by decide+kernel):
  JL J Q b n L ds (.code (.region id ops true)::k) cs (Aj E H S):=XS m bks K O hm U Y h
theorem Di{α:Type}{pp:Rp α}{a:Option Addr}{c:Nat}{xs:List α}{xv:α}{mm:Int}{d:Option Tmp}{x y:Operand}{t ty e:TypeId}{p:String}{af:Ae_}{g:On_}{kd:IntKind}(i:Nat)(K:An pp E a c xs)(O:ix xs mm=some xv)(U:Eg ops m=true)(Y:P.underlying t=some (.slice e))(Z:Bp P e=some pp.n)
  (h:∀bk o ws,pp.r E ws xv->At E bk o ws->AQ J Q b n ds ops k cs m D fuel (A5 listed i) (Ax L d (.pointer (some ⟨bk,o,none⟩))) s)
  (ac:ops[i]? =some ⟨d,.indexAddr t x y,ty,p,af,g⟩:=by exact rfl) (hc:Gs ops listed m i=true:=by decide+kernel) (ag:s.q=false:=by exact rfl)
  (hw:AN L ops ⟨d,.indexAddr t x y,ty,p,af,g⟩=some true:=by exact rfl) (al:Bh n d=true:=by exact rfl)
  (am:ev L x=some (.slice a xs.length c):=by exact rfl) (ap:ev L y=some (.int kd mm):=by exact rfl):
  AQ J Q b n ds ops k cs m D (fuel+1) listed L s:=aU i K O ac U hc ag hw al am ap Y Z h
end
theorem Ez{P:Program}{J:Judge P}{Q:Gs_}{b:Frame}{n:Nat}{ds:Ld_}{ops:Ao_}{k:Li_}{cs:Lf_}{m fuel:Nat}{D:Nat->Bool}{listed:Array Bool}{L L':Env}{s:St}(k':AQ J Q b n ds ops k cs m D fuel listed L' s)(h:Is L L'=Ix L'):AQ J Q b n ds ops k cs m D fuel listed L s:=Dw (Oe h) k'
instance {α:Type} [DecidableEq α] (xs:List α):Decidable (xs= []):=inferInstance
variable {w:Value}
section
variable {i:Nat}
variable {x y:Operand}{e:TypeId}
end
section
variable {fuel:Nat}{listed:Array Bool}
variable {x y:Operand}{e:TypeId}{i:Nat}
theorem Nq{s:St}{D:Nat->Bool}{i j l:Nat}(K:s.q=false)(O:Region.ready .any ops listed= [i,j,l])(hi:Take J Q b n ds ops k cs m D fuel listed L s i)(U:Take J Q b n ds ops k cs m D fuel listed L s j)(Y:Take J Q b n ds ops k cs m D fuel listed L s l):AQ J Q b n ds ops k cs m D (fuel+1) listed L s:=
 Pk K O (by simp) (by intro q K;simp at K;rcases K with rfl | rfl | rfl <;> assumption)
end
theorem An.cut{α:Type}{pp:Rp α}{E:LH}{a:Option Addr}{c:Nat}{xs ys:List α}{lo hi:Int}(Y:An pp E a c xs)(hC:Hy xs lo hi=some ys):
  ∃Z ac,An pp E Z ac ys/\∀{P:Program} {ρ:Operand->Value} {s:St} {d:Option Tmp} {x:Operand} {t ty e:TypeId} {p:String} {af:Ae_} {g:On_} {olo ohi:Option Operand},P.underlying t=some (.slice e)->Bp P e=some pp.n->ρ x= .slice a xs.length c->
   (match ohi with | some w=>ρ w=iV hi | none=>hi=xs.length)->(match olo with | some w=>ρ w=iV lo | none=>lo=0)->Yl P ⟨d,.slice t x olo ohi none,ty,p,af,g⟩ ρ s (.slice Z ys.length ac):=by
 unfold Hy at hC;split at hC
 rotate_left
 ·cases hC
 rename_i hb;obtain⟨a1,a2,ap⟩:=hb;cases hC;obtain⟨lo,rfl⟩:∃l:Nat,lo=l:=⟨lo.toNat,by omega⟩;obtain⟨hi,rfl⟩:∃l:Nat,hi=l:=⟨hi.toNat,by omega⟩;simp only [Int.toNat_natCast] at*;have a3:=Y.1;have hlen:((xs.take hi).drop lo).length=hi - lo:=by simp;omega
 have ag:∀ad:Addr,a=some ad->ad.spot=none∨c=0:=λad K=>by
  rcases Y.2 with⟨_,h⟩ | ⟨bk,off,h,_⟩
  ·exact h ad K
  ·rw [h] at K;cases K;exact .inl V
 refine⟨if c=lo then a else a.map (·.add (lo*pp.n)),c - lo,⟨by rw [hlen];omega,?_⟩,?_⟩
 ·by_cases aq:hi - lo=0
  ·left;refine⟨List.eq_nil_of_length_eq_zero (by rw [hlen];exact aq),λad K=>?_⟩;split at K
   ·exact(ag ad K).imp id λh=>by omega
   ·cases a with
    | none=>cases K
    | some av=>
     simp only [Option.map_some,Option.some.injEq] at K;subst K;exact .inl (by rw [Ef ((ag av rfl).resolve_right (by omega))])
  ·right;rcases Y.2 with⟨h,_⟩ | ⟨bk,off,rfl,O⟩
   ·subst h;simp at ap;omega
   ·refine⟨bk,off+lo*pp.n,?_,λq z U=>?_⟩
    ·rw [if_neg (by omega),Option.map_some,Ef rfl]
    ·rw [List.getElem?_drop,List.getElem?_take] at U;split at U
     ·obtain⟨ws,aw,al⟩:=O _ z U;refine⟨ws,aw,?_⟩;rw [Nat.add_mul] at al;rw [Nat.add_assoc];exact al
     ·cases U
 ·intro P ρ s d x t ty e p af g olo ohi ay az a0 O am;rw [hlen];refine Yl.slice (mx:=c) (hi:=hi) (lo:=lo) ay az a0 V ?_ ?_ (Nat.le_refl _) (by omega) (by omega)
  ·cases ohi with
   | none=>exact⟨by simp only at O;omega,rfl⟩
   | some w=>exact O
  ·cases olo with
   | none=>simp only at am;show lo=0;omega
   | some w=>exact am
section
variable {fuel:Nat}{listed:Array Bool}
theorem HJ{S1 S':List Seg}(K:S=S1)(O:S1.Perm S')(U:Aq E H S)(h:Aq E H S'->AQ J Q b n ds ops k cs m D fuel listed L (Aj E H S')):AQ J Q b n ds ops k cs m D fuel listed L (Aj E H S):=by
 subst K;exact AQ.perm O.flatten U h
end
variable {e2:TypeId}
section
variable {i:Nat}
variable {x y:Operand}{e:TypeId}
def Kc(E:LH):Nat->Bool:=λx=>(E x).isNone
theorem aC(x:Nat):(Bo (Kc E) (Aj E H S)).E x=(Aj E H S).get x:=by
 show(if Kc E x then(Aj E H S).get x else E x)=_
 unfold Kc;cases h:E x with
 | none=>simp
 | some o=>
  rw [if_neg (by simp)];unfold St.get;rw [show(Aj E H S).E x=some o from h]
theorem Q4{s':St}(K:∀x o,(Bo (Kc E) (Aj E H S)).E x=some o->s'.E x=some o){x:Nat}{o:Obj}(h:(Aj E H S).get x=some o):s'.get x=some o:=by
 have:=K x o (by rw [aC];exact h);unfold St.get;rw [this]
theorem MC{s':St}(K:∀x o,(Bo (Kc E) (Aj E H S)).E x=some o->s'.E x=some o){a:Addr}{v:Value}(h:(Aj E H S).cell? a=some v):s'.cell? a=some v:=by
 obtain⟨o,O,U⟩:=Option.bind_eq_some_iff.1 h;unfold St.cell?;rw [Q4 K O];exact U
theorem T7{s':St}(K:∀x o,(Bo (Kc E) (Aj E H S)).E x=some o->s'.E x=some o){a:Addr}{vs:Lv_}(h:∀(i:Nat) v,vs[i]? =some v->(Aj E H S).cell? (Addr.add a i)=some v):∀(i:Nat) v,vs[i]? =some v->s'.cell? (Addr.add a i)=some v:=λi v O=>MC K (h i v O)
theorem QI(m:Nat){id:Nat}(h:Eg ops m=true->AQ J Q b n ds ops k cs m (Kc E) ops.size (Array.replicate ops.size false) L (Aj E H S))(hm:P.follows .mixedOrders=true:=by exact rfl)(K:(b.kind != .early)=true:=by exact rfl)(O:Eg ops m=true:=by decide+kernel):
  JL J Q b n L ds (.code (.region id ops true)::k) cs (Aj E H S):=PH m (Kc E) V hm K (h O)
abbrev rs(q:Nat×Obj)(K:Seg)(p:Nat×Obj)(g2:Seg):Seg:=q::(K++ [p]++g2)
end
variable {bk:Nat}{o:Obj}{xs:List (κ×ν)}{v0:ν}
variable {kk:Li_}
variable {z:Operand}{x0:κ}
section
variable [DecidableEq κ]
def KN(xs:List (κ×ν)):Prop:=(xs.map (·.1)).Nodup
theorem KN.perm{xs ys:List (κ×ν)}(h:KN xs)(p:ys.Perm xs):KN ys:=((p.map (λq:κ×ν=>q.1)).nodup_iff).2 h
theorem SY{xs:List (κ×ν)}(h:KN xs){x:κ}{v:ν}:BC xs x=some v↔(x,v)∈xs:=by
 induction xs with
 | nil=>simp [BC]
 | cons y ys U=>
  have O:y.1 ∉ ys.map (·.1)/\KN ys:=by simpa [KN] using h
  by_cases e:x=y.1
  ·subst e;have K:BC (y::ys) y.1=some y.2:=by simp [BC]
   rw [K];constructor
   ·intro q;cases q;simp
   ·intro q;rcases List.mem_cons.1 q with q | q
    ·rw [← q]
    ·exact absurd (List.mem_map.2 ⟨_,q,V⟩) O.1
  ·have K:BC (y::ys) x=BC ys x:=by simp [BC,e]
   rw [K,U O.2];constructor
   ·intro q;exact List.mem_cons_of_mem _ q
   ·intro q;rcases List.mem_cons.1 q with q | q
    ·exact absurd (by rw [← q]) e
    ·exact q
theorem R1{xs ys:List (κ×ν)}(h:KN xs)(p:ys.Perm xs)(x:κ):BC ys x=BC xs x:=by
 apply Option.ext;intro v;rw [SY h,SY (h.perm p),p.mem_iff]
def Eo(xs:List (κ×ν))(x:κ):List (κ×ν):=xs.filter λy=>decide (x≠y.1)
theorem R2{xs:List (κ×ν)}{x:κ}(h:∀y∈xs,x≠y.1):Eo xs x=xs:=List.filter_eq_self.2 λy K=>by simpa using h y K
theorem Ni{x:κ}{v:ν}:∀{xs:List (κ×ν)},KN xs->(Dr xs x v).Perm ((x,v)::Eo xs x)
 | [],_=> .refl _
 | y::ys,h=>by
  have K:y.1 ∉ ys.map (·.1)/\KN ys:=by simpa [KN] using h
  unfold Dr;by_cases e:x=y.1
  ·rw [if_pos e];have e2:Eo (y::ys) x=ys:=by
    have:Eo (y::ys) x=Eo ys x:=by simp [Eo,e]
    rw [this];exact R2 λz O q=>K.1 (List.mem_map.2 ⟨z,O,by rw [← q,e]⟩)
   rw [e2]
  ·rw [if_neg e];have e2:Eo (y::ys) x=y::Eo ys x:=by simp [Eo,e]
   rw [e2];exact((Ni K.2).cons y).trans (List.Perm.swap _ _ _)
theorem Ps{xs ys:List (κ×ν)}(p:ys.Perm xs)(x:κ):(Eo ys x).Perm (Eo xs x):=p.filter _
theorem Wg{xs ys:List (κ×ν)}(h:KN xs)(p:ys.Perm xs)(x:κ)(v:ν):(Dr ys x v).Perm (Dr xs x v):=
 (Ni (h.perm p)).trans (((Ps p x).cons _).trans (Ni h).symm)
theorem KN.del{xs:List (κ×ν)}(h:KN xs)(x:κ):KN (Eo xs x):=by
 unfold KN Eo;exact List.Nodup.sublist (List.Sublist.map _ List.filter_sublist) h
theorem KN.put{xs:List (κ×ν)}(h:KN xs)(x:κ)(v:ν):KN (Dr xs x v):=by
 refine KN.perm ?_ (Ni h);unfold KN;simp only [List.map_cons,List.nodup_cons];refine⟨λq=>?_,h.del x⟩;obtain⟨z,K,e⟩:=List.mem_map.1 q;have:=(List.mem_filter.1 K).2;simp at this;exact this e.symm
def BA(pk:Rp κ)(ka:Bool)(pv:Rp ν)(va:Bool)(E:LH)(o:Obj)(xs:List (κ×ν)):Prop:=KN xs/\∃ys,ys.Perm xs/\KX pk ka pv va E o ys
theorem BA.Ah{o:Obj}{xs:List (κ×ν)}(h:BA pk ka pv va E o xs)(hle:Le E E'):BA pk ka pv va E' o xs:=
 let ⟨K,ys,O,U⟩:=h;⟨K,ys,O,U.Ah hle⟩
theorem BA.perm{o:Obj}{xs ys:List (κ×ν)}(h:BA pk ka pv va E o xs)(p:ys.Perm xs):BA pk ka pv va E o ys:=
 let ⟨K,O,U,Y⟩:=h;⟨K.perm p,O,U.trans p.symm,Y⟩
theorem BA.nil:BA pk ka pv va E (.map #[] 0) []:=⟨List.nodup_nil,[],.refl _,⟨#[],0,V,trivial,.nil,by simp⟩⟩
def rM(pk:Rp κ)(ka:Bool)(pv:Rp ν)(va:Bool):Rp (List (κ×ν)):=⟨1,λE ws xs=>∃bk o,ws= [.map (some bk)]/\E bk=some o/\BA pk ka pv va E o xs,
 λhle ⟨bk,o,h,K,O⟩=>⟨bk,o,h,hle _ _ K,O.Ah hle⟩,λ⟨bk,o,h,_,_⟩=>by subst h;rfl,λ⟨bk,o,h,_,_⟩ w hw=>by subst h;simp at hw;subst hw;rfl⟩
section
variable {k:Value}{x:κ}
theorem Wk(K:GH P t pk ka)(hm:P.underlying tm=some (.map t te)){z:Value}{z0:ν}(O:zeroOf P te=some z)(U:Vr pv va E z z0)(Y:s.get bk=some o)(Z:BA pk ka pv va E o xs)(ac:Vr pk ka E k x)(ok:Bool){Q:Value->St->Prop}
  (h:∀w,Vr pv va E w ((BC xs x).getD z0)->Q (if ok then .tuple #[w,.bool (BC xs x).isSome] else w) s):lp P (Instr.lookup tm (.map (some bk)) k ok) s Q X:=by
 obtain⟨ag,ys,al,am⟩:=Z;refine WA K hm O U Y am ac ok ?_;rw [R1 ag al];exact h
theorem VC(O:GH P t pk ka)(hm:P.underlying tm=some (.map t te))(U:s.get bk=some o)(Y:s.H bk=some o)(Z:BA pk ka pv va E o xs)(ac:Vr pk ka E k x)(hw:Vr pv va E w v0){Q:Unit->St->Prop}
  (h:∀o',BA pk ka pv va E o' (Dr xs x v0)->Q () (s.upd bk o')):lp P (Instr.mapUpdate tm (.map (some bk)) k w) s Q X:=by
 obtain⟨K,ys,ag,al⟩:=Z;exact VJ O hm U Y al ac hw λo' am=>h o' ⟨K.put _ _,_,Wg K ag _ _,am⟩
theorem Ec.erase(Y:Vr pk ka E k x):∀{es:List MapEntry} {ys:List (κ×ν)} {i:Nat},Ec pk ka pv va E es ys->KN ys->
  (Gx x es ys i=none/\Eo ys x=ys)∨∃j u,Gx x es ys i=some (i+j,u)/\Ec pk ka pv va E (es.eraseIdx j) (Eo ys x)
 | [],[],i,_,_=> .inl ⟨rfl,rfl⟩
 | e::es,y::ys,i,h,Z=>by
  have U:y.1 ∉ ys.map (·.1)/\KN ys:=by simpa [KN] using Z
  unfold Gx;by_cases K:x=y.1
  ·refine .inr ⟨0,e.val,by rw [if_pos K];rfl,?_⟩;have e2:Eo (y::ys) x=ys:=by
    have:Eo (y::ys) x=Eo ys x:=by simp [Eo,K]
    rw [this];exact R2 λz ac q=>U.1 (List.mem_map.2 ⟨z,ac,by rw [← q,K]⟩)
   rw [e2];exact h.2.2
  ·have e2:Eo (y::ys) x=y::Eo ys x:=by simp [Eo,K]
   rcases Ec.erase Y (i:=i+1) h.2.2 U.2 with⟨a1,O⟩ | ⟨j,u,a1,O⟩
   ·exact .inl ⟨by rw [if_neg K];exact a1,by rw [e2,O]⟩
   ·refine .inr ⟨j+1,u,by rw [if_neg K,a1];congr 2;omega,?_⟩;rw [e2];exact⟨h.1,h.2.1,O⟩
 | [],_::_,_,h,_=>h.elim
 | _::_,[],_,h,_=>h.elim
theorem V9(ag:GH P t pk ka)(hm:P.underlying tm=some (.map t te))(av:s.get bk=some o)(al:s.H bk=some o)(aw:BA pk ka pv va E o xs)(K:Vr pk ka E k x){u:TypeId}{Q:Value->St->Prop}
  (h:∀o',BA pk ka pv va E o' (Eo xs x)->Q (.tuple #[]) (s.upd bk o')):lp P (Builtin.delete_ #[tm,t] u #[.map (some bk),k]) s Q X:=by
 obtain⟨O,ys,U,es,c,rfl,Y,am,ap⟩:=aw;unfold Builtin.delete_;simp only [List.getElem?_toArray,List.getElem?_cons_zero,List.getElem?_cons_succ];refine Aw _ _ (Cn hm ?_)
 dsimp only;refine Aw _ _ ?_;unfold getObj;simp only [bind,Sem.bind,lp];refine⟨_,av,V,?_⟩;refine Aw (x:=Instr.checkKey _ 10000 t k) _ (ag.BM K ?_);refine Aw (x:=Instr.findKey t k es.toList) _ (Pb ag K Y ?_);rcases Ec.erase K (i:=0) Y (O.perm U) with⟨Z,e2⟩ | ⟨j,u,Z,e2⟩
 ·rw [Z];simp only [setObj,lp,pure];refine⟨⟨_,al,V⟩,V,h _ ⟨O.del _,_,Ps U x,es,c,V,by rw [e2];exact Y,am,ap⟩⟩
 ·rw [Z];simp only [setObj,lp,pure];have aq:(es.toList.eraseIdx j).Sublist es.toList:=List.eraseIdx_sublist _ _;have ac:(es.eraseIdxIfInBounds (0+j)).toList=es.toList.eraseIdx j:=by rw [Nat.zero_add];simp
  refine⟨⟨_,al,V⟩,V,h _ ⟨O.del _,_,Ps U x,_,c,V,by rw [ac];exact e2,?_,?_⟩⟩
  ·rw [ac];exact am.sublist (aq.map _)
  ·rw [ac];exact λe he=>ap e (aq.subset he)
end
section
variable {x y:Operand}{e:TypeId}{i:Nat}{k:Value}
theorem Yl.lookup{zv v:Value}{z0:ν}{ok:Bool}(K:GH P t pk ka)(hm:P.underlying tm=some (.map t te))(O:zeroOf P te=some zv)(U:Vr pv va E zv z0)(Y:BA pk ka pv va E o xs)(Z:Vr pk ka E k x0)
  (ac:∀w,Vr pv va E w ((BC xs x0).getD z0)->(if ok then .tuple #[w,.bool (BC xs x0).isSome] else w)=v) (ag:ρ x= .map (some bk)) (al:ρ y=k) (am:s.get bk=some o):Yl P ⟨d,.lookup tm x y ok,ty,p,af,g⟩ ρ s v:=by
 refine FT (sm:=Instr.lookup tm (ρ x) (ρ y) ok) V ?_;rw [ag,al];exact Wk K hm O U am Y Z ok λw hw=>⟨ac w hw,V⟩
theorem JS.makeMap(K:ops[i]? =some ⟨d,.makeMap t none,ty,p,af,g⟩)(hw:AN L ops ⟨d,.makeMap t none,ty,p,af,g⟩=some true)(O:BM b n ⟨d,.makeMap t none,ty,p,af,g⟩=true)(U:Aq E H S)
  (h:∀r,Aq E H (S++ [[(r,.map #[] 0)]])->JL J Q b n (Ax L d (.map (some r))) ds (.inRegion ops rest::kk) cs (Aj E H (S++ [[(r,.map #[] 0)]]))):
  JL J Q b n L ds (.inRegion ops (i::rest)::kk) cs (Aj E H S):=
 JL.op K hw O λρ ap=>by
  show lp P (do pure (Next.value (← Instr.makeMap t none))) _ _ _
  refine Aw _ _ ?_
  unfold Instr.makeMap
  simp only [newObj,bind,Sem.bind,pure,lp]
  refine⟨rfl,λr Y Z=>?_⟩
  obtain⟨ac,ag⟩:=KD Y Z (.map #[] 0) U
  obtain⟨al,p2⟩:=FV ac
  have am:(Aj E H S).upd r (.map #[] 0)=Aj E H (S++ [[(r,.map #[] 0)]]):=by rw [← al,← ag];rfl
  show JL J Q b n (Ax L d (.map (some r))) ds (.inRegion ops rest::kk) cs ((Aj E H S).upd r (.map #[] 0));rw [am];exact h r p2
theorem JS.mapUpdate(j:Nat)(Y:GH P t pk ka)(hm:P.underlying tm=some (.map t te))(Z:BA pk ka pv va E o xs)(ac:Vr pk ka E k x0)(ag:Vr pv va E w v0)(K:Aq E H S)(O:S[j]? =some [(bk,o)])
  (al:ops[i]? =some ⟨d,.mapUpdate tm x y z,ty,p,af,g⟩) (hw:AN L ops ⟨d,.mapUpdate tm x y z,ty,p,af,g⟩=some true) (am:BM b n ⟨d,.mapUpdate tm x y z,ty,p,af,g⟩=true) (ap:ev L x=some (.map (some bk))) (aq:ev L y=some k) (av:ev L z=some w)
  (h:∀o',BA pk ka pv va E o' (Dr xs x0 v0)->Aq E H (S.set j [(bk,o')])->JL J Q b n (Ax L d undef) ds (.inRegion ops rest::kk) cs (Aj E H (S.set j [(bk,o')]))):
  JL J Q b n L ds (.inRegion ops (i::rest)::kk) cs (Aj E H S):=
 JL.op al hw am λρ U=>by
  show lp P (do Instr.mapUpdate tm (ρ x) (ρ y) (ρ z);pure Next.skip) _ _ _
  rw [U _ _ ap,U _ _ aq,U _ _ av]
  refine Aw _ _ (VC Y hm (DJ (i:=0) K O rfl) (J8 K O) Z ac ag λo' aw=>?_)
  obtain⟨ay,az⟩:=KF K O o'
  rw [ay]
  exact h o' aw az
theorem VM{at1:TypeId}(j:Nat)(Y:GH P t pk ka)(hm:P.underlying tm=some (.map t te))(Z:BA pk ka pv va E o xs)(ac:Vr pk ka E k x0)(K:Aq E H S)(O:S[j]? =some [(bk,o)])
  (ag:ops[i]? =some ⟨d,.call ⟨.builtin .delete,#[x,y],#[tm,t]⟩,ty,p,af,g⟩) (hw:AN L ops ⟨d,.call ⟨.builtin .delete,#[x,y],#[tm,t]⟩,ty,p,af,g⟩=some true) (al:BM b n ⟨d,.call ⟨.builtin .delete,#[x,y],#[tm,t]⟩,ty,p,af,g⟩=true) (am:ev L x=some (.map (some bk))) (ap:ev L y=some k)
  (h:∀o',BA pk ka pv va E o' (Eo xs x0)->Aq E H (S.set j [(bk,o')])->JL J Q b n (Ax L d (.tuple #[])) ds (.inRegion ops rest::kk) cs (Aj E H (S.set j [(bk,o')]))):
  JL J Q b n L ds (.inRegion ops (i::rest)::kk) cs (Aj E H S):=
 JL.op ag hw al λρ U=>by
  have aq:execOp ρ ⟨d,.call ⟨.builtin .delete,#[x,y],#[tm,t]⟩,ty,p,af,g⟩=(do pure (Next.value (← Builtin.delete_ #[tm,t] ty #[ρ x,ρ y]))):=by
   simp [execOp,resolve,Deferred.ofValue,invoke,bind,Sem.bind,pure,Go.builtin]
  rw [aq,U _ _ am,U _ _ ap];refine Aw _ _ (V9 Y hm (DJ (i:=0) K O rfl) (J8 K O) Z ac λo' av=>?_);obtain⟨aw,ay⟩:=KF K O o';rw [aw];exact h o' av ay
theorem Pg{todo:Li_}(j:Nat)(O:Aq E H S)(U:S[j]? =some [(bk,o)])
  (h:∀E',Le E E'->E' bk=some o->Aq E' H (S.set j [])->JL J Q b n L ds todo cs (Aj E' H (S.set j []))):JL J Q b n L ds todo cs (Aj E H S):=by
 obtain⟨Y,Z⟩:=Hm O U;rw [Y];have ac:((S.set j []).flatten++ [(bk,o)])[(S.set j []).flatten.length]? =some (bk,o):=by simp
 refine JL.freeze (S.set j []).flatten.length Z ac λE' hle ag K=>?_;have al:((S.set j []).flatten++ [(bk,o)]).eraseIdx (S.set j []).flatten.length=(S.set j []).flatten:=by rw [List.eraseIdx_append_of_length_le (Nat.le_refl _)];simp
 rw [al] at K ⊢;exact h E' hle ag K
theorem R4{α:Type}{m:Nat}{f:Nat->Sem α}{s:St}{Q:α->St->Prop}{X:Halt->St->Prop}(hm:0<m)(K:s.q=false)(h:∀i,i<m->lp P (f i) s Q X):lp P ((choose (.mapNext m)).bind f) s Q X:=by
 simp only [choose,Sem.bind,lp];split
 ·exact h 0 hm
 ·exact⟨K,λt=>h _ (Nat.mod_lt _ hm)⟩
theorem JS.range{es:Array MapEntry}{c:Nat}(hm:P.underlying tm=some (.map t te))(K:(Aj E H S).get bk=some (.map es c))(O:ops[i]? =some ⟨d,.range tm x,ty,p,af,g⟩)(hw:AN L ops ⟨d,.range tm x,ty,p,af,g⟩=some true)(U:BM b n ⟨d,.range tm x,ty,p,af,g⟩=true)(Y:Aq E H S)
  (Z:ev L x=some (.map (some bk)))
  (h:∀r,Aq E H (S++ [[(r,.mapIter (some bk) c #[] c)]])->JL J Q b n (Ax L d (.pointer (some ⟨r,0,none⟩))) ds (.inRegion ops rest::kk) cs (Aj E H (S++ [[(r,.mapIter (some bk) c #[] c)]]))):
  JL J Q b n L ds (.inRegion ops (i::rest)::kk) cs (Aj E H S):=
 JL.op O hw U λρ ac=>by
  show lp P (do pure (Next.value (← Instr.range tm (ρ x)))) _ _ _
  rw [ac _ _ Z]
  refine Aw _ _ ?_
  unfold Instr.range
  refine Aw _ _ (Cn hm ?_)
  simp only [getObj,newObj,bind,Sem.bind,pure,lp]
  refine⟨_,K,rfl,rfl,λr ag al=>?_⟩
  obtain⟨am,ap⟩:=KD ag al (.mapIter (some bk) c #[] c) Y
  obtain⟨aq,p2⟩:=FV am
  have av:(Aj E H S).upd r (.mapIter (some bk) c #[] c)=Aj E H (S++ [[(r,.mapIter (some bk) c #[] c)]]):=by rw [← aq,← ap];rfl
  show JL J Q b n (Ax L d (.pointer (some ⟨r,0,none⟩))) ds (.inRegion ops rest::kk) cs ((Aj E H S).upd r (.mapIter (some bk) c #[] c));rw [av];exact h r p2
theorem JS.next{es:Array MapEntry}{c r:Nat}{seen:Array Nat}(j:Nat)(am:(Aj E H S).get bk=some (.map es c))(hb:∀e∈es.toList,e.born<c)(K:Aq E H S)(O:S[j]? =some [(r,.mapIter (some bk) c seen c)])
  (ap:ops[i]? =some ⟨d,.next x false,ty,p,af,g⟩) (hw:AN L ops ⟨d,.next x false,ty,p,af,g⟩=some true) (aq:BM b n ⟨d,.next x false,ty,p,af,g⟩=true) (U:ev L x=some (.pointer (some ⟨r,0,none⟩)))
  (av:∀e∈es.toList,e.born ∉ seen->Aq E H (S.set j [(r,.mapIter (some bk) c (seen.push e.born) c)])->JL J Q b n (Ax L d (.tuple #[.bool true,e.key,e.val])) ds (.inRegion ops rest::kk) cs (Aj E H (S.set j [(r,.mapIter (some bk) c (seen.push e.born) c)])))
  (aw:(∀e∈es.toList,e.born∈seen)->JL J Q b n (Ax L d (.tuple #[.bool false])) ds (.inRegion ops rest::kk) cs (Aj E H S)):
  JL J Q b n L ds (.inRegion ops (i::rest)::kk) cs (Aj E H S):=
 JL.op ap hw aq λρ ay=>by
  show lp P (do pure (Next.value (← Instr.next (ρ x) false ty))) _ _ _
  rw [ay _ _ U]
  refine Aw _ _ ?_
  unfold Instr.next
  simp only [getObj,setObj,bind,Sem.bind,pure,lp]
  refine⟨_,DJ (i:=0) K O rfl,rfl,?_⟩
  simp only [lp]
  refine⟨_,am,rfl,?_⟩
  have az:(!seen.isEmpty&& !es.isEmpty&&es.all (λe=>decide (e.born>=c)))=false:=by
   by_cases he:es.toList= []
   ·have:es.isEmpty=true:=by simpa [Array.isEmpty_iff] using he
    simp [this]
   ·obtain⟨e,ag⟩:=List.exists_mem_of_ne_nil _ he;have bi:=hb e ag;have:es.all (λe=>decide (e.born>=c))=false:=by
     cases U:es.all (λe=>decide (e.born>=c)) with
     | false=>rfl
     | true=>
      have:=Array.all_eq_true'.1 U e (Array.mem_toList_iff.1 ag);simp at this;omega
    simp [this]
  have a0:Array.filter (λx:MapEntry=>decide (x.born<c)) (Array.filter (λe=> !seen.contains e.born) es)=Array.filter (λe=> !seen.contains e.born) es:=by
   apply Array.toList_inj.1;rw [Array.toList_filter,List.filter_eq_self];intro e he;rw [Array.toList_filter] at he;simpa using hb e (List.mem_filter.1 he).1
  have e2:Array.filter (λx:MapEntry=>decide (x.born>=c)) (Array.filter (λe=> !seen.contains e.born) es)= #[]:=by
   apply Array.toList_inj.1;rw [Array.toList_filter,List.filter_eq_nil_iff];intro e he;rw [Array.toList_filter] at he;have:=hb e (List.mem_filter.1 he).1;simp;omega
  dsimp only;rw [if_neg (by rw [az];exact Bool.false_ne_true),a0,e2];have Y:∀e,e∈(Array.filter (λe=> !seen.contains e.born) es).toList↔e∈es.toList/\e.born ∉ seen:=by
   intro e;rw [Array.toList_filter,List.mem_filter];simp
  generalize Array.filter (λe:MapEntry=> !seen.contains e.born) es=left at Y ⊢;by_cases Z:left.toList= []
  ·have a1:left= #[]:=Array.toList_inj.1 Z;subst a1;refine R4 (by simp) rfl λi hi=>?_;obtain rfl:i=0:=by simp at hi;exact hi
   have a2:((if(#[]:Array MapEntry).isEmpty=true then #[none] else #[])++Array.map some ((#[]:Array MapEntry)++ #[]))[0]? =some none:=by simp
   rw [a2];refine aw λe he=>?_;by_cases al:e.born∈seen
   ·exact al
   ·have:=(Y e).2 ⟨he,al⟩;simp at this
  ·have a3:left.isEmpty=false:=by
    cases a4:left.isEmpty with
    | false=>rfl
    | true=>exact absurd (by simpa [Array.isEmpty_iff] using a4) Z
   rw [a3];simp only [Bool.false_eq_true,if_false,Array.append_empty,Array.empty_append];have a5:0<left.size:=by
    rcases Nat.eq_zero_or_pos left.size with ac | ac
    ·exact absurd (by simpa using Array.eq_empty_of_size_eq_zero ac) Z
    ·exact ac
   refine R4 (by simpa using a5) rfl λi hi=>?_;have a6:i<left.size:=by simpa using hi
   have a7:(Array.map some left)[i]? =some (some left[i]):=by simp [a6]
   rw [a7];simp only [lp];obtain⟨a8,a9⟩:=(Y left[i]).1 (Array.getElem_mem_toList _);refine⟨⟨_,J8 K O,rfl⟩,rfl,?_⟩;obtain⟨bb,be⟩:=KF K O (.mapIter (some bk) c (seen.push left[i].born) c);rw [bb];exact av _ a8 a9 be
theorem JS.entry{es:Array MapEntry}{c r:Nat}{seen:Array Nat}{e:MapEntry}(j:Nat)(U:(Aj E H S).get bk=some (.map es c))(he:e∈es.toList)(hb:(es.toList.map (·.born)).Pairwise (·<·))(Y:Aq E H S)(Z:S[j]? =some [(r,.mapIter (some bk) c (seen.push e.born) c)])
  (ac:ops[i]? =some ⟨d,.entry x,ty,p,af,g⟩) (hw:AN L ops ⟨d,.entry x,ty,p,af,g⟩=some true) (ag:BM b n ⟨d,.entry x,ty,p,af,g⟩=true) (al:ev L x=some (.pointer (some ⟨r,0,none⟩)))
  (h:JL J Q b n (Ax L d (.tuple #[e.key,e.val])) ds (.inRegion ops rest::kk) cs (Aj E H S)):
  JL J Q b n L ds (.inRegion ops (i::rest)::kk) cs (Aj E H S):=
 JL.op ac hw ag λρ am=>by
  show lp P (do pure (Next.value (← Instr.entry (ρ x)))) _ _ _
  rw [am _ _ al]
  refine Aw _ _ ?_
  unfold Instr.entry
  simp only [getObj,bind,Sem.bind,pure,lp]
  refine⟨_,DJ (i:=0) Y Z rfl,rfl,?_⟩
  simp only [Array.back?_push,bne_self_eq_false,lp]
  refine⟨_,U,rfl,?_⟩
  have ap:es.find? (λx=>x.born==e.born)=some e:=by
   rw [← Array.find?_toList];have key:∀(l:List MapEntry),e∈l->(l.map (·.born)).Pairwise (·<·)->l.find? (λx=>x.born==e.born)=some e:=by
    intro l
    induction l with
    | nil=>intro h;cases h
    | cons y l aq=>
     intro hm K;rw [List.map_cons,List.pairwise_cons] at K;by_cases O:y.born=e.born
     ·rcases List.mem_cons.1 hm with rfl | hm
      ·simp
      ·have:=K.1 e.born (List.mem_map.2 ⟨e,hm,rfl⟩);omega
     ·rw [List.find?_cons_of_neg (by simpa using O)];rcases List.mem_cons.1 hm with rfl | hm
      ·exact absurd rfl O
      ·exact aq hm K.2
   exact key _ he hb
  simp only [bne_self_eq_false,Bool.false_eq_true,if_false,ap,lp];exact h
end
end
theorem Ku{E H:LH}{S:List Seg}{bk:Nat}{o:Obj}(h:E bk=some o):(Aj E H S).get bk=some o:=by
 show(match E bk with | some o=>some o | none=>_)=some o
 rw [h]
theorem Rr{α β:Type}(f:α->β){l:List α}(h:(l.map f).Nodup):l.Nodup:=by
 unfold List.Nodup at h ⊢;rw [List.pairwise_map] at h;exact h.imp λh e=>h (by rw [e])
theorem SS{α:Type}:∀{l l':List α},l.Nodup->(∀x∈l,x∈l')->l.length<=l'.length
 | [],_,_,_=>Nat.zero_le _
 | x::l,l',h,O=>by
  obtain⟨a,b,rfl⟩:=List.append_of_mem (O x (by simp))
  have U:=List.nodup_cons.1 h
  have:=SS (l:=l) (l':=a++b) U.2 (λy Y=>by
   have K:=O y (List.mem_cons_of_mem _ Y)
   have Z:y≠x:=λe=>U.1 (e▸Y)
   simp at K ⊢
   rcases K with K | K | K
   ·exact .inl K
   ·exact absurd K Z
   ·exact .inr K)
  simp at this ⊢;omega
variable {ys:List (κ×ν)}
section
variable [DecidableEq κ]
def IX(es:Array MapEntry)(ys:List (κ×ν))(seen:Array Nat)(done:List (κ×ν)):Prop:=
 ∃K:List (MapEntry×(κ×ν)),done=K.map (·.2)/\seen.toList=K.map (·.1.born)/\K.Nodup/\∀q∈K,q∈es.toList.zip ys
theorem IX.nil{es:Array MapEntry}{ys:List (κ×ν)}:IX es ys #[] []:=⟨[],V,V,.nil,by simp⟩
theorem SB:∀{es:List MapEntry} {ys:List (κ×ν)},(es.map (·.born)).Pairwise (·<·)->∀{p q:MapEntry×(κ×ν)},p∈es.zip ys->q∈es.zip ys->p.1.born=q.1.born->p=q
 | [],_,_,_,_,h,_,_=>by simp at h
 | _::_,[],_,_,_,h,_,_=>by simp at h
 | e::es,y::ys,U,p,q,K,O,hb=>by
  rw [List.map_cons,List.pairwise_cons] at U
  rw [List.zip_cons_cons] at K O
  have Y:∀{z:MapEntry×(κ×ν)},z∈es.zip ys->z.1.born∈es.map (·.born):=λ{z} Z=>by
   have:=(List.of_mem_zip Z).1
   exact List.mem_map.2 ⟨z.1,this,V⟩
  rcases List.mem_cons.1 K with rfl | K <;> rcases List.mem_cons.1 O with rfl | O
  ·rfl
  ·have:=U.1 _ (Y O);simp at hb;omega
  ·have:=U.1 _ (Y K);simp at hb;omega
  ·exact SB U.2 K O hb
theorem Ec.zip:∀{es:List MapEntry} {ys:List (κ×ν)},Ec pk ka pv va E es ys->∀{q:MapEntry×(κ×ν)},q∈es.zip ys->Vr pk ka E q.1.key q.2.1/\Vr pv va E q.1.val q.2.2
 | [],[],_,_,h=>by simp at h
 | e::es,y::ys,h,q,K=>by
  rw [List.zip_cons_cons] at K
  rcases List.mem_cons.1 K with rfl | K
  ·exact⟨h.1,h.2.1⟩
  ·exact Ec.zip h.2.2 K
 | [],_::_,h,_,_=>h.elim
 | _::_,[],h,_,_=>h.elim
theorem SX:∀{es:List MapEntry} {ys:List (κ×ν)},KN ys->(es.map (·.born)).Pairwise (·<·)->∀{p q:MapEntry×(κ×ν)},p∈es.zip ys->q∈es.zip ys->p.2.1=q.2.1->p=q
 | [],_,_,_,_,_,h,_,_=>by simp at h
 | _::_,[],_,_,_,_,h,_,_=>by simp at h
 | e::es,y::ys,ac,Y,p,q,K,O,hb=>by
  have U:y.1 ∉ ys.map (·.1)/\KN ys:=by simpa [KN] using ac
  rw [List.map_cons,List.pairwise_cons] at Y;rw [List.zip_cons_cons] at K O;have Z:∀{z:MapEntry×(κ×ν)},z∈es.zip ys->z.2.1∈ys.map (·.1):=λ{z} ag=>List.mem_map.2 ⟨z.2,(List.of_mem_zip ag).2,rfl⟩;rcases List.mem_cons.1 K with rfl | K <;> rcases List.mem_cons.1 O with rfl | O
  ·rfl
  ·have:=Z O;simp only at hb;rw [← hb] at this;exact absurd this U.1
  ·have:=Z K;simp only at hb;rw [hb] at this;exact absurd this U.1
  ·exact SX U.2 Y.2 K O hb
theorem IX.len{es:Array MapEntry}{ys:List (κ×ν)}{seen:Array Nat}{done:List (κ×ν)}(h:IX es ys seen done):done.length<=ys.length:=by
 obtain⟨Y,rfl,Z,K,O⟩:=h;rw [List.length_map];have U:=SS K O;exact Nat.le_trans U (by rw [List.length_zip];exact Nat.min_le_right _ _)
section
variable {x y:Operand}{e:TypeId}{i:Nat}
theorem Sy{es:Array MapEntry}{c r:Nat}{seen:Array Nat}{done:List (κ×ν)}(j:Nat)(ag:Ec pk ka pv va E es.toList ys)(Z:(es.toList.map (·.born)).Pairwise (·<·))(hb:∀e∈es.toList,e.born<c)(av:KN ys)(aw:IX es ys seen done)(ay:(Aj E' H S).get bk=some (.map es c))(az:Aq E' H S)(a0:S[j]? =some [(r,.mapIter (some bk) c seen c)])
  (a2:ops[i]? =some ⟨d,.next x false,ty,p,af,g⟩) (hw:AN L ops ⟨d,.next x false,ty,p,af,g⟩=some true) (a3:BM b n ⟨d,.next x false,ty,p,af,g⟩=true) (a4:ev L x=some (.pointer (some ⟨r,0,none⟩)))
  (a5:∀e O,Vr pk ka E e.key O.1->Vr pv va E e.val O.2->O∈ys->O.1 ∉ done.map (·.1)->e∈es.toList->IX es ys (seen.push e.born) (done++ [O])->Aq E' H (S.set j [(r,.mapIter (some bk) c (seen.push e.born) c)])->
   JL J Q b n (Ax L d (.tuple #[.bool true,e.key,e.val])) ds (.inRegion ops rest::kk) cs (Aj E' H (S.set j [(r,.mapIter (some bk) c (seen.push e.born) c)])))
  (a6:done.Perm ys->JL J Q b n (Ax L d (.tuple #[.bool false])) ds (.inRegion ops rest::kk) cs (Aj E' H S)):
  JL J Q b n L ds (.inRegion ops (i::rest)::kk) cs (Aj E' H S):=by
 obtain⟨ac,rfl,a1,al,Y⟩:=aw;have hlen:=ag.len;refine JS.next j ay hb az a0 a2 hw a3 a4 (λe he a7 a8=>?_) (λa9=>?_)
 ·obtain⟨m,hm,bb⟩:=List.mem_iff_getElem.1 he;have U:(e,ys[m]'(by omega))∈es.toList.zip ys:=by
   rw [← bb];have:(es.toList.zip ys)[m]'(by rw [List.length_zip];omega)=(es.toList[m],ys[m]'(by omega)):=List.getElem_zip;rw [← this];exact List.getElem_mem _
  obtain⟨k1,be⟩:=ag.zip U;have am:(e,ys[m]'(by omega)) ∉ ac:=λq=>a7 (by
   rw [← Array.mem_toList_iff,a1]
   exact List.mem_map.2 ⟨_,q,V⟩)
  refine a5 e _ k1 be (List.getElem_mem _) (λq=>?_) he ⟨ac++ [(e,ys[m]'(by omega))],by simp,by simp [a1],?_,λq K=>?_⟩ a8
  ·obtain⟨O,bi,bn⟩:=List.mem_map.1 q;obtain⟨z,ap,rfl⟩:=List.mem_map.1 bi;have:=SX av Z (Y z ap) U bn;exact am (this▸ap)
  ·rw [List.nodup_append];exact⟨al,by simp,by intro q K z aq bo;simp at aq;subst aq bo;exact am K⟩
  ·rcases List.mem_append.1 K with K | K
   ·exact Y q K
   ·simp at K;subst K;exact U
 ·refine a6 ?_;have bv:ac.Perm (es.toList.zip ys):=by
   have bw:(es.toList.zip ys).Nodup:=by
    have:((es.toList.zip ys).map (·.1)).Nodup:=by
     rw [List.map_fst_zip (by omega)];exact Rr (λe:MapEntry=>e.born) (Z.imp (λh=>Nat.ne_of_lt h))
    exact Rr _ this
   refine(List.perm_ext_iff_of_nodup al bw).2 λq=>⟨λK=>Y q K,λK=>?_⟩;have:=a9 q.1 (List.of_mem_zip K).1;rw [← Array.mem_toList_iff,a1] at this;obtain⟨z,U,bx⟩:=List.mem_map.1 this;have:=SB Z (Y z U) K bx;exact this▸U
  have:=bv.map (·.2)
  rwa [List.map_snd_zip (by omega)] at this
end
end
variable {l0 bks:List Nat}{xl:List Nat}
section
variable {fuel:Nat}{listed:Array Bool}
theorem Fb(i:Nat)(pure:Bool)(K:s.q=false)(O:G8 n L ops i=some ⟨d,op,ty,p,af,g⟩)
  (U:∀ρ,EO L ρ->∀s':St,(pure=false->∀x o,(Bo (AD (l0++bks)) s).E x=some o->s'.E x=some o)->Yl P ⟨d,op,ty,p,af,g⟩ ρ s' v)
  (Y:FC J Q b n ds ops k cs (AD xl) (AD (l0++bks)) (AD l0) fuel (A5 listed i) (Ax L d v) s) (hc:Jy ops listed xl pure i=true:=by decide+kernel):FC J Q b n ds ops k cs (AD xl) (AD (l0++bks)) (AD l0) (fuel+1) listed L s:=by
 obtain⟨Z,ac,ag⟩:=Pp O;exact JB.val i pure Z hc K ac ag U Y
def Q6(n:Nat)(L:Env)(ops:Ao_)(i:Nat):Option Env:=
 match Jz ops.toList i with
 | some ⟨d,op,ty,p,af,g⟩=>match AN L ops ⟨d,op,ty,p,af,g⟩ with
  | some true=>match Bh n d with
   | true=>match KW L op with
    | some v=>match d with
     | some d=>some ((d,v)::L)
     | none=>some L
    | none=>none
   | false=>none
  | _=>none
 | none=>none
theorem X1{i:Nat}(h:Q6 n L ops i=some L'):∃o v,ops[i]? =some o/\Bh n o.dst=true/\AN L ops o=some true/\KW L o.op=some v/\L'=Ax L o.dst v:=by
 unfold Q6 at h;split at h
 ·rename_i d op ty p af g K;rw [Lu,Array.getElem?_toList] at K;split at h
  ·rename_i hw;split at h
   ·rename_i O;split at h
    ·rename_i v U;refine⟨_,v,K,O,hw,U,?_⟩;cases d with
     | none=>cases h;rfl
     | some d=>cases h;rfl
    ·cases h
   ·cases h
  ·cases h
 ·cases h
theorem Be(i:Nat)(K:s.q=false)(h:Q6 n L ops i=some L')
  (O:FC J Q b n ds ops k cs (AD xl) (AD (l0++bks)) (AD l0) fuel (A5 listed i) L' s) (hc:Jy ops listed xl true i=true:=by decide+kernel):FC J Q b n ds ops k cs (AD xl) (AD (l0++bks)) (AD l0) (fuel+1) listed L s:=by
 obtain⟨o,v,U,Y,hw,Z,rfl⟩:=X1 h;exact JB.val i true U hc K hw Y (λρ ac s' _=>Nz ac Z) O
end
variable {i2:Nat}
variable {d2:Option Tmp}{x2:Operand}{t2 ty2:TypeId}{p2:String}{af2:Ae_}{g2:On_}
section
variable {i:Nat}
variable {x y:Operand}{e:TypeId}
theorem DF(O:Aq E H S)(h:∀r E',Le E E'->At E' r 0 v.cells.toList->Aq E' H (S++ [[]])->JL J Q b n (Ax L d (.pointer (some ⟨r,0,none⟩))) ds (.inRegion ops rest::k) cs (Aj E' H (S++ [[]])))
  (U:FB b n L ops i=some ⟨d,.box e x,ty,p,af,g⟩:=by exact rfl) (Y:ev L x=some v:=by exact rfl):JL J Q b n L ds (.inRegion ops (i::rest)::k) cs (Aj E H S):=by
 obtain⟨Z,ac,ag⟩:=KC U;refine JS.box Z ac ag O Y λr al=>Du (bk:=r) (c:=v.cells) (e:=e) (f:=(0,0)) S.length al (by simp) λE' hle am K=>?_;have ap:(S++ [[(r,Obj.cells v.cells e (0,0))]]).set S.length []=S++ [[]]:=by simp
 rw [ap] at K ⊢;exact h r E' hle am K
theorem B3{z:Value}(K:Aq E H S)(O:zeroOf P e=some z)(h:∀r,Aq E H (S++ [[(r,.cells z.cells e (0,0))]])->JL J Q b n (Ax L d (.pointer (some ⟨r,0,none⟩))) ds (.inRegion ops rest::k) cs (Aj E H (S++ [[(r,.cells z.cells e (0,0))]])))
  (U:FB b n L ops i=some ⟨d,.alloc e,ty,p,af,g⟩:=by exact rfl):JL J Q b n L ds (.inRegion ops (i::rest)::k) cs (Aj E H S):=by
 obtain⟨Y,Z,ac⟩:=KC U;exact JS.alloc Y Z ac K O h
theorem BQ{bk off K:Nat}{c:Av_}(j:Nat)(O:Aq E H S)(U:Bp P t=some K)
  (h:Aq E H (S.set j [(bk,.cells (Bc c off v.cells.toList) e (0,0))])->JL J Q b n (Ax L d undef) ds (.inRegion ops rest::k) cs (Aj E H (S.set j [(bk,.cells (Bc c off v.cells.toList) e (0,0))])))
  (Y:FB b n L ops i=some ⟨d,.store t x y,ty,p,af,g⟩:=by exact rfl) (Z:ev L x=some (.pointer (some ⟨bk,off,none⟩)):=by exact rfl) (ac:ev L y=some v:=by exact rfl) (ag:S[j]? =some [(bk,.cells c e (0,0))]:=by exact rfl)
  (al:K=v.cells.size:=by exact rfl) (hle:off+v.cells.size<=c.size:=by exact Nat.le_of_ble_eq_true rfl) (am:v.cells.toList.all Dj=true:=by first | exact rfl | simp [Value.cells,Dj]):
  JL J Q b n L ds (.inRegion ops (i::rest)::k) cs (Aj E H S):=du j O (by rw [← al];exact U) Y Z ac ag h hle (List.all_eq_true.1 am)
theorem B5{bk o K Y off:Nat}{O:Array Field}{U:Nat}{ws:Lv_}(j:Nat)(Z:At E bk o ws)(ac:P.underlying t=some (.struct O))(ag:Bp P ft=some (Y+1))(al:Dm P t2=some false)
  (am:JL J Q b n (Ax (Ax L d (.pointer (some ⟨bk,K+off,none⟩))) d2 v) ds (.inRegion ops rest::k) cs (Aj E H S))
  (ap:FB b n L ops i=some ⟨d,.fieldAddr t x U,ty,p,af,g⟩:=by exact rfl) (aq:ev L x=some (.pointer (some ⟨bk,K,none⟩)):=by exact rfl) (av:My O U=some (off,ft):=by exact rfl)
  (aw:FB b n (Ax L d (.pointer (some ⟨bk,K+off,none⟩))) ops i2=some ⟨d2,.load t2 x2,ty2,p2,af2,g2⟩:=by exact rfl) (ay:ev (Ax L d (.pointer (some ⟨bk,K+off,none⟩))) x2=some (.pointer (some ⟨bk,o+j,none⟩)):=by exact rfl) (az:ws[j]? =some v:=by exact rfl):
  JL J Q b n L ds (.inRegion ops (i::i2::rest)::k) cs (Aj E H S):=JL.fd ac ag ap aq av (CQ j Z al aw ay az am)
theorem JS.ix{α:Type}{pp:Rp α}{a:Option Addr}{c:Nat}{xs:List α}{xv:α}{m:Int}{kd:IntKind}(K:An pp E a c xs)(hm:ix xs m=some xv)(O:P.underlying t=some (.slice e))(U:Bp P e=some pp.n)
  (h:∀bk o ws,pp.r E ws xv->At E bk o ws->JL J Q b n (Ax L d (.pointer (some ⟨bk,o,none⟩))) ds (.inRegion ops rest::k) cs (Aj E H S))
  (Y:FB b n L ops i=some ⟨d,.indexAddr t x y,ty,p,af,g⟩:=by exact rfl) (Z:ev L x=some (.slice a xs.length c):=by exact rfl) (ac:ev L y=some (.int kd m):=by exact rfl):
  JL J Q b n L ds (.inRegion ops (i::rest)::k) cs (Aj E H S):=by
 obtain⟨ag,al,am⟩:=KC Y;exact TE K hm ag al am Z ac O U h
theorem CN(K:List Seg)(O:Env){todo:Li_}{c:Code}(U:∀E',Le E E'->Aq E' H K->JL J Q b n O ds todo cs (Aj E' H K))
  (h:(∀{E':LH} {L:Env},Le E E'->Aq E' H K->Is L O=Ix O->JL J Q b n L ds todo cs (Aj E' H K))->JL J Q b n L ds (.code c::todo) cs (Aj E H S)):JL J Q b n L ds (.code c::todo) cs (Aj E H S):=
 h λY Z ac=>AB (U _ Y Z) ac
theorem Fy{U:List Nat}(Y Z:Nat)(K:List Seg)(O:Env){todo:Li_}(ac:∀E',Le E E'->Aq E' H K->JL J Q b n O ds (.inRegion ops (List.range' Y Z)::todo) cs (Aj E' H K))
  (h:(∀{E':LH} {L:Env},Le E E'->Aq E' H K->Is L O=Ix O->JL J Q b n L ds (.inRegion ops (List.range' Y Z)::todo) cs (Aj E' H K))->JL J Q b n L ds (.inRegion ops U::todo) cs (Aj E H S)):JL J Q b n L ds (.inRegion ops U::todo) cs (Aj E H S):=
 h λag al am=>AB (ac _ ag al) am
theorem CO{O ag:Type}{c:Code}{body:O->Option (Bd O ag)}{f:Nat}{Y:O}{a:ag}{Z:LH}{k:Li_}(am:iter body f Y=some a)(K:O->List Seg)(U:O->Env)(hle:Le Z E)(ap:Aq E H (K Y))
  (round:∀x E',Le Z E'->Aq E' H (K x)->(∀al,body x=some (.done al)->al=a)->(∃st,body x=some st)->(∀{L':Env} {ac:LH} (x':O),Le Z ac->Aq ac H (K x')->Is L' (U x')=Ix (U x')->body x=some (.more x')->JL J Q b n L' ds (.inLoop c::k) cs (Aj ac H (K x')))->JL J Q b n (U x) ds (.code c:: .inLoop c::k) cs (Aj E' H (K x)))
  (aq:Is L (U Y)=Ix (U Y):=by exact rfl) (av:Aj E H S=Aj E H (K Y):=by exact rfl):JL J Q b n L ds (.code (.loop c)::k) cs (Aj E H S):=by
 rw [av];refine EA _ aq (Sx am (λL s x=>∃E',Jm Z H E' (K x) (U x) L s) ⟨E,V,V,hle,ap⟩ ?_);rintro _ _ x ⟨E',rfl,rfl,aw,ay⟩ hd hb az;exact round x E' aw ay hd hb λx' a0 g2 a1 a2=>AB (az _ _ x' ⟨_,V,V,a0,g2⟩ a2) a1
theorem Bn{f:FuncId}{fn:Func}{c:Code}{E:LH}{vs:Lv_}{B:Seg}{R:Value->LH->Seg->Prop}(O:P.funcs[f]? =some fn)
  (h:∀(Q:Gs_) (K:Frame) (cs:Lf_) (H:LH),Aq E H [B]->(∀{v:Value} {E':LH} {S':List Seg} {B':Seg},Le E E'->S'.flatten=B'->R v E' B'->Aq E' H S'->J.ok Q (G (K.finish v) cs) (Aj E' H S'))->JL J Q (base f) fn.ntmps (Gr 0 vs) [] [.code c] (K::cs) (Aj E H [B]))
  (hb:fn.body=some c:=by exact rfl) (U:Nat.ble vs.length fn.ntmps=true:=by exact rfl):AP J f vs E B R:=
 Qu O hb U λQ K cs H Y Z=>h Q K cs H Y λac ag al am=>Z _ _ _ _ ac ag al am
variable {fuel:Nat}{listed:Array Bool}
theorem KL{bk:Nat}{c:Av_}{f:Nat×Nat}(i:Nat)(K:Eg ops m=true)(o:Nat)(j:Nat)(O:Aq E H S)(U:Dm P t=some false)
  (Y:AQ J Q b n ds ops k cs m (AD bks) fuel (A5 listed i) (Ax L d w) (Aj E H S)) (Z:G8 n L ops i=some ⟨d,.load t x,ty,p,af,g⟩:=by exact rfl) (ac:ev L x=some (.pointer (some ⟨bk,o,none⟩)):=by exact rfl)
  (ag:S[j]? =some [(bk,.cells c e f)]:=by exact rfl) (hw:c[o]? =some w:=by exact rfl) (al:AD bks bk=true:=by simp [AD]) (hc:Gs ops listed m i=true:=by decide+kernel):AQ J Q b n ds ops k cs m (AD bks) (fuel+1) listed L (Aj E H S):=
 AJ i K V Z (λρ h s' am=>Yl.load U (h _ _ ac) (BZ (o:=o) j O ag al am hw)) Y hc
theorem JG.lp{bk o:Nat}{ws:Lv_}(i:Nat)(K:Eg ops m=true)(j:Nat)(O:At E bk o ws)(U:Aq E H S)(Y:HS S bks)(Z:Dm P t=some false)
  (ac:AQ J Q b n ds ops k cs m (AD bks) fuel (A5 listed i) (Ax L d w) (Aj E H S)) (ag:G8 n L ops i=some ⟨d,.load t x,ty,p,af,g⟩:=by exact rfl) (al:ev L x=some (.pointer (some ⟨bk,o+j,none⟩)):=by exact rfl)
  (hw:ws[j]? =some w:=by exact rfl) (hc:Gs ops listed m i=true:=by decide+kernel):AQ J Q b n ds ops k cs m (AD bks) (fuel+1) listed L (Aj E H S):=
 AJ i K V ag (λρ h s' am=>Yl.load Z (h _ _ al) (At.Ju (j:=j) O (dp U am Y) hw)) ac hc
theorem UW{bk o K:Nat}{c:Av_}{f:Nat×Nat}(i:Nat)(O:Eg ops m=true)(vs:Lv_)(j:Nat)(U:Aq E H S)(hw:∀(q:Nat) w,vs[q]? =some w->c[o+q]? =some w)(Y:Dm P t=some true)(Z:Bp P t=some K)
  (ac:AQ J Q b n ds ops k cs m (AD bks) fuel (A5 listed i) (Ax L d (.agg vs.toArray)) (Aj E H S)) (ag:G8 n L ops i=some ⟨d,.load t x,ty,p,af,g⟩:=by exact rfl) (al:ev L x=some (.pointer (some ⟨bk,o,none⟩)):=by exact rfl)
  (am:S[j]? =some [(bk,.cells c e f)]:=by exact rfl) (ap:K=vs.length:=by exact rfl) (aq:AD bks bk=true:=by simp [AD]) (hc:Gs ops listed m i=true:=by decide+kernel):AQ J Q b n ds ops k cs m (AD bks) (fuel+1) listed L (Aj E H S):=
 AJ i O V ag (λρ h s' av=>JV (vs:=vs) Y (by rw [← ap];exact Z) (h _ _ al) (λq w aw=>by rw [Ef rfl];exact BZ j U am aq av (hw q w aw))) ac hc
theorem JG.ix{D:Nat->Bool}{α:Type}{xs:List α}{xv:α}{mm:Int}{bk c K O:Nat}{kd:IntKind}(i:Nat)(U:Eg ops m=true)(Y:xs.length=O)(hm:ix xs mm=some xv)(Z:P.underlying t=some (.slice e))(ac:Bp P e=some K)
  (ag:AQ J Q b n ds ops k cs m D fuel (A5 listed i) (Ax L d (.pointer (some ⟨bk,mm.toNat*K,none⟩))) s) (al:s.q=false:=by exact rfl) (am:G8 n L ops i=some ⟨d,.indexAddr t x y,ty,p,af,g⟩:=by exact rfl)
  (ap:ev L x=some (.slice (some ⟨bk,0,none⟩) O c):=by exact rfl) (aq:ev L y=some (.int kd mm):=by exact rfl) (hc:Gs ops listed m i=true:=by decide+kernel):AQ J Q b n ds ops k cs m D (fuel+1) listed L s:=
 AJ i U al am (λρ h s' av=>FG Y hm Z ac (h _ _ ap) (h _ _ aq)) ag hc
theorem JB.ix{l0 bks:List Nat}{α:Type}{xs:List α}{xv:α}{mm:Int}{bk c K O:Nat}{kd:IntKind}(i:Nat)(U:xs.length=O)(hm:ix xs mm=some xv)(Y:P.underlying t=some (.slice e))(Z:Bp P e=some K)
  (ac:FC J Q b n ds ops k cs (AD xl) (AD (l0++bks)) (AD l0) fuel (A5 listed i) (Ax L d (.pointer (some ⟨bk,mm.toNat*K,none⟩))) s) (ag:s.q=false:=by exact rfl) (al:G8 n L ops i=some ⟨d,.indexAddr t x y,ty,p,af,g⟩:=by exact rfl)
  (am:ev L x=some (.slice (some ⟨bk,0,none⟩) O c):=by exact rfl) (ap:ev L y=some (.int kd mm):=by exact rfl) (hc:Jy ops listed xl true i=true:=by decide+kernel):FC J Q b n ds ops k cs (AD xl) (AD (l0++bks)) (AD l0) (fuel+1) listed L s:=
 Fb i true ag al (λρ h s' aq=>FG U hm Y Z (h _ _ am) (h _ _ ap)) ac hc
theorem OC{l0:List Nat}{bk o K:Nat}{c:Av_}{f:Nat×Nat}(i:Nat)(vs:Lv_)(j:Nat)(O:Aq E H S)(hw:∀(q:Nat) w,vs[q]? =some w->c[o+q]? =some w)(U:Dm P t=some true)(Y:Bp P t=some K)
  (Z:FC J Q b n ds ops k cs (AD xl) (AD (l0++bks)) (AD l0) fuel (A5 listed i) (Ax L d (.agg vs.toArray)) (Aj E H S)) (ac:G8 n L ops i=some ⟨d,.load t x,ty,p,af,g⟩:=by exact rfl) (ag:ev L x=some (.pointer (some ⟨bk,o,none⟩)):=by exact rfl)
  (al:S[j]? =some [(bk,.cells c e f)]:=by exact rfl) (am:K=vs.length:=by exact rfl) (ap:AD (l0++bks) bk=true:=by simp [AD]) (hc:Jy ops listed xl false i=true:=by decide+kernel):FC J Q b n ds ops k cs (AD xl) (AD (l0++bks)) (AD l0) (fuel+1) listed L (Aj E H S):=
 Fb i false V ac (λρ h s' aq=>JV (vs:=vs) U (by rw [← am];exact Y) (h _ _ ag) (λq w av=>by rw [Ef rfl];exact BZ j O al ap (aq rfl) (hw q w av))) Z hc
theorem EC{l0 bks:List Nat}{bk off K:Nat}{c:Av_}(i j:Nat)(O:Aq E H S)(U:Bp P t=some K)(Y:MI S j l0)(hle:off+K<=c.size)
  (h:Aq E H (S.set j [(bk,.cells (Bc c off v.cells.toList) e (0,0))])->FC J Q b n ds ops k cs (AD xl) (AD (l0++bks)) (AD l0) fuel (A5 listed i) (Ax L d undef) (Aj E H (S.set j [(bk,.cells (Bc c off v.cells.toList) e (0,0))])))
  (Z:G8 n L ops i=some ⟨d,.store t x y,ty,p,af,g⟩:=by exact rfl) (ac:ev L x=some (.pointer (some ⟨bk,off,none⟩)):=by exact rfl) (ag:ev L y=some v:=by exact rfl) (al:S[j]? =some [(bk,.cells c e (0,0))]:=by exact rfl)
  (am:K=v.cells.size:=by exact rfl) (ap:v.cells.toList.all Dj=true:=by first | exact rfl | simp [Value.cells,Dj]) (aq:Region.ready .any ops listed= [i]:=by decide+kernel) (av:AD xl i=true:=by decide+kernel):
  FC J Q b n ds ops k cs (AD xl) (AD (l0++bks)) (AD l0) (fuel+1) listed L (Aj E H S):=by
 obtain⟨aw,ay,az⟩:=Pp Z;subst am;exact JB.store i j aq av aw ay az O ac ag U (List.all_eq_true.1 ap) al Y hle h
end
abbrev s8(s:Nat):Value:= .int .u8 (s:Int)
def Ox(a:Nat)(n:Int):Option Nat:=if 0<=n/\n<=8 then some (a>>>n.toNat) else none
def LQ(a b:Nat):Option Nat:=if a<256/\b<256 then some (a ||| b) else none
def Oy(a b:Nat):Option Nat:=if a<256/\b<256 then some (a&&& b) else none
variable {a c:Nat}
section
variable {x y:Operand}{b r:Nat}{m:Int}
theorem UQ{m:Nat}(h:m<256):IntKind.u8.wrap (m:Int)=m:=by
 simp only [IntKind.wrap,IntKind.bits,IntKind.signed];simp;omega
theorem OM{m:Nat}(h:m<256):(BitVec.ofInt IntKind.u8.bits (m:Int)).toNat=m:=by
 simp [IntKind.bits,BitVec.toNat_ofInt];omega
theorem cR{k:Nat}(a c:Nat)(hc:c<=k):((a:Int).fdiv (2 ^ (min c k)))=((a>>>c:Nat):Int):=by
 rw [Nat.min_eq_left hc,Nat.shiftRight_eq_div_pow,Int.fdiv_eq_ediv_of_nonneg _ (Int.pow_nonneg (by decide)),Int.natCast_ediv]
 rfl
theorem SN(K:ρ x=s8 a)(O:ρ y=iV m)(h:Ox a m=some r):Yl P ⟨d,.binOp .shr t x y u,ty,p,af,g⟩ ρ s (s8 r):=by
 unfold Ox at h;split at h
 ·rename_i U;cases h;have h:=Yl.shr (P:=P) (s:=s) (d:=d) (t:=t) (u:=u) (ty:=ty) (p:=p) (af:=af) (g:=g) K O U.1;rw [show IntKind.u8.bits=8 from rfl,cR a m.toNat (by omega)] at h;exact h
 ·cases h
theorem NN(O:ρ x=s8 a)(U:ρ y=s8 b)(h:LQ a b=some r):Yl P ⟨d,.binOp .or t x y u,ty,p,af,g⟩ ρ s (s8 r):=by
 unfold LQ at h;split at h
 ·rename_i K;cases h;have h:=Yl.or (P:=P) (s:=s) (d:=d) (t:=t) (u:=u) (ty:=ty) (p:=p) (af:=af) (g:=g) O U;rw [BitVec.toNat_or,OM K.1,OM K.2,UQ (Nat.or_lt_two_pow (n:=8) K.1 K.2)] at h;exact h
 ·cases h
theorem Sw(O:ρ x=s8 a)(U:ρ y=s8 b)(h:Oy a b=some r):Yl P ⟨d,.binOp .and t x y u,ty,p,af,g⟩ ρ s (s8 r):=by
 unfold Oy at h;split at h
 ·rename_i K;cases h;have h:=Yl.and (P:=P) (s:=s) (d:=d) (t:=t) (u:=u) (ty:=ty) (p:=p) (af:=af) (g:=g) O U;rw [BitVec.toNat_and,OM K.1,OM K.2,UQ (Nat.lt_of_le_of_lt Nat.and_le_left K.1)] at h;exact h
 ·cases h
end
def Qy(a b:Nat):Option Nat:=if a<4294967296/\b<4294967296 then some (a&&& b) else none
def Qp(a:Nat)(n:Int):Option Nat:=if 0<=n/\n<=32/\a*2 ^ n.toNat<4294967296 then some (a*2 ^ n.toNat) else none
def KY(n:Int):Option Nat:=if 0<=n/\n<=8 then some ((1<<<n.toNat) % 256) else none
section
variable {e:TypeId}{x y:Operand}{b r:Nat}{m:Int}
theorem wrap32{m:Nat}(h:m<4294967296):IntKind.u32.wrap (m:Int)=m:=by
 simp only [IntKind.wrap,IntKind.bits,IntKind.signed];simp;omega
theorem Vd{m:Nat}(h:m<4294967296):(BitVec.ofInt IntKind.u32.bits (m:Int)).toNat=m:=by
 simp [IntKind.bits,BitVec.toNat_ofInt];omega
theorem Xu(O:ρ x= .int .u32 (a:Int))(U:ρ y= .int .u32 (b:Int))(h:Qy a b=some r):Yl P ⟨d,.binOp .and t x y u,ty,p,af,g⟩ ρ s (.int .u32 (r:Int)):=by
 unfold Qy at h;split at h
 ·rename_i K;cases h;have h:=Yl.and (P:=P) (s:=s) (d:=d) (t:=t) (u:=u) (ty:=ty) (p:=p) (af:=af) (g:=g) O U;rw [BitVec.toNat_and,Vd K.1,Vd K.2,wrap32 (Nat.lt_of_le_of_lt Nat.and_le_left K.1)] at h;exact h
 ·cases h
theorem WN(O:ρ x= .int .u32 (a:Int))(U:ρ y=iV m)(h:Qp a m=some r):Yl P ⟨d,.binOp .shl t x y u,ty,p,af,g⟩ ρ s (.int .u32 (r:Int)):=by
 unfold Qp at h;split at h
 ·rename_i K;cases h;have h:=Yl.shl (P:=P) (s:=s) (d:=d) (t:=t) (u:=u) (ty:=ty) (p:=p) (af:=af) (g:=g) O U K.1;have e:IntKind.u32.wrap ((a:Int)*2 ^ (min m.toNat IntKind.u32.bits))=((a*2 ^ m.toNat:Nat):Int):=by
   have Y:min m.toNat IntKind.u32.bits=m.toNat:=by simp [IntKind.bits];omega
   rw [Y,← wrap32 K.2.2];simp
  rw [e] at h;exact h
 ·cases h
theorem Mg(K:ρ x=s8 1)(O:ρ y=iV m)(h:KY m=some r):Yl P ⟨d,.binOp .shl t x y u,ty,p,af,g⟩ ρ s (s8 r):=by
 unfold KY at h;split at h
 ·rename_i U;cases h;have h:=Yl.shl (P:=P) (s:=s) (d:=d) (t:=t) (u:=u) (ty:=ty) (p:=p) (af:=af) (g:=g) K O U.1;have e:IntKind.u8.wrap (((1:Nat):Int)*2 ^ (min m.toNat IntKind.u8.bits))=(((1<<<m.toNat) % 256:Nat):Int):=
   (by decide:∀k:Fin 9,IntKind.u8.wrap (((1:Nat):Int)*2 ^ (min k.1 IntKind.u8.bits))=(((1<<<k.1) % 256:Nat):Int)) ⟨m.toNat,by omega⟩
  rw [e] at h;exact h
 ·cases h
theorem YM(K:ρ x=s8 a)(O:ρ y=s8 b)(hb:b<=256):Yl P ⟨d,.binOp .sub t x y u,ty,p,af,g⟩ ρ s (s8 ((a+(256 - b)) % 256)):=by
 have h:=Yl.sub (P:=P) (s:=s) (d:=d) (t:=t) (u:=u) (ty:=ty) (p:=p) (af:=af) (g:=g) K O;have e:IntKind.u8.wrap ((a:Int) - (b:Int))=(((a+(256 - b)) % 256:Nat):Int):=by
  simp only [IntKind.wrap,IntKind.bits,IntKind.signed];simp;omega
 rw [e] at h;exact h
theorem Zo{kd:IntKind}{E:LH}(xs:List Nat):(rA xs.length (rN kd)).r E (xs.map λx=>Value.int kd ((x:Nat):Int)) xs:=by
 refine⟨V,xs.map λx=> [Value.int kd ((x:Nat):Int)],?_,by simp,λi x us K hu=>?_⟩
 ·induction xs with
  | nil=>rfl
  | cons x xs O=>simp [← O]
 ·rw [List.getElem?_map,K] at hu;exact(Option.some.inj hu).symm
theorem NI{α:Type}{kk:Nat}{pp:Rp α}{E:LH}{us:Lv_}{x:α}(h:pp.r E us x):(rA kk pp).r E (List.replicate kk us).flatten (List.replicate kk x):=
 ⟨by simp,List.replicate kk us,V,by simp,λi y ws K hw=>by
  rw [List.getElem?_replicate] at K hw
  split at K
  ·rename_i O
   rw [if_pos O] at hw
   cases K;cases hw
   exact h
  ·cases K⟩
theorem YA{k K:Nat}{z v:Value}(O:P.underlying t=some (.array k e))(U:zeroOf P t=some z)(Y:Bp P e=some K)(Z: .agg z.cells=v):Yl P ⟨d,.build t #[],ty,p,af,g⟩ ρ s v:=by
 refine FT Pq ?_;unfold Instr.build;refine Aw (x:=zeroValue t) _ (HI U ?_);refine Aw _ _ (Cn O ?_);refine Aw (x:=Go.sizeOf e) _ (EY Y ?_);subst Z;simp [Instr.fill,lp,pure]
theorem Zq{k K:Nat}{z v:Value}{L:Env}{U:Array (Nat×Operand)}{vs:List (Nat×Value)}(h:EO L ρ)(Y:P.underlying t=some (.array k e))(Z:zeroOf P t=some z)(ac:Bp P e=some K)(ag:U.toList.mapM (λq=>(ev L q.2).map λv=>(q.1,v))=some vs)(O:(Instr.fill (λi=>some (i*K,K)) z.cells vs).map Value.agg=some v):Yl P ⟨d,.build t U,ty,p,af,g⟩ ρ s v:=by
 refine FT Pq ?_;unfold Instr.build;refine Aw (x:=zeroValue t) _ (HI Z ?_);refine Aw _ _ (Cn Y ?_);refine Aw (x:=Go.sizeOf e) _ (EY ac ?_);have al:=Pt h ag;have am:(U.map λ(j,x)=>(j,ρ x)).toList=vs:=by rw [← al,Array.toList_map]
 rw [am];cases hc:Instr.fill (λi=>some (i*K,K)) z.cells vs with
 | none=>rw [hc] at O;cases O
 | some cells=>rw [hc] at O;cases O;exact⟨rfl,rfl⟩
end
section
variable {e:TypeId}
end
section
variable {fuel:Nat}{listed:Array Bool}
variable {x y:Operand}{e:TypeId}{i:Nat}
end
def Hb(b:Frame)(T:Av_)(ds:Ld_)(todo:Li_)(ch:List PanicEntry):Frame:={b with tmps:=T,todo:=todo,defers:=ds,mode:= .panicking ch}
def raised(v:Value):List PanicEntry:= [{v,recovered:=false}]
def taken(v:Value):List PanicEntry:= [{v,recovered:=true}]
section
variable (J:Judge P)(Q:Gs_)
def JP(b:Frame)(n:Nat)(L:Env)(ds:Ld_)(cs:Lf_)(ch:List PanicEntry)(s:St):Prop:=
 ∀T,Has n L T->∀todo,J.ok Q (G (Hb b T ds todo ch) cs) s
end
variable {bc:Frame}{dsc:Ld_}{ch:List PanicEntry}{T Tc:Av_}{todoc:Li_}
section
variable {i:Nat}{x:Operand}
theorem JL.panic{t:TypeId}(O:ops[i]? =some ⟨d,.panic x,ty,p,af,g⟩)(U:b.roundOf=none)(hw:AN L ops ⟨d,.panic x,ty,p,af,g⟩=some true)(Y:ev L x=some (.iface t v))
  (h:JP J Q b n L ds cs (raised (.iface t v)) s):JL J Q b n L ds (.inRegion ops (i::rest)::k) cs s:=λT K=>
 Judge.Dg V (λw=>by
  have he:execOp (Bu T) ⟨d,.panic x,ty,p,af,g⟩= .halt (.panic (.iface t v)):=by
   simp [execOp,Instr.panic,K.ev Y,goPanic,bind,Sem.bind]
  rw [stepG_op O (B7 K hw)]
  simp [U,stepG.apply,he,Sem.run,Sem.runT,Sem.events,GStep.after,fr,Hb,Frame.raise,G,raised,seen_none]) (h T K (.inRegion ops (i::rest)::k))
theorem JP.pop{fn:Func}(K:P.funcs[b.fn]? =some fn)(h:J.ok Q (G (Hb bc Tc dsc todoc ch) cs) s):JP J Q b n L [] (fr bc Tc dsc todoc::cs) ch s:=λT O todo=>
 Judge.Dg V (λw=>by simp [G,stepG,unwind,Hb,fr,Frame.raise,Frame.catches,K]) h
theorem JP.Qh{f:FuncId}{fn:Func}{c:Code}{vs caps:Lv_}(ap:b.roundOf=none)(O:P.funcs[f]? =some fn)(Y:(fn.name== "runtime.NumGoroutine")=false)(hb:fn.body=some c)(Z:(vs++caps).length<=fn.ntmps)
  (h:∀T,Has n L T->∀todo,JL J Q (baseD f) fn.ntmps (Gr 0 (vs++caps)) [] [.code c] (Hb b T ds todo ch::cs) s):JP J Q b n L (KV f vs.toArray caps.toArray::ds) cs ch s:=λT ac todo=>by
 have ag:¬fn.name= "runtime.NumGoroutine" :=by simpa using Y
 refine Judge.Dg rfl (λw=>?_) (h T ac todo ((vs++caps).toArray++Array.replicate (fn.ntmps - (vs++caps).length) undef) ⟨by simp;simp at Z;omega,λt v al=>?_⟩)
 ·rw [BK (b:=baseD f) rfl];have:=enter_atD (P:=P) (vs++caps).toArray O hb;simp only [List.size_toArray] at this;rw [← this];simp [G,stepG,unwind,callDeferred,Hb,KV,invoke,callFunc,O,ag,hb,GStep.after,seen_none]
 ·obtain⟨_,K⟩:=JM al;have am:t<(vs++caps).length:=by
   rcases Nat.lt_or_ge t (vs++caps).length with U | U
   ·exact U
   ·simp only [Nat.sub_zero] at K;have:=(List.getElem?_eq_some_iff.1 K).1;omega
  rw [Array.getD_eq_getD_getElem?,Array.getElem?_append_left (by simpa using am)];simp only [Nat.sub_zero] at K;rw [List.getElem?_toArray,K];rfl
theorem VY{ats:Array TypeId}{K:List PanicEntry}(O:ops[i]? =some ⟨d,.call ⟨.builtin .recover,#[],ats⟩,ty,p,af,g⟩)(U:b.roundOf=none)(Y:b.kind= .deferred)(ag:Bh n d=true)(hw:AN L ops ⟨d,.call ⟨.builtin .recover,#[],ats⟩,ty,p,af,g⟩=some true)
  (h:JL J Q b n (Ax L d v) ds (.inRegion ops rest::k) (Hb bc Tc dsc todoc ({v,recovered:=true}::K)::cs) s):
  JL J Q b n L ds (.inRegion ops (i::rest)::k) (Hb bc Tc dsc todoc ({v,recovered:=false}::K)::cs) s:=λT Z=>
 Judge.Dg V (λw=>by
  have he:execOp (Bu T) ⟨d,.call ⟨.builtin .recover,#[],ats⟩,ty,p,af,g⟩= .pure .recover:=by
   simp [execOp,resolve,Deferred.ofValue,invoke,bind,Sem.bind,pure,Go.builtin]
  have ac:=GF (b:=b) (ds:=ds) (k:=k) T ops i rest v _ O
  simp only [fr,U,Y] at ac
  rw [stepG_op O (B7 Z hw)]
  simp [U,Y,stepG.apply,he,Sem.run,Sem.runT,Sem.events,GStep.after,fr,Hb,tryRecover,G,seen_none,ac]) (h _ (Z.put ag _))
theorem VS{ats:Array TypeId}(K:ops[i]? =some ⟨d,.call ⟨.builtin .recover,#[],ats⟩,ty,p,af,g⟩)(O:b.roundOf=none)(U:b.kind= .deferred)(ac:Bh n d=true)(hw:AN L ops ⟨d,.call ⟨.builtin .recover,#[],ats⟩,ty,p,af,g⟩=some true)
  (h:JL J Q b n (Ax L d .nilIface) ds (.inRegion ops rest::k) (Eu bc Tc dsc todoc::cs) s):
  JL J Q b n L ds (.inRegion ops (i::rest)::k) (Eu bc Tc dsc todoc::cs) s:=λT Y=>
 Judge.Dg V (λw=>by
  have he:execOp (Bu T) ⟨d,.call ⟨.builtin .recover,#[],ats⟩,ty,p,af,g⟩= .pure .recover:=by
   simp [execOp,resolve,Deferred.ofValue,invoke,bind,Sem.bind,pure,Go.builtin]
  have Z:=GF (b:=b) (ds:=ds) (k:=k) T ops i rest .nilIface _ K
  simp only [fr,O,U] at Z
  rw [stepG_op K (B7 Y hw)]
  simp [O,U,stepG.apply,he,Sem.run,Sem.runT,Sem.events,GStep.after,fr,Eu,tryRecover,G,seen_none,Z]) (h _ (Y.put ac _))
theorem JO.ZX{fn:Func}(O:b.kind= .deferred)(U:P.funcs[b.fn]? =some fn)(K:fn.results= #[])(h:J.ok Q (G (Eu bc Tc dsc todoc) cs) s):JO J Q b n L [] (Hb bc Tc dsc todoc (taken v)::cs) s:=λT Z todo=>by
 refine Judge.Dg rfl (λw=>?_) h
 have Y:=results_none K T P w
 have e2:=λ(x:Array Event)=>events_results_none (P:=P) (w:=w) K T x
 simp [G,stepG,unwind,Eu,Hb,U,Y,e2,doReturn,O,GStep.after,seen_none,taken]
end
open Go.Proofs
abbrev Dq:=Int×Int×Int
abbrev Ay:=List Dq
abbrev AO:=List Ay
abbrev Bf:=List (List Int)
abbrev A8:=Bf×Ay
abbrev Az:=rP rI Er
open Go.Proofs.Tryz
def AA:=AV Tryz.type3
def A0:=AV Tryz.type27
def F8:=AV Tryz.type101
def I9:=AV Tryz.type105
def M3:=AV Tryz.type227
def AY:=C9 Tryz.underlying3
def LY:=A6 Tryz.func91 rfl
def GX:=AV Tryz.type22
def GC:=C9 Tryz.underlying22
def EK:=AV Tryz.type23
def FR:=C9 Tryz.underlying23
def DU:=C9 Tryz.underlying27
def BF:=Dv Tryz.type27
def GW:=AV Tryz.type28
def Kr:=C9 Tryz.underlying28
def K6:=Dv Tryz.type105
def De:=AV Tryz.type25
def IP:=C9 Tryz.underlying105
def I8:=Dv Tryz.type101
def Hi:=Dv Tryz.type77
def Fu:=C9 Tryz.underlying25
def Dt:=AV Tryz.type77
def FQ:=C9 Tryz.underlying77
def Cq:=Dv Tryz.type3
def JI:=A6 Tryz.func70 rfl
def O1:=A6 Tryz.func84 rfl
def Ic:=A6 Tryz.func74 rfl
def L4:=AV Tryz.type4
def OT:=C9 Tryz.underlying4
def Bg:=AV Tryz.type80
def Bx:=C9 Tryz.underlying80
def HH:=AV Tryz.type197
def HG:=A6 Tryz.func85 rfl
def L2:=Dv Tryz.type28
def L3:=Dv Tryz.type4
def MW:=A6 Tryz.func115 rfl
def K8:=Dv Tryz.type209
def Ib:=A6 Tryz.func204 rfl
def O3:=Dv Tryz.type80
def MS:=C9 Tryz.underlying167
def OS:=C9 Tryz.underlying83
def LZ:=A6 Tryz.func71 rfl
def OY:=A6 Tryz.func205 rfl
def OV:=A6 Tryz.func179 rfl
def OZ:=A6 Tryz.func137 rfl
def MX:=A6 Tryz.func114 rfl
def Kq:=C9 Tryz.underlying197
def O0:=Dv Tryz.type227
def MR:=C9 Tryz.underlying227
def JJ:=AV Tryz.type156
def M1:=Dv Tryz.type156
def MT:=C9 Tryz.underlying156
def Hh:=C9 Tryz.underlying21
def M5:=AV Tryz.type85
def Ks:=Dv Tryz.type25
def K7:=A6 Tryz.func67 rfl
def OU:=A6 Tryz.func110 rfl
def M0:=A6 Tryz.func63 rfl
def MZ:=A6 Tryz.func29 rfl
def O2:=A6 Tryz.func26 rfl
def JK:=AV Tryz.type72
def MV:=C9 Tryz.underlying72
def MY:=A6 Tryz.func36 rfl
def OX:=A6 Tryz.func108 rfl
theorem mixed:Tryz.prog.follows .mixedOrders=true:=rfl
theorem cN:B8 Tryz.prog 27 (rP rI (rP rI rI)) true 2:=B8.three underlying27 (B8.int underlying3 AA) (B8.int underlying3 AA) (B8.int underlying3 AA) (by decide+kernel) (by decide) (by decide) (by decide) V V V A0
theorem aF:B8 Tryz.prog 101 (rP rI rI) true 2:=B8.two underlying101 (B8.int underlying3 AA) (B8.int underlying3 AA) (by decide+kernel) (by decide) (by decide) V V F8
theorem bH:B8 Tryz.prog 105 (rA 5 rI) true 2:=B8.arr (kk:=5) (B8.int underlying3 AA) underlying105 I9
theorem aY:B8 Tryz.prog 225 (rA 10 rI) true 2:=B8.arr (kk:=10) (B8.int underlying3 AA) underlying225 (AV type225)
theorem T3:B8 Tryz.prog 227 (rA 5 (rA 10 rI)) true 3:=B8.arr (kk:=5) aY underlying227 M3
theorem bj:B8 Tryz.prog 249 (rP (rN .u8) (rA 5 (rA 10 rI))) true 4:=B8.two underlying249 ((B8.nat underlying5 (AV type5)).up (by decide)) T3 (by decide+kernel) (by decide) (by decide) V V (AV type249)
theorem I4:GH Tryz.prog 3 rI false:=(B8.int underlying3 AA).key (by decide)
theorem Qr:GH Tryz.prog 101 (rP rI rI) true:=aF.key (by decide)
theorem Ur:GH Tryz.prog 227 (rA 5 (rA 10 rI)) true:=T3.key (by decide)
theorem Uw:GH Tryz.prog 249 (rP (rN .u8) (rA 5 (rA 10 rI))) true:=bj.key (by decide)
variable {J:Judge Tryz.prog}
def f91(fu_:Nat)(p0:Int)(K:Int)(p2:Int):Option Bool:= Option.bind (if K<=p0 then(some (decide (p0<=p2))) else(some false)) λO=> some O
theorem ME{p0:Int}{K:Int}{p2:Int}{fu_:Nat}{r:Bool}(O:f91 fu_ p0 K p2=some r):AP J 91 [iV p0,iV K,iV p2] E [] (λw E' B'=>w= .bool r/\B'= []):=by
 refine Bn func91 λQ ay cs H U Z=>?_;unfold f91 at O;obtain⟨ac,ag,al⟩:=bs O;refine C 10 V (Fy 8 1 [] [(14,.bool ac)] (λaz am ap=>?_) (λY=>?_))
 ·refine C 2 V ?_;obtain rfl:=oi al;exact AX func91 V V (Z am V ⟨V,V⟩ ap)
 ·refine FJ 10 ag (λaq av=>?_) (λaq aw=>?_)
  ·refine C 4 V ?_;obtain rfl:=oi av;exact Y Av U V
  ·refine C 4 V ?_;obtain rfl:=oi aw;exact Y Av U V
def f86(fu_:Nat)(p0:Int×Int×Int)(K:Int)(p2:Int):Option Int:= (Ar (K - 1)).bind λO=> (f91 fu_ p0.1 0 O).bind λU=> Option.bind (if(!U)=true then(some true) else((Ar (K - 1)).bind λY=> (f91 fu_ p0.2.1 0 Y).bind λZ=> some (!Z))) λac=> if ac=true then(some 3) else(if p0.1=p0.2.1 then(some 8) else((f91 fu_ p0.2.2 1 p2).bind λag=> if(!ag)=true then(some 1) else(some 0)))
theorem cC{p0:Int×Int×Int}{ag:Int}{p2:Int}{fu_:Nat}{r:Int}(al:f86 fu_ p0 ag p2=some r):AP J 86 [.agg #[iV p0.1,iV p0.2.1,iV p0.2.2],iV ag,iV p2] E [] (λw E' B'=>w=iV r/\B'= []):=by
 refine Bn func86 λQ ci cs H aw Y=>?_;unfold f86 at al;refine C 2 V (DF aw λr2 co Z U ay=>?_);refine C 6 V (B5 0 U underlying27 AA AY ?_);obtain⟨cp,az,a0⟩:=bs al;refine C 1 V (Cu az V V V ?_);obtain⟨a1,a2,a3⟩:=bs a0;refine CH (ME a2) V V LY ay λct K am=>Am (v:= .bool (!a1)) V (λρ h=>Yl.not (h _ _ V)) ?_;obtain⟨a4,a5,a6⟩:=bs a3;refine C 1 V (Fy 14 1 [] [(2,iV p2),(3,Ak r2 0),(21,.bool a4)] (λcw O ac=>?_) (λap=>?_))
 ·refine C 2 V (Ck a6 (λa7 a8=>?_) (λa7 a9=>?_))
  ·refine C 4 V ?_;obtain rfl:=oi a8;exact AX func86 V V (Y ((Z.Ad K).Ad O) V ⟨V,V⟩ ac)
  ·refine C 2 V (B5 0 (U.Ah (K.Ad O)) underlying27 AA AY ?_);refine B5 1 (U.Ah (K.Ad O)) underlying27 AA AY ?_;refine C 3 V (AL a9 (λbb be=>?_) (λbb bi=>?_))
   ·refine C 4 V ?_;obtain rfl:=oi be;exact AX func86 V V (Y ((Z.Ad K).Ad O) V ⟨V,V⟩ ac)
   ·refine C 2 V (B5 2 (U.Ah (K.Ad O)) underlying27 AA AY ?_);obtain⟨bn,bo,bv⟩:=bs bi;refine C 1 V (CH (ME bo) V V LY ac λcy aq av=>?_);refine Am (v:= .bool (!bn)) V (λρ h=>Yl.not (h _ _ V)) (C 2 V ?_);refine Ck bv (λbw bx=>?_) (λbw bz=>?_)
    ·refine C 4 V ?_;obtain rfl:=oi bx;exact AX func86 V V (Y (((Z.Ad K).Ad O).Ad aq) V ⟨V,V⟩ av)
    ·refine C 6 V ?_;obtain rfl:=oi bz;exact AX func86 V V (Y (((Z.Ad K).Ad O).Ad aq) V ⟨V,V⟩ av)
 ·refine EB 14 a5 (λb0 b1=>?_) (λb0 b2=>?_)
  ·refine C 7 V ?_;obtain rfl:=oi b1;exact ap Av am V
  ·refine B5 1 (U.Ah K) underlying27 AA AY ?_;obtain⟨c0,b3,b4⟩:=bs b2;refine C 1 V (Cu b3 V V V ?_);obtain⟨b5,b6,ca⟩:=bs b4;refine CH (ME b6) V V LY am λc1 cc ce=>Am (v:= .bool (!b5)) V (λρ h=>Yl.not (h _ _ V)) (C 1 V ?_);obtain rfl:=oi ca;exact ap cc ce V
def Ob(fu_:Nat)(O:List Int)(K:Int):Option (Bd Int ((Int)⊕(Unit))):= if K<(O.length:Int) then((ix O K).bind λU=> (f91 fu_ U 1 9).bind λY=> if(!Y)=true then(some (.done (Sum.inl 1))) else((Ar (K+1)).bind λZ=> some (.more Z))) else(some (.done (Sum.inr ())))
def NY(fu_:Nat)(p0:A8)(K:Int):Option (Bd Int ((Int)⊕(Unit))):= if K<(p0.1.length:Int) then((ix p0.1 K).bind λO=> if 3<(O.length:Int) then(some (.done (Sum.inl 6))) else(Option.bind (iter (Ob fu_ O) fu_ 0) λU=> Sum.elim (λr=>some (.done (Sum.inl r))) (λZ=> (Ar (K+1)).bind λY=> some (.more Y)) U)) else(some (.done (Sum.inr ())))
def Ux(fu_:Nat)(p0:A8)(K:Int):Option (Bd Int ((Int)⊕(Unit))):= if K<(p0.2.length:Int) then((ix p0.2 K).bind λU=> (f86 fu_ U (p0.1.length:Int) 9).bind λO=> if O≠0 then(some (.done (Sum.inl O))) else((Ar (K+1)).bind λY=> some (.more Y))) else(some (.done (Sum.inr ())))
def f47(fu_:Nat)(p0:A8):Option Int:= if(p0.1.length:Int)<2 then(some 7) else(if 5<(p0.1.length:Int) then(some 6) else(Option.bind (iter (NY fu_ p0) fu_ 0) λK=> Sum.elim (λr=>some r) (λU=> if 8<(p0.2.length:Int) then(some 6) else(Option.bind (iter (Ux fu_ p0) fu_ 0) λO=> Sum.elim (λr=>some r) (λY=> some 0) O)) K))
theorem dB{a1:Ao}{c2:Nat}{aw:Ao}{ay:Nat}{p0:A8}(cw:An (rL rI) E a1 c2 p0.1)(cy:An Az E aw ay p0.2){fu_:Nat}{r:Int}(a8:f47 fu_ p0=some r):AP J 47 [.agg #[sV a1 p0.1 c2,sV aw p0.2 ay]] E [] (λw E' B'=>w=iV r/\B'= []):=by
 refine Bn func47 λQ fz cs H c0 O=>?_;unfold f47 at a8;refine C 2 V (DF c0 λY c1 K Z az=>?_);refine C 5 V (B5 0 Z underlying25 GX GC ?_);refine JL.ln underlying22 V V V (C 9 V ?_);refine AL a8 (λc3 c4=>?_) (λc3 c5=>?_)
 ·refine C 4 V ?_;obtain rfl:=oi c4;exact AX func47 V V (O K V ⟨V,V⟩ az)
 ·refine C 6 V (AL c5 (λc6 c7=>?_) (λc6 c8=>?_))
  ·refine C 4 V ?_;obtain rfl:=oi c7;exact AX func47 V V (O K V ⟨V,V⟩ az)
  ·refine C 5 V (B5 0 Z underlying25 GX GC ?_);refine JL.ln underlying22 V V V ?_;obtain⟨a9,c9,a0⟩:=bs c8;refine C 2 V (Br (λL s=>∃(bb:Unit) (a2:LH),a9=Sum.inr bb/\Jm c1 H a2 [] [(1,Ak Y 0)] L s) ?_ ?_)
   ·rintro _ _ ⟨bb,a2,rfl,rfl,rfl,U,be⟩;have dd:=elim_inr a0;refine C 3 V (B5 1 (Z.Ah U) underlying25 EK FR ?_);refine JL.ln underlying23 V V V (C 2 V ?_);refine AL dd (λdn ea=>?_) (λdn eb=>?_)
    ·refine C 4 V ?_;obtain rfl:=oi ea;exact AX func47 V V (O (K.Ad U) V ⟨V,V⟩ be)
    ·refine C 4 V (B5 1 (Z.Ah U) underlying25 EK FR ?_);refine JL.ln underlying23 V V V ?_;obtain⟨bi,ec,bn⟩:=bs eb;refine C 2 V (Br (λL s=>∃(bo:Unit) (bv:LH),bi=Sum.inr bo/\Jm a2 H bv [] [] L s) ?_ ?_)
     ·rintro _ _ ⟨bo,bv,rfl,rfl,rfl,ed,ee⟩;have ef:=elim_inr bn;refine C 4 V ?_;obtain rfl:=oi ef;exact AX func47 V V (O ((K.Ad U).Ad ed) V ⟨V,V⟩ ee)
     ·intro eg;refine JL.block (CO ec (λa3=> []) (λa3=> [(1,Ak Y 0),(46,sV aw p0.2 ay),(47,iV (p0.2.length:Int)),(48,iV a3)]) Av be ?_);rintro a3 ej ac bw bx ⟨fA,ap⟩ ek;have bz:=ap;unfold Ux at bz;refine C 5 V (AL bz (λel em=>?_) (λel eo=>?_))
      ·obtain⟨fB,er,eu⟩:=bs em;refine C 5 V (JS.ix (cy.Ah ((K.Ad U).Ad ac)) er underlying23 A0 ?_);rintro fC fD _ ⟨_,_,rfl,rfl,⟨_,_,rfl,rfl,rfl⟩⟩ ew;refine Cg ew DU A0 V V (B3 bw BF λfE ex=>?_);refine BQ 0 ex A0 λey=>?_;refine Du 0 ey V λfF a4 ez eA=>C 3 V (Cg ez DU A0 V V ?_);refine B5 0 (Z.Ah ((U.Ad ac).Ad a4)) underlying25 GX GC ?_;refine JL.ln underlying22 V V V ?_;obtain⟨fG,eB,eC⟩:=bs eu;refine CH (cC eB) V V (A6 func86 V) eA λfH b0 b1=>C 7 V (AL eC (λeD eE=>?_) (λeD eF=>?_))
       ·refine C 5 V ?_;obtain rfl:=oi eE;obtain rfl:=bx _ ap;have eG:=elim_inl bn;obtain rfl:=oi eG;exact AX func47 V V (O ((((K.Ad U).Ad ac).Ad a4).Ad b0) V ⟨V,V⟩ b1)
       ·obtain⟨eH,eI,eJ⟩:=bs eF;refine C 3 V (Bl eI V V V ?_);refine C 2 V ?_;obtain rfl:=oi eJ;exact ek eH ((ac.Ad a4).Ad b0) b1 V ap
      ·refine JL.exit V ?_;obtain rfl:=oi eo;have eK:bi=(Sum.inr ()):=(bx _ ap).symm;exact AB (eg _ _ ⟨(),ej,eK,V,V,ac,bw⟩) V
   ·intro eL;refine JL.block (CO c9 (λag=> []) (λag=> [(1,Ak Y 0),(21,sV a1 p0.1 c2),(22,iV (p0.1.length:Int)),(23,iV ag)]) Av az ?_);rintro ag b2 al a5 a6 ⟨fI,am⟩ eM;have b3:=am;unfold NY at b3;refine C 5 V (AL b3 (λeN eO=>?_) (λeN eP=>?_))
    ·obtain⟨b4,eQ,eR⟩:=bs eO;refine C 5 V (JS.ix (cw.Ah (K.Ad al)) eQ underlying22 GW ?_);rintro fJ fK _ ⟨eS,eT,rfl,eU⟩ eV;refine CQ 0 eV Kr V V V (C 6 V ?_);refine JL.ln underlying28 V V V (C 2 V ?_);refine AL eR (λeW eX=>?_) (λeW eY=>?_)
     ·refine C 4 V ?_;obtain rfl:=oi eX;obtain rfl:=a6 _ am;have eZ:=elim_inl a0;obtain rfl:=oi eZ;exact AX func47 V V (O (K.Ad al) V ⟨V,V⟩ a5)
     ·refine C 4 V (JL.ln underlying28 V V V ?_);obtain⟨b5,e0,b6⟩:=bs eY;refine C 2 V (Br (λL s=>∃(ca:Unit) (cc:LH),b5=Sum.inr ca/\Jm b2 H cc [] [(1,Ak Y 0),(21,sV a1 p0.1 c2),(22,iV (p0.1.length:Int)),(23,iV ag)] L s) ?_ ?_)
      ·rintro _ _ ⟨ca,cc,rfl,rfl,rfl,e1,e3⟩;have e4:=elim_inr b6;obtain⟨e5,e6,e7⟩:=bs e4;refine C 2 V (Bl e6 V V V ?_);refine C 2 V ?_;obtain rfl:=oi e7;exact eM e5 (al.Ad e1) e3 V am
      ·intro e8;refine JL.block (CO e0 (λa7=> []) (λa7=> [(1,Ak Y 0),(21,sV a1 p0.1 c2),(22,iV (p0.1.length:Int)),(23,iV ag),(30,sV eS b4 eT),(31,iV (b4.length:Int)),(32,iV a7)]) Av a5 ?_);rintro a7 e9 aq ce ci ⟨fL,av⟩ fa;have co:=av;unfold Ob at co;refine C 5 V (AL co (λfb fc=>?_) (λfb fe=>?_))
       ·obtain⟨fM,ff,fg⟩:=bs fc;refine C 5 V (JS.ix (eU.Ah aq) ff underlying28 AA ?_);rintro fN fO _ rfl fh;refine CQ 0 fh AY V V V ?_;obtain⟨fj,fk,fl⟩:=bs fg;refine C 5 V (CH (ME fk) V V LY ce λfP cp ct=>?_);refine Am (v:= .bool (!fj)) V (λρ h=>Yl.not (h _ _ V)) (JL.done ?_);refine Ck fl (λfm fo=>?_) (λfm fp=>?_)
        ·refine C 4 V ?_;obtain rfl:=oi fo;obtain rfl:=ci _ av;have fq:=elim_inl b6;obtain rfl:=oi fq;obtain rfl:=a6 _ am;have fs:=elim_inl a0;obtain rfl:=oi fs;exact AX func47 V V (O (((K.Ad al).Ad aq).Ad cp) V ⟨V,V⟩ ct)
        ·obtain⟨fu,fv,fw⟩:=bs fp;refine C 3 V (Bl fv V V V ?_);refine C 2 V ?_;obtain rfl:=oi fw;exact fa fu (aq.Ad cp) ct V av
       ·refine JL.exit V ?_;obtain rfl:=oi fe;have fx:b5=(Sum.inr ()):=(ci _ av).symm;exact AB (e8 _ _ ⟨(),e9,fx,V,V,aq,ce⟩) V
    ·refine JL.exit V ?_;obtain rfl:=oi eP;have fy:a9=(Sum.inr ()):=(a6 _ am).symm;exact AB (eL _ _ ⟨(),b2,fy,V,V,al,a5⟩) V
def NX(fu_:Nat)(p0:A8)(O:(List Int)×Int):Option (Bd ((List Int)×Int) ((List Int))):= if O.2<(p0.2.length:Int) then((ix p0.2 O.2).bind λK=> (ix O.1 K.2.1).bind λY=> (Ar (Y+K.2.2)).bind λU=> (ix O.1 K.2.1).bind λal=> (ix (O.1.set (Int.toNat K.2.1) U) K.1).bind λZ=> (Ar (Z - K.2.2)).bind λac=> (ix (O.1.set (Int.toNat K.2.1) U) K.1).bind λam=> (Ar (O.2+1)).bind λag=> some (.more (((O.1.set (Int.toNat K.2.1) U).set (Int.toNat K.1) ac),ag))) else(some (.done O.1))
def f84(fu_:Nat)(p0:A8):Option ((List Int)):= Option.bind (iter (NX fu_ p0) fu_ ((List.replicate 5 (0:Int)),0)) λK=> some K
theorem QS{a1:Ao}{c2:Nat}{a8:Ao}{a9:Nat}{p0:A8}(eF:An (rL rI) E a1 c2 p0.1)(ce:An Az E a8 a9 p0.2){fu_:Nat}{r:(List Int)}(bw:f84 fu_ p0=some r):AP J 84 [.agg #[sV a1 p0.1 c2,sV a8 p0.2 a9]] E [] (λw E' B'=>∃(bx:Lv_),w= .agg bx.toArray/\B'= []/\(rA 5 rI).r E' bx r):=by
 refine Bn func84 λQ eG cs H ci co=>?_;unfold f84 at bw;refine C 2 V (DF ci λeH a2 bz cp ct=>?_);refine B3 ct K6 λa3 cw=>?_;refine C 3 V (B3 cw K6 λU cy=>?_);refine C 4 V (JL.fd underlying77 De V V V ?_);refine B5 1 cp underlying25 EK FR ?_;refine JL.ln underlying23 V V V ?_;obtain⟨c0,c1,c3⟩:=bs bw;refine C 2 V (Br (λL s=>∃(aw:LH) (Y:Lv_),Jn a2 H aw [bX a3 (([]:Lv_)++(List.replicate 5 (iV 0):Lv_)).toArray 105,bX U (([]:Lv_)++Y).toArray 105] [(2,Ak a3 0),(3,Ak U 0)] L s ((rA 5 rI).r aw Y c0)) ?_ ?_)
 ·rintro _ _ ⟨aw,Y,rfl,rfl,c4,b0,ac⟩;refine C 2 V (Am (v:= .agg Y.toArray) V (λρ h=>Il (kk:=5) (pp:=rI) ac IP I9 (h _ _ V) (GY (l:= []) 1 b0 V)) ?_);refine HK (v:= .agg Y.toArray) (l:= []) (ws:=(List.replicate 5 (iV 0):Lv_)) (us:=Y) (o:=0) 0 V V V b0 V V V (by rw [Ch (kk:=5) (pp:=rI) ac];exact AV type105) ((rA 5 rI).one ac) V (by rw [Ch (kk:=5) (pp:=rI) ac,Ch (kk:=5) (pp:=rI) (G4 (E:=aw) (pp:=rI) rfl)];omega) λb1=>?_;rw [JU (by rw [Ch (kk:=5) (pp:=rI) ac,Ch (kk:=5) (pp:=rI) (G4 (E:=aw) (pp:=rI) rfl)])] at b1 ⊢;refine JL.done (JS.drop 1 b1 V λb2=>?_);obtain rfl:=oi c3;refine JL.ret (v:= .agg Y.toArray) V V (Bz.list func84 V (vs:= [.agg Y.toArray]) ⟨⟨_,V,Ld.many (vs:=Y) IP (by rw [Ch (kk:=5) (pp:=rI) ac];exact AV type105) (GY (l:= []) 0 b2 V)⟩,trivial⟩) (EM 0 b2 V λc5=>?_);exact co (bz.Ad c4) V ⟨Y,V,V,ac⟩ c5
 ·intro c6;refine JL.block (CG c1 (λL s al=>∃(a4:LH) (am:Lv_),Jn a2 H a4 [bX a3 (([]:Lv_)++(List.replicate 5 (iV 0):Lv_)).toArray 105,bX U (([]:Lv_)++am).toArray 105] [(2,Ak a3 0),(3,Ak U 0),(8,sV a8 p0.2 a9),(9,iV (p0.2.length:Int)),(10,iV al.2)] L s ((rA 5 rI).r a4 am al.1)) ⟨a2,(List.replicate 5 (iV 0):Lv_),V,V,Av,cy,(G4 (E:=a2) (pp:=rI) V)⟩ ?_);rintro _ _ al ⟨a4,am,rfl,rfl,bb,b3,ap⟩ c7 ⟨eI,be⟩ c8;have b4:=be;unfold NX at b4;refine C 5 V (AL b4 (λc9 dd=>?_) (λc9 dn=>?_))
  ·obtain⟨K,ea,eb⟩:=bs dd;refine C 5 V (JS.ix (ce.Ah (bz.Ad bb)) ea underlying23 A0 ?_);rintro eJ eK _ ⟨_,_,rfl,rfl,⟨_,_,rfl,rfl,rfl⟩⟩ ec;refine Cg ec DU A0 V V (B3 b3 BF λeL ed=>?_);refine BQ 2 ed A0 λee=>?_;refine Du 2 ee V λbi aq a5 ay=>C 2 V (Fz 6 [U] ⟨⟨1,_,V⟩,trivial⟩ ay λO=>?_);refine JG.fd 0 O underlying27 AA V V V V (JG.lp 1 O 1 a5 ay ⟨⟨1,_,V⟩,trivial⟩ AY ?_);obtain⟨ef,b5,eg⟩:=bs eb;obtain⟨_,rfl,_,_,ej⟩:=HL (kk:=5) (pp:=rI) (Rp.Ah _ aq ap) b5;refine AJ (v:= .pointer (some ⟨U,0+Int.toNat (K.2.1)*1,none⟩)) 2 O V V (λρ h s' az=>Jh (kk:=5) (pp:=rI) (Rp.Ah _ aq ap) b5 underlying105 AA (h _ _ V) (h _ _ V)) (AJ (v:=iV ef) 3 O V V (λρ h s' az=>Yl.load AY (h _ _ V) (Nm (l:= []) 1 ay V (by simp [AD]) az (ej 0 _ V))) ?_);refine JG.fd 4 O underlying27 AA V V V V (JG.lp 5 O 2 a5 ay ⟨⟨1,_,V⟩,trivial⟩ AY ?_);refine C4 [6,7,8] ?_;obtain⟨Z,ek,el⟩:=bs eg;refine Bl ek V V V ?_;obtain⟨eM,bn,em⟩:=bs el;obtain⟨_,rfl,_,_,eN⟩:=HL (kk:=5) (pp:=rI) (Rp.Ah _ aq ap) bn;refine Am (v:= .pointer (some ⟨U,0+Int.toNat (K.2.1)*1,none⟩)) V (λρ h=>Jh (kk:=5) (pp:=rI) (Rp.Ah _ aq ap) bn underlying105 AA (h _ _ V) (h _ _ V)) ?_;have a6:=N6 (us:= [iV Z]) (y:=Z) (Rp.Ah _ aq ap) bn V;refine HK (v:=iV Z) (l:= []) (ws:=am) (us:= [iV Z]) (o:=Int.toNat (K.2.1)*1) 1 V V V ay V V V AA (by simp [Value.cells,Dj]) V a6.2 λav=>?_;replace a6:=a6.1;generalize eo:IG am (Int.toNat (K.2.1)*1) [iV Z]=bo at av ⊢;have a0:(rA 5 rI).r bi bo (al.1.set (Int.toNat K.2.1) Z):=by rw [← eo];exact a6
   refine JL.done (Fz 6 [U] ⟨⟨1,_,V⟩,trivial⟩ av λO=>?_);refine JG.fd 0 O underlying27 AA V V V V (JG.lp 1 O 0 a5 av ⟨⟨1,_,V⟩,trivial⟩ AY ?_);obtain⟨er,b6,eu⟩:=bs em;obtain⟨_,rfl,_,_,ew⟩:=HL (kk:=5) (pp:=rI) a0 b6;refine AJ (v:= .pointer (some ⟨U,0+Int.toNat (K.1)*1,none⟩)) 2 O V V (λρ h s' az=>Jh (kk:=5) (pp:=rI) a0 b6 underlying105 AA (h _ _ V) (h _ _ V)) (AJ (v:=iV er) 3 O V V (λρ h s' az=>Yl.load AY (h _ _ V) (Nm (l:= []) 1 av V (by simp [AD]) az (ew 0 _ V))) ?_);refine JG.fd 4 O underlying27 AA V V V V (JG.lp 5 O 2 a5 av ⟨⟨1,_,V⟩,trivial⟩ AY ?_);refine C4 [6,7,8] ?_;obtain⟨ag,ex,ey⟩:=bs eu;refine Cu ex V V V ?_;obtain⟨eO,bv,ez⟩:=bs ey;obtain⟨_,rfl,_,_,eP⟩:=HL (kk:=5) (pp:=rI) a0 bv;refine Am (v:= .pointer (some ⟨U,0+Int.toNat (K.1)*1,none⟩)) V (λρ h=>Jh (kk:=5) (pp:=rI) a0 bv underlying105 AA (h _ _ V) (h _ _ V)) ?_;have a7:=N6 (us:= [iV ag]) (y:=ag) a0 bv V;refine HK (v:=iV ag) (l:= []) (ws:=bo) (us:= [iV ag]) (o:=Int.toNat (K.1)*1) 1 V V V av V V V AA (by simp [Value.cells,Dj]) V a7.2 λca=>?_;replace a7:=a7.1;generalize eA:IG bo (Int.toNat (K.1)*1) [iV ag]=cc at ca ⊢;have eB:(rA 5 rI).r bi cc ((al.1.set (Int.toNat K.2.1) Z).set (Int.toNat K.1) ag):=by rw [← eA];exact a7
   obtain⟨eC,eD,eE⟩:=bs ez;refine C 3 V (Bl eD V V V ?_);refine C 2 V ?_;obtain rfl:=oi eE;exact AB (c8 _ _ (((al.1.set (Int.toNat K.2.1) Z).set (Int.toNat K.1) ag),eC) ⟨bi,cc,V,V,(bb.Ad aq),ca,eB⟩ be) V
  ·refine JL.exit V ?_;obtain rfl:=oi dn;obtain rfl:=c7 _ be;exact AB (c6 _ _ ⟨a4,am,V,V,bb,b3,ap⟩) V
def f204(fu_:Nat)(p0:List Int)(K:Int×Int×Int):Option ((List Int)):= (ix p0 K.1).bind λU=> (Ar (U+K.2.2)).bind λO=> (ix p0 K.1).bind λac=> (ix (p0.set (Int.toNat K.1) O) K.2.1).bind λY=> (Ar (Y - K.2.2)).bind λZ=> (ix (p0.set (Int.toNat K.1) O) K.2.1).bind λag=> some ((p0.set (Int.toNat K.1) O).set (Int.toNat K.2.1) Z)
theorem It{w1:Lv_}{p0:List Int}{K:Int×Int×Int}(am:(rA 5 rI).r E w1 p0){fu_:Nat}{r:(List Int)}(a5:f204 fu_ p0 K=some r):AP J 204 [.agg w1.toArray,.agg #[iV K.1,iV K.2.1,iV K.2.2]] E [] (λw E' B'=>∃(a6:Lv_),w= .agg a6.toArray/\B'= []/\(rA 5 rI).r E' a6 r):=by
 refine Bn func204 λQ co cs H be bi=>?_;unfold f204 at a5;refine C 2 V (JS.box (v:= .agg w1.toArray) V V V be V λr3 bn=>?_);refine DF bn λcp aw ac ay bo=>?_;refine B3 bo K6 λct ap=>?_;refine C 2 V (Fz 6 [r3] ⟨⟨1,_,V⟩,trivial⟩ ap λO=>?_);refine JG.fd 0 O underlying27 AA V V V V (JG.lp 1 O 0 ay ap ⟨⟨1,_,V⟩,trivial⟩ AY ?_);obtain⟨bv,a7,bw⟩:=bs a5;obtain⟨_,rfl,_,_,bx⟩:=HL (kk:=5) (pp:=rI) (Rp.Ah _ ac am) a7;refine AJ (v:= .pointer (some ⟨r3,0+Int.toNat (K.1)*1,none⟩)) 2 O V V (λρ h s' aq=>Jh (kk:=5) (pp:=rI) (Rp.Ah _ ac am) a7 underlying105 AA (h _ _ V) (h _ _ V)) (AJ (v:=iV bv) 3 O V V (λρ h s' aq=>Yl.load AY (h _ _ V) (Nm (l:= []) 1 ap V (by simp [AD]) aq (bx 0 _ V))) ?_);refine JG.fd 4 O underlying27 AA V V V V (JG.lp 5 O 2 ay ap ⟨⟨1,_,V⟩,trivial⟩ AY ?_);refine C4 [6,7,8] ?_;obtain⟨Y,bz,b0⟩:=bs bw;refine Bl bz V V V ?_;obtain⟨cw,a1,b1⟩:=bs b0;obtain⟨_,rfl,_,_,cy⟩:=HL (kk:=5) (pp:=rI) (Rp.Ah _ ac am) a1;refine Am (v:= .pointer (some ⟨r3,0+Int.toNat (K.1)*1,none⟩)) V (λρ h=>Jh (kk:=5) (pp:=rI) (Rp.Ah _ ac am) a1 underlying105 AA (h _ _ V) (h _ _ V)) ?_;have az:=N6 (us:= [iV Y]) (y:=Y) (Rp.Ah _ ac am) a1 V;refine HK (v:=iV Y) (l:= []) (ws:=w1) (us:= [iV Y]) (o:=Int.toNat (K.1)*1) 1 V V V ap V V V AA (by simp [Value.cells,Dj]) V az.2 λag=>?_;replace az:=az.1;generalize b2:IG w1 (Int.toNat (K.1)*1) [iV Y]=a2 at ag ⊢;have av:(rA 5 rI).r aw a2 (p0.set (Int.toNat K.1) Y):=by rw [← b2];exact az
 refine C 2 V (Fz 6 [r3] ⟨⟨1,_,V⟩,trivial⟩ ag λO=>?_);refine JG.fd 0 O underlying27 AA V V V V (JG.lp 1 O 1 ay ag ⟨⟨1,_,V⟩,trivial⟩ AY ?_);obtain⟨b3,a8,b4⟩:=bs b1;obtain⟨_,rfl,_,_,b5⟩:=HL (kk:=5) (pp:=rI) av a8;refine AJ (v:= .pointer (some ⟨r3,0+Int.toNat (K.2.1)*1,none⟩)) 2 O V V (λρ h s' aq=>Jh (kk:=5) (pp:=rI) av a8 underlying105 AA (h _ _ V) (h _ _ V)) (AJ (v:=iV b3) 3 O V V (λρ h s' aq=>Yl.load AY (h _ _ V) (Nm (l:= []) 1 ag V (by simp [AD]) aq (b5 0 _ V))) ?_);refine JG.fd 4 O underlying27 AA V V V V (JG.lp 5 O 2 ay ag ⟨⟨1,_,V⟩,trivial⟩ AY ?_);refine C4 [6,7,8] ?_;obtain⟨al,b6,ca⟩:=bs b4;refine Cu b6 V V V ?_;obtain⟨c0,a3,cc⟩:=bs ca;obtain⟨_,rfl,_,_,c1⟩:=HL (kk:=5) (pp:=rI) av a3;refine Am (v:= .pointer (some ⟨r3,0+Int.toNat (K.2.1)*1,none⟩)) V (λρ h=>Jh (kk:=5) (pp:=rI) av a3 underlying105 AA (h _ _ V) (h _ _ V)) ?_;have a0:=N6 (us:= [iV al]) (y:=al) av a3 V;refine HK (v:=iV al) (l:= []) (ws:=a2) (us:= [iV al]) (o:=Int.toNat (K.2.1)*1) 1 V V V ag V V V AA (by simp [Value.cells,Dj]) V a0.2 λa4=>?_;replace a0:=a0.1;generalize ce:IG a2 (Int.toNat (K.2.1)*1) [iV al]=U at a4 ⊢;have Z:(rA 5 rI).r aw U ((p0.set (Int.toNat K.1) Y).set (Int.toNat K.2.1) al):=by rw [← ce];exact a0
 refine C 3 V (Am (v:= .agg U.toArray) V (λρ h=>Il (kk:=5) (pp:=rI) Z IP I9 (h _ _ V) (GY (l:= []) 1 a4 V)) ?_);refine HK (v:= .agg U.toArray) (l:= []) (ws:=(List.replicate 5 (iV 0):Lv_)) (us:=U) (o:=0) 3 V V V a4 V V V (by rw [Ch (kk:=5) (pp:=rI) Z];exact AV type105) ((rA 5 rI).one Z) V (by rw [Ch (kk:=5) (pp:=rI) Z,Ch (kk:=5) (pp:=rI) (G4 (E:=aw) (pp:=rI) rfl)];omega) λa9=>?_;rw [JU (by rw [Ch (kk:=5) (pp:=rI) Z,Ch (kk:=5) (pp:=rI) (G4 (E:=aw) (pp:=rI) rfl)])] at a9 ⊢;refine JL.done (JS.drop 1 a9 V λbb=>?_);obtain rfl:=oi cc;refine JL.ret (v:= .agg U.toArray) V V (Bz.list func204 V (vs:= [.agg U.toArray]) ⟨⟨_,V,Ld.many (vs:=U) IP (by rw [Ch (kk:=5) (pp:=rI) Z];exact AV type105) (GY (l:= []) 3 bb V)⟩,trivial⟩) (EM 3 bb V λci=>?_);exact bi ac V ⟨U,V,V,Z⟩ ci
def f106(fu_:Nat)(p0:Int)(K:Int):Option Nat:= (Ar (max p0 K - 1)).bind λO=> (ix ([1,2,4,8]:List Nat) O).bind λU=> (Ar (4*(min p0 K))).bind λY=> (Qp U Y).bind λZ=> some Z
theorem Ul{p0:Int}{K:Int}{fu_:Nat}{r:Nat}(O:f106 fu_ p0 K=some r):AP J 106 [iV p0,iV K] E [] (λw E' B'=>w= .int .u32 ((r:Nat):Int)/\B'= []):=by
 refine Bn func106 λQ ay cs H U Y=>?_;unfold f106 at O;refine C 8 V (Am (v:=iV (min p0 K)) V (λρ h=>Yl.min2 (h _ _ V) (h _ _ V)) ?_);refine C 2 V (Am (v:=iV (max p0 K)) V (λρ h=>Yl.max2 (h _ _ V) (h _ _ V)) ?_);refine C 5 V (Am (v:= .agg (([1,2,4,8]:List Nat).map λx=>Value.int .u32 ((x:Nat):Int)).toArray) V (λρ h=>Zq h underlying164 (Dv type164) (AV type86) V V) ?_);obtain⟨az,Z,ac⟩:=bs O;refine C 1 V (Cu Z V V V ?_);obtain⟨a0,ag,al⟩:=bs ac;refine TW (Zo (E:=E) ([1,2,4,8]:List Nat)) ag V V V V V underlying164 (AV type86) (C9 underlying86) ?_ (λ_=>V);rintro _ rfl;obtain⟨a1,am,ap⟩:=bs al;refine C 1 V (Am V (λρ h=>NM (h _ _ V) (h _ _ V) am) ?_);obtain⟨aq,av,aw⟩:=bs ap;refine Am (v:= .int .u32 ((aq:Nat):Int)) V (λρ h=>WN (h _ _ V) (h _ _ V) av) (C 2 V ?_);obtain rfl:=oi aw;exact AX func106 V V (Y Av V ⟨V,V⟩ U)
def f136(fu_:Nat)(p0:Nat)(K:Int)(p2:Int):Option Bool:= (f106 fu_ K p2).bind λO=> (Qy p0 O).bind λU=> some (decide ((((U):Nat):Int)≠(((0):Nat):Int)))
theorem ae{p0:Nat}{K:Int}{p2:Int}{fu_:Nat}{r:Bool}(O:f136 fu_ p0 K p2=some r):AP J 136 [.int .u32 ((p0:Nat):Int),iV K,iV p2] E [] (λw E' B'=>w= .bool r/\B'= []):=by
 refine Bn func136 λQ av cs H U Y=>?_;unfold f136 at O;obtain⟨aw,Z,ac⟩:=bs O;refine C 9 V (CH (Ul Z) V V (A6 func106 V) U λay ag al=>?_);obtain⟨am,ap,aq⟩:=bs ac;refine Am (v:= .int .u32 ((am:Nat):Int)) V (λρ h=>Xu (h _ _ V) (h _ _ V) ap) (C 3 V ?_);obtain rfl:=oi aq;exact AX func136 V V (Y ag V ⟨V,V⟩ al)
def Nv(fu_:Nat)(O:(AH)×Int)(K:(AH)×Int):Option (Bd ((AH)×Int) ((AH))):= if K.2<O.2 then((room K.1 (K.2,O.2)).bind λU=> (Ar (K.2+1)).bind λY=> some (.more (U,Y))) else(some (.done K.1))
def Nu(fu_:Nat)(p0:A8)(K:(AH)×Int):Option (Bd ((AH)×Int) ((AH))):= if K.2<(p0.1.length:Int) then(Option.bind (iter (Nv fu_ K) fu_ (K.1,0)) λO=> (Ar (K.2+1)).bind λU=> some (.more (O,U))) else(some (.done K.1))
def f133(fu_:Nat)(p0:A8):Option ((AH)):= Option.bind (iter (Nu fu_ p0) fu_ ([],0)) λK=> some K
theorem bQ{a1:Ao}{c2:Nat}{a8:Ao}{a9:Nat}{p0:A8}(eC:An (rL rI) E a1 c2 p0.1)(eD:An Az E a8 a9 p0.2){fu_:Nat}{r:(AH)}(bb:f133 fu_ p0=some r):AP J 133 [.agg #[sV a1 p0.1 c2,sV a8 p0.2 a9]] E [] (λw E' B'=>∃(be:Ao) (bi:Nat),w= sV be r bi/\B'= []/\An Er E' be bi r):=by
 refine Bn func133 λQ eE cs H b3 b4=>?_;unfold f133 at bb;refine C 2 V (DF b3 λeF a2 b5 b6 ca=>?_);refine C 9 V (JL.fd underlying77 De V V V ?_);refine B5 0 b6 underlying25 GX GC ?_;refine JL.ln underlying22 V V V ?_;obtain⟨bn,cc,ce⟩:=bs bb;refine C 2 V (Br (λL s=>∃(a3:LH) (ap:Ao) (aq:Nat) (a4:Seg),Jn a2 H a3 [a4] [(3,sV ap bn aq)] L s (OL 101 Er a3 ap aq a4 bn)) ?_ ?_)
 ·rintro _ _ ⟨a3,ap,aq,a4,rfl,rfl,ci,co,cp⟩;refine C 5 V (BW 0 cp co V λeG ct cw cy=>?_);obtain rfl:=oi ce;exact AX func133 V V (b4 ((b5.Ad ci).Ad ct) V ⟨ap,aq,V,V,cw⟩ cy)
 ·intro c0;refine JL.block (CG cc (λL s K=>∃(O:LH) (Y:Ao) (Z:Nat) (ac:Seg),Jn a2 H O [ac] [(3,sV Y K.1 Z),(9,iV (p0.1.length:Int)),(10,iV K.2)] L s (OL 101 Er O Y Z ac K.1)) ⟨a2,none,0,[],V,V,Av,ca,OL.nil⟩ ?_);rintro _ _ K ⟨O,Y,Z,ac,rfl,rfl,bo,bv,bw⟩ c1 ⟨eH,a5⟩ c3;have bx:=a5;unfold Nu at bx;refine C 5 V (AL bx (λc4 c5=>?_) (λc4 c6=>?_))
  ·obtain⟨a6,c7,c8⟩:=bs c5;refine C 13 V (Br (λL s=>∃(av:LH) (aw:Ao) (ay:Nat) (az:Seg),Jn O H av [az] [(3,sV aw a6 ay),(9,iV (p0.1.length:Int)),(10,iV K.2)] L s (OL 101 Er av aw ay az a6)) ?_ ?_)
   ·rintro _ _ ⟨av,aw,ay,az,rfl,rfl,c9,dd,dn⟩;obtain⟨ea,eb,ec⟩:=bs c8;refine C 2 V (Bl eb V V V ?_);refine C 2 V ?_;obtain rfl:=oi ec;exact AB (c3 _ _ (a6,ea) ⟨av,aw,ay,az,V,V,(bo.Ad c9),dd,dn⟩ a5) V
   ·intro ed;refine JL.block (CG c7 (λL s U=>∃(ag:LH) (al:Ao) (am:Nat) (a0:Seg),Jn O H ag [a0] [(3,sV al U.1 am),(4,iV K.2),(9,iV (p0.1.length:Int)),(10,iV K.2),(13,iV K.2),(14,iV U.2)] L s (OL 101 Er ag al am a0 U.1)) ⟨O,Y,Z,ac,V,V,Av,bv,bw⟩ ?_);rintro _ _ U ⟨ag,al,am,a0,rfl,rfl,bz,b0,b1⟩ ee ⟨eI,a7⟩ ef;have b2:=a7;unfold Nv at b2;refine C 5 V (AL b2 (λeg ej=>?_) (λeg ek=>?_))
    ·refine C 12 V (Am (v:= .agg #[iV U.2,iV K.2]) V (λρ h=>Dh [(0,1),(1,1)] h I8 underlying101 ⟨V,AV type3,V,AV type3,trivial⟩ V V) ?_);obtain⟨el,em,eo⟩:=bs ej;refine JS.app (pp:=Er) (v:= .agg #[iV U.2,iV K.2]) (a:=al) (c:=am) 0 em V V V V (λ_=>V) V (λ_=>V) V V V underlying167 underlying167 underlying167 F8 (DW type101) I8 V (by decide) (by decide) (by decide) (by decide) b1 ⟨_,_,V,V,V⟩ b0 V λeJ er eu ew ex ey=>?_;obtain⟨ez,eA,eB⟩:=bs eo;refine C 4 V (Bl eA V V V ?_);refine C 2 V ?_;obtain rfl:=oi eB;exact AB (ef _ _ (el,ez) ⟨ag,er,eu,ew,V,V,bz,ey,ex⟩ a7) V
    ·refine JL.exit V ?_;obtain rfl:=oi ek;obtain rfl:=ee _ a7;exact AB (ed _ _ ⟨ag,al,am,a0,V,V,bz,b0,b1⟩) V
  ·refine JL.exit V ?_;obtain rfl:=oi c6;obtain rfl:=c1 _ a5;exact AB (c0 _ _ ⟨O,Y,Z,ac,V,V,bo,bv,bw⟩) V
def f113(fu_:Nat)(p0:Int×Int×Int)(K:Int×Int×Int):Option Int:= if p0.1≠K.1 then((Ar (p0.1 - K.1)).bind λO=> some O) else(if p0.2.1≠K.2.1 then((Ar (p0.2.1 - K.2.1)).bind λU=> some U) else((Ar (p0.2.2 - K.2.2)).bind λY=> some Y))
theorem Uu{p0:Int×Int×Int}{Y:Int×Int×Int}{fu_:Nat}{r:Int}(al:f113 fu_ p0 Y=some r):AP J 113 [.agg #[iV p0.1,iV p0.2.1,iV p0.2.2],.agg #[iV Y.1,iV Y.2.1,iV Y.2.2]] E [] (λw E' B'=>w=iV r/\B'= []):=by
 refine Bn func113 λQ a7 cs H am Z=>?_;unfold f113 at al;refine C 2 V (DF am λr2 a8 ac O ap=>?_);refine DF ap λa9 bb K U ag=>?_;refine C 6 V (B5 0 (O.Ah K) underlying27 AA AY ?_);refine B5 0 U underlying27 AA AY ?_;refine C 3 V (AL al (λaq av=>?_) (λaq aw=>?_))
 ·refine C 2 V (B5 0 (O.Ah K) underlying27 AA AY ?_);refine B5 0 U underlying27 AA AY ?_;obtain⟨be,ay,az⟩:=bs av;refine Cu ay V V V (C 2 V ?_);obtain rfl:=oi az;exact AX func113 V V (Z (ac.Ad K) V ⟨V,V⟩ ag)
 ·refine C 2 V (B5 1 (O.Ah K) underlying27 AA AY ?_);refine B5 1 U underlying27 AA AY ?_;refine C 3 V (AL aw (λa0 a1=>?_) (λa0 a2=>?_))
  ·refine C 2 V (B5 1 (O.Ah K) underlying27 AA AY ?_);refine B5 1 U underlying27 AA AY ?_;obtain⟨bi,a3,a4⟩:=bs a1;refine Cu a3 V V V (C 2 V ?_);obtain rfl:=oi a4;exact AX func113 V V (Z (ac.Ad K) V ⟨V,V⟩ ag)
  ·refine C 4 V (B5 2 (O.Ah K) underlying27 AA AY ?_);refine B5 2 U underlying27 AA AY ?_;obtain⟨bn,a5,a6⟩:=bs a2;refine Cu a5 V V V (C 2 V ?_);obtain rfl:=oi a6;exact AX func113 V V (Z (ac.Ad K) V ⟨V,V⟩ ag)
def Og(fu_:Nat)(p0:List Int)(K:Int×Int):Option (Bd (Int×Int) Int):= if K.2<(p0.length:Int) then((ix p0 K.2).bind λO=> (Ar (K.1+O)).bind λU=> (Ar (K.2+1)).bind λY=> some (.more (U,Y))) else(some (.done K.1))
def f85(fu_:Nat)(p0:List Int):Option Int:= Option.bind (iter (Og fu_ p0) fu_ (0,0)) λK=> some K
theorem HX{a1:Ao}{c2:Nat}{p0:List Int}(ag:An rI E a1 c2 p0){fu_:Nat}{r:Int}(Y:f85 fu_ p0=some r):AP J 85 [sV a1 p0 c2] E [] (λw E' B'=>w=iV r/\B'= []):=by
 refine Bn func85 λQ bv cs H al am=>?_;unfold f85 at Y;refine C 12 V (JL.ln underlying28 V V V ?_);obtain⟨ap,aq,av⟩:=bs Y;refine C 2 V (CN [] [(3,iV ap)] (λbw aw ay=>?_) (λaz=>?_))
 ·refine C 5 V ?_;obtain rfl:=oi av;exact AX func85 V V (am aw V ⟨V,V⟩ ay)
 ·refine JL.block (CO aq (λK=> []) (λK=> [(3,iV K.1),(6,sV a1 p0 c2),(7,iV (p0.length:Int)),(8,iV K.2)]) Av al ?_);rintro K bx O Z a0 ⟨bz,U⟩ a2;have ac:=U;unfold Og at ac;refine C 5 V (AL ac (λa3 a4=>?_) (λa3 a5=>?_))
  ·obtain⟨b0,a6,a7⟩:=bs a4;refine C 5 V (JS.ix (ag.Ah O) a6 underlying28 AA ?_);rintro b1 b2 _ rfl a8;refine CQ 0 a8 AY V V V ?_;obtain⟨a9,bb,be⟩:=bs a7;refine C 5 V (Bl bb V V V ?_);obtain⟨bi,bn,bo⟩:=bs be;refine C 4 V (Bl bn V V V ?_);refine C 2 V ?_;obtain rfl:=oi bo;exact a2 (a9,bi) O Z V U
  ·refine JL.exit V ?_;obtain rfl:=oi a5;obtain rfl:=a0 _ U;exact az O Z V
end Pal
namespace Pal
open Go Go.Conc
variable {P:Program}{Q:Gs_}{b:Frame}{n:Nat}{ds:Ld_}{ops:Ao_}{k:Li_}{cs:Lf_}{L:Env}{E H:LH}{S:List Seg}
variable {d:Option Tmp}{w:Operand}{t u ty:TypeId}{p:String}{af:Ae_}{g:On_}{rest:List Nat}{s:St}{ρ:Operand->Value}
section
variable {J:Judge P}
variable {x y:Operand}{e:TypeId}{i:Nat}
theorem An.dV{α:Type}{pp:Rp α}{kk bk o:Nat}{ws:Lv_}{xs ys:List α}{hi:Int}(U:At E bk o ws)(O:(rA kk pp).r E ws xs)(hC:Hy xs 0 hi=some ys):An pp E (some ⟨bk,o,none⟩) kk ys:=by
 have ag:=O.1;unfold Hy at hC;split at hC
 ·rename_i hb;cases hC;refine⟨by simp;omega,.inr ⟨bk,o,V,λq z K=>?_⟩⟩;simp only [Int.toNat_zero,List.drop_zero,List.getElem?_take] at K;split at K
  ·have Y:ix xs (q:Int)=some z:=by unfold ix;rw [if_pos (by omega)];simpa using K
   obtain⟨us,Z,ac,_,_⟩:=cJ O U Y;exact⟨us,Z,by simpa using ac⟩
  ·cases K
 ·cases hC
theorem ZC{α:Type}{pp:Rp α}{kk bk o:Nat}{ws:Lv_}{xs ys:List α}{hi:Int}(U:At E bk o ws)(K:(rA kk pp).r E ws xs)(hC:Hy xs 0 hi=some ys)
  (Y:ops[i]? =some ⟨d,.slice t x none (some w) none,ty,p,af,g⟩) (hw:AN L ops ⟨d,.slice t x none (some w) none,ty,p,af,g⟩=some true) (Z:BM b n ⟨d,.slice t x none (some w) none,ty,p,af,g⟩=true)
  (ac:ev L x=some (.pointer (some ⟨bk,o,none⟩))) (ag:ev L w=some (iV hi)) (al:P.underlying t=some (.array kk e)) (am:Bp P e=some pp.n)
  (h:An pp E (some ⟨bk,o,none⟩) kk ys->JL J Q b n (Ax L d (.slice (some ⟨bk,o,none⟩) ys.length kk)) ds (.inRegion ops rest::k) cs s):
  JL J Q b n L ds (.inRegion ops (i::rest)::k) cs s:=by
 have ap:=An.dV U K hC;have aw:=K.1;refine A2 Y hw Z (λρ O=>?_) (h ap);refine FT (sm:=Instr.sliceAt t (ρ x) none (some (ρ w)) none) V ?_;rw [O _ _ ac,O _ _ ag];unfold Hy at hC;split at hC
 ·rename_i hb;cases hC;obtain⟨ay,az,a0⟩:=hb;unfold Instr.sliceAt;refine Aw _ _ (Cn al ?_);simp only [Instr.sureAddr,bind,Sem.bind,pure];have aq:Instr.sliceBounds false kk kk none (some (iV hi)) none=(pure (0,hi.toNat,kk):Sem _):=by
   simp only [Instr.sliceBounds,Instr.sliceBound,asIntOf,bind,Sem.bind,pure];rw [if_pos (by omega)];rfl
  rw [aq];simp only [pure,Sem.bind];refine Aw (x:=Go.sizeOf e) _ (EY am ?_);have av:(if kk=0 then(⟨bk,o,none⟩:Addr) else Addr.add ⟨bk,o,none⟩ (0*pp.n))=⟨bk,o,none⟩:=by
   split
   ·rfl
   ·rw [Ef rfl];simp
  rw [av];have e2:((xs.take hi.toNat).drop (0:Int).toNat).length=hi.toNat - 0:=by simp;omega
  rw [e2];exact⟨V,V⟩
 ·cases hC
theorem WO{a:Option Addr}{l c:Nat}(K:P.underlying t=some (.slice e))(O:ρ x= .slice a l c)(U:ρ (.const (.slice none 0 0))= .slice none 0 0):Yl P ⟨d,.binOp .neq t x (.const (.slice none 0 0)) u,ty,p,af,g⟩ ρ s (.bool (!a.isNone)):=by
 have Y:∀o,eqGuard o t x (.const (.slice none 0 0)) (.slice a l c) (.slice none 0 0)=Sem.pure ():=λo=>by cases o <;> rfl
 refine FT (sm:=do eqGuard .neq t x (.const (.slice none 0 0)) (ρ x) (ρ (.const (.slice none 0 0)));binOp .neq t (ρ x) (ρ (.const (.slice none 0 0)))) V ?_
 rw [O,U,Y];simp only [bind,Sem.bind];have hb:binOp .neq t (.slice a l c) (.slice none 0 0)=(do pure (.bool (!(← Op.equal t (.slice a l c) (.slice none 0 0))))):=V
 rw [hb];refine Aw (x:=Op.equal t _ _) _ ?_;unfold Op.equal Op.maxDepth Op.equalIn;refine Aw _ _ (Cn K ?_);cases a with
 | none=>exact⟨rfl,rfl⟩
 | some ad=>exact⟨rfl,rfl⟩
end
open Go.Proofs Go.Proofs.Tryz
variable {J:Judge Tryz.prog}
def N7(fu_:Nat)(p0:A8)(O:List Int)(K:Int):Option (Bd Int ((A8×Int)⊕(Unit))):= if K<(O.length:Int) then((ix O K).bind λU=> (Ar ((p0.1.length:Int) - 1)).bind λY=> (f91 fu_ U 0 Y).bind λZ=> if(!Z)=true then(some (.done (Sum.inl (([],[]),3)))) else((Ar (K+1)).bind λac=> some (.more ac))) else(some (.done (Sum.inr ())))
def f70(fu_:Nat)(p0:A8)(K:List Int):Option (A8×Int):= (f47 fu_ p0).bind λO=> if O≠0 then(some (([],[]),O)) else(Option.bind (iter (N7 fu_ p0 K) fu_ 0) λU=> Sum.elim (λr=>some r) (λag=> Option.bind (if(K.length:Int)=2 then((ix K (0)).bind λY=> (ix K (1)).bind λZ=> some (decide (Y=Z))) else(some false)) λac=> if ac=true then(some (([],[]),8)) else(some (p0,0))) U)
theorem J4{a1:Ao}{c2:Nat}{Z:Ao}{ac:Nat}{am:Ao}{ap:Nat}{p0:A8}{Y:List Int}(a5:An (rL rI) E a1 c2 p0.1)(a6:An Az E Z ac p0.2)(ay:An rI E am ap Y){fu_:Nat}{r:A8×Int}(a7:f70 fu_ p0 Y=some r):AP J 70 [.agg #[sV a1 p0.1 c2,sV Z p0.2 ac],sV am Y ap] E [] (λw E' B'=>∃(a8:Ao) (a9:Nat) (bb:Ao) (be:Nat),w= .tuple #[.agg #[sV a8 r.1.1 a9,sV bb r.1.2 be],iV r.2]/\B'= []/\An (rL rI) E' a8 a9 r.1.1/\An Az E' bb be r.1.2):=by
 refine Bn func70 λQ eP cs H ci av=>?_;unfold f70 at a7;refine C 2 V (DF ci λaz eQ K a0 co=>?_);refine B3 co Hi λal cp=>?_;refine C 5 V (Cg a0 Fu De V V ?_);obtain⟨bi,ct,cw⟩:=bs a7;refine CH (dB (a5.Ah K) (a6.Ah K) ct) V V (A6 func47 V) cp λcy O bn=>C 7 V (AL cw (λc0 c1=>?_) (λc0 c3=>?_))
 ·refine C 2 V (Am (v:= .agg #[nS,nS]) V (λρ h=>Dh [(0,2)] h Hi underlying77 ⟨V,AV type25,trivial⟩ V V) ?_);refine C 1 V (BQ 2 bn Dt λbo=>?_);refine C 2 V ?_;obtain rfl:=oi c1;refine JL.ret (v:= .tuple #[.agg #[nS,nS],iV bi]) V V (Bz.list func70 V (vs:= [.agg #[nS,nS],iV bi]) ⟨⟨_,V,Ld.many (vs:= [nS,nS]) FQ Dt (Ih (off:=0) 2 bo V V)⟩,V,trivial⟩) (EM 2 bo V λc4=>?_);exact av (K.Ad O) V ⟨none,0,none,0,V,V,An.nil,An.nil⟩ c4
 ·refine C 5 V (JL.ln underlying28 V V V ?_);obtain⟨bv,c5,bw⟩:=bs c3;refine C 2 V (Br (λL s=>∃(bx:Unit) (a2:LH),bv=Sum.inr bx/\Jm cy H a2 [bX al #[nS,nS] 77] [(1,sV am Y ap),(2,Ak az 0),(4,Ak al 0)] L s) ?_ ?_)
  ·rintro _ _ ⟨bx,a2,rfl,rfl,rfl,ag,bz⟩;have c6:=elim_inr bw;refine C 2 V (DY 12 λU=>?_);refine Dz 0 U V V (AJ 1 U V V (λρ h s' eR=>Yl.len V underlying28 (h _ _ V)) ?_);refine AR U V [2,3] V ?_;obtain⟨c7,b0,c8⟩:=bs c6;refine Gb 0 #[true,true,true,true,true,true,true,true,true,true,true,true] (λL s=>L= [(2,Ak az 0),(4,Ak al 0),(41,.bool c7)]/\s=Aj a2 H [bX al #[nS,nS] 77]) ?_ ?_
   ·rintro _ _ ⟨rfl,rfl⟩;refine AQ.fin (by decide+kernel) (Ck c8 (λc9 dd=>?_) (λc9 dn=>?_))
    ·refine C 2 V (Am (v:= .agg #[nS,nS]) V (λρ h=>Dh [(0,2)] h Hi underlying77 ⟨V,AV type25,trivial⟩ V V) ?_);refine BQ 0 bz Dt λb1=>?_;refine C 2 V ?_;obtain rfl:=oi dd;refine JL.ret (v:= .tuple #[.agg #[nS,nS],iV 8]) V V (Bz.list func70 V (vs:= [.agg #[nS,nS],iV 8]) ⟨⟨_,V,Ld.many (vs:= [nS,nS]) FQ Dt (Ih (off:=0) 0 b1 V V)⟩,V,trivial⟩) (EM 0 b1 V λea=>?_);exact av ((K.Ad O).Ad ag) V ⟨none,0,none,0,V,V,An.nil,An.nil⟩ ea
    ·refine C 3 V (Cg (a0.Ah (O.Ad ag)) Fu De V V ?_);refine Am (v:= .agg #[sV a1 p0.1 c2,sV Z p0.2 ac]) V (λρ h=>Dh [(0,2)] h Hi underlying77 ⟨V,AV type25,trivial⟩ V V) (BQ 0 bz Dt λb2=>?_);refine C 2 V ?_;obtain rfl:=oi dn;refine JL.ret (v:= .tuple #[.agg #[sV a1 p0.1 c2,sV Z p0.2 ac],iV 0]) V V (Bz.list func70 V (vs:= [.agg #[sV a1 p0.1 c2,sV Z p0.2 ac],iV 0]) ⟨⟨_,V,Ld.many (vs:= [sV a1 p0.1 c2,sV Z p0.2 ac]) FQ Dt (Ih (off:=0) 0 b2 V V)⟩,V,trivial⟩) (EM 0 b2 V λeb=>?_);exact av ((K.Ad O).Ad ag) V ⟨a1,c2,Z,ac,V,V,(a5.Ah ((K.Ad O).Ad ag)),(a6.Ah ((K.Ad O).Ad ag))⟩ eb
   ·intro b3;refine F9 (q:=(Y.length:Int)=2) (i:=33) V (λa3=>?_) (λa3=>?_)
    ·have ec:=ip b0 a3;refine Dz 4 U V V ?_;obtain⟨eS,ed,ee⟩:=bs ec;refine Di 5 (ay.Ah ((K.Ad O).Ad ag)) ed U underlying28 AA ?_;rintro eT eU _ rfl ef;refine CP 6 U 0 ef AY V V V V ?_;refine Dz 7 U V V ?_;obtain⟨eV,eg,ej⟩:=bs ee;refine Di 8 (ay.Ah ((K.Ad O).Ad ag)) eg U underlying28 AA ?_;rintro eW eX _ rfl ek;refine CP 9 U 0 ek AY V V V V ?_;refine AR U V [10,11] V ?_;obtain rfl:=oi ej;refine Dw ?_ (b3 _ _ ⟨V,V⟩);exact⟨V,V,V,trivial⟩
    ·have el:=im b0 a3;refine AR U V [4,5,6,7,8,9,10,11] V ?_;obtain rfl:=oi el;refine Dw ?_ (b3 _ _ ⟨V,V⟩);exact⟨V,V,V,trivial⟩
  ·intro em;refine JL.block (CO c5 (λa4=> [bX al #[nS,nS] 77]) (λa4=> [(1,sV am Y ap),(2,Ak az 0),(4,Ak al 0),(15,sV am Y ap),(16,iV (Y.length:Int)),(17,iV a4)]) Av bn ?_);rintro a4 eo aq b4 b5 ⟨eY,aw⟩ er;have b6:=aw;unfold N7 at b6;refine C 5 V (AL b6 (λeu ew=>?_) (λeu ex=>?_))
   ·obtain⟨eZ,ey,ez⟩:=bs ew;refine C 5 V (JS.ix (ay.Ah ((K.Ad O).Ad aq)) ey underlying28 AA ?_);rintro e0 e1 _ rfl eA;refine CQ 0 eA AY V V V (C 5 V ?_);refine B5 0 (a0.Ah (O.Ad aq)) underlying25 GX GC ?_;refine JL.ln underlying22 V V V ?_;obtain⟨e3,eB,eC⟩:=bs ez;refine Cu eB V V V ?_;obtain⟨eD,eE,eF⟩:=bs eC;refine CH (ME eE) V V LY b4 λe4 ca cc=>Am (v:= .bool (!eD)) V (λρ h=>Yl.not (h _ _ V)) (JL.done ?_);refine Ck eF (λeG eH=>?_) (λeG eI=>?_)
    ·refine C 2 V (Am (v:= .agg #[nS,nS]) V (λρ h=>Dh [(0,2)] h Hi underlying77 ⟨V,AV type25,trivial⟩ V V) ?_);refine BQ 0 cc Dt λce=>?_;refine C 2 V ?_;obtain rfl:=oi eH;obtain rfl:=b5 _ aw;have eJ:=elim_inl bw;obtain rfl:=oi eJ;refine JL.ret (v:= .tuple #[.agg #[nS,nS],iV 3]) V V (Bz.list func70 V (vs:= [.agg #[nS,nS],iV 3]) ⟨⟨_,V,Ld.many (vs:= [nS,nS]) FQ Dt (Ih (off:=0) 0 ce V V)⟩,V,trivial⟩) (EM 0 ce V λeK=>?_);exact av (((K.Ad O).Ad aq).Ad ca) V ⟨none,0,none,0,V,V,An.nil,An.nil⟩ eK
    ·obtain⟨eL,eM,eN⟩:=bs eI;refine C 3 V (Bl eM V V V ?_);refine C 2 V ?_;obtain rfl:=oi eN;exact er eL (aq.Ad ca) cc V aw
   ·refine JL.exit V ?_;obtain rfl:=oi ex;have eO:bv=(Sum.inr ()):=(b5 _ aw).symm;exact AB (em _ _ ⟨(),eo,eO,V,V,aq,b4⟩) V
def OI(fu_:Nat)(p0:List Int):Option ((List Int)):= (DD ([]:List Int) p0).bind λK=> some K
theorem ZZ{ad:Addr}{c2:Nat}{p0:List Int}(Y:An rI E (some ad) c2 p0){fu_:Nat}{r:(List Int)}(K:OI fu_ p0=some r):AP J 87 [.slice (some ad) p0.length c2] E [] (λw E' B'=>∃(O:Ao) (U:Nat) (g0:Seg),w= sV O r U/\B'=g0/\OL 3 rI E' O U g0 r):=by
 refine Bn func87 λQ a0 cs H Z ac=>?_;unfold OI at K;refine C 8 V (Am (v:= .bool false) V (λρ h=>Nk (a:=(some ad)) underlying28 (h _ _ V) (h _ _ V)) ?_);refine C 5 V (TG (pp:=rI) V V V underlying28 AA Z λr1 g2 ag al=>?_);obtain⟨a1,am,ap⟩:=bs K;refine C 1 V (Iq (pp:=rI) 1 am V V V V V V V underlying28 underlying28 AA (DW type3) Cq V (by decide) (by decide) ag Y al V λaq av aw ay az=>?_);refine C 2 V ?_;obtain rfl:=oi ap;exact AX func87 V V (ac Av V ⟨aq,av,aw,V,(by first | rfl | simp | (simp [Value.cells])),ay⟩ az)
def Vl(fu_:Nat)(p0:List Int):Option ((List Int)):= some ([])
theorem aZ{c2:Nat}{p0:List Int}(ac:An rI E none c2 p0){fu_:Nat}{r:(List Int)}(K:Vl fu_ p0=some r):AP J 87 [sV none p0 c2] E [] (λw E' B'=>∃(O:Ao) (U:Nat) (g0:Seg),w= sV O r U/\B'=g0/\OL 3 rI E' O U g0 r):=by
 refine Bn func87 λQ ag cs H Y Z=>?_;unfold Vl at K;refine C 8 V (Am (v:= .bool true) V (λρ h=>Nk (a:=none) underlying28 (h _ _ V) (h _ _ V)) ?_);refine C 6 V ?_;obtain rfl:=oi K;exact AX func87 V V (Z Av V ⟨none,0,[],V,V,OL.nil⟩ Y)
def f87(fu_:Nat)(p0:List Int):Option (List Int):=OI fu_ p0
theorem cH{a1:Ao}{c2:Nat}{p0:List Int}(O:An rI E a1 c2 p0){fu_:Nat}{r:List Int}(K:f87 fu_ p0=some r):AP J 87 [.slice a1 p0.length c2] E [] (λw E' B'=>∃(U:Ao) (Y:Nat) (g0:Seg),w= .slice U r.length Y/\B'=g0/\OL 3 rI E' U Y g0 r):=by
 cases a1 with
 | some ad=>exact ZZ O K
 | none=>
  have Z:p0= []:=by
   rcases O.2 with h | ⟨_,_,h,_⟩
   ·exact h.1
   ·cases h
  subst Z;have ac:r= []:=by
   have ag:OI fu_ []=some []:=V;unfold f87 at K;rw [ag] at K;exact(Option.some.inj K).symm
  subst ac;exact aZ (fu_:=fu_) O V
def MA(fu_:Nat)(p0:Ay):Option (Ay):= (DD ([]:Ay) p0).bind λK=> some K
theorem Zz{ad:Addr}{c2:Nat}{p0:Ay}(Y:An Az E (some ad) c2 p0){fu_:Nat}{r:Ay}(K:MA fu_ p0=some r):AP J 129 [.slice (some ad) p0.length c2] E [] (λw E' B'=>∃(O:Ao) (U:Nat) (g0:Seg),w= sV O r U/\B'=g0/\OL 27 Az E' O U g0 r):=by
 refine Bn func129 λQ a0 cs H Z ac=>?_;unfold MA at K;refine C 8 V (Am (v:= .bool false) V (λρ h=>Nk (a:=(some ad)) underlying80 (h _ _ V) (h _ _ V)) ?_);refine C 5 V (TG (pp:=Az) V V V underlying80 A0 Z λr1 g2 ag al=>?_);obtain⟨a1,am,ap⟩:=bs K;refine C 1 V (Iq (pp:=Az) 1 am V V V V V V V underlying80 underlying80 A0 (DW type27) BF V (by decide) (by decide) ag Y al V λaq av aw ay az=>?_);refine C 2 V ?_;obtain rfl:=oi ap;exact AX func129 V V (ac Av V ⟨aq,av,aw,V,(by first | rfl | simp | (simp [Value.cells])),ay⟩ az)
def U4(fu_:Nat)(p0:Ay):Option (Ay):= some ([])
theorem YR{c2:Nat}{p0:Ay}(ac:An Az E none c2 p0){fu_:Nat}{r:Ay}(K:U4 fu_ p0=some r):AP J 129 [sV none p0 c2] E [] (λw E' B'=>∃(O:Ao) (U:Nat) (g0:Seg),w= sV O r U/\B'=g0/\OL 27 Az E' O U g0 r):=by
 refine Bn func129 λQ ag cs H Y Z=>?_;unfold U4 at K;refine C 8 V (Am (v:= .bool true) V (λρ h=>Nk (a:=none) underlying80 (h _ _ V) (h _ _ V)) ?_);refine C 6 V ?_;obtain rfl:=oi K;exact AX func129 V V (Z Av V ⟨none,0,[],V,V,OL.nil⟩ Y)
def f129(fu_:Nat)(p0:Ay):Option Ay:=MA fu_ p0
theorem Z1{a1:Ao}{c2:Nat}{p0:Ay}(O:An Az E a1 c2 p0){fu_:Nat}{r:Ay}(K:f129 fu_ p0=some r):AP J 129 [.slice a1 p0.length c2] E [] (λw E' B'=>∃(U:Ao) (Y:Nat) (g0:Seg),w= .slice U r.length Y/\B'=g0/\OL 27 Az E' U Y g0 r):=by
 cases a1 with
 | some ad=>exact Zz O K
 | none=>
  have Z:p0= []:=by
   rcases O.2 with h | ⟨_,_,h,_⟩
   ·exact h.1
   ·cases h
  subst Z;have ac:r= []:=by
   have ag:MA fu_ []=some []:=V;unfold f129 at K;rw [ag] at K;exact(Option.some.inj K).symm
  subst ac;exact YR (fu_:=fu_) O V
def f43(fu_:Nat)(p0:A8):Option ((List Int)×Int):= (f70 fu_ p0 ([])).bind λK=> if K.2≠0 then(some ([],K.2)) else((f84 fu_ K.1).bind λO=> (Hy O 0 (p0.1.length:Int)).bind λU=> (f87 fu_ U).bind λY=> some (Y,0))
theorem dF{a1:Ao}{c2:Nat}{ac:Ao}{ag:Nat}{p0:A8}(a3:An (rL rI) E a1 c2 p0.1)(a4:An Az E ac ag p0.2){fu_:Nat}{r:(List Int)×Int}(al:f43 fu_ p0=some r):AP J 43 [.agg #[sV a1 p0.1 c2,sV ac p0.2 ag]] E [] (λw E' B'=>∃(am:Ao) (ap:Nat),w= .tuple #[sV am r.1 ap,iV r.2]/\B'= []/\An rI E' am ap r.1):=by
 refine Bn func43 λQ c3 cs H a5 aq=>?_;unfold f43 at al;refine C 2 V (DF a5 λc4 c5 U av a6=>?_);refine C 5 V (Cg av Fu De V V ?_);obtain⟨c6,a7,a8⟩:=bs al;refine BP (J4 (a3.Ah U) (a4.Ah U) An.nil a7) V V JI a6 ?_;rintro _ c7 _ Y ⟨c8,c9,dd,dn,rfl,rfl,a9,bb⟩ be;refine C 3 V (B3 be Hi λea bi=>?_);refine BQ 3 bi Dt λbn=>?_;refine Du 3 bn V λeb K bo aw=>C 8 V (AL a8 (λbv bw=>?_) (λbv bx=>?_))
 ·refine C 6 V ?_;obtain rfl:=oi bw;exact AX func43 V V (aq ((U.Ad Y).Ad K) V ⟨none,0,V,V,An.nil⟩ aw)
 ·refine C 3 V (Cg bo FQ Dt V V ?_);obtain⟨ec,bz,b0⟩:=bs bx;refine BP (QS (a9.Ah K) (bb.Ah K) bz) V V O1 aw ?_;rintro _ ay _ az ⟨Z,rfl,rfl,O⟩ b1;refine B3 b1 K6 λed b2=>?_;refine HK (v:= .agg Z.toArray) (l:= []) (ws:=(List.replicate 5 (iV 0):Lv_)) (us:=Z) (o:=0) 5 V V V b2 V V V (by rw [Ch (kk:=5) (pp:=rI) O];exact AV type105) ((rA 5 rI).one O) V (by rw [Ch (kk:=5) (pp:=rI) O,Ch (kk:=5) (pp:=rI) (G4 (E:=ay) (pp:=rI) rfl)];omega) λa0=>?_;rw [JU (by rw [Ch (kk:=5) (pp:=rI) O,Ch (kk:=5) (pp:=rI) (G4 (E:=ay) (pp:=rI) rfl)])] at a0 ⊢;refine C 3 V (B5 0 (av.Ah ((Y.Ad K).Ad az)) underlying25 GX GC ?_);refine JL.ln underlying22 V V V (Du 5 a0 V λee a2 b3 b4=>?_);obtain⟨ef,b5,b6⟩:=bs b0;refine ZC (ws:=Z) (pp:=rI) b3 (Rp.Ah _ a2 O) b5 V V V V V underlying105 AA λca=>?_;obtain⟨eg,cc,ce⟩:=bs b6;refine BP (cH ca cc) V V (A6 func87 V) b4 ?_;rintro _ ej ek ci ⟨co,cp,_,rfl,rfl,ct⟩ cw;refine C 3 V (BW 6 ct cw V λel cy c0 c1=>?_);obtain rfl:=oi ce;exact AX func43 V V (aq ((((((U.Ad Y).Ad K).Ad az).Ad a2).Ad ci).Ad cy) V ⟨co,cp,V,V,c0⟩ c1)
def NJ(fu_:Nat)(p0:Ay)(O:Ay)(K:Int):Option (Bd Int ((Int)⊕(Unit))):= if K<(p0.length:Int) then((ix p0 K).bind λY=> if(O.length:Int)<=K then(some (.done (Sum.inl 1))) else((ix O K).bind λZ=> (f113 fu_ Y Z).bind λU=> if U≠0 then(some (.done (Sum.inl U))) else((Ar (K+1)).bind λac=> some (.more ac)))) else(some (.done (Sum.inr ())))
def f112(fu_:Nat)(p0:Ay)(K:Ay):Option Int:= Option.bind (iter (NJ fu_ p0 K) fu_ 0) λO=> Sum.elim (λr=>some r) (λU=> if(p0.length:Int)<(K.length:Int) then(some (-1)) else(some 0)) O
theorem Z7{a1:Ao}{c2:Nat}{Y:Ao}{Z:Nat}{p0:Ay}{O:Ay}(bb:An Az E a1 c2 p0)(be:An Az E Y Z O){fu_:Nat}{r:Int}(ay:f112 fu_ p0 O=some r):AP J 112 [sV a1 p0 c2,sV Y O Z,(fV 113)] E [] (λw E' B'=>w=iV r/\B'= []):=by
 refine Bn func112 λQ ef cs H bi ac=>?_;unfold f112 at ay;refine C 8 V (JL.ln underlying80 V V V ?_);obtain⟨az,bn,al⟩:=bs ay;refine C 2 V (Br (λL s=>∃(a0:Unit) (a2:LH),az=Sum.inr a0/\Jm E H a2 [] [(0,sV a1 p0 c2),(1,sV Y O Z)] L s) ?_ ?_)
 ·rintro _ _ ⟨a0,a2,rfl,rfl,rfl,a3,a4⟩;have bo:=elim_inr al;refine C 4 V (JL.ln underlying80 V V V ?_);refine C 1 V (JL.ln underlying80 V V V ?_);refine C 2 V (AL bo (λbv bw=>?_) (λbv bx=>?_))
  ·refine C 4 V ?_;obtain rfl:=oi bw;exact AX func112 V V (ac a3 V ⟨V,V⟩ a4)
  ·refine C 5 V ?_;obtain rfl:=oi bx;exact AX func112 V V (ac a3 V ⟨V,V⟩ a4)
 ·intro bz;refine JL.block (CO bn (λam=> []) (λam=> [(0,sV a1 p0 c2),(1,sV Y O Z),(2,(fV 113)),(11,sV a1 p0 c2),(12,iV (p0.length:Int)),(13,iV am)]) Av bi ?_);rintro am b0 K a5 ap ⟨eg,U⟩ b1;have a6:=U;unfold NJ at a6;refine C 5 V (AL a6 (λb2 b3=>?_) (λb2 b4=>?_))
  ·obtain⟨aq,b5,b6⟩:=bs b3;refine C 6 V (JS.ix (bb.Ah K) b5 underlying80 A0 ?_);rintro ej ek _ ⟨_,_,rfl,rfl,⟨_,_,rfl,rfl,rfl⟩⟩ ca;refine Cg ca DU A0 V V (B3 a5 BF λel cc=>?_);refine C 1 V (BQ 0 cc A0 λce=>?_);refine Du 0 ce V λem ag ci a7=>C 6 V (JL.ln underlying80 V V V ?_);refine C 2 V (AL b6 (λco cp=>?_) (λco ct=>?_))
   ·refine C 4 V ?_;obtain rfl:=oi cp;obtain rfl:=ap _ U;have cw:=elim_inl al;obtain rfl:=oi cw;exact AX func112 V V (ac (K.Ad ag) V ⟨V,V⟩ a7)
   ·obtain⟨av,cy,c0⟩:=bs ct;refine C 5 V (JS.ix (be.Ah (K.Ad ag)) cy underlying80 A0 ?_);rintro eo er _ ⟨_,_,rfl,rfl,⟨_,_,rfl,rfl,rfl⟩⟩ c1;refine Cg c1 DU A0 V V (B3 a7 BF λeu c3=>?_);refine BQ 1 c3 A0 λc4=>?_;refine Du 1 c4 V λew aw c5 c6=>C 4 V (Cg (ci.Ah aw) DU A0 V V ?_);refine Cg c5 DU A0 V V ?_;obtain⟨ex,c7,c8⟩:=bs c0;refine Lo (vs:= [.agg #[iV aq.1,iV aq.2.1,iV aq.2.2],.agg #[iV av.1,iV av.2.1,iV av.2.2]]) (Uu c7) V V V V (A6 func113 V) V c6 ?_;rintro _ ey _ a8 ⟨rfl,rfl⟩ a9;refine C 7 V (AL c8 (λc9 dd=>?_) (λc9 dn=>?_))
    ·refine C 5 V ?_;obtain rfl:=oi dd;obtain rfl:=ap _ U;have ea:=elim_inl al;obtain rfl:=oi ea;exact AX func112 V V (ac (((K.Ad ag).Ad aw).Ad a8) V ⟨V,V⟩ a9)
    ·obtain⟨eb,ec,ed⟩:=bs dn;refine C 3 V (Bl ec V V V ?_);refine C 2 V ?_;obtain rfl:=oi ed;exact b1 eb (((K.Ad ag).Ad aw).Ad a8) a9 V U
  ·refine JL.exit V ?_;obtain rfl:=oi b4;have ee:az=(Sum.inr ()):=(ap _ U).symm;exact AB (bz _ _ ⟨(),b0,ee,V,V,K,a5⟩) V
def f74(fu_:Nat)(p0:Ay)(K:Ay):Option Int:= (f112 fu_ p0 K).bind λO=> some O
theorem Iy{a1:Ao}{c2:Nat}{O:Ao}{U:Nat}{p0:Ay}{K:Ay}(Z:An Az E a1 c2 p0)(ac:An Az E O U K){fu_:Nat}{r:Int}(Y:f74 fu_ p0 K=some r):AP J 74 [sV a1 p0 c2,sV O K U] E [] (λw E' B'=>w=iV r/\B'= []):=by
 refine Bn func74 λQ aw cs H ag al=>?_;unfold f74 at Y;obtain⟨ay,am,ap⟩:=bs Y;refine C 8 V (CH (Z7 Z ac am) V V (A6 func112 V) ag λaz aq av=>?_);refine C 2 V ?_;obtain rfl:=oi ap;exact AX func74 V V (al aq V ⟨V,V⟩ av)
def f73(fu_:Nat)(p0:Ay)(K:Ay):Option Bool:= (f74 fu_ p0 K).bind λO=> some (decide (O<0))
theorem dj{a1:Ao}{c2:Nat}{O:Ao}{U:Nat}{p0:Ay}{K:Ay}(Z:An Az E a1 c2 p0)(ac:An Az E O U K){fu_:Nat}{r:Bool}(Y:f73 fu_ p0 K=some r):AP J 73 [sV a1 p0 c2,sV O K U] E [] (λw E' B'=>w= .bool r/\B'= []):=by
 refine Bn func73 λQ aw cs H ag al=>?_;unfold f73 at Y;obtain⟨ay,am,ap⟩:=bs Y;refine C 8 V (CH (Iy Z ac am) V V Ic ag λaz aq av=>?_);refine C 3 V ?_;obtain rfl:=oi ap;exact AX func73 V V (al aq V ⟨V,V⟩ av)
def f72(fu_:Nat)(p0:Ay×Bool)(K:Ay):Option ((Ay×Bool)):= Option.bind (if(!p0.2)=true then(some true) else((f73 fu_ K p0.1).bind λO=> some O)) λU=> Option.bind (if U=true then(some (K,true)) else(some p0)) λY=> some Y
theorem cE{bk:Nat}{a1:Ao}{c2:Nat}{K:Ao}{O:Nat}{p0:Ay×Bool}{U:Ay}(aq:An Az E a1 c2 p0.1)(av:An Az E K O U){fu_:Nat}{r:(Ay×Bool)}(aw:f72 fu_ p0 U=some r):AP J 72 [Ak bk 0,sV K U O,(fV 73)] E [(bk,.cells #[sV a1 p0.1 c2,.bool p0.2] 82 (0,0))] (λw E' B'=>∃(ay:Ao) (az:Nat),w= .tuple #[]/\B'= [(bk,.cells #[sV ay r.1 az,.bool r.2] 82 (0,0))]/\An Az E' ay az r.1):=by
 refine Bn func72 λQ ca cs H Z a4=>?_;unfold f72 at aw;refine C 4 V (JL.fd underlying82 L4 V V V ?_);refine Am (v:= .bool p0.2) V (λρ h=>Yl.load OT (h _ _ V) (BL (j:=0) (off:=1) Z V V)) (Am (v:= .bool (!p0.2)) V (λρ h=>Yl.not (h _ _ V)) ?_);obtain⟨a5,a6,a7⟩:=bs aw;refine C 1 V (Gl [] (λL s=>∃(Y:LH),Jm E H Y [bX bk #[sV a1 p0.1 c2,.bool p0.2] 82] [(0,Ak bk 0),(1,sV K U O),(19,.bool a5)] L s) ?_ ?_)
 ·rintro _ _ ⟨Y,rfl,rfl,al,a0⟩;obtain⟨am,a8,a9⟩:=bs a7;refine JL.done (Br (λL s=>∃(ap:LH) (ac:Ao) (ag:Nat),Jn Y H ap [bX bk #[sV ac am.1 ag,.bool am.2] 82] [] L s (An Az ap ac ag am.1)) ?_ ?_)
  ·rintro _ _ ⟨ap,ac,ag,rfl,rfl,bb,be,bi⟩;obtain rfl:=oi a9;exact JL.fin (v:= .tuple #[]) V V (Bz.list func72 V (vs:= []) trivial) (a4 (al.Ad bb) V ⟨ac,ag,V,V,bi⟩ be)
  ·intro a2;refine Ck a8 (λbn bo=>?_) (λbn bv=>?_)
   ·refine C 5 V (JL.fd underlying82 Bg V V V ?_);refine BQ 0 a0 Bg λbw=>?_;refine C 1 V (JL.fd underlying82 L4 V V V ?_);refine BQ 0 bw L4 λbx=>?_;refine JL.done ?_;obtain rfl:=oi bo;exact AB (a2 _ _ ⟨Y,K,O,V,V,Av,bx,(av.Ah al)⟩) V
   ·refine JL.skip ?_;obtain rfl:=oi bv;exact AB (a2 _ _ ⟨Y,a1,c2,V,V,Av,a0,(aq.Ah al)⟩) V
 ·intro a3;refine EB 11 a6 (λbz b0=>?_) (λbz b1=>?_)
  ·refine C 8 V ?_;obtain rfl:=oi b0;exact AB (a3 _ _ ⟨E,V,V,Av,Z⟩) V
  ·refine C 4 V (JL.fd underlying82 Bg V V V ?_);refine Am (v:= sV a1 p0.1 c2) V (λρ h=>Yl.load Bx (h _ _ V) (BL (j:=0) (off:=0) Z V V)) ?_;obtain⟨cc,b2,b3⟩:=bs b1;refine Lo (vs:= [sV K U O,sV a1 p0.1 c2]) (dj av aq b2) V V V V (A6 func73 V) V Z ?_;rintro _ b4 _ b5 ⟨rfl,rfl⟩ b6;refine C 1 V ?_;obtain rfl:=oi b3;exact AB (a3 _ _ ⟨b4,V,V,b5,b6⟩) V
variable {J:Judge Tryz.prog}
def Tl(fu_:Nat)(O:List Int)(K:(AH)×Int):Option (Bd ((AH)×Int) ((AH))):= if K.2<(O.length:Int) then((ix O K.2).bind λU=> (Ar (((BC K.1 U).getD 0)+1)).bind λY=> (Ar (K.2+1)).bind λZ=> some (.more ((Dr K.1 U Y),Z))) else(some (.done K.1))
def TR(fu_:Nat)(p0:A8)(K:(List AH)×Int):Option (Bd ((List AH)×Int) ((List AH))):= if K.2<(p0.1.length:Int) then((ix p0.1 K.2).bind λO=> Option.bind (iter (Tl fu_ O) fu_ (([]:AH),0)) λU=> (room K.1 U).bind λY=> (Ar (K.2+1)).bind λZ=> some (.more (Y,Z))) else(some (.done K.1))
def f120(fu_:Nat)(p0:A8):Option ((List AH)):= Option.bind (iter (TR fu_ p0) fu_ ([],0)) λK=> some K
theorem ab{a1:Ao}{c2:Nat}{bb:Ao}{be:Nat}{p0:A8}(ca:An (rL rI) E a1 c2 p0.1)(eX:An Az E bb be p0.2){fu_:Nat}{r:(List AH)}(bi:f120 fu_ p0=some r):AP J 120 [.agg #[sV a1 p0.1 c2,sV bb p0.2 be]] E [] (λw E' B'=>∃(bn:Ao) (bo:Nat),w= sV bn r bo/\B'= []/\An (rM rI false rI false) E' bn bo r):=by
 refine Bn func120 λQ eY cs H cc ce=>?_;unfold f120 at bi;refine C 2 V (DF cc λeZ ay bv ci co=>?_);refine C 9 V (JL.fd underlying77 De V V V ?_);refine B5 0 ci underlying25 GX GC ?_;refine JL.ln underlying22 V V V ?_;obtain⟨bw,cp,ct⟩:=bs bi;refine C 2 V (Br (λL s=>∃(az:LH) (am:Ao) (ap:Nat) (a0:Seg),Jn ay H az [a0] [(3,sV am bw ap)] L s (OL 197 (rM rI false rI false) az am ap a0 bw)) ?_ ?_)
 ·rintro _ _ ⟨az,am,ap,a0,rfl,rfl,cw,cy,c0⟩;refine C 5 V (BW 0 c0 cy V λe0 c1 c3 c4=>?_);obtain rfl:=oi ct;exact AX func120 V V (ce ((bv.Ad cw).Ad c1) V ⟨am,ap,V,V,c3⟩ c4)
 ·intro c5;refine JL.block (CG cp (λL s K=>∃(O:LH) (U:Ao) (Y:Nat) (ac:Seg),Jn ay H O [ac] [(3,sV U K.1 Y),(11,sV a1 p0.1 c2),(12,iV (p0.1.length:Int)),(13,iV K.2)] L s (OL 197 (rM rI false rI false) O U Y ac K.1)) ⟨ay,none,0,[],V,V,Av,co,OL.nil⟩ ?_);rintro _ _ K ⟨O,U,Y,ac,rfl,rfl,a2,bx,bz⟩ c6 ⟨e1,a3⟩ c7;have b0:=a3;unfold TR at b0;refine C 5 V (AL b0 (λc8 c9=>?_) (λc8 dd=>?_))
  ·obtain⟨b1,dn,ea⟩:=bs c9;refine C 5 V (JS.ix (ca.Ah (bv.Ad a2)) dn underlying22 GW ?_);rintro e3 e4 _ ⟨eb,ec,rfl,ed⟩ ee;refine CQ 0 ee Kr V V V (C 4 V ?_);refine JS.makeMap V V V bx λag ef=>C 6 V (JL.ln underlying28 V V V ?_);obtain⟨b2,eg,ej⟩:=bs ea;refine C 2 V (Br (λL s=>∃(a4:LH) (aq:Obj),Jn O H a4 [ac,[(ag,aq)]] [(3,sV U K.1 Y),(6,.map (some ag)),(11,sV a1 p0.1 c2),(12,iV (p0.1.length:Int)),(13,iV K.2)] L s (BA rI false rI false a4 aq b2)) ?_ ?_)
   ·rintro _ _ ⟨a4,aq,rfl,rfl,b3,ek,el⟩;refine C 3 V (Pg 1 ek V λb4 a5 em eo=>?_);have er:BA rI false rI false b4 aq b2:=(el.Ah a5);obtain⟨eu,ew,ex⟩:=bs ej;refine JS.app (pp:=(rM rI false rI false)) (v:= .map (some ag)) (a:=U) (c:=Y) 0 ew V V V V (λ_=>V) V (λ_=>V) V V V underlying156 underlying156 underlying156 HH (DW type197) (Dv type197) V (by decide) (by decide) (by decide) (by decide) (bz.Ah (b3.Ad a5)) ⟨_,_,V,em,er⟩ eo V λe5 ey ez eA eB eC=>?_;obtain⟨eD,eE,eF⟩:=bs ex;refine C 4 V (Bl eE V V V ?_);refine C 2 V ?_;obtain rfl:=oi eF;exact AB (c7 _ _ (eu,eD) ⟨b4,ey,ez,eA,V,V,((a2.Ad b3).Ad a5),eC,eB⟩ a3) V
   ·intro eG;refine JL.block (CG eg (λL s Z=>∃(al:LH) (av:Obj),Jn O H al [ac,[(ag,av)]] [(3,sV U K.1 Y),(6,.map (some ag)),(11,sV a1 p0.1 c2),(12,iV (p0.1.length:Int)),(13,iV K.2),(18,sV eb b1 ec),(19,iV (b1.length:Int)),(20,iV Z.2)] L s (BA rI false rI false al av Z.1)) ⟨O,(.map #[] 0),V,V,Av,ef,BA.nil⟩ ?_);rintro _ _ Z ⟨al,av,rfl,rfl,a6,a7,a8⟩ eH ⟨e6,a9⟩ eI;have b5:=a9;unfold Tl at b5;refine C 5 V (AL b5 (λeJ eK=>?_) (λeJ eL=>?_))
    ·obtain⟨aw,eM,eN⟩:=bs eK;refine C 5 V (JS.ix (ed.Ah a6) eM underlying28 AA ?_);rintro e7 e8 _ rfl eO;refine CQ 0 eO AY V V V (C 5 V ?_);refine Am (v:=iV ((BC Z.1 aw).getD 0)) V (λρ h=>Yl.lookup (ok:=false) (xs:=Z.1) (x0:=aw) (z0:=0) I4 underlying197 Cq ⟨_,V,V⟩ a8 ⟨_,V,V⟩ (by rintro _ ⟨_,rfl,rfl⟩;rfl) (h _ _ V) (h _ _ V) (DJ (j:=1) (i:=0) a7 V V)) ?_;obtain⟨b6,eP,eQ⟩:=bs eN;refine Bl eP V V V (JS.mapUpdate (xs:=Z.1) (x0:=aw) (v0:=b6) 1 I4 underlying197 a8 ⟨_,V,V⟩ ⟨_,V,V⟩ a7 V V V V V V V λeR eS eT=>?_);obtain⟨eU,eV,eW⟩:=bs eQ;refine C 3 V (Bl eV V V V ?_);refine C 2 V ?_;obtain rfl:=oi eW;exact AB (eI _ _ ((Dr Z.1 aw b6),eU) ⟨al,eR,V,V,a6,eT,eS⟩ a9) V
    ·refine JL.exit V ?_;obtain rfl:=oi eL;obtain rfl:=eH _ a9;exact AB (eG _ _ ⟨al,av,V,V,a6,a7,a8⟩) V
  ·refine JL.exit V ?_;obtain rfl:=oi dd;obtain rfl:=c6 _ a3;exact AB (c5 _ _ ⟨O,U,Y,ac,V,V,a2,bx,bz⟩) V
def T9(fu_:Nat)(p0:A8)(O:(List Int))(K:(List Int)×Int):Option (Bd ((List Int)×Int) ((List Int))):= if K.2<5 then((ix O K.2).bind λU=> Option.bind (if K.2<(p0.1.length:Int) then((ix p0.1 K.2).bind λY=> (f85 fu_ Y).bind λZ=> (Ar (-(U))).bind λac=> some (decide (Z<ac))) else(some false)) λag=> Option.bind (if ag=true then((room K.1 K.2).bind λal=> some al) else(some K.1)) λam=> (Ar (K.2+1)).bind λap=> some (.more (am,ap))) else(some (.done K.1))
def f39(fu_:Nat)(p0:A8):Option ((List Int)×Int):= (f70 fu_ p0 ([])).bind λK=> if K.2≠0 then(some ([],K.2)) else((f84 fu_ K.1).bind λO=> Option.bind (iter (T9 fu_ p0 O) fu_ ([],0)) λU=> some (U,0))
theorem dz{a1:Ao}{c2:Nat}{bo:Ao}{bv:Nat}{p0:A8}(bw:An (rL rI) E a1 c2 p0.1)(cc:An Az E bo bv p0.2){fu_:Nat}{r:(List Int)×Int}(bx:f39 fu_ p0=some r):AP J 39 [.agg #[sV a1 p0.1 c2,sV bo p0.2 bv]] E [] (λw E' B'=>∃(bz:Ao) (b0:Nat),w= .tuple #[sV bz r.1 b0,iV r.2]/\B'= []/\An rI E' bz b0 r.1):=by
 refine Bn func39 λQ e8 cs H ce b1=>?_;unfold f39 at bx;refine C 2 V (DF ce λa3 e9 al a4 ci=>?_);refine C 5 V (Cg a4 Fu De V V ?_);obtain⟨fa,co,cp⟩:=bs bx;refine BP (J4 (bw.Ah al) (cc.Ah al) An.nil co) V V JI ci ?_;rintro _ fb _ am ⟨fc,fe,ff,fg,rfl,rfl,ct,cw⟩ cy;refine C 3 V (B3 cy Hi λfh c0=>?_);refine BQ 3 c0 Dt λc1=>?_;refine Du 3 c1 V λfj O c3 b2=>C 8 V (AL cp (λc4 c5=>?_) (λc4 c6=>?_))
 ·refine C 6 V ?_;obtain rfl:=oi c5;exact AX func39 V V (b1 ((al.Ad am).Ad O) V ⟨none,0,V,V,An.nil⟩ b2)
 ·refine C 8 V (Cg c3 FQ Dt V V ?_);obtain⟨fk,c7,c8⟩:=bs c6;refine BP (QS (ct.Ah O) (cw.Ah O) c7) V V O1 b2 ?_;rintro _ a5 _ aq ⟨a6,rfl,rfl,c9⟩ dd;obtain⟨b3,dn,ea⟩:=bs c8;refine C 2 V (Br (λL s=>∃(a7:LH) (av:Ao) (aw:Nat) (a8:Seg),Jn a5 H a7 [a8] [(6,sV av b3 aw)] L s (OL 3 rI a7 av aw a8 b3)) ?_ ?_)
  ·rintro _ _ ⟨a7,av,aw,a8,rfl,rfl,eb,ec,ed⟩;refine C 6 V (BW 0 ed ec V λfl ee ef eg=>?_);obtain rfl:=oi ea;exact AX func39 V V (b1 (((((al.Ad am).Ad O).Ad aq).Ad eb).Ad ee) V ⟨av,aw,V,V,ef⟩ eg)
  ·intro ej;refine JL.block (CG dn (λL s K=>∃(Z:LH) (U:Ao) (Y:Nat) (ac:Seg),Jn a5 H Z [ac] [(1,Ak a3 0),(6,sV U K.1 Y),(18,.agg a6.toArray),(19,iV K.2)] L s (OL 3 rI Z U Y ac K.1)) ⟨a5,none,0,[],V,V,Av,dd,OL.nil⟩ ?_);rintro _ _ K ⟨Z,U,Y,ac,rfl,rfl,ag,a9,bb⟩ ek ⟨fm,be⟩ el;have b4:=be;unfold T9 at b4;refine C 5 V (AL b4 (λem eo=>?_) (λem er=>?_))
   ·obtain⟨fo,eu,ew⟩:=bs eo;refine C 6 V (TW (Rp.Ah _ ag c9) eu V V V V V underlying105 AA AY ?_ (λ_=>V));rintro _ rfl;refine C 6 V (B5 0 (a4.Ah (((am.Ad O).Ad aq).Ad ag)) underlying25 GX GC ?_);refine JL.ln underlying22 V V V ?_;obtain⟨ex,ey,ez⟩:=bs ew;refine C 2 V (Gl [] (λL s=>∃(ap:LH),Jm Z H ap [ac] [(1,Ak a3 0),(6,sV U K.1 Y),(7,iV K.2),(18,.agg a6.toArray),(19,iV K.2),(38,.bool ex)] L s) ?_ ?_)
    ·rintro _ _ ⟨ap,rfl,rfl,bi,b5⟩;obtain⟨bn,eA,eB⟩:=bs ez;refine JL.done (Br (λL s=>∃(ay:LH) (az:Ao) (a0:Nat) (a2:Seg),Jn ap H ay [a2] [(1,Ak a3 0),(6,sV az bn a0),(18,.agg a6.toArray),(19,iV K.2)] L s (OL 3 rI ay az a0 a2 bn)) ?_ ?_)
     ·rintro _ _ ⟨ay,az,a0,a2,rfl,rfl,eC,eD,eE⟩;obtain⟨eF,eG,eH⟩:=bs eB;refine C 2 V (Bl eG V V V ?_);refine C 2 V ?_;obtain rfl:=oi eH;exact AB (el _ _ (bn,eF) ⟨ay,az,a0,a2,V,V,((ag.Ad bi).Ad eC),eD,eE⟩ be) V
     ·intro b6;refine Ck eA (λeI eJ=>?_) (λeI eK=>?_)
      ·obtain⟨fp,eL,eM⟩:=bs eJ;refine C 3 V (JS.app (pp:=rI) (v:=iV K.2) (a:=U) (c:=Y) 0 eL V V V V (λ_=>V) V (λ_=>V) V V V underlying28 underlying28 underlying28 AA (DW type3) Cq V (by decide) (by decide) (by decide) (by decide) (bb.Ah bi) V b5 V λfq eN eO eP eQ eR=>?_);refine C 2 V ?_;obtain rfl:=oi eM;exact AB (b6 _ _ ⟨ap,eN,eO,eP,V,V,Av,eR,eQ⟩) V
      ·refine JL.skip ?_;obtain rfl:=oi eK;exact AB (b6 _ _ ⟨ap,U,Y,ac,V,V,Av,b5,(bb.Ah bi)⟩) V
    ·intro ca;refine FJ 28 ey (λeS eT=>?_) (λeS eU=>?_)
     ·refine B5 0 (a4.Ah (((am.Ad O).Ad aq).Ad ag)) underlying25 GX GC ?_;obtain⟨fs,eV,eW⟩:=bs eT;refine C 1 V (JS.ix (bw.Ah ((((al.Ad am).Ad O).Ad aq).Ad ag)) eV underlying22 GW ?_);rintro fu fv _ ⟨fw,fx,rfl,eX⟩ eY;refine CQ 0 eY Kr V V V ?_;obtain⟨fy,eZ,e0⟩:=bs eW;refine CH (HX eX eZ) V V HG a9 λe1 e3 e4=>?_;obtain⟨e5,e6,e7⟩:=bs e0;refine C 1 V (Am (v:=iV e5) V (λρ h=>G2 (h _ _ V) e6) ?_);refine C 2 V ?_;obtain rfl:=oi e7;exact AB (ca _ _ ⟨e1,V,V,e3,e4⟩) V
     ·refine C 10 V ?_;obtain rfl:=oi eU;exact AB (ca _ _ ⟨Z,V,V,Av,a9⟩) V
   ·refine JL.exit V ?_;obtain rfl:=oi er;obtain rfl:=ek _ be;exact AB (ej _ _ ⟨Z,U,Y,ac,V,V,ag,a9,bb⟩) V
def Tg(fu_:Nat)(p0:List Int)(O:Int)(K:Int):Option (Bd Int ((Int)⊕(Unit))):= if K<(p0.length:Int) then((ix p0 K).bind λU=> if O=U then(some (.done (Sum.inl K))) else((Ar (K+1)).bind λY=> some (.more Y))) else(some (.done (Sum.inr ())))
def f128(fu_:Nat)(p0:List Int)(K:Int):Option Int:= Option.bind (iter (Tg fu_ p0 K) fu_ 0) λO=> Sum.elim (λr=>some r) (λU=> some (-1)) O
theorem aV{a1:Ao}{c2:Nat}{p0:List Int}{U:Int}(ay:An rI E a1 c2 p0){fu_:Nat}{r:Int}(ac:f128 fu_ p0 U=some r):AP J 128 [sV a1 p0 c2,iV U] E [] (λw E' B'=>w=iV r/\B'= []):=by
 refine Bn func128 λQ b3 cs H az ag=>?_;unfold f128 at ac;refine C 8 V (JL.ln underlying28 V V V ?_);obtain⟨al,a0,am⟩:=bs ac;refine C 2 V (Br (λL s=>∃(ap:Unit) (aq:LH),al=Sum.inr ap/\Jm E H aq [] [] L s) ?_ ?_)
 ·rintro _ _ ⟨ap,aq,rfl,rfl,rfl,a2,a3⟩;have a4:=elim_inr am;refine C 4 V ?_;obtain rfl:=oi a4;exact AX func128 V V (ag a2 V ⟨V,V⟩ a3)
 ·intro a5;refine JL.block (CO a0 (λY=> []) (λY=> [(0,sV a1 p0 c2),(1,iV U),(7,iV (p0.length:Int)),(8,iV Y)]) Av az ?_);rintro Y a6 K Z av ⟨b4,O⟩ a7;have aw:=O;unfold Tg at aw;refine C 5 V (AL aw (λa8 a9=>?_) (λa8 bb=>?_))
  ·obtain⟨b5,be,bi⟩:=bs a9;refine C 13 V (JS.ix (ay.Ah K) be underlying28 AA ?_);rintro b6 ca _ rfl bn;refine CQ 0 bn AY V V V (C 2 V ?_);refine AL bi (λbo bv=>?_) (λbo bw=>?_)
   ·refine C 5 V ?_;obtain rfl:=oi bv;obtain rfl:=av _ O;have bx:=elim_inl am;obtain rfl:=oi bx;exact AX func128 V V (ag K V ⟨V,V⟩ Z)
   ·obtain⟨bz,b0,b1⟩:=bs bw;refine C 3 V (Bl b0 V V V ?_);refine C 2 V ?_;obtain rfl:=oi b1;exact a7 bz K Z V O
  ·refine JL.exit V ?_;obtain rfl:=oi bb;have b2:al=(Sum.inr ()):=(av _ O).symm;exact AB (a5 _ _ ⟨(),a6,b2,V,V,K,Z⟩) V
def f82(fu_:Nat)(p0:List Int)(K:Int):Option Bool:= (f128 fu_ p0 K).bind λO=> some (decide (0<=O))
theorem cO{a1:Ao}{c2:Nat}{p0:List Int}{K:Int}(U:An rI E a1 c2 p0){fu_:Nat}{r:Bool}(O:f82 fu_ p0 K=some r):AP J 82 [sV a1 p0 c2,iV K] E [] (λw E' B'=>w= .bool r/\B'= []):=by
 refine Bn func82 λQ ap cs H Y Z=>?_;unfold f82 at O;obtain⟨aq,ac,ag⟩:=bs O;refine C 8 V (CH (aV U ac) V V (A6 func128 V) Y λav al am=>?_);refine C 3 V ?_;obtain rfl:=oi ag;exact AX func82 V V (Z al V ⟨V,V⟩ am)
def T2(fu_:Nat)(O:A8×Int)(K:(List ((Int×Int)×Bool))×Int):Option (Bd ((List ((Int×Int)×Bool))×Int) ((List ((Int×Int)×Bool)))):= if K.2<(O.1.2.length:Int) then((ix O.1.2 K.2).bind λU=> (Ar (K.2+1)).bind λY=> some (.more ((Dr K.1 (U.1,U.2.1) true),Y))) else(some (.done K.1))
def Uj(fu_:Nat)(U:A8×Int)(Y:(List ((Int×Int)×Bool)))(O:List Int)(K:Bf×Int):Option (Bd (Bf×Int) (Bf)):= if K.2<(U.1.1.length:Int) then(Option.bind ((f82 fu_ O K.2).bind λZ=> Option.bind (if Z=true then(some true) else(if 0<(O.length:Int) then((Ar ((O.length:Int) - 1)).bind λac=> (ix O ac).bind λag=> some (!((BC Y (ag,K.2)).getD false))) else(some false))) λal=> if al=true then(some K.1) else((DD O ([K.2]:List Int)).bind λam=> (room K.1 am).bind λap=> some ap)) λaq=> (Ar (K.2+1)).bind λav=> some (.more (aq,av))) else(some (.done K.1))
def T0(fu_:Nat)(Z:A8×Int)(U:(List ((Int×Int)×Bool)))(Y:Bf)(O:Bf×Int):Option (Bd (Bf×Int) (((List Int)×Int)⊕(Bf))):= if O.2<(Y.length:Int) then((ix Y O.2).bind λK=> Option.bind (if 1<(K.length:Int) then((Ar ((K.length:Int) - 1)).bind λac=> (ix K ac).bind λag=> (ix K (0)).bind λal=> some ((BC U (ag,al)).getD false)) else(some false)) λam=> if am=true then(some (.done (Sum.inl (K,0)))) else(Option.bind (iter (Uj fu_ Z U K) fu_ (O.1,0)) λap=> (Ar (O.2+1)).bind λaq=> some (.more (ap,aq)))) else(some (.done (Sum.inr O.1)))
def Ut(fu_:Nat)(U:A8×Int)(Y:(List ((Int×Int)×Bool)))(K:Bf):Option (Bd (Bf) (((List Int)×Int)⊕(Unit))):= if 0<(K.length:Int) then(Option.bind (iter (T0 fu_ U Y K) fu_ ([],0)) λZ=> Sum.elim (λr=>some (.done (Sum.inl r))) (λO=> if(O.length:Int)=0 then(some (.done (Sum.inr ()))) else(some (.more O))) Z) else(some (.done (Sum.inr ())))
def f33(fu_:Nat)(p0:A8):Option ((List Int)×Int):= (f70 fu_ p0 ([])).bind λK=> if K.2≠0 then(some ([],K.2)) else(Option.bind (iter (T2 fu_ K) fu_ (([]:List ((Int×Int)×Bool)),0)) λO=> Option.bind (iter (Ut fu_ K O) fu_ ([[]]:Bf)) λU=> Sum.elim (λr=>some r) (λY=> some ([],11)) U)
theorem cX{a1:Ao}{c2:Nat}{ex:Ao}{ey:Nat}{p0:A8}(e5:An (rL rI) E a1 c2 p0.1)(e6:An Az E ex ey p0.2){fu_:Nat}{r:(List Int)×Int}(ez:f33 fu_ p0=some r):AP J 33 [.agg #[sV a1 p0.1 c2,sV ex p0.2 ey]] E [] (λw E' B'=>∃(eA:Ao) (eB:Nat),w= .tuple #[sV eA r.1 eB,iV r.2]/\B'= []/\An rI E' eA eB r.1):=by
 refine Bn func33 λQ hX cs H e7 dn=>?_;unfold f33 at ez;refine C 2 V (DF e7 λhY hZ bx e8 e9=>?_);refine C 6 V (Cg e8 Fu De V V ?_);obtain⟨bz,fa,fb⟩:=bs ez;refine BP (J4 (e5.Ah bx) (e6.Ah bx) An.nil fa) V V JI e9 ?_;rintro _ h0 _ ea ⟨h1,h2,fc,fe,rfl,rfl,h3,ff⟩ fg;refine C 3 V (B3 fg Hi λag fh=>?_);refine BQ 3 fh Dt λfj=>?_;refine Du 3 fj V λeb b6 eC eD=>C 8 V (AL fb (λfk fl=>?_) (λfk fm=>?_))
 ·refine C 6 V ?_;obtain rfl:=oi fl;exact AX func33 V V (dn ((bx.Ad ea).Ad b6) V ⟨none,0,V,V,An.nil⟩ eD)
 ·refine C 3 V (JS.makeMap V V V eD λK fo=>?_);refine C 5 V (JL.fd underlying77 De V V V ?_);refine B5 1 eC underlying25 EK FR ?_;refine JL.ln underlying23 V V V ?_;obtain⟨a9,fp,fq⟩:=bs fm;refine C 2 V (Br (λL s=>∃(bb:LH) (ac:Obj),Jn eb H bb [[(K,ac)]] [(4,Ak ag 0),(6,.map (some K))] L s (BA Er true rB false bb ac a9)) ?_ ?_)
  ·rintro _ _ ⟨bb,ac,rfl,rfl,ec,fs,eE⟩;refine C 2 V (EN (pp:=(rL rI)) [nS] [[]] V V V underlying22 GW L2 (by decide) V V V ⟨⟨_,_,V,An.nil⟩,trivial⟩ fs λfu fv fw fx=>?_);refine C 3 V (JL.label ?_);obtain⟨ed,fy,eF⟩:=bs fq;refine JL.seq (Br (λL s=>∃(eG:Unit) (eH:LH),ed=Sum.inr eG/\Jm bb H eH [] [] L s) ?_ ?_)
   ·rintro _ _ ⟨eG,eH,rfl,rfl,rfl,fz,fA⟩;have fB:=elim_inr eF;refine C 5 V ?_;obtain rfl:=oi fB;exact AX func33 V V (dn ((((bx.Ad ea).Ad b6).Ad ec).Ad fz) V ⟨none,0,V,V,An.nil⟩ fA)
   ·intro eI;refine JL.block (CG fy (λL s O=>∃(a0:LH) (al:Ao) (am:Nat) (ap:Seg),Jn bb H a0 [[(K,ac)],ap] [(4,Ak ag 0),(6,.map (some K)),(9,sV al O am)] L s (OL 28 (rL rI) a0 al am ap O)) ⟨bb,(AM fu),1,fv,V,V,Av,fx,fw⟩ ?_);rintro _ _ O ⟨a0,al,am,ap,rfl,rfl,a2,eJ,fC⟩ ee ⟨h4,b0⟩ fD;have eK:=b0;unfold Ut at eK;refine C 4 V (JL.ln underlying22 V V V ?_);refine C 2 V (AL eK (λfE fF=>?_) (λfE fG=>?_))
    ·refine C 10 V (JL.ln underlying22 V V V ?_);obtain⟨eL,fH,eM⟩:=bs fF;refine C 2 V (Br (λL s=>∃(b1:Bf) (b2:LH) (ca:Ao) (cc:Nat) (ce:Seg),eL=Sum.inr b1/\Jn a0 H b2 [[(K,ac)],ce] [(4,Ak ag 0),(6,.map (some K)),(10,sV ca b1 cc)] L s (OL 28 (rL rI) b2 ca cc ce b1)) ?_ ?_)
     ·rintro _ _ ⟨b1,b2,ca,cc,ce,rfl,rfl,rfl,eN,eO,fI⟩;have fJ:=elim_inr eM;refine C 8 V (JL.ln underlying22 V V V ?_);refine C 2 V (AL fJ (λfK fL=>?_) (λfK fM=>?_))
      ·refine JL.exit V (JS.drop 0 eO V λfN=>?_);refine JS.drop 1 fN V λfO=>?_;obtain rfl:=oi fL;have fP:ed=(Sum.inr ()):=(ee _ b0).symm;exact AB (eI _ _ ⟨(),b2,fP,V,V,(a2.Ad eN),fO⟩) V
      ·refine C 2 V ?_;obtain rfl:=oi fM;exact AB (fD _ _ b1 ⟨b2,ca,cc,ce,V,V,(a2.Ad eN),eO,fI⟩ b0) V
     ·intro fQ;refine JL.block (CG fH (λL s Y=>∃(av:LH) (be:Ao) (bi:Nat) (bn:Seg),Jn a0 H av [[(K,ac)],ap,bn] [(4,Ak ag 0),(6,.map (some K)),(10,sV be Y.1 bi),(43,sV al O am),(44,iV (O.length:Int)),(45,iV Y.2)] L s (OL 28 (rL rI) av be bi bn Y.1)) ⟨a0,none,0,[],V,V,Av,eJ,OL.nil⟩ ?_);rintro _ _ Y ⟨av,be,bi,bn,rfl,rfl,a3,b3,eP⟩ eQ ⟨h5,ci⟩ fR;have eR:=ci;unfold T0 at eR;refine C 5 V (AL eR (λfS fT=>?_) (λfS fU=>?_))
      ·obtain⟨aw,fW,fX⟩:=bs fT;refine C 5 V (Hn 1 (fC.Ah a3) fW V V V V V V underlying22 GW ?_);rintro h6 h7 f155 _ fY ⟨a4,bo,rfl,ay⟩ fZ h8 h9 ia ic;refine Am (v:= sV a4 aw bo) V (λρ h=>Yl.load Kr (h _ _ V) (BL (j:=1) b3 fY (fZ 0 _ V))) (C 6 V ?_);refine JL.ln underlying28 V V V (C 3 V ?_);refine QI 15 λZ=>AR Z V [0,1,2] V ?_;obtain⟨ga,eS,gb⟩:=bs fX;refine Gb 0 #[true,true,true,true,true,true,true,true,true,true,true,true,true,true,true] (λL s=>L= [(4,Ak ag 0),(6,.map (some K)),(10,sV be Y.1 bi),(12,sV a4 aw bo),(43,sV al O am),(44,iV (O.length:Int)),(45,iV Y.2),(65,.bool ga)]/\s=Aj av H [[(K,ac)],ap,bn]) ?_ ?_
       ·rintro _ _ ⟨rfl,rfl⟩;refine AQ.fin (by decide+kernel) (Ck gb (λgc gd=>?_) (λgc ge=>?_))
        ·refine C 6 V (JS.drop 0 b3 V λgf=>?_);refine JS.drop 1 gf V λgg=>JS.drop 2 gg V λgh=>?_;obtain rfl:=oi gd;obtain rfl:=eQ _ ci;have gi:=elim_inl eM;obtain rfl:=oi gi;obtain rfl:=ee _ b0;have gj:=elim_inl eF;obtain rfl:=oi gj;exact AX func33 V V (dn (((((bx.Ad ea).Ad b6).Ad ec).Ad a2).Ad a3) V ⟨a4,bo,V,V,ay⟩ gh)
        ·refine C 3 V (JL.fd underlying77 De V V V ?_);refine B5 0 (eC.Ah ((ec.Ad a2).Ad a3)) underlying25 GX GC ?_;refine JL.ln underlying22 V V V ?_;obtain⟨ef,gk,gl⟩:=bs ge;refine C 2 V (Br (λL s=>∃(co:LH) (cp:Ao) (ct:Nat) (cw:Seg),Jn av H co [[(K,ac)],ap,cw] [(4,Ak ag 0),(6,.map (some K)),(10,sV cp ef ct),(43,sV al O am),(44,iV (O.length:Int)),(45,iV Y.2)] L s (OL 28 (rL rI) co cp ct cw ef)) ?_ ?_)
         ·rintro _ _ ⟨co,cp,ct,cw,rfl,rfl,gm,gn,gp⟩;obtain⟨gq,gr,gt⟩:=bs gl;refine C 2 V (Bl gr V V V ?_);refine C 2 V ?_;obtain rfl:=oi gt;exact AB (fR _ _ (ef,gq) ⟨co,cp,ct,cw,V,V,(a3.Ad gm),gn,gp⟩ ci) V
         ·intro gu;refine JL.block (CG gk (λL s U=>∃(b4:LH) (a5:Ao) (a6:Nat) (bv:Seg),Jn av H b4 [[(K,ac)],ap,bv] [(4,Ak ag 0),(6,.map (some K)),(10,sV a5 U.1 a6),(12,sV a4 aw bo),(43,sV al O am),(44,iV (O.length:Int)),(45,iV Y.2),(70,iV (bz.1.1.length:Int)),(71,iV U.2)] L s (OL 28 (rL rI) b4 a5 a6 bv U.1)) ⟨av,be,bi,bn,V,V,Av,b3,eP⟩ ?_);rintro _ _ U ⟨b4,a5,a6,bv,rfl,rfl,az,eT,eg⟩ gv ⟨ie,ej⟩ gw;have eU:=ej;unfold Uj at eU;refine C 5 V (AL eU (λgx gy=>?_) (λgx gz=>?_))
          ·obtain⟨ek,gA,gB⟩:=bs gy;refine C 2 V (Br (λL s=>∃(cy:LH) (c0:Ao) (c1:Nat) (c3:Seg),Jn b4 H cy [[(K,ac)],ap,c3] [(4,Ak ag 0),(6,.map (some K)),(10,sV c0 ek c1),(12,sV a4 aw bo),(43,sV al O am),(44,iV (O.length:Int)),(45,iV Y.2),(70,iV (bz.1.1.length:Int)),(71,iV U.2)] L s (OL 28 (rL rI) cy c0 c1 c3 ek)) ?_ ?_)
           ·rintro _ _ ⟨cy,c0,c1,c3,rfl,rfl,gC,gD,gE⟩;obtain⟨gF,gG,gH⟩:=bs gB;refine JL.region (Bl gG V V V ?_);refine C 2 V ?_;obtain rfl:=oi gH;exact AB (gw _ _ (ek,gF) ⟨cy,c0,c1,c3,V,V,(az.Ad gC),gD,gE⟩ ej) V
           ·intro eV;obtain⟨ig,gI,gJ⟩:=bs gA;refine C 11 V (CH (cO (ay.Ah az) gI) V V (A6 func82 V) eT λc4 aq c5=>?_);obtain⟨gK,gL,gM⟩:=bs gJ;refine C 1 V (Gl [] (λL s=>∃(el:LH),Jm c4 H el [[(K,ac)],ap,bv] [(4,Ak ag 0),(6,.map (some K)),(10,sV a5 U.1 a6),(12,sV a4 aw bo),(14,iV U.2),(43,sV al O am),(44,iV (O.length:Int)),(45,iV Y.2),(70,iV (bz.1.1.length:Int)),(71,iV U.2),(94,.bool gK)] L s) ?_ ?_)
            ·rintro _ _ ⟨el,rfl,rfl,a7,eW⟩;refine JL.done (Ck gM (λgO gP=>?_) (λgO gQ=>?_))
             ·refine JL.exit V ?_;obtain rfl:=oi gP;exact AB (eV _ _ ⟨el,a5,a6,bv,V,V,(aq.Ad a7),eW,(eg.Ah (aq.Ad a7))⟩) V
             ·refine C 5 V (JL.ln underlying28 V V V ?_);refine C 1 V (JL.ln underlying28 V V V ?_);refine Am (v:= .slice a4 aw.length aw.length) V (λρ h=>RI (An.spot (ay.Ah ((az.Ad aq).Ad a7))) (And.left (ay.Ah ((az.Ad aq).Ad a7))) underlying28 AA (h _ _ V) (h _ _ V) (h _ _ V)) (C 1 V ?_);refine EN (pp:=rI) [iV U.2] [U.2] V V V underlying28 AA Cq (by decide) V V V ⟨V,trivial⟩ eW λih ii gR gS=>BW 3 gR gS V λij em gT gU=>?_;obtain⟨gV,gW,gX⟩:=bs gQ;refine Wu (pp:=rI) gW V V V V V V V underlying28 underlying28 AA (DW type3) Cq V (by decide) (by decide) (ay.Ah (((az.Ad aq).Ad a7).Ad em)) gT gU λgY gZ g0 eX g1 g3=>?_;obtain⟨ik,g4,g5⟩:=bs gX;refine JS.app (pp:=(rL rI)) (v:= sV gZ gV g0) (a:=a5) (c:=a6) 2 g4 V V V V (λ_=>V) V (λ_=>V) V V V underlying22 underlying22 underlying22 GW (DW type28) L2 V (by decide) (by decide) (by decide) (by decide) (eg.Ah (((aq.Ad a7).Ad em).Ad eX)) ⟨_,_,V,g1⟩ g3 V λil g6 g7 g8 g9 ha=>C 3 V ?_;obtain rfl:=oi g5;exact AB (eV _ _ ⟨gY,g6,g7,g8,V,V,(((aq.Ad a7).Ad em).Ad eX),ha,g9⟩) V
            ·intro eo;refine EB 77 gL (λhb hd=>?_) (λhb he=>?_)
             ·refine C 17 V ?_;obtain rfl:=oi hd;exact AB (eo _ _ ⟨c4,V,V,Av,c5⟩) V
             ·refine C 1 V (JL.ln underlying28 V V V ?_);refine C 2 V (FJ 81 he (λhf hg=>?_) (λhf hj=>?_))
              ·refine C 3 V (JL.ln underlying28 V V V ?_);obtain⟨io,hk,hl⟩:=bs hg;refine Cu hk V V V ?_;obtain⟨c6,hm,hn⟩:=bs hl;refine JS.ix (ay.Ah (az.Ad aq)) hm underlying28 AA ?_;rintro iq ir _ rfl ho;refine CQ 0 ho AY V V V (C 1 V ?_);refine Am (v:= .agg #[iV c6,iV U.2]) V (λρ h=>Dh [(0,1),(1,1)] h I8 underlying101 ⟨V,AV type3,V,AV type3,trivial⟩ V V) (Am (v:= .bool (((BC a9 (c6,U.2)).getD false))) V (λρ h=>Yl.lookup (ok:=false) (xs:=a9) (x0:=(c6,U.2)) (z0:=false) Qr underlying99 L3 ⟨_,V,V⟩ (eE.Ah (((a2.Ad a3).Ad az).Ad aq)) ⟨_,⟨_,_,V,V,V⟩,V⟩ (by rintro _ ⟨_,rfl,rfl⟩;rfl) (h _ _ V) (h _ _ V) (DJ (j:=0) (i:=0) c5 V V)) ?_);refine Am (v:= .bool ((!((BC a9 (c6,U.2)).getD false)))) V (λρ h=>Yl.not (h _ _ V)) (C 2 V ?_);obtain rfl:=oi hn;exact AB (eo _ _ ⟨c4,V,V,Av,c5⟩) V
              ·refine C 13 V ?_;obtain rfl:=oi hj;exact AB (eo _ _ ⟨c4,V,V,Av,c5⟩) V
          ·refine JL.exit V ?_;obtain rfl:=oi gz;obtain rfl:=gv _ ej;exact AB (gu _ _ ⟨b4,a5,a6,bv,V,V,az,eT,eg⟩) V
       ·intro eY;refine F9 (q:=1<(aw.length:Int)) (i:=53) V (λer=>?_) (λer=>?_)
        ·have hp:=ip eS er;refine AR Z V [3,4,5] V ?_;obtain⟨iu,hq,hr⟩:=bs hp;refine AJ 6 Z V V (λρ h s' a8=>C3 (h _ _ V) (h _ _ V) hq) ?_;obtain⟨c7,hs,ht⟩:=bs hr;refine Di 7 ay hs Z underlying28 AA ?_;rintro iv iw _ rfl hu;refine AJ (v:=iV c7) 8 Z V V (λρ h s' a8=>Yl.load AY (h _ _ V) (MC a8 (At.LC (j:=0) hu V))) ?_;refine Dz 9 Z V V ?_;obtain⟨c8,hv,hw⟩:=bs ht;refine Di 10 ay hv Z underlying28 AA ?_;rintro iy iz _ rfl hx;refine AJ (v:=iV c8) 11 Z V V (λρ h s' a8=>Yl.load AY (h _ _ V) (MC a8 (At.LC (j:=0) hx V))) ?_;refine AJ (v:= .agg #[iV c7,iV c8]) 12 Z V V (λρ h s' a8=>Dh [(0,1),(1,1)] h I8 underlying101 ⟨V,AV type3,V,AV type3,trivial⟩ V V) ?_;refine AJ (v:= .bool (((BC a9 (c7,c8)).getD false))) 13 Z V V (λρ h s' a8=>Yl.lookup (ok:=false) (xs:=a9) (x0:=(c7,c8)) (z0:=false) Qr underlying99 L3 ⟨_,V,V⟩ (eE.Ah (a2.Ad a3)) ⟨_,⟨_,_,V,V,V⟩,V⟩ (by rintro _ ⟨_,rfl,rfl⟩;rfl) (h _ _ V) (h _ _ V) (Q4 a8 (DJ (j:=0) (i:=0) b3 V V))) ?_;refine Dz 14 Z V V ?_;obtain rfl:=oi hw;refine Dw ?_ (eY _ _ ⟨V,V⟩);exact⟨V,V,V,V,V,V,V,V,trivial⟩
        ·have hy:=im eS er;refine AR Z V [3,4,5,6,7,8,9,10,11,12,13,14] V ?_;obtain rfl:=oi hy;refine Dw ?_ (eY _ _ ⟨V,V⟩);exact⟨V,V,V,V,V,V,V,V,trivial⟩
      ·refine JL.exit V (JS.drop 1 b3 V λhz=>?_);obtain rfl:=oi fU;have hA:eL=(Sum.inr Y.1):=(eQ _ ci).symm;exact AB (fQ _ _ ⟨Y.1,av,be,bi,bn,hA,V,V,a3,hz,eP⟩) V
    ·refine JL.exit V (JS.drop 0 eJ V λhB=>?_);refine JS.drop 1 hB V λhC=>?_;obtain rfl:=oi fG;have hD:ed=(Sum.inr ()):=(ee _ b0).symm;exact AB (eI _ _ ⟨(),a0,hD,V,V,a2,hC⟩) V
  ·intro hE;refine JL.block (CG fp (λL s b5=>∃(c9:LH) (dd:Obj),Jn eb H c9 [[(K,dd)]] [(4,Ak ag 0),(6,.map (some K)),(26,sV fc bz.1.2 fe),(27,iV (bz.1.2.length:Int)),(28,iV b5.2)] L s (BA Er true rB false c9 dd b5.1)) ⟨eb,(.map #[] 0),V,V,Av,fo,BA.nil⟩ ?_);rintro _ _ b5 ⟨c9,dd,rfl,rfl,eu,eZ,e0⟩ hF ⟨iA,ew⟩ hG;have e1:=ew;unfold T2 at e1;refine C 5 V (AL e1 (λhH hI=>?_) (λhH hJ=>?_))
   ·obtain⟨bw,hK,hL⟩:=bs hI;refine C 5 V (JS.ix (ff.Ah (b6.Ad eu)) hK underlying23 A0 ?_);rintro iB iC _ ⟨_,_,rfl,rfl,⟨_,_,rfl,rfl,rfl⟩⟩ hM;refine Cg hM DU A0 V V (B3 eZ BF λiD hN=>?_);refine BQ 1 hN A0 λhO=>?_;refine Du 1 hO V λhP e3 e4 hQ=>C 3 V (B5 0 e4 underlying27 AA AY ?_);refine B5 1 e4 underlying27 AA AY ?_;refine Am (v:= .agg #[iV bw.1,iV bw.2.1]) V (λρ h=>Dh [(0,1),(1,1)] h I8 underlying101 ⟨V,AV type3,V,AV type3,trivial⟩ V V) (JS.mapUpdate (xs:=b5.1) (x0:=(bw.1,bw.2.1)) (v0:=true) 0 Qr underlying99 (e0.Ah e3) ⟨_,⟨_,_,V,V,V⟩,V⟩ ⟨_,V,V⟩ hQ V V V V V V V λhR hS hT=>?_);obtain⟨hU,hV,hW⟩:=bs hL;refine C 3 V (Bl hV V V V ?_);refine C 2 V ?_;obtain rfl:=oi hW;exact AB (hG _ _ ((Dr b5.1 (bw.1,bw.2.1) true),hU) ⟨hP,hR,V,V,(eu.Ad e3),hT,hS⟩ ew) V
   ·refine JL.exit V ?_;obtain rfl:=oi hJ;obtain rfl:=hF _ ew;exact AB (hE _ _ ⟨c9,dd,V,V,eu,eZ,e0⟩) V
variable {J:Judge Tryz.prog}
def Up:List Nat:= [0,1,2,2,3,3,3,3,4,4,4,4,4,4,4,4,5,5,5,5,5,5,5,5,5,5,5,5,5,5,5,5,6,6,6,6,6,6,6,6,6,6,6,6,6,6,6,6,6,6,6,6,6,6,6,6,6,6,6,6,6,6,6,6,7,7,7,7,7,7,7,7,7,7,7,7,7,7,7,7,7,7,7,7,7,7,7,7,7,7,7,7,7,7,7,7,7,7,7,7,7,7,7,7,7,7,7,7,7,7,7,7,7,7,7,7,7,7,7,7,7,7,7,7,7,7,7,7,8,8,8,8,8,8,8,8,8,8,8,8,8,8,8,8,8,8,8,8,8,8,8,8,8,8,8,8,8,8,8,8,8,8,8,8,8,8,8,8,8,8,8,8,8,8,8,8,8,8,8,8,8,8,8,8,8,8,8,8,8,8,8,8,8,8,8,8,8,8,8,8,8,8,8,8,8,8,8,8,8,8,8,8,8,8,8,8,8,8,8,8,8,8,8,8,8,8,8,8,8,8,8,8,8,8,8,8,8,8,8,8,8,8,8,8,8,8,8,8,8,8,8,8,8,8,8,8]
def f146(fu_:Nat)(p0:Nat):Option Int:= Option.bind (if(((4294967296):Nat):Int)<=(((p0):Nat):Int) then(some (p0>>>32,32)) else(some (p0,0))) λK=> Option.bind (if(((65536):Nat):Int)<=(((K.1):Nat):Int) then((Ar (K.2+16)).bind λY=> some (K.1>>>16,Y)) else(some K)) λO=> Option.bind (if(((256):Nat):Int)<=(((O.1):Nat):Int) then((Ar (O.2+8)).bind λZ=> some (O.1>>>8,Z)) else(some O)) λU=> (Q0 Up (((((U.1) % 256):Nat):Int))).bind λac=> (Ar (((ac):Nat):Int)).bind λag=> (Ar (U.2+ag)).bind λal=> some al
theorem ai{p0:Nat}{fu_:Nat}{r:Int}(Y:f146 fu_ p0=some r):AP J 146 [.int .u64 ((p0:Nat):Int)] E [] (λw E' B'=>w=iV r/\B'= []):=by
 refine Bn func146 λQ cc cs H Z aq=>?_;unfold f146 at Y;obtain⟨K,av,aw⟩:=bs Y;refine C 10 V (CN [] [(0,.int .u64 ((K.1:Nat):Int)),(2,iV K.2)] (λce ay ac=>?_) (λag=>?_))
 ·obtain⟨O,az,a0⟩:=bs aw;refine C 6 V (CN [] [(0,.int .u64 ((O.1:Nat):Int)),(2,iV O.2)] (λci a1 al=>?_) (λam=>?_))
  ·obtain⟨U,a2,a3⟩:=bs a0;refine C 6 V (CN [] [(0,.int .u64 ((U.1:Nat):Int)),(2,iV U.2)] (λco a4 a5=>?_) (λap=>?_))
   ·refine C 4 V (Am (v:= .int .u8 (((U.1) % 256:Nat):Int)) V (λρ h=>YT underlying72 underlying5 (h _ _ V)) ?_);obtain⟨a6,a7,a8⟩:=bs a3;refine Am (v:= .int .u8 ((a6:Nat):Int)) V (λρ h=>WC (l:=Up) (by decide+kernel) underlying9 (h _ _ V) (h _ _ V) a7) ?_;obtain⟨a9,bb,be⟩:=bs a8;refine Am (v:=iV a9) V (λρ h=>Y3 underlying5 underlying3 (h _ _ V) bb) ?_;obtain⟨cp,bi,bn⟩:=bs be;refine Bl bi V V V (C 2 V ?_);obtain rfl:=oi bn;exact AX func146 V V (aq ((ay.Ad a1).Ad a4) V ⟨V,V⟩ a5)
   ·refine AL a2 (λbo bv=>?_) (λbo bw=>?_)
    ·refine C 3 V (Am (v:= .int .u64 ((O.1>>>8:Nat):Int)) V (λρ h=>Lq 8 (h _ _ V) (h _ _ V) (by decide)) ?_);obtain⟨ct,bx,bz⟩:=bs bv;refine C 4 V (Bl bx V V V ?_);refine C 2 V ?_;obtain rfl:=oi bz;exact ap Av al V
    ·refine JL.skip ?_;obtain rfl:=oi bw;exact ap Av al V
  ·refine AL az (λb0 b1=>?_) (λb0 b2=>?_)
   ·refine C 3 V (Am (v:= .int .u64 ((K.1>>>16:Nat):Int)) V (λρ h=>Lq 16 (h _ _ V) (h _ _ V) (by decide)) ?_);obtain⟨cw,b3,b4⟩:=bs b1;refine C 4 V (Bl b3 V V V ?_);refine C 2 V ?_;obtain rfl:=oi b4;exact am Av ac V
   ·refine JL.skip ?_;obtain rfl:=oi b2;exact am Av ac V
 ·refine AL av (λb5 b6=>?_) (λb5 ca=>?_)
  ·refine C 3 V (Am (v:= .int .u64 ((p0>>>32:Nat):Int)) V (λρ h=>Lq 32 (h _ _ V) (h _ _ V) (by decide)) ?_);refine C 5 V ?_;obtain rfl:=oi b6;exact ag Av Z V
  ·refine JL.skip ?_;obtain rfl:=oi ca;exact ag Av Z V
def f115(fu_:Nat)(p0:Nat):Option Int:= (f146 fu_ p0).bind λK=> some K
theorem N9{p0:Nat}{fu_:Nat}{r:Int}(K:f115 fu_ p0=some r):AP J 115 [.int .u64 ((p0:Nat):Int)] E [] (λw E' B'=>w=iV r/\B'= []):=by
 refine Bn func115 λQ al cs H O U=>?_;unfold f115 at K;obtain⟨am,Y,Z⟩:=bs K;refine C 10 V (CH (ai Y) V V (A6 func146 V) O λap ac ag=>?_);refine C 2 V ?_;obtain rfl:=oi Z;exact AX func115 V V (U ac V ⟨V,V⟩ ag)
def NS(fu_:Nat)(Y:Int)(K:Int×Ay):Option (Bd (Int×Ay) (Ay)):= Option.bind (if Y<K.1 then((ix K.2 K.1).bind λZ=> (Ar (K.1 - 1)).bind λac=> (ix K.2 ac).bind λag=> (f113 fu_ Z ag).bind λal=> some (decide (al<0))) else(some false)) λam=> if am=true then((Ar (K.1 - 1)).bind λO=> (Ar (K.1 - 1)).bind λap=> (ix K.2 ap).bind λU=> (ix K.2 K.1).bind λaq=> (ix (K.2.set (Int.toNat K.1) U) O).bind λaw=> (Ar (K.1 - 1)).bind λav=> some (.more (av,((K.2.set (Int.toNat K.1) U).set (Int.toNat O) aq)))) else(some (.done K.2))
def NH(fu_:Nat)(O:Int)(p2:Int)(K:Int×Ay):Option (Bd (Int×Ay) (Ay)):= if K.1<p2 then(Option.bind (iter (NS fu_ O) fu_ K) λU=> (Ar (K.1+1)).bind λY=> some (.more (Y,U))) else(some (.done K.2))
def f193(fu_:Nat)(p0:Ay)(K:Int)(p2:Int):Option (Ay):= (Ar (K+1)).bind λO=> Option.bind (iter (NH fu_ K p2) fu_ (O,p0)) λU=> some U
theorem bI{K:Nat}{U:Nat}{nw:Nat}{a5:Av_}{p0:Ay}{al:Int}{p2:Int}(hW:WL 27 Az E K U nw a5 p0){fu_:Nat}{r:Ay}(be:f193 fu_ p0 al p2=some r):AP J 193 [.slice (AM K) nw U,iV al,iV p2,(fV 113)] E [(K,.cells a5 27 (0,0))] (λw E' B'=>∃(bi:Av_),w= .tuple #[]/\B'= [(K,.cells bi 27 (0,0))]/\WL 27 Az E' K U nw bi r):=by
 refine Bn func193 λQ eW cs H ce ci=>?_;unfold f193 at be;obtain⟨eX,co,cp⟩:=bs be;refine C 3 V (Bl co V V V ?_);obtain⟨ct,cw,cy⟩:=bs cp;refine C 2 V (Br (λL s=>∃(a6:LH) (f17:Av_),Jn E H a6 [bX K f17 27] [] L s (WL 27 Az a6 K U nw f17 ct)) ?_ ?_)
 ·rintro _ _ ⟨a6,f17,rfl,rfl,c0,c1,c2⟩;obtain rfl:=oi cy;exact JL.fin (v:= .tuple #[]) V V (Bz.list func193 V (vs:= []) trivial) (ci c0 V ⟨f17,V,(by first | rfl | simp | (simp [Value.cells])),c2⟩ c1)
 ·intro c3;refine JL.block (CG cw (λL s ap=>∃(am:LH) (f25:Av_),Jn E H am [bX K f25 27] [(0,.slice (AM K) nw U),(1,iV al),(2,iV p2),(3,(fV 113)),(8,iV ap.1)] L s (WL 27 Az am K U nw f25 ap.2)) ⟨E,a5,V,V,Av,ce,hW⟩ ?_);rintro _ _ ap ⟨am,f25,rfl,rfl,bn,bo,bv⟩ c4 ⟨eY,a7⟩ c5;have bw:=a7;unfold NH at bw;refine C 7 V (AL bw (λc6 c7=>?_) (λc6 c8=>?_))
  ·obtain⟨bx,c9,dd⟩:=bs c7;refine C 8 V (Br (λL s=>∃(a1:LH) (f48:Av_),Jn am H a1 [bX K f48 27] [(0,.slice (AM K) nw U),(1,iV al),(2,iV p2),(3,(fV 113)),(8,iV ap.1)] L s (WL 27 Az a1 K U nw f48 bx)) ?_ ?_)
   ·rintro _ _ ⟨a1,f48,rfl,rfl,dn,ea,eb⟩;obtain⟨ec,ed,ee⟩:=bs dd;refine C 3 V (Bl ed V V V ?_);refine C 2 V ?_;obtain rfl:=oi ee;exact AB (c5 _ _ (ec,bx) ⟨a1,f48,V,V,(bn.Ad dn),ea,eb⟩ a7) V
   ·intro ef;refine JL.block (CG c9 (λL s ag=>∃(ay:LH) (f58:Av_),Jn am H ay [bX K f58 27] [(0,.slice (AM K) nw U),(1,iV al),(2,iV p2),(3,(fV 113)),(8,iV ap.1),(9,iV ag.1)] L s (WL 27 Az ay K U nw f58 ag.2)) ⟨am,f25,V,V,Av,bo,bv⟩ ?_);rintro _ _ ag ⟨ay,f58,rfl,rfl,bz,az,O⟩ eg ⟨eZ,a8⟩ ej;have b0:=a8;unfold NS at b0;refine C 2 V (Fz 17 [K] ⟨⟨0,_,V⟩,trivial⟩ az λac=>?_);refine AR ac V [0,1,2,3] V ?_;obtain⟨ek,b1,el⟩:=bs b0;refine Gb 0 #[true,true,true,true,true,true,true,true,true,true,true,true,true,true,true,true,true] (λL s=>∃(a2:LH),Jm ay H a2 [bX K f58 27] [(0,.slice (AM K) nw U),(1,iV al),(2,iV p2),(3,(fV 113)),(8,iV ap.1),(9,iV ag.1),(34,.bool ek)] L s) ?_ ?_
    ·rintro _ _ ⟨a2,rfl,rfl,aq,a3⟩;refine AQ.fin (by decide+kernel) (Ck el (λem eo=>?_) (λem er=>?_))
     ·refine C 3 V (HM [15,17] [K] [] mixed V ?_);refine Be 0 V V (Be 1 V V ?_);refine Be 2 V V (Be 3 V V ?_);obtain⟨b2,eu,ew⟩:=bs eo;refine Fb 4 true V V (λρ h s' b3=>C3 (h _ _ V) (h _ _ V) eu) (Be 5 V V ?_);refine Be 6 V V ?_;obtain⟨e0,ex,ey⟩:=bs ew;refine Fb 7 true V V (λρ h s' b3=>C3 (h _ _ V) (h _ _ V) ex) ?_;obtain⟨Y,b4,ez⟩:=bs ey;obtain⟨_,⟨_,_,rfl,rfl,⟨_,_,rfl,rfl,rfl⟩⟩,eA⟩:=WL.at (O.Ah aq) b4;refine JB.ix 8 O.2 b4 underlying23 A0 ?_;refine OC 9 [iV Y.1,iV Y.2.1,iV Y.2.2] 0 a3 eA DU A0 ?_;refine Be 10 V V (Be 11 V V ?_);obtain⟨Z,a4,eB⟩:=bs ez;obtain⟨_,⟨_,_,rfl,rfl,⟨_,_,rfl,rfl,rfl⟩⟩,eC⟩:=WL.at (O.Ah aq) a4;refine JB.ix 12 O.2 a4 underlying23 A0 ?_;refine OC 13 [iV Z.1,iV Z.2.1,iV Z.2.2] 0 a3 eC DU A0 ?_;refine JB.ix 14 O.2 a4 underlying23 A0 ?_;have a0:=WL.put (x':=Y) (ws':= [iV Y.1,iV Y.2.1,iV Y.2.2]) (O.Ah aq) O.2 a4 ⟨_,_,V,V,⟨_,_,V,V,V⟩⟩;refine EC 15 0 a3 A0 trivial a0.2 λeD=>?_;obtain⟨e1,a9,eE⟩:=bs eB;obtain⟨_,⟨_,_,rfl,rfl,⟨_,_,rfl,rfl,rfl⟩⟩,e3⟩:=WL.at a0.1 a9;refine JB.ix 16 (a0.1).2 a9 underlying23 A0 ?_;have b5:=WL.put (x':=Z) (ws':= [iV Z.1,iV Z.2.1,iV Z.2.2]) a0.1 (a0.1).2 a9 ⟨_,_,V,V,⟨_,_,V,V,V⟩⟩;refine EC 17 0 eD A0 trivial b5.2 λeF=>?_;refine JB.fin (by decide+kernel) ?_;obtain⟨eG,eH,eI⟩:=bs eE;refine C 3 V (Cu eH V V V ?_);refine C 2 V ?_;obtain rfl:=oi eI;exact AB (ej _ _ (eG,((ag.2.set (Int.toNat ag.1) Y).set (Int.toNat b2) Z)) ⟨a2,(Bc (Bc f58 (Int.toNat (ag.1)*3) [iV Y.1,iV Y.2.1,iV Y.2.2]) (Int.toNat (b2)*3) [iV Z.1,iV Z.2.1,iV Z.2.2]),V,V,(bz.Ad aq),eF,b5.1⟩ a8) V
     ·refine JL.exit V ?_;obtain rfl:=oi er;obtain rfl:=eg _ a8;exact AB (ef _ _ ⟨a2,f58,V,V,(bz.Ad aq),a3,(O.Ah aq)⟩) V
    ·intro b6;refine F9 (q:=al<ag.1) (i:=21) V (λbb=>?_) (λbb=>?_)
     ·have eJ:=ip b1 bb;refine AR ac V [4,5,6] V ?_;obtain⟨av,ca,eK⟩:=bs eJ;obtain⟨_,⟨_,_,rfl,rfl,⟨_,_,rfl,rfl,rfl⟩⟩,eL⟩:=WL.at O ca;refine JG.ix 7 ac (O).2 ca underlying23 A0 ?_;refine UW 8 ac [iV av.1,iV av.2.1,iV av.2.2] 0 az eL DU A0 ?_;refine AR ac V [9,10] V ?_;obtain⟨e4,eM,eN⟩:=bs eK;refine AJ 11 ac V V (λρ h s' b3=>C3 (h _ _ V) (h _ _ V) eM) ?_;obtain⟨aw,cc,eO⟩:=bs eN;obtain⟨_,⟨_,_,rfl,rfl,⟨_,_,rfl,rfl,rfl⟩⟩,eP⟩:=WL.at O cc;refine JG.ix 12 ac (O).2 cc underlying23 A0 ?_;refine UW 13 ac [iV aw.1,iV aw.2.1,iV aw.2.2] 0 az eP DU A0 ?_;obtain⟨e5,eQ,eR⟩:=bs eO;refine JR (i:=14) ⟨⟨0,_,V⟩,trivial⟩ (vs:= [.agg #[iV av.1,iV av.2.1,iV av.2.2],.agg #[iV aw.1,iV aw.2.1,iV aw.2.2]]) (Uu eQ) (by decide+kernel) V V V V (A6 func113 V) V az ?_;rintro _ eS _ eT ⟨rfl,rfl⟩ eU;refine AR ac V [15,16] V ?_;obtain rfl:=oi eR;refine Dw ?_ (b6 _ _ ⟨eS,V,V,eT,eU⟩);exact⟨V,V,V,V,V,V,V,trivial⟩
     ·have eV:=im b1 bb;refine AR ac V [4,5,6,7,8,9,10,11,12,13,14,15,16] V ?_;obtain rfl:=oi eV;refine Dw ?_ (b6 _ _ ⟨ay,V,V,Av,az⟩);exact⟨V,V,V,V,V,V,V,trivial⟩
  ·refine JL.exit V ?_;obtain rfl:=oi c8;obtain rfl:=c4 _ a7;exact AB (c3 _ _ ⟨am,f25,V,V,bn,bo,bv⟩) V
def PU(fu_:Nat)(p0:Ay)(K:Int)(p2:Int)(p3:Int)(Y:Unit):Option (Bd Unit ((Ay)⊕(Unit))):= (Ar (p2 - K)).bind λO=> if O<=12 then((f193 fu_ p0 K p2).bind λU=> some (.done (Sum.inl U))) else(if p3=0 then(none) else(none))
def f169(fu_:Nat)(p0:Ay)(K:Int)(p2:Int)(p3:Int):Option (Ay):= Option.bind (iter (PU fu_ p0 K p2 p3) fu_ ()) λO=> Sum.elim (λr=>some r) (λU=> none) O
theorem cg{K:Nat}{O:Nat}{nw:Nat}{U:Av_}{p0:Ay}{Y:Int}{p2:Int}{p3:Int}(hW:WL 27 Az E K O nw U p0){fu_:Nat}{r:Ay}(Z:f169 fu_ p0 Y p2 p3=some r):AP J 169 [.slice (AM K) nw O,iV Y,iV p2,iV p3,(fV 113)] E [(K,.cells U 27 (0,0))] (λw E' B'=>∃(ac:Av_),w= .tuple #[]/\B'= [(K,.cells ac 27 (0,0))]/\WL 27 Az E' K O nw ac r):=by
 refine Bn func169 λQ bw cs H aq av=>?_;unfold f169 at Z;obtain⟨bx,aw,ay⟩:=bs Z;refine C 8 V (Br (λL s=>False) ?_ ?_)
 ·intro _ _ az;exact az.elim
 ·intro bz;refine JL.block (CO aw (λag=> [bX K U 27]) (λag=> [(0,.slice (AM K) nw O),(1,iV Y),(2,iV p2),(3,iV p3),(4,(fV 113)),(10,.bool true),(11,.bool true)]) Av aq ?_);rintro ag b0 al a0 a1 ⟨b1,am⟩ b2;have ap:=am;unfold PU at ap;obtain⟨b3,a2,a3⟩:=bs ap;refine C 5 V (Cu a2 V V V ?_);refine C 8 V (AL a3 (λa4 a5=>?_) (λa4 a6=>?_))
  ·obtain⟨b4,a7,a8⟩:=bs a5;refine C 6 V (Db 0 (bI (hW.Ah al) a7) V V (A6 func193 V) a0 V ?_);rintro _ b5 _ a9 ⟨f32,rfl,rfl,bb⟩ be;refine JL.done ?_;obtain rfl:=oi a8;obtain rfl:=a1 _ am;have bi:=elim_inl ay;obtain rfl:=oi bi;exact AX func169 V V (av (al.Ad a9) V ⟨f32,V,(by first | rfl | simp | (simp [Value.cells])),bb⟩ be)
  ·refine C 7 V (AL a6 (λbn bo=>?_) (λbn bv=>?_))
   ·refine C 6 V ?_;cases bo
   ·refine C 5 V (Am (v:= .bool false) V (λρ h=>Yl.not (c:=true) (h _ _ V)) ?_);refine C 9 V ?_;cases bv
def f130(fu_:Nat)(p0:Ay):Option (Ay):= (f115 fu_ (C6 (p0.length:Int))).bind λK=> (f169 fu_ p0 0 (p0.length:Int) K).bind λO=> some O
theorem bf{K:Nat}{O:Nat}{nw:Nat}{U:Av_}{p0:Ay}(hW:WL 27 Az E K O nw U p0){fu_:Nat}{r:Ay}(Y:f130 fu_ p0=some r):AP J 130 [.slice (AM K) nw O,(fV 113)] E [(K,.cells U 27 (0,0))] (λw E' B'=>∃(Z:Av_),w= .tuple #[]/\B'= [(K,.cells Z 27 (0,0))]/\WL 27 Az E' K O nw Z r):=by
 refine Bn func130 λQ a1 cs H ag al=>?_;unfold f130 at Y;refine C 3 V (Am (v:=iV (p0.length:Int)) V (λρ h=>PN (hW).2 V underlying80 (h _ _ V)) ?_);refine C 6 V (Am (v:= .int .u64 ((C6 (p0.length:Int):Nat):Int)) V (λρ h=>Yl.C6 underlying3 underlying136 (h _ _ V)) ?_);obtain⟨a2,am,ap⟩:=bs Y;refine CH (N9 am) V V MW ag λa3 ac aq=>?_;obtain⟨a4,av,aw⟩:=bs ap;refine C 1 V (Db 0 (cg (hW.Ah ac) av) V V (A6 func169 V) aq V ?_);rintro _ a5 _ ay ⟨f12,rfl,rfl,az⟩ a0;refine JL.done ?_;obtain rfl:=oi aw;exact JL.fin (v:= .tuple #[]) V V (Bz.list func130 V (vs:= []) trivial) (al (ac.Ad ay) V ⟨f12,V,(by first | rfl | simp | (simp [Value.cells])),az⟩ a0)
def SZ(fu_:Nat)(O:Int)(K:Int)(Y:Unit):Option (Bd Unit Unit):= Option.bind (if O<K then(none) else(some false)) λU=> if U=true then((Ar (K - 1)).bind λZ=> (Ar (K - 1)).bind λac=> none) else(some (.done ()))
def SJ(fu_:Nat)(O:Int)(p2:Int)(K:Int):Option (Bd Int Unit):= if K<p2 then(Option.bind (iter (SZ fu_ O K) fu_ ()) λY=> (Ar (K+1)).bind λU=> some (.more U)) else(some (.done ()))
def QO(fu_:Nat)(K:Int)(p2:Int):Option Unit:= (Ar (K+1)).bind λO=> Option.bind (iter (SJ fu_ K p2) fu_ O) λU=> some ()
theorem ZQ{U:Int}{p2:Int}{fu_:Nat}{r:Unit}(ac:QO fu_ U p2=some r):AP J 193 [nS,iV U,iV p2,(fV 113)] E [] (λw E' B'=>w= .tuple #[]/\B'= []):=by
 refine Bn func193 λQ c5 cs H a0 a1=>?_;unfold QO at ac;obtain⟨c6,a2,a3⟩:=bs ac;refine C 3 V (Bl a2 V V V ?_);obtain⟨c7,a4,a5⟩:=bs a3;refine C 2 V (CN [] [] (λc8 a6 a7=>?_) (λa8=>?_))
 ·obtain rfl:=oi a5;exact JL.fin (v:= .tuple #[]) V V (Bz.list func193 V (vs:= []) trivial) (a1 a6 V ⟨V,V⟩ a7)
 ·refine JL.block (CO a4 (λK=> []) (λK=> [(0,.slice none 0 0),(1,iV U),(2,iV p2),(3,(fV 113)),(8,iV K)]) Av a0 ?_);rintro K c9 ag al a9 ⟨dd,Y⟩ bb;have am:=Y;unfold SJ at am;refine C 7 V (AL am (λbe bi=>?_) (λbe bn=>?_))
  ·obtain⟨dn,bo,bv⟩:=bs bi;refine C 8 V (CN [] [(0,.slice none 0 0),(1,iV U),(2,iV p2),(3,(fV 113)),(8,iV K)] (λea bw bx=>?_) (λbz=>?_))
   ·obtain⟨b0,b1,b2⟩:=bs bv;refine C 3 V (Bl b1 V V V ?_);refine C 2 V ?_;obtain rfl:=oi b2;exact bb b0 (ag.Ad bw) bx V Y
   ·refine JL.block (CO bo (λap=> []) (λap=> [(0,.slice none 0 0),(1,iV U),(2,iV p2),(3,(fV 113)),(8,iV K),(9,iV K)]) Av al ?_);rintro ap aq b3 b4 b5 ⟨eb,av⟩ ec;have aw:=av;unfold SZ at aw;refine C 2 V (DY 17 λO=>?_);refine AR O V [0,1,2,3] V ?_;obtain⟨b6,ay,ca⟩:=bs aw;refine Gb 0 #[true,true,true,true,true,true,true,true,true,true,true,true,true,true,true,true,true] (λL s=>∃(az:LH),Jm aq H az [] [(0,.slice none 0 0),(1,iV U),(2,iV p2),(3,(fV 113)),(8,iV K),(9,iV K),(34,.bool b6)] L s) ?_ ?_
    ·rintro _ _ ⟨az,rfl,rfl,cc,ce⟩;refine AQ.fin (by decide+kernel) (Ck ca (λci co=>?_) (λci cp=>?_))
     ·refine C 3 V (DY 16 λO=>?_);refine AR O V [0,1,2,3] V ?_;obtain⟨ed,ct,cw⟩:=bs co;refine AJ 4 O V V (λρ h s' cy=>C3 (h _ _ V) (h _ _ V) ct) (AR O V [5,6] V ?_);obtain⟨ee,c0,c1⟩:=bs cw;refine AJ 7 O V V (λρ h s' cy=>C3 (h _ _ V) (h _ _ V) c0) ?_;cases c1
     ·refine JL.exit V ?_;obtain rfl:=oi cp;obtain rfl:=b5 _ av;exact bz (b3.Ad cc) ce V
    ·intro c2;refine F9 (q:=U<K) (i:=21) V (λZ=>?_) (λZ=>?_)
     ·have c3:=ip ay Z;refine AR O V [4,5,6] V ?_;cases c3
     ·have c4:=im ay Z;refine AR O V [4,5,6,7,8,9,10,11,12,13,14,15,16] V ?_;obtain rfl:=oi c4;refine Dw ?_ (c2 _ _ ⟨aq,V,V,Av,b4⟩);exact⟨V,V,V,V,V,V,V,trivial⟩
  ·refine JL.exit V ?_;obtain rfl:=oi bn;obtain rfl:=a9 _ Y;exact a8 ag al V
def SW(fu_:Nat)(K:Int)(p2:Int)(p3:Int)(U:Unit):Option (Bd Unit ((Unit)⊕(Unit))):= (Ar (p2 - K)).bind λO=> if O<=12 then((QO fu_ K p2).bind λY=> some (.done (Sum.inl ()))) else(if p3=0 then(none) else(none))
def QM(fu_:Nat)(K:Int)(p2:Int)(p3:Int):Option Unit:= Option.bind (iter (SW fu_ K p2 p3) fu_ ()) λO=> Sum.elim (λr=>some r) (λU=> none) O
theorem ZT{K:Int}{p2:Int}{p3:Int}{fu_:Nat}{r:Unit}(O:QM fu_ K p2 p3=some r):AP J 169 [nS,iV K,iV p2,iV p3,(fV 113)] E [] (λw E' B'=>w= .tuple #[]/\B'= []):=by
 refine Bn func169 λQ be cs H ac ag=>?_;unfold QM at O;obtain⟨bi,al,am⟩:=bs O;refine C 8 V (Br (λL s=>False) ?_ ?_)
 ·intro _ _ ap;exact ap.elim
 ·intro bn;refine JL.block (CO al (λU=> []) (λU=> [(0,.slice none 0 0),(1,iV K),(2,iV p2),(3,iV p3),(4,(fV 113)),(10,.bool true),(11,.bool true)]) Av ac ?_);rintro U bo aq av aw ⟨bv,Y⟩ bw;have Z:=Y;unfold SW at Z;obtain⟨bx,ay,az⟩:=bs Z;refine C 5 V (Cu ay V V V ?_);refine C 8 V (AL az (λa0 a1=>?_) (λa0 a2=>?_))
  ·obtain⟨bz,a3,a4⟩:=bs a1;refine C 6 V (CH (ZQ a3) V V (A6 func193 V) av λb0 a5 a6=>?_);refine JL.done ?_;obtain rfl:=oi a4;obtain rfl:=aw _ Y;have a7:=elim_inl am;obtain rfl:=oi a7;exact AX func169 V V (ag (aq.Ad a5) V ⟨V,V⟩ a6)
  ·refine C 7 V (AL a2 (λa8 a9=>?_) (λa8 bb=>?_))
   ·refine C 6 V ?_;cases a9
   ·refine C 5 V (Am (v:= .bool false) V (λρ h=>Yl.not (c:=true) (h _ _ V)) ?_);refine C 9 V ?_;cases bb
def UN(fu_:Nat):Option Unit:= (f115 fu_ (C6 ((0:Nat):Int))).bind λK=> (QM fu_ 0 ((0:Nat):Int) K).bind λO=> some ()
theorem Zn{fu_:Nat}{r:Unit}(K:UN fu_=some r):AP J 130 [nS,(fV 113)] E [] (λw E' B'=>w= .tuple #[]/\B'= []):=by
 refine Bn func130 λQ av cs H O U=>?_;unfold UN at K;refine C 3 V (JL.ln underlying80 V V V ?_);refine C 6 V (Am (v:= .int .u64 ((C6 ((0:Nat):Int):Nat):Int)) V (λρ h=>Yl.C6 underlying3 underlying136 (h _ _ V)) ?_);obtain⟨aw,Y,Z⟩:=bs K;refine CH (N9 Y) V V MW O λay ac ag=>?_;obtain⟨az,al,am⟩:=bs Z;refine C 1 V (CH (ZT al) V V (A6 func169 V) ag λa0 ap aq=>?_);refine JL.done ?_;obtain rfl:=oi am;exact JL.fin (v:= .tuple #[]) V V (Bz.list func130 V (vs:= []) trivial) (U (ac.Ad ap) V ⟨V,V⟩ aq)
theorem ZG{J:Judge Tryz.prog}{E:LH}{a:Ao}{c:Nat}{g:Seg}{p0:Ay}(Y:OL 27 Az E a c g p0){fu_:Nat}{r:Ay}(K:f130 fu_ p0=some r):
  AP J 130 [.slice a p0.length c,.func (.func 113) #[] #[]] E g (λw E' B'=>w= .tuple #[]/\OL 27 Az E' a c B' r/\r.length=p0.length):=by
 rcases Y.cases with⟨rfl,rfl,rfl,rfl⟩ | ⟨bk,f,rfl,rfl,hW⟩
 ·have Z:r= []:=by
   cases fu_ with
   | zero=>exact absurd K (by simp [f130,f169,f193,iter])
   | succ fu_=>
    cases fu_ with
    | zero=>exact(Option.some.inj (K.symm.trans (by rfl:f130 1 []=some []))).trans rfl
    | succ fu_=>exact(Option.some.inj (K.symm.trans (by rfl:f130 (fu_+2) []=some []))).trans rfl
  subst Z;refine(Zn (fu_:=10) (r:=()) V).Ah ?_;rintro w E' B' hle ⟨O,rfl⟩;exact⟨O,OL.nil,V⟩
 ·refine(bf hW K).Ah ?_;rintro w E' B' hle ⟨ac,O,rfl,U⟩;exact⟨O,U.1,U.2⟩
def f90(fu_:Nat)(p0:Ay):Option (Ay):= (f129 fu_ p0).bind λK=> (f130 fu_ K).bind λO=> some O
theorem dG{a1:Ao}{c2:Nat}{p0:Ay}(al:An Az E a1 c2 p0){fu_:Nat}{r:Ay}(Z:f90 fu_ p0=some r):AP J 90 [sV a1 p0 c2] E [] (λw E' B'=>∃(ac:Ao) (ag:Nat),w= sV ac r ag/\B'= []/\An Az E' ac ag r):=by
 refine Bn func90 λQ a9 cs H am ap=>?_;unfold f90 at Z;obtain⟨bb,aq,av⟩:=bs Z;refine C 7 V (BP (Z1 al aq) V V (A6 func129 V) am ?_);rintro _ be bi aw ⟨K,O,_,rfl,rfl,ay⟩ az;obtain⟨U,a0,a2⟩:=bs av;refine C 5 V (Db 1 (ZG ay a0) V V (A6 func130 V) az V ?_);rintro _ bn bo a3 ⟨rfl,a4,Y⟩ a5;refine Ff (L':= [(6,.tuple #[]),(0,.slice K U.length O),(2,.slice none 0 0),(3,.slice a1 p0.length c2),(4,.slice K U.length O),(5,.slice K U.length O)]) ⟨V,by rw [Y];rfl,V,V,by rw [Y];rfl,by rw [Y];rfl,trivial⟩ ?_;refine C 6 V (BW 1 a4 a5 V λbv a6 a7 a8=>?_);obtain rfl:=oi a2;exact AX func90 V V (ap ((aw.Ad a3).Ad a6) V ⟨K,O,V,V,a7⟩ a8)
end Pal
namespace Pal
open Go Go.Conc
variable {P:Program}{Q:Gs_}{b:Frame}{n:Nat}{ds:Ld_}{ops:Ao_}{k:Li_}{cs:Lf_}{m:Nat}{L:Env}{s:St}{E H:LH}{S:List Seg}
variable {d:Option Tmp}{t ty:TypeId}{p:String}{af:Ae_}{g:On_}{v:Value}
section
variable {J:Judge P}{fuel:Nat}{listed:Array Bool}
variable {x y:Operand}{e:TypeId}{i:Nat}
theorem Take.y0{oi:Oper}(hi:ops[i]? =some oi)(K:(!Em oi.op&&Bh n oi.dst)=true)(hw:AN L ops oi=some true)(O:∀ρ,EO L ρ->Yl P oi ρ s v)
  (h:AQ J Q b n ds ops k cs m Dp fuel (A5 listed i) (Ax L oi.dst v) s):Take J Q b n ds ops k cs m Dp fuel listed L s i:=
 Take.ML hi K hw λρ U=>by
  have:=O ρ U
  unfold Yl at this
  refine Et _ this ?_ (λ_ _ h=>h)
  rintro Y s' ⟨rfl,rfl⟩
  exact h
end
def GM{P:Program}(J:Judge P)(f:FuncId)(args:Lv_)(E:LH)(B:Seg)(p:Bool)(pv:Value)(R:Value->LH->Seg->Prop):Prop:=
 ∀(Q:Gs_) (bc:Frame) (Tc:Av_) (dsc:Ld_) (K:Li_) (cs:Lf_) (H:LH),Nd E H B->
  (p=false->∀v E' B',Le E E'->R v E' B'->Nd E' H B'->J.ok Q (G ((fr bc Tc dsc K).finish v) cs) (mk E' H B'))->
  (p=true->∀E' B',Le E E'->Nd E' H B'->J.ok Q (G (Hb bc Tc dsc K (raised pv)) cs) (mk E' H B'))->
  J.ok Q (G (Frame.enter P f args.toArray .normal) (fr bc Tc dsc K::cs)) (mk E H B)
variable {bc:Frame}{dsc:Ld_}{rest:List Nat}{pp:String}{pv:Value}
section
variable {J:Judge P}{i:Nat}{e:TypeId}
theorem GM.enter{f:FuncId}{fn:Func}{c:Code}{vs:Lv_}{B:Seg}{R:Value->LH->Seg->Prop}{p:Bool}(ac:P.funcs[f]? =some fn)(hb:fn.body=some c)(ay:vs.length<=fn.ntmps)
  (h:∀(Q:Gs_) (bc:Frame) (Tc:Av_) (dsc:Ld_) (O:Li_) (cs:Lf_) (H:LH),Aq E H [B]->
   (p=false->∀v E' S' B',Le E E'->S'.flatten=B'->R v E' B'->Aq E' H S'->J.ok Q (G ((fr bc Tc dsc O).finish v) cs) (Aj E' H S'))->
   (p=true->∀E' S',Le E E'->Aq E' H S'->J.ok Q (G (Hb bc Tc dsc O (raised pv)) cs) (Aj E' H S'))->
   JL J Q (base f) fn.ntmps (Gr 0 vs) [] [.code c] (fr bc Tc dsc O::cs) (Aj E H [B])):GM J f vs E B p pv R:=λQ bc Tc dsc O cs H ag al K=>by
 have he:Frame.enter P f vs.toArray .normal=fr (base f) (vs.toArray++Array.replicate (fn.ntmps - vs.length) undef) [] [.code c]:=by
  simp [Frame.enter,fr,ac,hb,base];rfl
 have am:mk E H B=Aj E H [B]:=by unfold Aj;simp
 rw [he,am];refine h Q bc Tc dsc O cs H (by unfold Aq;simpa using ag) (λU v E' S' B' hle ap aq Y=>?_) (λU E' S' hle Y=>?_) _ ⟨by simp;omega,λt v av=>?_⟩
 ·subst ap;exact al U v E' S'.flatten hle aq Y
 ·exact K U E' S'.flatten hle Y
 ·obtain⟨_,K⟩:=JM av;have aw:t<vs.length:=by
   rcases Nat.lt_or_ge t vs.length with Z | Z
   ·exact Z
   ·simp at K;have:=(List.getElem?_eq_some_iff.1 K).1;omega
  rw [Array.getD_eq_getD_getElem?,Array.getElem?_append_left (by simpa using aw)];simp at K;simp [K]
theorem WK{x:Operand}{f:FuncId}{caps:Lv_}{args:Array Operand}{ats:Array TypeId}{s:St}{vs:Lv_}(hb:DX P f=true)
  (U:ops[i]? =some ⟨d,.call ⟨.value x,args,ats⟩,ty,pp,af,g⟩) (hw:AN L ops ⟨d,.call ⟨.value x,args,ats⟩,ty,pp,af,g⟩=some true) (O:((b.kind != .early)&&Bh n d)=true)
  (Y:ev L x=some (.func (.func f) #[] caps.toArray)) (Z:evs L args.toList=some vs)
  (h:∀T,Has n L T->J.ok Q (G (Frame.enter P f (vs++caps).toArray .normal) (fr b T ds (.inRegion ops (i::rest)::k)::cs)) s):
  JL J Q b n L ds (.inRegion ops (i::rest)::k) cs s:=λT K=>by
 simp only [Bool.and_eq_true] at O
 have ac:args.map (Bu T)=vs.toArray:=by
  rw [← GD K.Gc Z];apply Array.ext';simp
 refine Judge.oper U (B7 K hw) (by simpa using O.1) (.inr λc hc=>by cases hc) ?_;have hd:lp P (execOp (Bu T) ⟨d,.call ⟨.value x,args,ats⟩,ty,pp,af,g⟩) s (upon J Q b T ds ops i rest k cs d) (LA J Q b T ds ops i rest k cs):=by
  have ag:execOp (Bu T) ⟨d,.call ⟨.value x,args,ats⟩,ty,pp,af,g⟩=(do let d ← Deferred.ofValue (.func (.func f) #[] caps.toArray) vs.toArray;invoke d.target d.args):=by
   simp only [execOp,resolve,ac,K.Gc _ _ Y]
  rw [ag];simp only [Deferred.ofValue,bind,Sem.bind,pure,invoke];have e: #[]++vs.toArray++caps.toArray=(vs++caps).toArray:=by simp
  rw [e];exact Ja hb (h T K)
 exact hd
theorem WB{f:FuncId}{args:Array Operand}{ats:Array TypeId}{s:St}{vs:Lv_}(hb:DX P f=true)
  (U:ops[i]? =some ⟨d,.call ⟨.value (.func f),args,ats⟩,ty,pp,af,g⟩) (hw:AN L ops ⟨d,.call ⟨.value (.func f),args,ats⟩,ty,pp,af,g⟩=some true) (O:((b.kind != .early)&&Bh n d)=true)
  (Y:evs L args.toList=some vs)
  (h:∀T,Has n L T->J.ok Q (G (Frame.enter P f vs.toArray .normal) (fr b T ds (.inRegion ops (i::rest)::k)::cs)) s):
  JL J Q b n L ds (.inRegion ops (i::rest)::k) cs s:=λT K=>by
 simp only [Bool.and_eq_true] at O
 have Z:args.map (Bu T)=vs.toArray:=by
  rw [← GD K.Gc Y];apply Array.ext';simp
 refine Judge.oper U (B7 K hw) (by simpa using O.1) (.inr λc hc=>by cases hc) ?_;have hd:lp P (execOp (Bu T) ⟨d,.call ⟨.value (.func f),args,ats⟩,ty,pp,af,g⟩) s (upon J Q b T ds ops i rest k cs d) (LA J Q b T ds ops i rest k cs):=by
  simp only [execOp,resolve,bind,Sem.bind,Deferred.ofValue,Bu,pure,invoke];have e: #[]++args.map (Bu T)++ #[]=vs.toArray:=by rw [Z];simp
  rw [e];exact Ja hb (h T K)
 exact hd
theorem Zm{g:Frame}{s:St}(O:s.q=false)(h:(∃w,Fits s w)->J.ok Q (G g cs) s):J.ok Q (G g cs) s:=by
 by_cases K:∃w,Fits s w
 ·exact h K
 ·exact J.step ⟨V,λw f=>absurd ⟨w,f⟩ K,λe=>by subst e;cases O⟩
theorem GM.use{f:FuncId}{vs:Lv_}{B:Seg}{R:Value->LH->Seg->Prop}{p:Bool}{Tc:Av_}{Y:Li_}(j:Nat)(ap:GM J f vs E B p pv R)(ac:Aq E H S)(ag:S[j]? =some B)
  (Z:p=false->∀v E' B',Le E E'->R v E' B'->Aq E' H (S.set j B')->J.ok Q (G ((fr bc Tc dsc Y).finish v) cs) (Aj E' H (S.set j B')))
  (aq:p=true->∀E' B',Le E E'->Aq E' H (S.set j B')->J.ok Q (G (Hb bc Tc dsc Y (raised pv)) cs) (Aj E' H (S.set j B'))):
  J.ok Q (G (Frame.enter P f vs.toArray .normal) (fr bc Tc dsc Y::cs)) (Aj E H S):=by
 have K:S.flatten.Perm (B++(S.set j []).flatten):=(Es (seg':=B) ag).1.trans List.perm_append_comm;have al:Nd E H (B++(S.set j []).flatten):=Nd.perm ac K;have av:Aj E H S=mk E (Bm (S.set j []).flatten H) B:=by
  rw [show Aj E H S=mk E H S.flatten from rfl,Fv ac K];unfold mk;rw [Ga]
 have aw:Nd E H (S.set j []).flatten:=by
  have:=al;rw [Nd.iff] at this ⊢;rw [List.map_append,List.nodup_append] at this;exact⟨this.1.2.1,λq ay=>this.2 q (List.mem_append_right _ ay)⟩
 have back:∀(g:Frame) (E':LH) (B':Seg),Le E E'->Nd E' (Bm (S.set j []).flatten H) B'->(Aq E' H (S.set j B')->J.ok Q (G g cs) (Aj E' H (S.set j B')))->J.ok Q (G g cs) (mk E' (Bm (S.set j []).flatten H) B'):=λg E' B' hle U az=>by
  have e2:mk E' (Bm (S.set j []).flatten H) B'=mk E' H (B'++(S.set j []).flatten):=by unfold mk;rw [Ga]
  refine Zm V λ⟨w,a0⟩=>?_;have a1:Nd E' H (S.set j []).flatten:=aw.grow λx a2=>by
   have a3:=a0.d x a2;have Z:Bm B' (Bm (S.set j []).flatten H) x=none:=a3;exact(Ie Z).1
  have O:Nd E' H (B'++(S.set j []).flatten):=Nd.glue U a1;rw [e2];have am:(B'++(S.set j []).flatten).Perm (S.set j B').flatten:=List.perm_append_comm.trans (Es ag).2.symm;rw [Fv O am];exact az (Nd.perm O am)
 rw [av];refine ap Q bc Tc dsc Y cs _ (Nd.front al) (λK v E' B' hle a4 U=>back _ E' B' hle U λO=>Z K v E' B' hle a4 O) (λK E' B' hle U=>back _ E' B' hle U λO=>aq K E' B' hle O)
theorem R6{x:Operand}{f:FuncId}{caps:Lv_}{args:Array Operand}{ats:Array TypeId}{vs:Lv_}{seg:Seg}{R:Value->LH->Seg->Prop}{p:Bool}(j:Nat)(hb:DX P f=true)
  (ac:GM J f (vs++caps) E seg p pv R) (Y:ops[i]? =some ⟨d,.call ⟨.value x,args,ats⟩,ty,pp,af,g⟩) (hw:AN L ops ⟨d,.call ⟨.value x,args,ats⟩,ty,pp,af,g⟩=some true) (K:((b.kind != .early)&&Bh n d)=true)
  (ag:ev L x=some (.func (.func f) #[] caps.toArray)) (al:evs L args.toList=some vs) (am:Aq E H S) (ap:S[j]? =some seg)
  (aq:p=true->∀E' seg',Le E E'->Aq E' H (S.set j seg')->JP J Q b n L ds cs (raised pv) (Aj E' H (S.set j seg')))
  (av:p=false->∀v E' seg',Le E E'->R v E' seg'->Aq E' H (S.set j seg')->JL J Q b n (Ax L d v) ds (.inRegion ops rest::k) cs (Aj E' H (S.set j seg'))):
  JL J Q b n L ds (.inRegion ops (i::rest)::k) cs (Aj E H S):=
 WK hb Y hw K ag al λT Z=>GM.use j ac am ap
  (λO v E' B' hle aw U=>by
   rw [GF (o:=⟨d,.call ⟨.value x,args,ats⟩,ty,pp,af,g⟩) _ _ _ _ _ Y]
   simp only [Bool.and_eq_true] at K
   exact av O v E' B' hle aw U _ (Z.put K.2 v))
  (λO E' B' hle U=>aq O E' B' hle U T Z _)
theorem Xs{f:FuncId}{args:Array Operand}{ats:Array TypeId}{vs:Lv_}{seg:Seg}{R:Value->LH->Seg->Prop}{p:Bool}(j:Nat)(hb:DX P f=true)
  (ac:GM J f vs E seg p pv R) (Y:ops[i]? =some ⟨d,.call ⟨.value (.func f),args,ats⟩,ty,pp,af,g⟩) (hw:AN L ops ⟨d,.call ⟨.value (.func f),args,ats⟩,ty,pp,af,g⟩=some true) (K:((b.kind != .early)&&Bh n d)=true)
  (ag:evs L args.toList=some vs) (al:Aq E H S) (am:S[j]? =some seg)
  (ap:p=true->∀E' seg',Le E E'->Aq E' H (S.set j seg')->JP J Q b n L ds cs (raised pv) (Aj E' H (S.set j seg')))
  (aq:p=false->∀v E' seg',Le E E'->R v E' seg'->Aq E' H (S.set j seg')->JL J Q b n (Ax L d v) ds (.inRegion ops rest::k) cs (Aj E' H (S.set j seg'))):
  JL J Q b n L ds (.inRegion ops (i::rest)::k) cs (Aj E H S):=
 WB hb Y hw K ag λT Z=>GM.use j ac al am
  (λO v E' B' hle av U=>by
   rw [GF (o:=⟨d,.call ⟨.value (.func f),args,ats⟩,ty,pp,af,g⟩) _ _ _ _ _ Y]
   simp only [Bool.and_eq_true] at K
   exact aq O v E' B' hle av U _ (Z.put K.2 v))
  (λO E' B' hle U=>ap O E' B' hle U T Z _)
theorem YC{ρ:Operand->Value}{x y z1:Operand}{s:St}{p:String}{a:Option Addr}{l c K m:Nat}{hi:Int}(O:∀ad,a=some ad->ad.spot=none∨c=0)(U:m<=c)(he:hi=(m:Int))(Y:P.underlying t=some (.slice e))(Z:Bp P e=some K)(ac:ρ x= .slice a l c)(ag:ρ y=iV hi)(al:ρ z1=iV hi):
  Yl P ⟨d,.slice t x none (some y) (some z1),ty,p,af,g⟩ ρ s (.slice a m m):=by
 subst he;have h:=Yl.slice (P:=P) (s:=s) (d:=d) (ty:=ty) (p:=p) (af:=af) (g:=g) (olo:=none) (ohi:=some y) (omx:=some z1) (lo:=0) (hi:=m) (mx:=m) Y Z ac al ag V U (Nat.le_refl _) (Nat.zero_le _);have am:(if m=0 then a else a.map (·.add (0*K)))=a:=by
  split
  ·rfl
  ·cases a with
   | none=>rfl
   | some ad=>
    have:=(O ad rfl).resolve_right (by omega);simp only [Option.map_some,Nat.zero_mul];rw [Ef this];obtain⟨b,o,sp⟩:=ad;simp only at this;subst this;simp
 rw [am] at h;simpa using h
theorem An.dr{α:Type}{q:Rp α}{a:Option Addr}{c:Nat}{xs ys:List α}{hi:Int}(U:An q E a c xs)(hC:Hy xs 0 hi=some ys):An q E a c ys/\ys.length<=c/\hi=(ys.length:Int):=by
 unfold Hy at hC;split at hC
 rotate_left
 ·cases hC
 rename_i hb;obtain⟨Z,ac,ag⟩:=hb;cases hC;have al:=U.1;have hlen:(((xs.take hi.toNat).drop (0:Int).toNat)).length=hi.toNat:=by simp;omega
 refine⟨⟨by rw [hlen];omega,?_⟩,by rw [hlen];omega,by rw [hlen];omega⟩;rcases U.2 with⟨h,O⟩ | ⟨bk,off,Y,O⟩
 ·exact .inl ⟨by rw [h];simp,O⟩
 ·refine .inr ⟨bk,off,Y,λi x K=>O i x ?_⟩;simp only [Int.toNat_zero,List.drop_zero] at K;rw [List.getElem?_take] at K;split at K
  ·exact K
  ·cases K
theorem Take.Sr{m fuel:Nat}{listed:Array Bool}{x y:Operand}{p:String}{α:Type}{q:Rp α}{t1:TypeId}{Y c cx:Nat}{a ax:Option Addr}{xs ys Z:List α}{ats:Array TypeId}{z:Value}(U:DD xs ys=some Z)
  (aw:ops[i]? =some ⟨d,.call ⟨.builtin .append,#[x,y],ats⟩,ty,p,af,g⟩) (hw:AN L ops ⟨d,.call ⟨.builtin .append,#[x,y],ats⟩,ty,p,af,g⟩=some true) (ay:Bh n d=true)
  (az:ev L x=some (.slice a xs.length xs.length)) (a0:ev L y=some (.slice ax ys.length cx)) (a1:ats[0]? =some t) (a2:ats[1]? =some t1) (a3:P.underlying t=some (.slice e)) (a4:P.underlying t1=some (.slice e)) (a5:Bp P e=some q.n) (hb:FY P e=some Y) (a6:zeroOf P e=some z) (a7:z.cells.size=q.n)
  (a8:0<Y) (a9:Y<=64) (ac:An q E a c xs) (bb:An q E ax cx ys) (ag:Aq E H S)
  (h:∀E' al K,Le E E'->An q E' al K Z->Aq E' H (S++ [[]])->AQ J Q b n ds ops k cs m Dp fuel (A5 listed i) (Ax L d (.slice al Z.length K)) (Aj E' H (S++ [[]]))):
  Take J Q b n ds ops k cs m Dp fuel listed L (Aj E H S) i:=by
 unfold DD at U;split at U
 rotate_left
 ·cases U
 rename_i be;cases U;obtain⟨wss,am,bi,bn,ci⟩:=An.Mj (H:=H) (B:=S.flatten) ac.full;obtain⟨bo,bv,bw,bx,bz⟩:=An.Mj (H:=H) (B:=S.flatten) bb;have hlen:(xs++ys).length=xs.length+ys.length:=by simp
 show Take J Q b n ds ops k cs m Dp fuel listed L (mk E H S.flatten) i;refine Take.ML aw (by simp [Em,ay]) hw λρ ap=>?_;rw [L5,ap x _ az,ap y _ a0];refine Aw _ _ (Rf a1 a2 a4 a3 a5 hb a6 a7 ag bn bx bz a8 be a9 ?_ ?_)
 ·intro hm;have b0:ys= []:=List.eq_nil_of_length_eq_zero hm;subst b0;have b1:Aq E H (S++ [[]]):=by unfold Aq at*;rw [Hj,List.append_nil];exact ag
  have b2:mk E H S.flatten=Aj E H (S++ [[]]):=by unfold Aj;rw [Hj,List.append_nil]
  rw [b2];have:=h E a xs.length (Le.refl _) (by rw [List.append_nil];exact ac.full) b1;rw [hlen] at this;exact this
 ·intro r O K b3 b4 b5 b6;have ca:OL e q E (some ⟨r,0,none⟩) K [(r,.cells O e (0,0))] (xs++ys):=
   ⟨wss++bo,.inr ⟨r,O,rfl,rfl,b4,by rw [hlen];exact b3,by rw [hlen,List.flatten_append];exact b5.symm⟩,by simp [am,bv],Nb am bi bw⟩
  have aq:=FV (S:=S) (seg:= [(r,.cells O e (0,0))]) b6;show AQ J Q b n ds ops k cs m Dp fuel _ _ (mk E H (S.flatten++ [(r,.cells O e (0,0))]));rw [aq.1];refine Gj S.length ca aq.2 (by simp) λE' hle cc av=>?_;have ce:(S++ [[(r,Obj.cells O e (0,0))]]).set S.length []=S++ [[]]:=Jk _ _ _ _;rw [ce] at av ⊢;have:=h E' (some ⟨r,0,none⟩) K hle cc av;rw [hlen] at this;exact this
theorem VH{ρ:Operand->Value}{x:Operand}{s:St}{p:String}{v:Value}{xt t1:TypeId}{f1:Array Field}(K:P.underlying t1=some (.struct f1))(O:ρ x= .iface t1 v):Yl P ⟨d,.typeAssert x xt t1 true,ty,p,af,g⟩ ρ s (.tuple #[v,.bool true]):=by
 refine FT (sm:=Instr.typeAssert (ρ x) xt t1 true) V ?_;rw [O];unfold Instr.typeAssert;refine Aw _ _ (Cn K ?_);simp [lp,pure]
theorem VL{ρ:Operand->Value}{x:Operand}{s:St}{p:String}{z:Value}{xt t1:TypeId}{f1:Array Field}(K:P.underlying t1=some (.struct f1))(O:zeroOf P t1=some z)(U:ρ x= .nilIface):Yl P ⟨d,.typeAssert x xt t1 true,ty,p,af,g⟩ ρ s (.tuple #[z,.bool false]):=by
 refine FT (sm:=Instr.typeAssert (ρ x) xt t1 true) V ?_;rw [U];unfold Instr.typeAssert;refine Aw _ _ (Cn K ?_);exact Aw (x:=zeroValue t1) _ (HI O ⟨V,V⟩)
end
end Pal
