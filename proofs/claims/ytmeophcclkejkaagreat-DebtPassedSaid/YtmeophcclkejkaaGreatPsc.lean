/- DebtPassed, row of debt: for every input the law is true and its argument reads behind the call as before it. Part 3 of 8. -/
import Derived.Test.YtmeophcclkejkaaGreatPsa
import Derived.Test.YtmeophcclkejkaaGreatPsb
import Derived.Test.YtmeophcclkejkaaGreatRows
import Derived.Test.YtmeophcclkejkaaGreatChecked
import Derived.Conc.LeavingOf
import Derived.Conc.HoldsTime
import Derived.Carry
import Derived.ChangeSame
import Derived.ChangeVars
import Derived.ChangeSlices
import Derived.JoinedOf
import Derived.RowKit
import Derived.Deep.Strs
import Derived.Stop.Joined
import Derived.Test.YtmeophcclkejkaaGreatProg
set_option linter.all false
set_option maxRecDepth 100000
namespace Pal
open Go Go.Conc
open Go.ConcN (sumTo upd sumTo_upd upd_ne upd_same)
def LK(P:Program)(R:Value->St->Prop):GP:=λg s=>
 g.status= .running/\∃v,R v s/\∀w,stepG P true g w= .ended (.done v) w #[]
section
variable {P:Program}{R:Value->St->Prop}{J:Judge P}{n:Nat}{L:Env}{s:St}{b:Frame}
theorem JO.end{fn:Func}{t:Tmp}{v:Value}(K:b.kind= .normal)(hi:P.inits.idxOf? b.fn=none)(O:P.funcs[b.fn]? =some fn)(U:fn.results= #[.tmp t])(Y:look L t=some v)(Z:R v s):JO J (LK P R) b n L [] [] s:=λT ac todo=>by
 refine J.stop ⟨rfl,v,Z,λw=>?_⟩
 have e:results fn T=Sem.pure v:=by
  have:=ac.at_ t v Y;simp only [results,U,Array.mapM_eq_mapM_toList];show Sem.pure (T.getD t undef)=_;rw [this]
 have ag:(results fn T).run P w= .ok v w:=by rw [e];rfl
 have e2:(results fn T).events P w #[]= #[]:=by rw [e];simp [Sem.events_pure']
 simp [G,stepG,unwind,Ej,O,ag,e2,doReturn,K,GStep.after,hi,seen_none]
end
section
variable {P:Program}{R:Value->St->Prop}
def After(P:Program)(R:Value->St->Prop)(K:World)(s₀:St)(v:Value)(w':World):Prop:=
 ∃s,R v s/\Fits s w'/\(∀b o,s₀.E b=some o->s.E b=some o)/\w'.tape=K.tape/\Gd K.os w'.os/\w'.output=K.output
def P6(P:Program)(R:Value->St->Prop)(K:World)(s₀:St)(O:Nat)(m:Machine)(t:Trace):Prop:=
 ∃gs w sl q Sh g s,m=crowd gs w sl/\He P gs w t q Sh g s/\LK P R g s/\O=sumTo gs.size q/\(∀b o,s₀.E b=some o->s.E b=some o)/\w.tape=K.tape/\Gd K.os w.os/\w.output=K.output
theorem Wy{an:World}{s₀:St}(ar:Nat)(m:Machine)(t:Trace)(h:P6 P R an s₀ ar m t):
  (∃o w ops,stepT P m=(.ended o w,ops)/\Good P (After P R an s₀) m o w (t++ops))∨(∃m' ops au,stepT P m=(.next m',ops)/\au<ar/\P6 P R an s₀ au m' (t++ops)):=by
 obtain⟨gs,w,sl,q,Sh,g,s,rfl,hC,aI,rfl,av,aw,ay,az⟩:=h;obtain⟨ac,v,aA,aB⟩:=aI;have aJ:∀x∈gs,awake x:=by
  intro x Y;obtain⟨i,hi,rfl⟩:=Array.mem_iff_getElem.1 Y;rcases Nat.eq_zero_or_pos i with rfl | ao
  ·have:gs[0]=g:=by simpa [Array.getElem?_eq_getElem hi] using hC.main
   rw [this];exact awake_of (.inl ac)
  ·exact awake_of ((hC.lv.old i _ ao (Array.getElem?_eq_getElem hi)).status.elim .inl λx=> .inr (.inr x))
 obtain⟨i,x,d,aC,hi,Y,aD⟩:=crowd_pick (P:=P) (w:=w) (sl:=sl) aJ ⟨0,g,hC.main,ac⟩;have aE:=hC.at_ d;have aK:0<gs.size:=(Array.getElem?_eq_some_iff.1 hC.main).1;have aL:∀(a:Nat) (fn:FuncId) (pos:String),MemOp.ofEvents a fn pos #[]= #[]:=λa fn pos=>by rw [ofEvents_eq];simp
 rcases Nat.eq_zero_or_pos i with rfl | ao
 ·obtain rfl:x=g:=by rw [hC.main] at hi;exact(Option.some.inj hi).symm
  have ag:=runT_many_ended (P:=P) (sl:=aC) (i:=0) hi (show stepG P (0==0) x (w.at d)=_ from aB (w.at d));rw [aL] at ag;refine .inl ⟨_,_,_,aD.trans ag,v,rfl,⟨s,aA,aE.B6.fits 0 aK,av,aw,ay,az⟩,?_,?_,⟨λy K=>?_,rfl⟩,λj y K O=>?_⟩
  ·simpa using hC.B6.clean
  ·simpa using hC.over
  ·obtain⟨j,O⟩:=List.mem_iff_getElem?.1 K;rw [List.getElem?_drop] at O;exact⟨_,(hC.lv.old (1+j) y (by omega) (by simpa [crowd] using O)).leaves⟩
  ·have Z:=hC.lv.old j y (by omega) K;exact⟨q j,by simp only [Array.append_empty];exact Z.hears w⟩
 ·have Z:=hC.lv.old i x ao hi;have aM:(i==0)=false:=by simp;omega
  have aF:i<gs.size:=(Array.getElem?_eq_some_iff.1 hi).1;cases ap:q i with
  | zero=>rw [ap] at Z;rw [Z.1] at Y;cases Y
  | succ k=>
   rw [ap] at Z;rcases Z with⟨aN,_⟩ | ⟨_,x',es,hm,aO,aP⟩
   ·rw [aN] at Y;cases Y
   have aT:sumTo gs.size (upd q i k)+(k+1)=sumTo gs.size q+k:=by
    have:=sumTo_upd q k id aF;simpa [ap] using this
   have ag:=runT_crowd_go (P:=P) (sl:=aC) (i:=i) hi (by rw [aM];exact aO (w.at d));have aq:((gs.map (woken P x x' (w.at d))).setIfInBounds i x').size=gs.size:=by simp
   have al:∀op∈MemOp.ofEvents i x.frame.fn x.frame.place es,op.g=i:=λop U=>by obtain⟨e,_,rfl⟩:=mem_ofEvents U;rfl
   have aG:∀op∈MemOp.ofEvents i x.frame.fn x.frame.place es,op.act.touch? =none:=λop U=>by obtain⟨e,he,rfl⟩:=mem_ofEvents U;exact touch_mute (hm e he)
   have aQ:He P ((gs.map (woken P x x' (w.at d))).setIfInBounds i x') (w.at d) (t++MemOp.ofEvents i x.frame.fn x.frame.place es) (upd q i k) Sh g s:=by
    refine⟨?_,⟨λj y O K=>?_,λj O=>?_⟩,?_,?_,?_⟩
    ·have aR:i≠0:=by omega
     rw [Array.getElem?_setIfInBounds_ne aR,Array.getElem?_map,hC.main];simp [woken_run ac]
    ·by_cases am:i=j
     ·subst am;rw [Array.getElem?_setIfInBounds_self_of_lt (by simpa using aF)] at K;obtain rfl:=Option.some.inj K;rw [upd_same,Deaf_own];exact aP
     ·rw [Array.getElem?_setIfInBounds_ne am,Array.getElem?_map] at K;obtain⟨z,aS,rfl⟩:=Option.map_eq_some_iff.1 K;have aH:=hC.lv.old j z O aS;rw [woken_quitsD aH,upd_ne q k (Ne.symm am),Deaf_other t am _ al];exact aH
    ·rw [Deaf_other t (g':=i) (by simp at O;omega) _ al];exact hC.lv.above j (by simpa using O)
    ·rw [aq];exact aE.B6.mute al aG (λop U=>by obtain⟨e,he,rfl⟩:=mem_ofEvents U;exact low_mute (hm e he) _) rfl
    ·exact handedOver_app hC.over λop U=> .inr (aG op U)
    ·rw [Deaf_other t (by omega) _ al];exact hC.hears
   exact .inr ⟨_,_,_,aD.trans ag,by rw [← aq];rw [aq];omega,_,_,_,_,_,_,_,rfl,aQ,⟨ac,v,aA,aB⟩,rfl,av,aw,ay,az⟩
theorem ends{gs:Array Goroutine}{w:World}{sl:Option (Nat×Nat)}{t:Trace}{q:Nat->Nat}{Sh:Nat->Prop}{g:Goroutine}{s:St}(hC:He P gs w t q Sh g s)(O:LK P R g s):
  ∃N last o w' K,runNT P (N+1) (crowd gs w sl) t=(.ended o w',K)/\runN P N (crowd gs w sl)= .next last/\step P last= .ended o w'/\Good P (After P R w s) last o w' K:=
 run_of_inv Nat.lt_wfRel.wf (P6 P R w s) (Good P (After P R w s)) Wy _ _ _ ⟨gs,w,sl,q,Sh,g,s,rfl,hC,O,rfl,λ_ _ h=>h,rfl,.refl _,rfl⟩
theorem UI{m m':Machine}{t K:Trace}{n:Nat}(h:runNT P n m t=(.next m',K)):runN P n m= .next m':=by rw [← runNT_fst P n m t,h]
def GR(W:World):St:=⟨λb=>W.heap[b]?,λ_=>none,false⟩
theorem Wj{W:World}{g:Goroutine}(h:(GC P).ok (LK P R) g (GR W)):
  ∃M last o w' K,runNT P (M+1) (solo g W) #[]=(.ended o w',K)/\runN P M (solo g W)= .next last/\step P last= .ended o w'/\Good P (After P R W (GR W)) last o w' K:=by
 have hC:He P #[g] W #[] (λ_=>0) (λ_=>False) g (GR W):=by
  have Y:∀{i:Nat} {a:Touch},touchAt #[] i=some a->False:=λ{i a} h=>by simp [touchAt,Trace.act?] at h
  refine⟨rfl,leavers_one P g,⟨λi hi=>?_,λi j hi ac aH=>by simp at hi ac;omega,λi hi b hb=>hb.elim,λb hb=>hb.elim,λsaid=>?_,by simp,λi _ b _ x a O=>(Y O).elim,λi _ b _ x a O=>(Y O).elim⟩,λi g ag=>by simp [Trace.g?] at ag,rfl⟩
  ·have:i=0:=by simp at hi;exact hi
   subst this;exact⟨λb o U=>U,λb o U=>(by cases U),λb _=>rfl⟩
  ·rintro⟨i,j,_,⟨a,b,al,_⟩,_⟩;simp [Trace.act?] at al
 obtain⟨n,gs',w',am,K,q',aI,g',s',Z,an,ao,ap,aq,ar,au⟩:=h #[g] W none #[] _ _ hC;obtain⟨N,last,o,av,aw,k1,ay,az,aA⟩:=ends (sl:=am) an ao;refine⟨n+N,last,o,av,aw,?_,?_,az,?_⟩
 ·rw [solo_eq_crowd,Nat.add_assoc,runNT_add,Z];exact k1
 ·have aB:=UI Z;rw [solo_eq_crowd,runN_add,aB];exact ay
 ·obtain⟨v,e,⟨s2,a1,aC,aD,aE,aF,aG⟩,r⟩:=aA;exact⟨v,e,⟨s2,a1,aC,λb o hb=>aD b o (ap b o hb),aE.trans aq,ar.trans aF,aG.trans au⟩,r⟩
end
end Pal
namespace Pal
open Go Go.Conc
theorem VJ{P:Program}{Q:Gs_}{E H:LH}{f:FuncId}{fn:Func}{c:Code}{vs:Lv_}(U:P.funcs[f]? =some fn)(hb:fn.body=some c)(ag:fn.ntmps=fn.ntmps)(al:vs.length<=fn.ntmps)
  (h:JL (GC P) Q (base f) fn.ntmps (F6 0 vs) [] [.code c] [] (Aj E H [[]])):(GC P).ok Q (G (Frame.enter P f vs.toArray .normal) []) (mk E H []):=by
 have he:Frame.enter P f vs.toArray .normal=fr (base f) (vs.toArray++Array.replicate (fn.ntmps - vs.length) undef) [] [.code c]:=by
  simp [Frame.enter,fr,U,hb,base];rfl
 rw [he];have Y:mk E H []=Aj E H [[]]:=by unfold Aj;simp
 rw [Y];refine h _ ⟨by simp;omega,λt v Z=>?_⟩;obtain⟨_,K⟩:=Jj Z;have ac:t<vs.length:=by
  rcases Nat.lt_or_ge t vs.length with O | O
  ·exact O
  ·simp at K;have:=(List.getElem?_eq_some_iff.1 K).1;omega
 rw [Array.getD_eq_getD_getElem?,Array.getElem?_append_left (by simpa using ac)];simp at K;simp [K]
end Pal
namespace Pal
open Go Go.Conc Go.Proofs Go.ChangeShapes Go.WideShapes Go.ChangeAt Go.RowKit
open Go.Proofs.YtmeophcclkejkaaGreat
theorem Tryz.own:ownKnob Tryz.prog.godebug=none:=by kernel_rfl
theorem Tryz.laidOut:laidOutB Tryz.prog=true:=by kernel_rfl
theorem Tryz.YR:Tryz.prog.cellsOf 3=1:=by kernel_rfl
theorem Up{R:Value->St->Prop}{W w':World}{v:Value}(h:After Tryz.prog R W (GR W) v w'):(∃s,R v s)/\Below W.heap.size W {w' with os:=W.os}/\Go.ConcM.OsLater W.os w'.os:=by
 obtain⟨s,Y,Z,ac,ag,al,am⟩:=h;have hb:∀k,k<W.heap.size->w'.heap[k]? =W.heap[k]? :=λk O=>by
  have K:(GR W).E k=some W.heap[k]:=Array.getElem?_eq_getElem O;have U:=Z.e k _ (ac k _ K);rw [U,Array.getElem?_eq_getElem O]
 refine⟨⟨s,Y⟩,⟨rfl,ag,am,?_,hb⟩,al⟩;show W.heap.size<=w'.heap.size;rcases Nat.eq_zero_or_pos W.heap.size with an | an
 ·omega
 ·have K:=hb (W.heap.size - 1) (by omega);have ao:W.heap[W.heap.size - 1]? =some W.heap[W.heap.size - 1]:=Array.getElem?_eq_getElem (by omega);rw [ao] at K;have U:=(Array.getElem?_eq_some_iff.1 K).1;omega
theorem Ra(a:Addr):a.add 0=a:=by unfold Addr.add;rw [if_pos rfl]
section
variable {H:Type}{enc:TypeId×Value->H}{W:World}{fuel:Nat}{cs:Lv_}{x:DataW H×List MemPlace}
theorem WK{b off:Nat}{v:Value}(h:W.cell? ⟨b,off,none⟩=some v):At (GR W).E b off [v]:=by
 unfold World.cell? at h;split at h
 ·rename_i c e f hW;simp only [Option.isSome_none,Bool.false_eq_true,if_false] at h;refine⟨c,e,f,hW,λj w K=>?_⟩
  match j,K with
  | 0,K=>simp at K;subst K;simpa using h
  | j+1,K=>simp at K
 ·cases h
theorem U1{b off:Nat}(O:0<cs.length)(h:∀j,j<cs.length->W.cell? ⟨b,off+j,none⟩=cs[j]?):At (GR W).E b off cs:=by
 have U:=h 0 O;rw [List.getElem?_eq_getElem O] at U;obtain⟨f,e,fr,Y,_⟩:=WK U;have hW:W.heap[b]? =some (.cells f e fr):=Y;refine⟨f,e,fr,Y,λj w Z=>?_⟩;have ac:=(List.getElem?_eq_some_iff.1 Z).1;have K:=h j ac;rw [Z] at K;unfold World.cell? at K;simp only [hW] at K;simpa using K
theorem YN{α:Type}{p:Rp α}{t e:TypeId}(aw:Tryz.prog.underlying t=some (.slice e))(ay:Tryz.prog.cellsOf e=p.n)(az:0<p.n)
  (aA:∀n cs x,DataW.trod enc Tryz.prog W 0 (λ_=>true) true n e cs=some x->∃v,p.r (GR W).E cs v)
  (aB:DataW.trod enc Tryz.prog W 0 (λ_=>true) true fuel t cs=some x):∃(a:Option Addr) (c:Nat) (ao:List α),cs= [.slice a ao.length c]/\Am p (GR W).E a c ao:=by
 rcases DataW.trod_slice aw aB with⟨ac,aC⟩ | ⟨a,len,cap,elems,rest,n,_,ac,aC,_,aD,_,hlen,ap,aq,_⟩
 ·exact⟨none,0,[],ac,Am.nil⟩
 ·rw [ay] at ap aq;rcases Nat.eq_zero_or_pos cap with ar | ar
  ·have:len=0:=by omega
   subst this;subst ar;exact⟨some a,0,[],ac,Nat.le_refl _,.inl ⟨rfl,λ_ _=> .inr rfl⟩⟩
  ·have au:∀i,i<len->∃vs y,vs.length=p.n/\(∀j,j<p.n->W.cell? ((a.add (i*p.n)).add j)=vs[j]?)/\DataW.trod enc Tryz.prog W 0 (λ_=>true) true n e vs=some y:=λi hi=>by
    have K:=ap i hi;rw [List.getElem?_eq_getElem (by omega)] at K;obtain⟨vs,al,Y⟩:=Option.bind_eq_some_iff.1 K;obtain⟨_,O,am⟩:=World.cells?_some al;exact⟨vs,_,O,am,Y⟩
   have an:a.spot=none:=by
    have key:∀vs:Lv_,vs.length=p.n->(∀j,j<p.n->W.cell? ((a.add (0*p.n)).add j)=vs[j]?)->a.spot=none:=λvs ag U=>by
     have:=U 0 az;rw [List.getElem?_eq_getElem (by omega),Ra,Nat.zero_mul,Ra] at this;exact World.cell?_spot this
    rcases Nat.eq_zero_or_pos len with K | K
    ·obtain⟨al,Y⟩:=aq rfl;have O:=Y 0 (by omega);rw [List.getElem?_eq_getElem (by omega)] at O;obtain⟨vs,am,_⟩:=Option.bind_eq_some_iff.1 O;obtain⟨_,ag,U⟩:=World.cells?_some am;rw [K] at U;exact key vs ag U
    ·obtain⟨vs,y,ag,U,_⟩:=au 0 K;exact key vs ag U
   have av:∀i:Fin len,∃z:α,∃vs,p.r (GR W).E vs z/\At (GR W).E a.block (a.off+i*p.n) vs:=λi=>by
    obtain⟨vs,y,al,Y,O⟩:=au i i.2;obtain⟨z,Z⟩:=aA _ _ _ O;refine⟨z,vs,Z,U1 (by omega) λj aE=>?_⟩;have:=Y j (by omega);rw [DI an,DI rfl] at this;exact this
   refine⟨some a,cap,List.ofFn λi=>Classical.choose (av i),by simpa using ac,by simpa using aD,.inr ⟨a.block,a.off,?_,λi z Z=>?_⟩⟩
   ·obtain⟨b,o,s⟩:=a;simp only at an;subst an;rfl
   ·have hi:i<len:=by have:=(List.getElem?_eq_some_iff.1 Z).1;simpa using this
    simp [hi] at Z;have:=Classical.choose_spec (av ⟨i,hi⟩);rw [Z] at this;exact this
theorem Xp(h:DataW.trod enc Tryz.prog W 0 (λ_=>true) true fuel 3 cs=some x):∃z:Int,cs= [iV z]:=by
 obtain⟨n1,K,_⟩:=DataW.trod_int Tryz.underlying3 h;exact⟨n1,K⟩
theorem V3(O:DataW.trod enc Tryz.prog W 0 (λ_=>true) true fuel 28 cs=some x):∃(a:Option Addr) (c:Nat) (K:List Int),cs= [.slice a K.length c]/\Am rI (GR W).E a c K:=
 YN (p:=rI) Tryz.underlying28 Tryz.YR Nat.one_pos (λn cs x h=>by
  obtain⟨z,rfl⟩:=Xp h
  exact⟨z,rfl⟩) O
theorem Wo{v:Value}{O:Nat}{d:DataW H}{p:List MemPlace}(U:Value.okWide Tryz.prog W .any O 28 v)(hd:DataW.Trod enc Tryz.prog W 0 (λ_=>true) true 28 v d p):
  ∃(a:Option Addr) (c:Nat) (K:List Int),v= .slice a K.length c/\Am rI (GR W).E a c K:=by
 obtain⟨Z,len,cap,rfl⟩:=okWide_slice Tryz.underlying28 U;obtain⟨fuel,Y⟩:=hd;obtain⟨a,c,K,e,g⟩:=V3 Y;simp [Value.cells] at e;obtain⟨rfl,rfl,rfl⟩:=e;exact⟨_,_,_,rfl,g⟩
end
end Pal
namespace Pal
open Go Go.Conc
def Hg(K:Bool)(ws:Lv_):Value:=if K then .agg ws.toArray else ws.headD undef
def Vr{α:Type}(pp:Rp α)(K:Bool)(E:LH)(v:Value)(x:α):Prop:=∃ws,pp.r E ws x/\v=Hg K ws
theorem Vr.Ag{α:Type}{pp:Rp α}{K:Bool}{E E':LH}{v:Value}{x:α}(h:Vr pp K E v x)(hle:Le E E'):Vr pp K E' v x:=
 let ⟨ws,O,U⟩:=h;⟨ws,pp.Ag hle O,U⟩
structure Gp (P:Program) (t:TypeId) {κ:Type} [DecidableEq κ] (pk:Rp κ) (ka:Bool):Prop where
 BK:∀{em:Bool} {E:LH} {v:Value} {x:κ} {s:St} {Q:Unit->St->Prop} {X:Halt->St->Prop},Vr pk ka E v x->Q () s->lp P (Instr.checkKey em 10000 t v) s Q X
 kind:∃kd,P.underlying t=some kd/\((∀v w,Instr.sameNow kd v w=none)∨∀{E:LH} {v w:Value} {x y:κ},Vr pk ka E v x->Vr pk ka E w y->Instr.sameNow kd v w=some (decide (x=y)))
 eq:∀{E:LH} {v w:Value} {x y:κ} {s:St} {Q:Bool->St->Prop} {X:Halt->St->Prop},Vr pk ka E v x->Vr pk ka E w y->Q (decide (x=y)) s->lp P (Op.equal t v w) s Q X
 same:∀{E:LH} {v:Value} {x:κ},Vr pk ka E v x->Instr.sameBits 10000 v v=true
 uniq:∀{E:LH} {v w:Value} {x:κ},Vr pk ka E v x->Vr pk ka E w x->v=w
section
variable {κ ν:Type} [DecidableEq κ] {pk:Rp κ}{pv:Rp ν}{ka va:Bool}{E E':LH}
def Dz(pk:Rp κ)(ka:Bool)(pv:Rp ν)(va:Bool)(E:LH):List MapEntry->List (κ×ν)->Prop
 | [],[]=>True
 | e::es,x::xs=>Vr pk ka E e.key x.1/\Vr pv va E e.val x.2/\Dz pk ka pv va E es xs
 | _,_=>False
theorem Dz.Ag(hle:Le E E'):∀{es:List MapEntry} {xs:List (κ×ν)},Dz pk ka pv va E es xs->Dz pk ka pv va E' es xs
 | [],[],_=>trivial
 | e::es,x::xs,h=>⟨h.1.Ag hle,h.2.1.Ag hle,Dz.Ag hle h.2.2⟩
 | [],_::_,h=>h.elim
 | _::_,[],h=>h.elim
theorem Dz.len:∀{es:List MapEntry} {xs:List (κ×ν)},Dz pk ka pv va E es xs->es.length=xs.length
 | [],[],_=>rfl
 | e::es,x::xs,h=>by simp [Dz.len h.2.2]
 | [],_::_,h=>h.elim
 | _::_,[],h=>h.elim
def Gg(x:κ):List MapEntry->List (κ×ν)->Nat->Option (Nat×Value)
 | e::es,y::ys,i=>if x=y.1 then some (i,e.val) else Gg x es ys (i+1)
 | _,_,_=>none
def BH(xs:List (κ×ν))(x:κ):Option ν:=(xs.find? λy=>decide (x=y.1)).map (·.2)
def Dc(xs:List (κ×ν))(x:κ)(v:ν):List (κ×ν):=match xs with
 | []=> [(x,v)]
 | y::ys=>if x=y.1 then(x,v)::ys else y::Dc ys x v
theorem Sd{x:κ}:∀{es:List MapEntry} {xs:List (κ×ν)} {i:Nat},Dz pk ka pv va E es xs->(Gg x es xs i=none/\BH xs x=none)∨∃j w v0,Gg x es xs i=some (j,w)/\BH xs x=some v0/\Vr pv va E w v0
 | [],[],i,_=> .inl ⟨rfl,rfl⟩
 | e::es,y::ys,i,h=>by
  unfold Gg BH
  by_cases K:x=y.1
  ·exact .inr ⟨i,e.val,y.2,by rw [if_pos K],by simp [K],h.2.1⟩
  ·rcases Sd (x:=x) (i:=i+1) h.2.2 with⟨O,U⟩ | ⟨j,w,v0,O,U,Y⟩
   ·exact .inl ⟨by rw [if_neg K];exact O,by simpa [K,BH] using U⟩
   ·exact .inr ⟨j,w,v0,by rw [if_neg K];exact O,by simpa [K,BH] using U,Y⟩
 | [],_::_,_,h=>h.elim
 | _::_,[],_,h=>h.elim
theorem Dz.put{x:κ}{v0:ν}{O w:Value}(U:Vr pk ka E O x)(hw:Vr pv va E w v0)(Z:Nat):∀{es:List MapEntry} {xs:List (κ×ν)} {i:Nat},Dz pk ka pv va E es xs->
  (Gg x es xs i=none/\Dz pk ka pv va E (es++ [{key:=O,val:=w,born:=Z}]) (Dc xs x v0))∨
  ∃j u,Gg x es xs i=some (i+j,u)/\j<es.length/\(∀e,es[j]? =some e->Vr pk ka E e.key x)/\Dz pk ka pv va E (es.modify j λe=>{e with key:=O,val:=w}) (Dc xs x v0)
 | [],[],i,_=> .inl ⟨rfl,U,hw,trivial⟩
 | e::es,y::ys,i,h=>by
  unfold Gg Dc
  by_cases K:x=y.1
  ·refine .inr ⟨0,e.val,by rw [if_pos K];rfl,by simp,λac he=>?_,?_⟩
   ·simp at he;subst he;rw [K];exact h.1
   ·rw [if_pos K];exact⟨U,hw,h.2.2⟩
  ·rcases Dz.put U hw Z (i:=i+1) h.2.2 with⟨Y,ag⟩ | ⟨j,u,Y,ag,al,am⟩
   ·exact .inl ⟨by rw [if_neg K];exact Y,by rw [if_neg K];exact⟨h.1,h.2.1,ag⟩⟩
   ·refine .inr ⟨j+1,u,by rw [if_neg K,Y];congr 2;omega,by simp;omega,λac he=>al ac (by simpa using he),?_⟩;rw [if_neg K];exact⟨h.1,h.2.1,am⟩
 | [],_::_,_,h=>h.elim
 | _::_,[],_,h=>h.elim
def Kl(pk:Rp κ)(ka:Bool)(pv:Rp ν)(va:Bool)(E:LH)(o:Obj)(xs:List (κ×ν)):Prop:=
 ∃es clock,o= .map es clock/\Dz pk ka pv va E es.toList xs/\(es.toList.map (·.born)).Pairwise (·<·)/\∀e∈es.toList,e.born<clock
theorem Kl.Ag{o:Obj}{xs:List (κ×ν)}(h:Kl pk ka pv va E o xs)(hle:Le E E'):Kl pk ka pv va E' o xs:=
 let ⟨es,c,K,O,U⟩:=h;⟨es,c,K,O.Ag hle,U⟩
variable {P:Program}{s:St}{t tm te:TypeId}{X:Halt->St->Prop}
theorem Qi(U:Gp P t pk ka){k:Value}{x:κ}(Y:Vr pk ka E k x){Q:Option (Nat×Value)->St->Prop}:∀{es:List MapEntry} {xs:List (κ×ν)} {i:Nat},Dz pk ka pv va E es xs->Q (Gg x es xs i) s->lp P (Instr.findAsking t k es i) s Q X
 | [],[],i,_,h=>h
 | e::es,y::ys,i,h,K=>by
  unfold Instr.findAsking
  refine As _ _ (U.eq Y h.1 ?_)
  unfold Gg at K
  by_cases O:x=y.1
  ·rw [decide_eq_true O]
   rw [if_pos O] at K;exact K
  ·rw [decide_eq_false O];rw [if_neg O] at K;exact Qi U Y h.2.2 K
 | [],_::_,_,h,_=>h.elim
 | _::_,[],_,h,_=>h.elim
theorem Qy{kd:TypeDesc}{k:Value}{x:κ}(O:Vr pk ka E k x)(U:∀{E:LH} {v w:Value} {x y:κ},Vr pk ka E v x->Vr pk ka E w y->Instr.sameNow kd v w=some (decide (x=y))):∀{es:List MapEntry} {xs:List (κ×ν)} {i:Nat},Dz pk ka pv va E es xs->Instr.findNow kd k es i=some (Gg x es xs i)
 | [],[],i,_=>rfl
 | e::es,y::ys,i,h=>by
  unfold Instr.findNow Gg
  rw [U O h.1]
  by_cases K:x=y.1
  ·simp [K]
  ·simp only [decide_eq_false K,if_neg K];exact Qy O U h.2.2
 | [],_::_,_,h=>h.elim
 | _::_,[],_,h=>h.elim
theorem Ox(O:Gp P t pk ka){k:Value}{x:κ}(U:Vr pk ka E k x){Q:Option (Nat×Value)->St->Prop}{es:List MapEntry}{xs:List (κ×ν)}(h:Dz pk ka pv va E es xs)(K:Q (Gg x es xs 0) s):lp P (Instr.findKey t k es) s Q X:=by
 unfold Instr.findKey;obtain⟨kd,Y,Z | ac⟩:=O.kind
 ·refine As _ _ (Cj Y ?_);cases es with
  | nil=>
   cases xs with
   | nil=>exact K
   | cons y ys=>exact h.elim
  | cons e es=>
   have ag:Instr.findNow kd k (e::es) 0=none:=by unfold Instr.findNow;rw [Z]
   rw [ag];exact Qi O U h K
 ·refine As _ _ (Cj Y ?_);rw [Qy U ac h];exact K
theorem U9(O:Gp P t pk ka)(hm:P.underlying tm=some (.map t te)){z:Value}{z0:ν}(Z:zeroOf P te=some z)(ac:Vr pv va E z z0){bk:Nat}{o:Obj}{xs:List (κ×ν)}{k:Value}{x:κ}(ag:s.get bk=some o)(al:Kl pk ka pv va E o xs)(U:Vr pk ka E k x)(ok:Bool){Q:Value->St->Prop}
  (h:∀w,Vr pv va E w ((BH xs x).getD z0)->Q (if ok then .tuple #[w,.bool (BH xs x).isSome] else w) s):lp P (Instr.lookup tm (.map (some bk)) k ok) s Q X:=by
 obtain⟨es,c,rfl,Y,an,ao⟩:=al;unfold Instr.lookup;refine As _ _ (Cj hm ?_);refine As _ _ ?_;unfold getObj;simp only [bind,Sem.bind,lp];refine⟨_,ag,rfl,?_⟩;refine As (x:=Instr.checkKey _ 10000 t k) _ (O.BK U ?_);refine As (x:=Instr.findKey t k es.toList) _ (Ox O U Y ?_);rcases Sd (x:=x) (i:=0) Y with⟨K,e2⟩ | ⟨j,w,v0,K,e2,am⟩
 ·rw [K];simp only;refine As (x:=zeroValue te) _ (Ho Z ?_);have:=h z (by rw [e2];exact ac);rw [e2] at this;exact this
 ·rw [K];have:=h w (by rw [e2];exact am);rw [e2] at this;exact this
theorem Uf(O:Gp P t pk ka)(hm:P.underlying tm=some (.map t te)){bk:Nat}{o:Obj}{xs:List (κ×ν)}{k w:Value}{x:κ}{v0:ν}(am:s.get bk=some o)(Z:s.H bk=some o)(an:Kl pk ka pv va E o xs)(K:Vr pk ka E k x)(hw:Vr pv va E w v0){Q:Unit->St->Prop}
  (h:∀o',Kl pk ka pv va E o' (Dc xs x v0)->Q () (s.upd bk o')):lp P (Instr.mapUpdate tm (.map (some bk)) k w) s Q X:=by
 obtain⟨es,c,rfl,ac,ag,U⟩:=an;unfold Instr.mapUpdate;refine As _ _ (Cj hm ?_);unfold getObj;simp only [bind,Sem.bind,lp];refine⟨_,am,rfl,?_⟩;refine As (x:=Instr.checkKey false 10000 t k) _ (O.BK K ?_);refine As (x:=Instr.findKey t k es.toList) _ (Ox O K ac ?_);rcases Dz.put K hw c (i:=0) ac with⟨Y,e2⟩ | ⟨j,u,Y,e2,ao,ap⟩
 ·rw [Y];simp only [setObj,lp];refine⟨⟨_,Z,rfl⟩,rfl,h _ ⟨es.push {key:=k,val:=w,born:=c},c+1,rfl,by simpa using e2,?_,?_⟩⟩
  ·rw [Array.toList_push,List.map_append,List.pairwise_append];refine⟨ag,by simp,λa aq b hb=>?_⟩;simp at hb;subst hb;obtain⟨e,he,rfl⟩:=List.mem_map.1 aq;exact U e he
  ·intro e he;rw [Array.toList_push] at he;rcases List.mem_append.1 he with he | he
   ·have:=U e he;omega
   ·simp at he;subst he;simp
 ·rw [Y];have al:es[j]? =some (es[j]'(by simpa using e2)):=Array.getElem?_eq_getElem (by simpa using e2);have ar:(es[j]'(by simpa using e2)).key=k:=O.uniq (ao _ (by rw [Array.getElem?_toList];exact al)) K;simp only [Nat.zero_add,al,Option.map_some,Option.getD_some,ar];refine As (x:=Instr.keyThatStays k k) _ ?_;unfold Instr.keyThatStays;rw [if_pos (O.same K)];simp only [lp,pure,setObj];refine⟨⟨_,Z,rfl⟩,rfl,h _ ⟨_,c,rfl,by simpa using ap,?_,?_⟩⟩
  ·have:(es.modify j λe=>{e with key:=k,val:=w}).toList.map (·.born)=es.toList.map (·.born):=by
    rw [Array.toList_modify];apply List.ext_getElem?;intro q;simp only [List.getElem?_map,List.getElem?_modify];split <;> cases es.toList[q]? <;> rfl
   rw [this];exact ag
  ·intro e he;rw [Array.toList_modify] at he;obtain⟨q,au,rfl⟩:=List.mem_iff_getElem.1 he;rw [List.getElem_modify];have av:q<es.toList.length:=by simpa using au
   split
   ·show(es.toList[q]'av).born<c;exact U _ (List.getElem_mem _)
   ·exact U _ (List.getElem_mem _)
end
end Pal
namespace Pal
open Go Go.Conc
theorem R5{l us r:Lv_}:∀j w,us[j]? =some w->(l++us++r).toArray[l.length+j]? =some w:=λj w h=>by
 have K:j<us.length:=(List.getElem?_eq_some_iff.1 h).1
 rw [List.getElem?_toArray,List.append_assoc,List.getElem?_append_right (by omega),show l.length+j - l.length=j by omega,List.getElem?_append_left K]
 exact h
section
variable {P:Program}{s:St}{t e:TypeId}{X:Halt->St->Prop}
theorem KO{c:Av_}{off:Nat}{us:Lv_}{O:Bool}(Y:Dd P e=some O)(Z:Be P e=some us.length)(ac:O=false->us.length=1)(hw:∀j w,us[j]? =some w->c[off+j]? =some w)
  {Q:Value->St->Prop} (k:Q (Hg O us) s):lp P (Go.part e c off) s Q X:=by
 unfold Go.part;refine As (x:=isAgg e) _ (MM Y ?_);cases O with
 | true=>
  simp only [if_true];refine As (x:=Go.sizeOf e) _ (Ey Z ?_);have ag:c.extract off (off+us.length)=us.toArray:=by
   apply Array.ext_getElem?;intro j;by_cases U:j<us.length
   ·have K:=hw j us[j] (List.getElem?_eq_getElem U);have al:off+j<c.size:=(Array.getElem?_eq_some_iff.1 K).1;simp only [Array.getElem?_extract];rw [if_pos (by omega),K];simp [U]
   ·simp only [Array.getElem?_extract];rw [if_neg (by omega)];simp;omega
  show Q (.agg (c.extract off (off+us.length))) s;rw [ag];exact k
 | false=>
  obtain⟨w,rfl⟩:∃w,us= [w]:=by
   match us,ac rfl with
   | [w],_=>exact⟨w,rfl⟩
  have K:=hw 0 w rfl;rw [Nat.add_zero] at K;simp only [Bool.false_eq_true,if_false,K];exact k
end
structure B3 (P:Program) (t:TypeId) {α:Type} [DecidableEq α] (pp:Rp α) (K:Bool) (dep:Nat):Prop where
 agg:Dd P t=some K
 size:Be P t=some pp.n
 one:K=false->pp.n=1
 eq:∀{n:Nat} {E E':LH} {ws ws':Lv_} {x y:α} {s:St} {Q:Bool->St->Prop} {X:Halt->St->Prop},dep<=n->pp.r E ws x->pp.r E' ws' y->Q (decide (x=y)) s->lp P (Op.equalIn n t (Hg K ws) (Hg K ws')) s Q X
 BK:∀{n:Nat} {em:Bool} {E:LH} {ws:Lv_} {x:α} {s:St} {Q:Unit->St->Prop} {X:Halt->St->Prop},dep<=n->pp.r E ws x->Q () s->lp P (Instr.checkKey em n t (Hg K ws)) s Q X
 uniq:∀{E E':LH} {ws ws':Lv_} {x:α},pp.r E ws x->pp.r E' ws' x->ws=ws'
 same:∀{E:LH} {ws:Lv_} {x:α},pp.r E ws x->∀w∈ws,∀m,Instr.sameBits (m+1) w w=true
 now:∃kd,P.underlying t=some kd/\((∀v w,Instr.sameNow kd v w=none)∨∀{E E':LH} {ws ws':Lv_} {x y:α},pp.r E ws x->pp.r E' ws' y->Instr.sameNow kd (Hg K ws) (Hg K ws')=some (decide (x=y)))
section
variable {P:Program}{t e:TypeId}
theorem B3.int{kd:IntKind}(U:P.underlying t=some (.int kd))(Y:Be P t=some 1):B3 P t (rK kd) false 1 where
 agg:=by unfold Dd;rw [U]
 size:=Y
 one _:=rfl
 eq {n E E' ws ws' x y s Q X} Z K O k:=by
  obtain⟨m,rfl⟩:∃m,n=m+1:=⟨n - 1,by omega⟩;have K:ws= [.int kd x]:=K;have O:ws'= [.int kd y]:=O;subst K O;refine SL U ?_;have e:(x==y)=decide (x=y):=by by_cases h:x=y <;> simp [h]
  rw [e];exact k
 BK {n em E ws x s Q X} Z K k:=by
  obtain⟨m,rfl⟩:∃m,n=m+1:=⟨n - 1,by omega⟩;have K:ws= [.int kd x]:=K;subst K;unfold Instr.checkKey;refine As _ _ (Cj U ?_);exact k
 uniq K O:=by
  have K:_= [Value.int kd _]:=K;have O:_= [Value.int kd _]:=O;rw [K,O]
 same {E ws x} h w hw m:=by
  have h:ws= [Value.int kd x]:=h;subst h;simp at hw;subst hw;simp [Instr.sameBits]
 now:=⟨_,U,.inr λ{E E' ws ws' x y} K O=>by
  have K:ws= [.int kd x]:=K
  have O:ws'= [.int kd y]:=O
  subst K O
  have e:(x==y)=decide (x=y):=by by_cases h:x=y <;> simp [h]
  show(if kd=kd then some (x==y) else none)=_
  rw [if_pos rfl,e]⟩
theorem B3.nat{kd:IntKind}(U:P.underlying t=some (.int kd))(Z:Be P t=some 1):B3 P t (rN kd) false 1 where
 agg:=by unfold Dd;rw [U]
 size:=Z
 one _:=rfl
 eq {n E E' ws ws' x y s Q X} ac K O k:=by
  obtain⟨m,rfl⟩:∃m,n=m+1:=⟨n - 1,by omega⟩;have K:ws= [.int kd ((x:Nat):Int)]:=K;have O:ws'= [.int kd ((y:Nat):Int)]:=O;subst K O;refine SL U ?_;have e:((x:Int)==(y:Int))=decide (x=y):=by
   by_cases h:x=y
   ·simp [h]
   ·have Y:¬(x:Int)=(y:Int):=by omega
    simp [h,Y]
  rw [e];exact k
 BK {n em E ws x s Q X} ac K k:=by
  obtain⟨m,rfl⟩:∃m,n=m+1:=⟨n - 1,by omega⟩;have K:ws= [.int kd ((x:Nat):Int)]:=K;subst K;unfold Instr.checkKey;refine As _ _ (Cj U ?_);exact k
 uniq K O:=by
  have K:_= [Value.int kd _]:=K;have O:_= [Value.int kd _]:=O;rw [K,O]
 same {E ws x} h w hw m:=by
  have h:ws= [Value.int kd ((x:Nat):Int)]:=h;subst h;simp at hw;subst hw;simp [Instr.sameBits]
 now:=⟨_,U,.inr λ{E E' ws ws' x y} K O=>by
  have K:ws= [.int kd ((x:Nat):Int)]:=K
  have O:ws'= [.int kd ((y:Nat):Int)]:=O
  subst K O
  have e:((x:Int)==(y:Int))=decide (x=y):=by
   by_cases h:x=y
   ·simp [h]
   ·have Y:¬(x:Int)=(y:Int):=by omega
    simp [h,Y]
  show(if kd=kd then some ((x:Int)==(y:Int)) else none)=_
  rw [if_pos rfl,e]⟩
theorem B3.up{α:Type} [DecidableEq α] {pp:Rp α}{O:Bool}{dep U:Nat}(h:B3 P t pp O dep)(hd:dep<=U):B3 P t pp O U:=
 ⟨h.agg,h.size,h.one,λK=>h.eq (Nat.le_trans hd K),λK=>h.BK (Nat.le_trans hd K),h.uniq,h.same,h.now⟩
theorem O8{α:Type}{kk:Nat}{pp:Rp α}{E:LH}{ws:Lv_}{xs:List α}(K:(rA kk pp).r E ws xs){i:Nat}(hi:i<kk):∃x us,xs[i]? =some x/\pp.r E us x/\us.length=pp.n/\∀j w,us[j]? =some w->ws.toArray[i*pp.n+j]? =some w:=by
 have O:xs[i]? =some (xs[i]'(by rw [K.1];exact hi)):=List.getElem?_eq_getElem (by rw [K.1];exact hi);have Y:ix xs (i:Int)=some (xs[i]'(by rw [K.1];exact hi)):=by unfold ix;rw [if_pos (by omega)];simpa using O
 obtain⟨us,U,_,_,Z⟩:=Hr (m:=(i:Int)) K Y;exact⟨_,us,O,U,pp.len U,λj w ac=>by have:=Z j w ac;rw [List.getElem?_toArray];simpa using this⟩
theorem B3.arr{α:Type} [DecidableEq α] {pp:Rp α}{aB:Bool}{dep kk:Nat}(h:B3 P e pp aB dep)(Z:P.underlying t=some (.array kk e))(aC:Be P t=some (kk*pp.n)):B3 P t (rA kk pp) true (dep+1) where
 agg:=by unfold Dd;rw [Z]
 size:=aC
 one:=λh=>by cases h
 eq {n E E' ws ws' xs ys s Q X} aD ac av k:=by
  obtain⟨n,rfl⟩:∃m,n=m+1:=⟨n - 1,by omega⟩;have aM:=ac.1;have aN:=av.1;unfold Op.equalIn;refine As _ _ (Cj Z ?_);refine As (x:=Go.sizeOf e) _ (Ey h.size ?_);simp only [Hg,if_true];simp only [Std.Legacy.Range.forIn_eq_forIn_range',Std.Legacy.Range.size,Nat.sub_zero,Nat.add_one_sub_one,Nat.div_one];let bd:Nat->Option Bool×Unit->Sem (ForInStep (Option Bool×Unit)):=λi _=>do
   if !(← Op.equalIn n e (← Go.part e ws.toArray (i*pp.n)) (← Go.part e ws'.toArray (i*pp.n))) then pure (ForInStep.done (some false,())) else pure (ForInStep.yield (none,()))
  have key:∀(m st:Nat),st+m=kk->(∀i,i<st->xs[i]? =ys[i]?)->∀{K:Option Bool×Unit->St->Prop},K (if xs=ys then(none,()) else(some false,())) s->lp P (forIn (List.range' st m) (none,()) bd:Sem _) s K X:=by
   intro m
   induction m with
   | zero=>
    intro st al am K O;have U:xs=ys:=by
     apply List.ext_getElem?;intro i;rcases Nat.lt_or_ge i st with hi | hi
     ·exact am i hi
     ·rw [List.getElem?_eq_none (by omega),List.getElem?_eq_none (by omega)]
    rw [if_pos U] at O;simp only [List.range'_zero,List.forIn_nil];exact O
   | succ m an=>
    intro st al am K O;simp only [List.range'_succ,List.forIn_cons];obtain⟨a,us,ag,ao,Y,ap⟩:=O8 ac (i:=st) (by omega);obtain⟨c,aO,aq,aE,aw,aF⟩:=O8 av (i:=st) (by omega);refine As _ _ (As _ _ (KO h.agg (by rw [Y];exact h.size) (λq=>by rw [Y];exact h.one q) ap ?_));refine As _ _ (KO h.agg (by rw [aw];exact h.size) (λq=>by rw [aw];exact h.one q) aF ?_);refine As _ _ (h.eq (by omega) ao aE ?_);by_cases ar:a=c
    ·subst ar;simp only [decide_true,Bool.not_true,Bool.false_eq_true,if_false,lp,pure];exact an (st+1) (by omega) (λi hi=>by
      rcases Nat.lt_or_ge i st with ay | ay
      ·exact am i ay
      ·obtain rfl:i=st:=by omega
       rw [ag,aq]) O
    ·have aG:¬xs=ys:=λq=>ar (by rw [q] at ag;rw [ag] at aq;exact Option.some.inj aq);rw [if_neg aG] at O;simp only [ar,decide_false,Bool.not_false,if_true,lp,pure];exact O
  refine As _ _ (key kk 0 (by omega) (λi hi=>by omega) ?_);by_cases U:xs=ys
  ·rw [if_pos U];simpa [lp,pure,U] using k
  ·rw [if_neg U];simpa [lp,pure,U] using k
 BK {n em E ws xs s Q X} aD ac k:=by
  obtain⟨n,rfl⟩:∃m,n=m+1:=⟨n - 1,by omega⟩;unfold Instr.checkKey;refine As _ _ (Cj Z ?_);simp only [Hg,if_true];simp only [Std.Legacy.Range.forIn_eq_forIn_range',Std.Legacy.Range.size,Nat.sub_zero,Nat.add_one_sub_one,Nat.div_one];let bd:Nat->Unit->Sem (ForInStep Unit):=λi _=>do
   Instr.checkKey em n e (← Go.part e ws.toArray (i*(← Go.sizeOf e)))
   pure (ForInStep.yield ())
  have key:∀(m st:Nat),st+m=kk->∀{K:Unit->St->Prop},K () s->lp P (forIn (List.range' st m) () bd:Sem _) s K X:=by
   intro m
   induction m with
   | zero=>
    intro st al K O;simp only [List.range'_zero,List.forIn_nil];exact O
   | succ m an=>
    intro st al K O;simp only [List.range'_succ,List.forIn_cons];obtain⟨a,us,ag,ao,Y,ap⟩:=O8 ac (i:=st) (by omega);refine As _ _ (As (x:=Go.sizeOf e) _ (Ey h.size ?_));refine As _ _ (KO h.agg (by rw [Y];exact h.size) (λq=>by rw [Y];exact h.one q) ap ?_);refine As _ _ (h.BK (by omega) ao ?_);exact an (st+1) (by omega) O
  exact As _ _ (key kk 0 (by omega) k)
 uniq {E E' ws ws' xs} au aH:=by
  obtain⟨a1,wss,rfl,az,c1⟩:=au;obtain⟨aP,aI,rfl,aQ,c2⟩:=aH;have:wss=aI:=by
   apply List.ext_getElem (by omega);intro i hi aJ;have aA:xs[i]? =some (xs[i]'(by omega)):=List.getElem?_eq_getElem (by omega);exact h.uniq (c1 i _ _ aA (List.getElem?_eq_getElem hi)) (c2 i _ _ aA (List.getElem?_eq_getElem aJ))
  rw [this]
 same {E ws xs} au w hw m:=by
  obtain⟨a1,wss,rfl,az,c1⟩:=au;obtain⟨us,aK,hw⟩:=List.mem_flatten.1 hw;obtain⟨i,hi⟩:=List.mem_iff_getElem?.1 aK;have aL:i<xs.length:=by rw [a1,← az];exact(List.getElem?_eq_some_iff.1 hi).1
  exact h.same (c1 i _ us (List.getElem?_eq_getElem aL) hi) w hw m
 now:=⟨_,Z,.inl λv w=>rfl⟩
theorem B3.field{α:Type} [DecidableEq α] {pp:Rp α}{ac:Bool}{dep n:Nat}{f:Field}{s:St}{X:Halt->St->Prop}(h:B3 P f.type pp ac dep)(hd:dep<=n)(ag:f.name≠ "_"){E E':LH}{us Y:Lv_}{x y:α}(r1:pp.r E us x)(r2:pp.r E' Y y){cx Z:Av_}
  (w1:∀j w,us[j]? =some w->cx[f.offset+j]? =some w) (w2:∀j w,Y[j]? =some w->Z[f.offset+j]? =some w) {K:ForInStep (Option Bool×Unit)->St->Prop} (O:K (if x=y then .yield (none,()) else .done (some false,())) s):
  lp P (if f.name≠ "_" then do
   if !(← Op.equalIn n f.type (← Go.part f.type cx f.offset) (← Go.part f.type Z f.offset)) then pure (ForInStep.done (some false,())) else pure (ForInStep.yield (none,()))
   else pure (ForInStep.yield (none,()))) s K X:=by
 rw [if_pos ag]
 refine As _ _ (KO h.agg (by rw [pp.len r1];exact h.size) (λq=>by rw [pp.len r1];exact h.one q) w1 ?_)
 refine As _ _ (KO h.agg (by rw [pp.len r2];exact h.size) (λq=>by rw [pp.len r2];exact h.one q) w2 ?_)
 refine As _ _ (h.eq hd r1 r2 ?_)
 by_cases U:x=y
 ·rw [if_pos U] at O;simpa [lp,pure,U] using O
 ·rw [if_neg U] at O;simpa [lp,pure,U] using O
theorem B3.LX{α:Type} [DecidableEq α] {pp:Rp α}{O em:Bool}{dep n:Nat}{f:Field}{s:St}{X:Halt->St->Prop}(h:B3 P f.type pp O dep)(hd:dep<=n)(U:f.name≠ "_"){E:LH}{us:Lv_}{x:α}(r1:pp.r E us x){cx:Av_}
  (w1:∀j w,us[j]? =some w->cx[f.offset+j]? =some w) {K:ForInStep Unit->St->Prop} (Y:K (.yield ()) s):
  lp P (if f.name≠ "_" then do
   Instr.checkKey em n f.type (← Go.part f.type cx f.offset)
   pure (ForInStep.yield ())
   else pure (ForInStep.yield ())) s K X:=by
 rw [if_pos U]
 refine As _ _ (KO h.agg (by rw [pp.len r1];exact h.size) (λq=>by rw [pp.len r1];exact h.one q) w1 ?_)
 refine As _ _ (h.BK hd r1 ?_)
 exact Y
theorem K2{us r:Lv_}{o:Nat}(K:o=0):∀j w,us[j]? =some w->(us++r).toArray[o+j]? =some w:=λj w h=>by subst K;exact R5 (l:= []) j w h
theorem NJ{l us r:Lv_}{o:Nat}(K:o=l.length):∀j w,us[j]? =some w->(l++(us++r)).toArray[o+j]? =some w:=λj w h=>by
 subst K
 have:=R5 (l:=l) (r:=r) j w h
 rwa [List.append_assoc] at this
theorem NN{l us:Lv_}{o:Nat}(K:o=l.length):∀j w,us[j]? =some w->(l++us).toArray[o+j]? =some w:=λj w h=>by
 have:=NJ (r:= []) K j w h
 rwa [List.append_nil] at this
theorem Pr{l m us:Lv_}{o:Nat}(K:o=l.length+m.length):∀j w,us[j]? =some w->(l++(m++us)).toArray[o+j]? =some w:=λj w h=>by
 have:=NN (l:=l++m) (o:=o) (by simp [K]) j w h
 rwa [List.append_assoc] at this
theorem B3.two{α β:Type} [DecidableEq α] [DecidableEq β] {p1:Rp α}{p2:Rp β}{a1 ap:Bool}{dep:Nat}{f1 f2:Field}(K:P.underlying t=some (.struct #[f1,f2]))(O:B3 P f1.type p1 a1 dep)(U:B3 P f2.type p2 ap dep)(aq:P.stoodInHeld t=false)
  (n1:f1.name≠ "_") (n2:f2.name≠ "_") (ac:f1.offset=0) (ag:f2.offset=p1.n) (ar:Be P t=some (p1.n+p2.n)):B3 P t (rP p1 p2) true (dep+1) where
 agg:=by unfold Dd;rw [K]
 size:=ar
 one:=λh=>by cases h
 eq {n E E' ws ws' x y s Q X} au al av k:=by
  obtain⟨n,rfl⟩:∃m,n=m+1:=⟨n - 1,by omega⟩;obtain⟨am,an,rfl,r1,r2⟩:=al;obtain⟨v1,v2,rfl,Y,ao⟩:=av;simp only [Hg,if_true];unfold Op.equalIn;refine As _ _ (Cj K ?_);refine As (x:=program) _ ?_;show lp P (if P.stoodInHeld t=true then _ else _) s _ _
  rw [if_neg (by rw [aq];exact Bool.false_ne_true)]
  dsimp only;rw [← Array.forIn_toList];simp only [List.forIn_cons,List.forIn_nil];refine As _ _ (As _ _ (O.field (by omega) n1 r1 Y (K2 ac) (K2 ac) ?_));by_cases Z:x.1=y.1
  ·rw [if_pos Z];refine As _ _ (U.field (by omega) n2 r2 ao (NN (ag.trans (p1.len r1).symm)) (NN (ag.trans (p1.len Y).symm)) ?_);by_cases e2:x.2=y.2
   ·have e:x=y:=Prod.ext Z e2;rw [if_pos e2];simpa [lp,pure,e] using k
   ·have e:¬x=y:=λq=>e2 (by rw [q]);rw [if_neg e2];simpa [lp,pure,e] using k
  ·have e:¬x=y:=λq=>Z (by rw [q]);rw [if_neg Z];simpa [lp,pure,e] using k
 BK {n em E ws x s Q X} au al k:=by
  obtain⟨n,rfl⟩:∃m,n=m+1:=⟨n - 1,by omega⟩;obtain⟨am,an,rfl,r1,r2⟩:=al;simp only [Hg,if_true];unfold Instr.checkKey;refine As _ _ (Cj K ?_)
  dsimp only;rw [← Array.forIn_toList];simp only [List.forIn_cons,List.forIn_nil];refine As _ _ (As _ _ (O.LX (by omega) n1 r1 (K2 ac) ?_));refine As _ _ (U.LX (by omega) n2 r2 (NN (ag.trans (p1.len r1).symm)) ?_);exact k
 uniq {E E' ws ws' x} a b:=by
  obtain⟨am,an,rfl,r1,r2⟩:=a;obtain⟨v1,v2,rfl,Y,ao⟩:=b;rw [O.uniq r1 Y,U.uniq r2 ao]
 same {E ws x} a w hw m:=by
  obtain⟨am,an,rfl,r1,r2⟩:=a;rcases List.mem_append.1 hw with hw | hw
  ·exact O.same r1 w hw m
  ·exact U.same r2 w hw m
 now:=⟨_,K,.inl λv w=>rfl⟩
theorem B3.three{α β aw:Type} [DecidableEq α] [DecidableEq β] [DecidableEq aw] {p1:Rp α}{p2:Rp β}{p3:Rp aw}{a1 az aA:Bool}{dep:Nat}{f1 f2 f3:Field}(O:P.underlying t=some (.struct #[f1,f2,f3]))(U:B3 P f1.type p1 a1 dep)(Y:B3 P f2.type p2 az dep)(Z:B3 P f3.type p3 aA dep)(aB:P.stoodInHeld t=false)
  (n1:f1.name≠ "_") (n2:f2.name≠ "_") (ay:f3.name≠ "_") (am:f1.offset=0) (an:f2.offset=p1.n) (ao:f3.offset=p1.n+p2.n) (aC:Be P t=some (p1.n+(p2.n+p3.n))):B3 P t (rP p1 (rP p2 p3)) true (dep+1) where
 agg:=by unfold Dd;rw [O]
 size:=aC
 one:=λh=>by cases h
 eq {n E E' ws ws' x y s Q X} aD ap aE k:=by
  obtain⟨n,rfl⟩:∃m,n=m+1:=⟨n - 1,by omega⟩;obtain⟨aq,_,rfl,r1,ar,au,rfl,r2,r3⟩:=ap;obtain⟨v1,_,rfl,K,v2,aF,rfl,ac,av⟩:=aE;simp only [Hg,if_true];unfold Op.equalIn;refine As _ _ (Cj O ?_);refine As (x:=program) _ ?_;show lp P (if P.stoodInHeld t=true then _ else _) s _ _
  rw [if_neg (by rw [aB];exact Bool.false_ne_true)]
  dsimp only;rw [← Array.forIn_toList];simp only [List.forIn_cons,List.forIn_nil];refine As _ _ (As _ _ (U.field (by omega) n1 r1 K (K2 am) (K2 am) ?_));by_cases ag:x.1=y.1
  ·rw [if_pos ag];refine As _ _ (Y.field (by omega) n2 r2 ac (NJ (an.trans (p1.len r1).symm)) (NJ (an.trans (p1.len K).symm)) ?_);by_cases e2:x.2.1=y.2.1
   ·rw [if_pos e2];refine As _ _ (Z.field (by omega) ay r3 av (Pr (by rw [ao,p1.len r1,p2.len r2])) (Pr (by rw [ao,p1.len K,p2.len ac])) ?_);by_cases al:x.2.2=y.2.2
    ·have e:x=y:=Prod.ext ag (Prod.ext e2 al);rw [if_pos al];simpa [lp,pure,e] using k
    ·have e:¬x=y:=λq=>al (by rw [q]);rw [if_neg al];simpa [lp,pure,e] using k
   ·have e:¬x=y:=λq=>e2 (by rw [q]);rw [if_neg e2];simpa [lp,pure,e] using k
  ·have e:¬x=y:=λq=>ag (by rw [q]);rw [if_neg ag];simpa [lp,pure,e] using k
 BK {n em E ws x s Q X} aD ap k:=by
  obtain⟨n,rfl⟩:∃m,n=m+1:=⟨n - 1,by omega⟩;obtain⟨aq,_,rfl,r1,ar,au,rfl,r2,r3⟩:=ap;simp only [Hg,if_true];unfold Instr.checkKey;refine As _ _ (Cj O ?_)
  dsimp only;rw [← Array.forIn_toList];simp only [List.forIn_cons,List.forIn_nil];refine As _ _ (As _ _ (U.LX (by omega) n1 r1 (K2 am) ?_));refine As _ _ (Y.LX (by omega) n2 r2 (NJ (an.trans (p1.len r1).symm)) ?_);refine As _ _ (Z.LX (by omega) ay r3 (Pr (by rw [ao,p1.len r1,p2.len r2])) ?_);exact k
 uniq {E E' ws ws' x} a b:=by
  obtain⟨aq,_,rfl,r1,ar,au,rfl,r2,r3⟩:=a;obtain⟨v1,_,rfl,K,v2,aF,rfl,ac,av⟩:=b;rw [U.uniq r1 K,Y.uniq r2 ac,Z.uniq r3 av]
 same {E ws x} a w hw m:=by
  obtain⟨aq,_,rfl,r1,ar,au,rfl,r2,r3⟩:=a;rcases List.mem_append.1 hw with hw | hw
  ·exact U.same r1 w hw m
  ·rcases List.mem_append.1 hw with hw | hw
   ·exact Y.same r2 w hw m
   ·exact Z.same r3 w hw m
 now:=⟨_,O,.inl λv w=>rfl⟩
theorem B3.key{α:Type} [DecidableEq α] {pp:Rp α}{K:Bool}{dep:Nat}(h:B3 P t pp K dep)(hd:dep<=10000):Gp P t pp K where
 BK:=by
  rintro em E v x s Q X ⟨ws,Y,rfl⟩ k;exact h.BK hd Y k
 kind:=by
  obtain⟨kd,O,Z⟩:=h.now;refine⟨kd,O,Z.imp id λac=>?_⟩;rintro E v w x y ⟨ws,r1,rfl⟩ ⟨ws',r2,rfl⟩;exact ac r1 r2
 eq:=by
  rintro E v w x y s Q X ⟨ws,r1,rfl⟩ ⟨ws',r2,rfl⟩ k;exact h.eq hd r1 r2 k
 same:=by
  rintro E v x ⟨ws,r1,rfl⟩;cases K with
  | false=>
   obtain⟨w,rfl⟩:∃w,ws= [w]:=by
    have:=(pp.len r1).trans (h.one rfl)
    match ws,this with
    | [w],_=>exact⟨w,rfl⟩
   exact h.same r1 w (by simp) 9999
  | true=>
   show(ws.toArray.size==ws.toArray.size&&(ws.toArray.toList.zip ws.toArray.toList).all λ(x,y)=>Instr.sameBits 9999 x y)=true;rw [Bool.and_eq_true];refine⟨by simp,List.all_eq_true.2 ?_⟩;rintro⟨a,b⟩ ag;have O:∀(l:Lv_) a b,(a,b)∈l.zip l->a=b/\a∈l:=by
    intro l
    induction l with
    | nil=>intro a b h;simp at h
    | cons c l U=>
     intro a b h;simp only [List.zip_cons_cons,List.mem_cons,Prod.mk.injEq] at h;rcases h with⟨rfl,rfl⟩ | h
     ·exact⟨rfl,by simp⟩
     ·exact⟨(U a b h).1,List.mem_cons_of_mem _ (U a b h).2⟩
   obtain⟨rfl,hm⟩:=O _ a b ag;exact h.same r1 a (by simpa using hm) 9998
 uniq:=by
  rintro E v w x ⟨ws,r1,rfl⟩ ⟨ws',r2,rfl⟩;rw [h.uniq r1 r2]
section
variable {s:St}{ρ:Operand->Value}{x y:Operand}{d:Option Tmp}{u ty:TypeId}{p:String}{af:Ae_}{g:On_}{E E':LH}{ws ws':Lv_}
theorem SG{α:Type} [DecidableEq α] {pp:Rp α}{dep:Nat}{a b:α}(h:B3 P t pp true dep)(hd:dep<=10000)(K:P.eqGuardType P.depth t=false)(r1:pp.r E ws a)(r2:pp.r E' ws' b)(O:ρ x= .agg ws.toArray)(U:ρ y= .agg ws'.toArray):Yl P ⟨d,.binOp .neq t x y u,ty,p,af,g⟩ ρ s (.bool (decide (a≠b))):=by
 refine FM (sm:=do eqGuard .neq t x y (ρ x) (ρ y);binOp .neq t (ρ x) (ρ y)) rfl ?_
 rw [O,U];refine As _ _ (Ve (.inr rfl) K ?_);have hb:binOp .neq t (.agg ws.toArray) (.agg ws'.toArray)=(do pure (.bool (!(← Op.equal t (.agg ws.toArray) (.agg ws'.toArray))))):=rfl
 rw [hb];exact As (x:=Op.equal t _ _) _ (h.eq hd r1 r2 ⟨by simp,rfl⟩)
end
end
end Pal
namespace Pal
open Go Go.Conc
theorem Ue{E H:LH}{B:List (Nat×Obj)}(i:Nat){bk:Nat}{o:Obj}(K:Nd E H B)(h:B[i]? =some (bk,o)):∃E',Le E E'/\E' bk=some o/\Nd E' H (B.eraseIdx i)/\Cb (mk E H B) (mk E' H (B.eraseIdx i)):=by
 have an:=List.mem_of_getElem? h;have ao:E bk=none/\H bk=none:=by
  have:∀{B:List (Nat×Obj)},Nd E H B->(bk,o)∈B->E bk=none/\H bk=none:=by
   intro B K O
   induction B with
   | nil=>simp at O
   | cons q B Y=>
    rcases List.mem_cons.1 O with rfl | O
    ·exact⟨K.1,K.2.1⟩
    ·exact Y K.2.2.2 O
  exact this K an
 let E':LH:=λx=>if x=bk then some o else E x
 have ag:E' bk=some o:=by simp [E']
 have hle:Le E E':=λx u U=>by
  have:x≠bk:=λe=>by subst e;rw [ao.1] at U;cases U
  simp [E',this,U]
 have ap:Nd E' H (B.eraseIdx i):=by
  have:∀{B:List (Nat×Obj)} {i:Nat},Nd E H B->B[i]? =some (bk,o)->Nd E' H (B.eraseIdx i)/\∀p∈B.eraseIdx i,p.1≠bk:=by
   intro B
   induction B with
   | nil=>intro i _ h;simp at h
   | cons q B Y=>
    obtain⟨c,v⟩:=q;intro i K h;have up:∀{B:List (Nat×Obj)},Nd E H B->(∀p∈B,p.1≠bk)->Nd E' H B:=by
     intro B K al
     induction B with
     | nil=>trivial
     | cons q B aq=>exact⟨by simpa [E',al q (by simp)] using K.1,K.2.1,K.2.2.1,aq K.2.2.2 λp O=>al p (List.mem_cons_of_mem _ O)⟩
    cases i with
    | zero=>
     simp at h;obtain⟨rfl,rfl⟩:=h;exact⟨up K.2.2.2 K.2.2.1,K.2.2.1⟩
    | succ i=>
     simp at h;obtain⟨Z,ac⟩:=Y K.2.2.2 h;have am:c≠bk:=λe=>K.2.2.1 (bk,o) (List.mem_of_getElem? h) e.symm;refine⟨⟨by simpa [E',am] using K.1,K.2.1,λp O=>K.2.2.1 p (List.mem_of_mem_eraseIdx O),Z⟩,λp O=>?_⟩;rcases List.mem_cons.1 O with rfl | O
     ·exact am
     ·exact ac p O
  exact(this K h).1
 refine⟨E',hle,ag,ap,⟨λx u U=>hle x u U,λx u U=>(Lt K h U).2,λx u U=>?_,rfl⟩⟩;by_cases e:x=bk
 ·subst e;right;have:u=o:=by have:E' x=some u:=U;rw [ag] at this;exact(Option.some.inj this).symm
  subst this;refine⟨IZ K h,?_⟩;cases ar:(mk E' H (B.eraseIdx i)).H x with
  | none=>rfl
  | some y=>exact absurd rfl (Lt K h ar).1
 ·left;have Z:E' x=some u:=U;have ac:E' x=E x:=by simp [E',e]
  show E x=some u;rw [← ac];exact Z
theorem T7{E H:LH}{B0:List (Nat×Obj)}{e:TypeId}{K l c:Nat}{a:Option Addr}{blk:List (Nat×Obj)}{xs:Lv_}(ag:GS e K a l c blk xs)(U:Nd E H (B0++blk)):∃E',Le E E'/\NY E' K (.slice a l c) l xs/\Nd E' H B0/\Cb (mk E H (B0++blk)) (mk E' H B0):=by
 rcases ag with⟨rfl,rfl,rfl,rfl,rfl⟩ | ⟨bk,f,rfl,rfl,al,Y,rfl⟩
 ·simp only [List.append_nil] at U ⊢;exact⟨E,Le.refl _,.nil,U,.refl _⟩
 ·have am:(B0++ [(bk,Obj.cells f e (0,0))])[B0.length]? =some (bk,Obj.cells f e (0,0)):=by simp
  obtain⟨E',hle,an,Z,ac⟩:=Ue B0.length U am;have ao:(B0++ [(bk,Obj.cells f e (0,0))]).eraseIdx B0.length=B0:=by rw [List.eraseIdx_append_of_length_le (Nat.le_refl _)];simp
  rw [ao] at Z ac;refine⟨E',hle,⟨_,c,rfl,Y,?_,.inr ⟨bk,0,f,e,(0,0),rfl,an,λj w O=>?_⟩⟩,Z,ac⟩
  ·have:l*K<=c*K:=Nat.mul_le_mul_right _ Y;simp [al,Nat.min_eq_left this]
  ·rw [List.getElem?_take] at O;split at O
   ·simpa using O
   ·cases O
theorem Ub{α:Type}{pp:Rp α}{E H:LH}{S:List Seg}{e:TypeId}{a:Option Addr}{c:Nat}{seg:Seg}{xs:List α}(j:Nat)(U:OL e pp E a c seg xs)(an:Ap E H S)(ao:S[j]? =some seg):∃E',Le E E'/\Am pp E' a c xs/\Ap E' H (S.set j [])/\Cb (Aj E H S) (Aj E' H (S.set j [])):=by
 obtain⟨wss,U,ac,ag⟩:=U;have ap:∀ad:Addr,a=some ad->ad.spot=none:=λad K=>by
  rcases U with⟨O,_⟩ | ⟨bk,f,O,_⟩
  ·rw [O] at K;cases K
  ·rw [O] at K;cases K;rfl
 obtain⟨O,aq⟩:=G4 an ao;obtain⟨E',hle,ar,au,al⟩:=T7 U aq;rw [← O] at al;refine⟨E',hle,?_,au,al⟩;obtain⟨av,aw,Y,ay,aD,Z⟩:=ar;obtain⟨rfl,-,rfl⟩:a=av/\xs.length=xs.length/\c=aw:=by
  simp only [Value.slice.injEq] at Y;exact⟨Y.1,rfl,Y.2.2⟩
 refine⟨ay,?_⟩;rcases Z with Z | ⟨bk,off,f,az,fr,aA,g2,aB⟩
 ·exact .inl ⟨List.eq_nil_of_length_eq_zero Z,λad K=> .inl (ap ad K)⟩
 ·refine .inr ⟨bk,off,aA,λi x am=>?_⟩;have aC:i<wss.length:=by rw [ac];exact(List.getElem?_eq_some_iff.1 am).1
  have hw:=List.getElem?_eq_getElem aC;refine⟨wss[i],pp.Ag hle (ag i x _ am hw),f,az,fr,g2,λm w hm=>?_⟩;rw [Nat.add_assoc];exact aB _ w (J6 (HX ac ag) hw m w hm)
theorem Cb.get{s s₀:St}(h:Cb s s₀){b:Nat}{o:Obj}(K:s₀.get b=some o):s.get b=some o:=by
 unfold St.get at K ⊢;cases O:s₀.E b with
 | some o'=>
  rw [O] at K;simp only at K;cases K;rcases h.EB _ _ O with U | ⟨U,_⟩
  ·rw [U]
  ·cases he:s.E b with
   | none=>exact U
   | some Y=>
    have:=h.ext _ _ he;rw [O] at this;cases this;rfl
 | none=>
  rw [O] at K;simp only at K;cases he:s.E b with
  | none=>exact h.own _ _ K
  | some Y=>
   have:=h.ext _ _ he;rw [O] at this;cases this
theorem Cb.upd{s s₀:St}(h:Cb s s₀){b:Nat}(o:Obj)(hb:(∃u,s₀.H b=some u)∨s₀.E b=none):Cb (s.upd b o) (s₀.upd b o):=by
 refine⟨h.ext,λx u K=>?_,λx u K=>?_,h.q⟩
 ·simp only [St.upd] at K ⊢;by_cases e:x=b
  ·rw [if_pos e] at K ⊢;exact K
  ·rw [if_neg e] at K ⊢;exact h.own _ _ K
 ·have O:s₀.E x=some u:=K;rcases h.EB _ _ O with U | ⟨U,Y⟩
  ·exact .inl U
  ·refine .inr ?_;have e:x≠b:=λe=>by
    subst e;rcases hb with⟨w,hw⟩ | hb
    ·rw [hw] at Y;cases Y
    ·rw [hb] at O;cases O
   simp only [St.upd,if_neg e];exact⟨U,Y⟩
theorem Cb.none{s s₀:St}(h:Cb s s₀){b:Nat}(U:s.E b=none)(O:s.H b=none):s₀.E b=none/\s₀.H b=none:=by
 constructor
 ·cases he:s₀.E b with
  | none=>rfl
  | some o=>
   rcases h.EB _ _ he with K | ⟨K,_⟩
   ·rw [U] at K;cases K
   ·rw [O] at K;cases K
 ·cases he:s₀.H b with
  | none=>rfl
  | some o=>have:=h.own _ _ he;rw [O] at this;cases this
theorem Wp{P:Program}{α:Type}(x:Sem α):∀{s s₀:St} {Q:α->St->Prop} {X:Halt->St->Prop},Cb s s₀->lp P x s₀ Q X->lp P x s (λa s'=>∃Z,Cb s' Z/\Q a Z) (λh s'=>∃Z,Cb s' Z/\X h Z):=by
 induction x with
 | pure a=>intro s s₀ Q X g h;exact⟨s₀,g,h⟩
 | load m a k K=>
  intro s s₀ Q X g h;obtain⟨O,v,U,Y⟩:=h;obtain⟨o,al,am⟩:=Option.bind_eq_some_iff.1 U;exact⟨O,v,by unfold St.cell?;rw [g.get al];exact am,K v g Y⟩
 | store m a v k K=>
  intro s s₀ Q X g h;obtain⟨O,U,o,Y,an,ao,ap⟩:=h;exact⟨O,U,o,g.own _ _ Y,an,ao,K (g.upd _ (.inl ⟨o,Y⟩)) ap⟩
 | new o k K=>
  intro s s₀ Q X g h;refine⟨by rw [← g.q];exact h.1,λr O U=>?_⟩;obtain⟨ag,e2⟩:=g.none O U;exact K r (g.upd _ (.inr ag)) (h.2 r ag e2)
 | shape r k K=>intro s s₀ Q X g h;obtain⟨o,O,U⟩:=h;exact⟨o,g.get O,K _ g U⟩
 | freeze a n k K=>intro s s₀ Q X g h;exact h.elim
 | frozen a k K=>intro s s₀ Q X g h;obtain⟨o,O,U⟩:=h;exact⟨o,g.get O,K _ g U⟩
 | getObj r k K=>intro s s₀ Q X g h;obtain⟨o,O,U,Y⟩:=h;exact⟨o,g.get O,U,K _ g Y⟩
 | setObj r o k K=>
  intro s s₀ Q X g h;obtain⟨⟨o',O,aq⟩,U,Y⟩:=h;exact⟨⟨o',g.own _ _ O,aq⟩,U,K (g.upd _ (.inl ⟨o',O⟩)) Y⟩
 | choose q k K=>
  intro s s₀ Q X g h;simp only [lp] at h ⊢;split
  ·rename_i ac;rw [if_pos ac] at h;exact K _ g h
  ·rename_i ac;rw [if_neg ac] at h;exact⟨by rw [← g.q];exact h.1,λt=>K _ g (h.2 t)⟩
 | sys c k K=>intro s s₀ Q X g h;exact h.elim
 | program k K=>intro s s₀ Q X g h;exact K _ g h
 | mark m k K=>
  intro s s₀ Q X g h;refine⟨?_,K g h.2⟩;rcases h.1 with⟨O,U⟩ | O
  ·exact .inl ⟨by rw [← g.q];exact O,U⟩
  ·exact .inr O
 | halt h=>intro s s₀ Q X g ar;exact⟨s₀,g,ar⟩
section
variable {P:Program}{J:Judge P}{Q:Gs_}{b:Frame}{n:Nat}{ds:Ld_}{ops:Ao_}{k:Li_}{cs:Lf_}{m fuel:Nat}{D:Nat->Bool}{listed:Array Bool}{L:Env}{s:St}{E E' H:LH}{S:List Seg}
variable {d:Option Tmp}{x y:Operand}{t u ty e:TypeId}{p:String}{af:Ae_}{g:On_}{v:Value}{i:Nat}{kd:IntKind}
theorem Q2{f:FuncId}{args:Array Operand}{ats:Array TypeId}{vs:Lv_}{seg:Seg}{R:Value->LH->Seg->Prop}(j:Nat)(av:∀x,D x=true->∃(O:Nat) (o:Obj),(S.set j [])[O]? =some [(x,o)])(aw:AR J f vs E seg R)(ay:Region.ready .any ops listed= [i])
  (az:ops[i]? =some ⟨d,.call ⟨.value (.func f),args,ats⟩,ty,p,af,g⟩) (aA:A9 n d=true) (hw:AI L ops ⟨d,.call ⟨.value (.func f),args,ats⟩,ty,p,af,g⟩=some true) (hb:Dw P f=true) (aB:evs L args.toList=some vs) (Z:Ap E H S) (ac:S[j]? =some seg)
  (aC:∀v E' seg',Le E E'->R v E' seg'->Ap E' H (S.set j seg')->AJ J Q b n ds ops k cs m D fuel (A4 listed i) (Av L d v) (Aj E' H (S.set j seg'))):
  AJ J Q b n ds ops k cs m D (fuel+1) listed L (Aj E H S):=by
 have al:S.flatten.Perm (seg++(S.set j []).flatten):=(Ef (seg':=seg) ac).1.trans List.perm_append_comm;have am:Nd E H (seg++(S.set j []).flatten):=Nd.perm Z al;have aD:Aj E H S=mk E (Bb (S.set j []).flatten H) seg:=by
  rw [show Aj E H S=mk E H S.flatten from rfl,Fa Z al];unfold mk;rw [FN]
 have an:=EF.Lj (aw (Bb (S.set j []).flatten H) (Nd.front am)) (by rintro v s' ⟨E',B',_,_,_,rfl⟩;rfl);rw [← aD] at an;refine AJ.call rfl ay az aA hw hb aB an ?_;rintro v aM ⟨⟨E',B',hle,aE,aF,rfl⟩,w,aG⟩;have e2:mk E' (Bb (S.set j []).flatten H) B'=mk E' H (B'++(S.set j []).flatten):=by unfold mk;rw [FN]
 have aH:Nd E H (S.set j []).flatten:=by
  have:=am;rw [Nd.iff] at this ⊢;rw [List.map_append,List.nodup_append] at this;exact⟨this.1.2.1,λq aI=>this.2 q (List.mem_append_right _ aI)⟩
 have aJ:Nd E' H (S.set j []).flatten:=aH.grow λx U=>by
  have aK:=aG.d x U;have ag:Bb B' (Bb (S.set j []).flatten H) x=none:=aK;exact(HT ag).1
 have ao:Nd E' H (B'++(S.set j []).flatten):=Nd.glue aF aJ;have ap:(B'++(S.set j []).flatten).Perm (S.set j B').flatten:=List.perm_append_comm.trans (Ef ac).2.symm;have aq:Ap E' H (S.set j B'):=Nd.perm ao ap;rw [e2,Fa ao ap];refine⟨rfl,λx o U=>?_,aC v E' B' hle aE aq⟩;by_cases hd:D x=true
 ·obtain⟨O,o',Y⟩:=av x hd;have ar:j≠O:=λh=>by
   subst h;rw [List.getElem?_set_self (List.getElem?_eq_some_iff.1 ac).1] at Y;cases Y
  have au:S[O]? =some [(x,o')]:=by rw [List.getElem?_set_ne ar] at Y;exact Y
  have ag:(Aj E H S).get x=some o':=DO (i:=0) Z au rfl;have aL:(Aj E' H (S.set j B')).get x=some o':=DO (i:=0) aq (by rw [List.getElem?_set_ne ar];exact au) rfl;have K:(if D x then(Aj E H S).get x else E x)=some o:=U
  show(if D x then(Aj E' H (S.set j B')).get x else E' x)=some o
  rw [if_pos hd] at K ⊢;rw [aL,← ag];exact K
 ·have K:(if D x then(Aj E H S).get x else E x)=some o:=U
  show(if D x then(Aj E' H (S.set j B')).get x else E' x)=some o
  rw [if_neg hd] at K ⊢;exact hle _ _ K
theorem AJ.perm{S':List Seg}(K:S.flatten.Perm S'.flatten)(O:Ap E H S)(h:Ap E H S'->AJ J Q b n ds ops k cs m D fuel listed L (Aj E H S')):AJ J Q b n ds ops k cs m D fuel listed L (Aj E H S):=by
 have e:Aj E H S=Aj E H S':=Fa O K;rw [e];exact h (Nd.perm O K)
theorem JA.ghost:∀(fuel:Nat) {listed:Array Bool} {T:Av_} {s s₀:St},Cb s s₀->JA J Q b ds ops k cs m CN fuel listed T s₀->JA J Q b ds ops k cs m CN fuel listed T s
 | 0,listed,T,s,s₀,g,h=>⟨h.1,J.ghost g h.2⟩
 | fuel+1,listed,T,s,s₀,g,h=>by
  rcases h with⟨O,U⟩ | ⟨O,U,ac⟩
  ·exact .inl ⟨O,λt=>J.ghost g (U t)⟩
  ·refine .inr ⟨O,by rw [← g.q];exact U,λi hi o ag=>?_⟩;obtain⟨a1,al,am⟩:=ac i hi o ag;refine⟨a1,λe=>JA.ghost fuel g (al e),λe=>?_⟩;have an:=Wp _ (s:=Bu CN s) (s₀:=Bu CN s₀) g (am e);refine Ei _ an ?_ (λ_ s' ⟨_,_,h⟩=>h);intro ao s' K;obtain⟨Y,Z,K⟩:=K;cases ao with
   | value v=>exact JA.ghost fuel (s:=s') (s₀:=Y) Z K
   | skip=>exact JA.ghost fuel (s:=s') (s₀:=Y) Z K
   | enter f args=>
    obtain⟨R,ap,aq⟩:=K;refine⟨R,λQ c cs ar=>J.ghost (s:=s') (s₀:=Y) Z (ap Q c cs ar),λv au av=>?_⟩;obtain⟨aw,ay,az⟩:=aq v au av;exact⟨aw,λx o K=>ay x o (g.ext x o K),az⟩
   | _=>exact K.elim
theorem F0{α:Type}{pp:Rp α}{a:Option Addr}{c:Nat}{seg:Seg}{xs:List α}(j:Nat)(K:OL e pp E a c seg xs)(O:Ap E H S)(U:S[j]? =some seg)
  (h:∀E',Le E E'->Am pp E' a c xs->Ap E' H (S.set j [])->AJ J Q b n ds ops k cs m CN fuel listed L (Aj E' H (S.set j []))):AJ J Q b n ds ops k cs m CN fuel listed L (Aj E H S):=λT Y=>by
 obtain⟨E',Z,ac,ag,al⟩:=Ub j K O U
 exact JA.ghost _ al (h E' Z ac ag T Y)
end
end Pal
namespace Pal
open Go Go.Conc
theorem oi{α:Type}{a b:α}(h:some a=some b):a=b:=Option.some.inj h
theorem bs{α β:Type}{o:Option α}{f:α->Option β}{r:β}(h:o.bind f=some r):∃x,o=some x/\f x=some r:=bind_some h
def H3(L:Env):Env->List (Option Value)
 | []=> []
 | (t,_)::L'=>look L t::H3 L L'
def Ia:Env->List (Option Value)
 | []=> []
 | (_,v)::L'=>some v::Ia L'
theorem Nq{L:Env}:∀{L':Env},H3 L L'=Ia L'->Sub L' L
 | [],_=>trivial
 | (t,v)::L',h=>by
  simp only [H3,Ia,List.cons.injEq] at h
  exact⟨h.1,Nq h.2⟩
section
variable {P:Program}{J:Judge P}{Q:Gs_}{b:Frame}{n:Nat}{L L':Env}{ds:Ld_}{k k':Li_}{cs:Lf_}{s:St}{ops:Ao_}{i:Nat}{rest:List Nat}{v:Value}
variable {d:Option Tmp}{op:Op}{ty:TypeId}{p:String}{af:Ae_}{g:On_}
theorem Et(L':Env)(h:H3 L L'=Ia L')(k':JL J Q b n L' ds k cs s):JL J Q b n L ds k cs s:=Fi (Nq h) k'
theorem AE(k':JL J Q b n L' ds k cs s)(h:H3 L L'=Ia L'):JL J Q b n L ds k cs s:=Fi (Nq h) k'
def Fw(b:Frame)(n:Nat)(L:Env)(ops:Ao_)(i:Nat):Option Oper:=
 match Jb ops.toList i with
 | some ⟨d,op,ty,p,af,g⟩=>match AI L ops ⟨d,op,ty,p,af,g⟩ with
  | some true=>match BK b n ⟨d,op,ty,p,af,g⟩ with
   | true=>some ⟨d,op,ty,p,af,g⟩
   | false=>none
  | _=>none
 | none=>none
theorem Ka{o:Oper}(h:Fw b n L ops i=some o):ops[i]? =some o/\AI L ops o=some true/\BK b n o=true:=by
 unfold Fw at h;split at h
 ·rename_i K;rw [KT,Array.getElem?_toList] at K;split at h
  ·rename_i hw;split at h
   ·rename_i O;cases h;exact⟨K,hw,O⟩
   ·cases h
  ·cases h
 ·cases h
theorem Al(K:Fw b n L ops i=some ⟨d,op,ty,p,af,g⟩)(h:∀ρ,ER L ρ->Yl P ⟨d,op,ty,p,af,g⟩ ρ s v)(O:JL J Q b n (Av L d v) ds (.inRegion ops rest::k) cs s):
  JL J Q b n L ds (.inRegion ops (i::rest)::k) cs s:=
 let ⟨U,Y,Z⟩:=Ka K
 AZ U Y Z h O
theorem PC{f:FuncId}{fn:Func}{c:Code}{E:LH}{vs:Lv_}{B:Seg}{R:Value->LH->Seg->Prop}(O:P.funcs[f]? =some fn)(hb:fn.body=some c)(U:Nat.ble vs.length fn.ntmps=true)
  (h:∀(Q:Gs_) (K:Frame) (cs:Lf_) (H:LH),Ap E H [B]->(∀v E' S' B',Le E E'->S'.flatten=B'->R v E' B'->Ap E' H S'->J.ok Q (G (K.finish v) cs) (Aj E' H S'))->JL J Q (base f) fn.ntmps (F6 0 vs) [] [.code c] (K::cs) (Aj E H [B])):AR J f vs E B R:=
 AR.enter O hb (Nat.le_of_ble_eq_true U) h
def NW(n:Nat)(L:Env)(ops:Ao_)(i:Nat):Option Env:=
 match Jb ops.toList i with
 | some ⟨d,op,ty,p,af,g⟩=>match AI L ops ⟨d,op,ty,p,af,g⟩ with
  | some true=>match A9 n d with
   | true=>match Kq L op with
    | some v=>match d with
     | some d=>some ((d,v)::L)
     | none=>some L
    | none=>none
   | false=>none
  | some false=>match A9 n d with
   | true=>match d with
    | some d=>some ((d,undef)::L)
    | none=>some L
   | false=>none
  | none=>none
 | none=>none
def GK(n:Nat)(L:Env)(ops:Ao_)(i:Nat):Option Oper:=
 match Jb ops.toList i with
 | some ⟨d,op,ty,p,af,g⟩=>match AI L ops ⟨d,op,ty,p,af,g⟩ with
  | some true=>match A9 n d with
   | true=>some ⟨d,op,ty,p,af,g⟩
   | false=>none
  | _=>none
 | none=>none
theorem OA{o:Oper}(h:GK n L ops i=some o):ops[i]? =some o/\AI L ops o=some true/\A9 n o.dst=true:=by
 unfold GK at h;split at h
 ·rename_i K;rw [KT,Array.getElem?_toList] at K;split at h
  ·rename_i hw;split at h
   ·rename_i O;cases h;exact⟨K,hw,O⟩
   ·cases h
  ·cases h
 ·cases h
theorem VX(h:NW n L ops i=some L'):∃o,ops[i]? =some o/\A9 n o.dst=true/\((∃v,AI L ops o=some true/\Kq L o.op=some v/\L'=Av L o.dst v)∨(AI L ops o=some false/\L'=Av L o.dst undef)):=by
 unfold NW at h;split at h
 ·rename_i d op ty p af g O;rw [KT,Array.getElem?_toList] at O;refine⟨_,O,?_⟩;split at h
  ·rename_i hw;split at h
   ·rename_i K;refine⟨K,.inl ?_⟩;split at h
    ·rename_i v U;refine⟨v,hw,U,?_⟩;cases d with
     | none=>cases h;rfl
     | some d=>cases h;rfl
    ·cases h
   ·cases h
  ·rename_i hw;split at h
   ·rename_i K;refine⟨K,.inr ⟨hw,?_⟩⟩;cases d with
    | none=>cases h;rfl
    | some d=>cases h;rfl
   ·cases h
  ·cases h
 ·cases h
variable {m:Nat}{D:Nat->Bool}{fuel:Nat}{listed:Array Bool}
theorem DK(i:Nat)(K:DJ ops m=true)(O:s.q=false)(h:NW n L ops i=some L')
  (U:AJ J Q b n ds ops k cs m D fuel (A4 listed i) L' s) (Y:F8 ops listed m i=true:=by decide+kernel):AJ J Q b n ds ops k cs m D (fuel+1) listed L s:=by
 obtain⟨o,Z,ac,⟨v,hw,ag,rfl⟩ | ⟨hw,rfl⟩⟩:=VX h
 ·exact JG.val i Z K Y O hw ac (λρ al s' _=>M9 al ag) U
 ·exact Zv i Z K Y O hw ac U
theorem AP(i:Nat)(K:DJ ops m=true)(O:s.q=false)(U:GK n L ops i=some ⟨d,op,ty,p,af,g⟩)
  (Y:∀ρ,ER L ρ->∀s':St,(∀x o,(Bu D s).E x=some o->s'.E x=some o)->Yl P ⟨d,op,ty,p,af,g⟩ ρ s' v)
  (Z:AJ J Q b n ds ops k cs m D fuel (A4 listed i) (Av L d v) s) (ac:F8 ops listed m i=true:=by decide+kernel):AJ J Q b n ds ops k cs m D (fuel+1) listed L s:=by
 obtain⟨ag,al,am⟩:=OA U;exact JG.val i ag K ac O al am Y Z
end
end Pal
namespace Pal
open Go Go.Conc
abbrev Jn(E H E':LH)(S:List Seg)(K L:Env)(s:St)(R:Prop):Prop:=L=K/\s=Aj E' H S/\Le E E'/\Ap E' H S/\R
abbrev Jm(E H E':LH)(S:List Seg)(K L:Env)(s:St):Prop:=L=K/\s=Aj E' H S/\Le E E'/\Ap E' H S
def NT(L:Env):List ResultVar->Option (Lv_)
 | []=>some []
 | .tmp t::rs=>match look L t with
  | some v=>match NT L rs with
   | some vs=>some (v::vs)
   | none=>none
  | none=>none
 | _=>none
theorem SH{P:Program}{L:Env}{s:St}:∀{rs:List ResultVar} {vs:Lv_},NT L rs=some vs->RV P L s rs vs
 | [],vs,h=>by cases h;trivial
 | .tmp t::rs,vs,h=>by
  unfold NT at h
  split at h
  ·rename_i v K
   split at h
   ·rename_i ws hw;cases h;exact⟨K,SH hw⟩
   ·cases h
  ·cases h
 | .cell _ _::_,_,h=>by cases h
section
variable {P:Program}{J:Judge P}{Q:Gs_}{b:Frame}{n:Nat}{L L':Env}{ds:Ld_}{k k':Li_}{cs:Lf_}{s:St}{ops:Ao_}{i:Nat}{rest:List Nat}{v:Value}{E H:LH}{S:List Seg}
variable {d:Option Tmp}{op:Op}{x y:Operand}{t ft ty e:TypeId}{p:String}{af:Ae_}{g:On_}
theorem A3{c:Frame}{fn:Func}{vs:Lv_}(O:P.funcs[b.fn]? =some fn)(K:(b.kind== .normal&&b.roundOf.isNone)=true)(U:NT L fn.results.toList=some vs)(h:J.ok Q (G (c.finish (M0 vs)) cs) s):JL J Q b n L [] (.code .ret::k) (c::cs) s:=by
 simp only [Bool.and_eq_true,beq_iff_eq,Option.isNone_iff_eq_none] at K;exact JL.ret K.1 K.2 (Bs.list O rfl (SH U)) h
theorem BX{f:FuncId}{args:Array Operand}{ats:Array TypeId}{vs:Lv_}{R:Value->LH->Seg->Prop}
  (O:AR J f vs E [] R) (U:Fw b n L ops i=some ⟨d,.call ⟨.value (.func f),args,ats⟩,ty,p,af,g⟩) (Y:evs L args.toList=some vs) (hb:Dw P f=true)
  (Z:Ap E H S) (ac:∀v E' seg',Le E E'->R v E' seg'->Ap E' H (S++ [seg'])->JL J Q b n (Av L d v) ds (.inRegion ops rest::k) cs (Aj E' H (S++ [seg']))):
  JL J Q b n L ds (.inRegion ops (i::rest)::k) cs (Aj E H S):=by
 obtain⟨ag,al,K⟩:=Ka U;refine JS.call O ag al ?_ hb Y Z ac;simp only [BK,Bool.and_eq_true] at K ⊢;exact⟨K.1,K.2.1⟩
theorem CG{f:FuncId}{args:Array Operand}{ats:Array TypeId}{vs:Lv_}{v:Value}
  (O:AR J f vs E [] (λw E' B'=>w=v/\B'= [])) (U:Fw b n L ops i=some ⟨d,.call ⟨.value (.func f),args,ats⟩,ty,p,af,g⟩) (Y:evs L args.toList=some vs) (hb:Dw P f=true)
  (K:Ap E H S) (Z:∀E',Le E E'->Ap E' H (S++ [[]])->JL J Q b n (Av L d v) ds (.inRegion ops rest::k) cs (Aj E' H (S++ [[]]))):
  JL J Q b n L ds (.inRegion ops (i::rest)::k) cs (Aj E H S):=BX O U Y hb K (by rintro _ E' _ hle ⟨rfl,rfl⟩ K;exact Z E' hle K)
theorem Ce{f:FuncId}{args:Array Operand}{ats:Array TypeId}{vs:Lv_}{seg:Seg}{R:Value->LH->Seg->Prop}(j:Nat)
  (O:AR J f vs E seg R) (U:Fw b n L ops i=some ⟨d,.call ⟨.value (.func f),args,ats⟩,ty,p,af,g⟩) (Y:evs L args.toList=some vs) (hb:Dw P f=true)
  (Z:Ap E H S) (ac:S[j]? =some seg) (ag:∀v E' seg',Le E E'->R v E' seg'->Ap E' H (S.set j seg')->JL J Q b n (Av L d v) ds (.inRegion ops rest::k) cs (Aj E' H (S.set j seg'))):
  JL J Q b n L ds (.inRegion ops (i::rest)::k) cs (Aj E H S):=by
 obtain⟨al,am,K⟩:=Ka U;refine Ro j O al am ?_ hb Y Z ac ag;simp only [BK,Bool.and_eq_true] at K ⊢;exact⟨K.1,K.2.1⟩
def LY(K:Array Field)(i:Nat):Option (Nat×TypeId):=match K[i]? with
 | some f=>some (f.offset,f.type)
 | none=>none
theorem Bt{r m m':Int}{u:TypeId}(h:Ax (m+m')=some r)(K:Fw b n L ops i=some ⟨d,.binOp .add t x y u,ty,p,af,g⟩)(O:ev L x=some (iV m))(U:ev L y=some (iV m'))
  (Y:JL J Q b n (Av L d (iV r)) ds (.inRegion ops rest::k) cs s):JL J Q b n L ds (.inRegion ops (i::rest)::k) cs s:=Al K (λ_ q=>F2 (q _ _ O) (q _ _ U) h) Y
theorem Ca{r m m':Int}{u:TypeId}(h:Ax (m - m')=some r)(K:Fw b n L ops i=some ⟨d,.binOp .sub t x y u,ty,p,af,g⟩)(O:ev L x=some (iV m))(U:ev L y=some (iV m'))
  (Y:JL J Q b n (Av L d (iV r)) ds (.inRegion ops rest::k) cs s):JL J Q b n L ds (.inRegion ops (i::rest)::k) cs s:=Al K (λ_ q=>Eh (q _ _ O) (q _ _ U) h) Y
theorem JL.ln{a:Option Addr}{e:TypeId}{l c:Nat}{ats:Array TypeId}(K:P.underlying t=some (.slice e))(O:Fw b n L ops i=some ⟨d,.call ⟨.builtin .len,#[x],ats⟩,ty,p,af,g⟩)(U:ats[0]? =some t)(Y:ev L x=some (.slice a l c))
  (Z:JL J Q b n (Av L d (.int .i64 l)) ds (.inRegion ops rest::k) cs s):JL J Q b n L ds (.inRegion ops (i::rest)::k) cs s:=Al O (λ_ q=>Yl.len U K (q _ _ Y)) Z
theorem JL.fd{bk o O off:Nat}{U:Array Field}{Y:Nat}(Z:P.underlying t=some (.struct U))(ac:Be P ft=some (O+1))(ag:Fw b n L ops i=some ⟨d,.fieldAddr t x Y,ty,p,af,g⟩)(al:ev L x=some (.pointer (some ⟨bk,o,none⟩)))(K:LY U Y=some (off,ft))
  (am:JL J Q b n (Av L d (.pointer (some ⟨bk,o+off,none⟩))) ds (.inRegion ops rest::k) cs s):
  JL J Q b n L ds (.inRegion ops (i::rest)::k) cs s:=by
 unfold LY at K;split at K
 ·rename_i f an;cases K;refine Al ag (λρ h=>Ct (a:=⟨bk,o,none⟩) O f.offset Z ac an rfl rfl (h _ _ al)) ?_;rw [DI rfl];exact am
 ·cases K
theorem Da{bk o:Nat}{ws:Lv_}(j:Nat)(K:At E bk o ws)(O:Dd P t=some false)(U:Fw b n L ops i=some ⟨d,.load t x,ty,p,af,g⟩)(Y:ev L x=some (.pointer (some ⟨bk,o+j,none⟩)))(Z:ws[j]? =some v)
  (ac:JL J Q b n (Av L d v) ds (.inRegion ops rest::k) cs (Aj E H S)):
  JL J Q b n L ds (.inRegion ops (i::rest)::k) cs (Aj E H S):=
 Al U (λ_ h=>Yl.load O (h _ _ Y) (At.K5 K Z)) ac
theorem ZZ{bk off:Nat}{c:Av_}(j:Nat)(K:Ap E H S)(O:Be P t=some v.cells.size)(U:Fw b n L ops i=some ⟨d,.store t x y,ty,p,af,g⟩)
  (Y:ev L x=some (.pointer (some ⟨bk,off,none⟩))) (Z:ev L y=some v) (ac:S[j]? =some [(bk,.cells c e (0,0))])
  (h:Ap E H (S.set j [(bk,.cells (A8 c off v.cells.toList) e (0,0))])->JL J Q b n (Av L d undef) ds (.inRegion ops rest::k) cs (Aj E H (S.set j [(bk,.cells (A8 c off v.cells.toList) e (0,0))])))
  (hle:off+v.cells.size<=c.size:=by exact Nat.le_of_ble_eq_true rfl) (ag:∀u∈v.cells.toList,C8 u=true:=by simp [Value.cells,C8]):
  JL J Q b n L ds (.inRegion ops (i::rest)::k) cs (Aj E H S):=by
 obtain⟨al,am,an⟩:=Ka U;exact JS.store j al am an K Y Z O ag ac hle h
theorem Cd{bk o:Nat}{ws:Lv_}(K:At E bk o ws)(O:Dd P t=some true)(U:Be P t=some ws.length)(Y:Fw b n L ops i=some ⟨d,.load t x,ty,p,af,g⟩)(Z:ev L x=some (.pointer (some ⟨bk,o,none⟩)))
  (ac:JL J Q b n (Av L d (.agg ws.toArray)) ds (.inRegion ops rest::k) cs (Aj E H S)):
  JL J Q b n L ds (.inRegion ops (i::rest)::k) cs (Aj E H S):=
 Al Y (λ_ h=>Fz O U (h _ _ Z) (At.Pl K)) ac
variable {m:Nat}{D:Nat->Bool}{fuel:Nat}{listed:Array Bool}
theorem JG.fd{bk o O off:Nat}{U:Array Field}{Y:Nat}(i:Nat)(Z:DJ ops m=true)(ac:P.underlying t=some (.struct U))(ag:Be P ft=some (O+1))(al:s.q=false)(am:GK n L ops i=some ⟨d,.fieldAddr t x Y,ty,p,af,g⟩)(an:ev L x=some (.pointer (some ⟨bk,o,none⟩)))(K:LY U Y=some (off,ft))
  (ao:AJ J Q b n ds ops k cs m D fuel (A4 listed i) (Av L d (.pointer (some ⟨bk,o+off,none⟩))) s) (ap:F8 ops listed m i=true:=by decide+kernel):AJ J Q b n ds ops k cs m D (fuel+1) listed L s:=by
 unfold LY at K;split at K
 ·rename_i f aq;cases K;refine AP i Z al am (λρ h _ _=>Ct (a:=⟨bk,o,none⟩) O f.offset ac ag aq rfl rfl (h _ _ an)) ?_ ap;rw [DI rfl];exact ao
 ·cases K
theorem EM{bk o:Nat}{ws:Lv_}(i:Nat)(K:DJ ops m=true)(j:Nat)(O:At (Bu D s).E bk o ws)(U:Dd P t=some false)(Y:s.q=false)(Z:GK n L ops i=some ⟨d,.load t x,ty,p,af,g⟩)(ac:ev L x=some (.pointer (some ⟨bk,o+j,none⟩)))(ag:ws[j]? =some v)
  (al:AJ J Q b n ds ops k cs m D fuel (A4 listed i) (Av L d v) s) (am:F8 ops listed m i=true:=by decide+kernel):AJ J Q b n ds ops k cs m D (fuel+1) listed L s:=
 AP i K Y Z (λ_ h _ an=>Yl.load U (h _ _ ac) (At.PU O an ag)) al am
theorem I5{bk o:Nat}{ws:Lv_}(i:Nat)(K:DJ ops m=true)(O:At (Bu D s).E bk o ws)(U:Dd P t=some true)(Y:Be P t=some ws.length)(Z:s.q=false)(ac:GK n L ops i=some ⟨d,.load t x,ty,p,af,g⟩)(ag:ev L x=some (.pointer (some ⟨bk,o,none⟩)))
  (al:AJ J Q b n ds ops k cs m D fuel (A4 listed i) (Av L d (.agg ws.toArray)) s) (am:F8 ops listed m i=true:=by decide+kernel):AJ J Q b n ds ops k cs m D (fuel+1) listed L s:=
 AP i K Z ac (λ_ h _ an=>Fz U Y (h _ _ ag) (At.X9 O an)) al am
end
end Pal
namespace Pal
open Go Go.Conc
abbrev Qd:=Int×List Int×Nat
abbrev AB:=List (Int×Int)
abbrev CO:=List Int×Int×Nat
abbrev An:=Option Addr
abbrev Ec:Rp (Int×Int):=rP rI rI
theorem ip{α:Type}{p:Prop} [Decidable p] {A B:Option α}{r:α}(h:(if p then A else B)=some r)(c:p):A=some r:=by rwa [if_pos c] at h
theorem im{α:Type}{p:Prop} [Decidable p] {A B:Option α}{r:α}(h:(if p then A else B)=some r)(c:¬p):B=some r:=by rwa [if_neg c] at h
theorem ib{α:Type}{c:Bool}{A B:Option α}{r:α}(h:(if c=true then A else B)=some r)(K:c=false):B=some r:=by subst K;simpa using h
def P5(n:Nat)(ops:Ao_):List Nat->Nat->Env->Option (Nat×Env)
 | [],f,L=>some (f,L)
 | i::l,f+1,L=>match NW n L ops i with
  | some L'=>P5 n ops l f L'
  | none=>none
 | _::_,0,_=>none
def PX(ops:Ao_)(m:Nat):Array Bool->List Nat->Bool
 | _,[]=>true
 | listed,i::l=>F8 ops listed m i&&PX ops m (A4 listed i) l
def Tv:Array Bool->List Nat->Array Bool
 | listed,[]=>listed
 | listed,i::l=>Tv (A4 listed i) l
theorem A7{P:Program}{J:Judge P}{Q:Gs_}{b:Frame}{n:Nat}{ds:Ld_}{k:Li_}{cs:Lf_}{s:St}{ops:Ao_}{m:Nat}{D:Nat->Bool}{L':Env}{U:Nat}(Y:DJ ops m=true)(Z:s.q=false):
  ∀(l:List Nat) {fuel:Nat} {listed:Array Bool} {L:Env},P5 n ops l fuel L=some (U,L')->AJ J Q b n ds ops k cs m D U (Tv listed l) L' s->(K:PX ops m listed l=true:=by decide+kernel)->AJ J Q b n ds ops k cs m D fuel listed L s
 | [],fuel,listed,L,h,O,_=>by cases h;exact O
 | i::l,fuel,listed,L,h,O,K=>by
  cases fuel with
  | zero=>cases h
  | succ fuel=>
   unfold PX at K;rw [Bool.and_eq_true] at K;unfold P5 at h;split at h
   ·rename_i ac e;exact DK i Y Z e (A7 Y Z l h O K.2) K.1
   ·cases h
theorem zg{P:Program}{J:Judge P}{Q:Gs_}{b:Frame}{n:Nat}{L L':Env}{ds:Ld_}{k k':Li_}{cs:Lf_}{s:St}(m:Nat)(h:Nm b n m k L=some (k',L'))(K:JL J Q b n L' ds k' cs s):JL J Q b n L ds k cs s:=JL.go m h K
abbrev bX(r:Nat)(c:Av_)(t:TypeId):Seg:= [(r,.cells c t (0,0))]
end Pal
namespace Pal
open Go Go.Conc
section
variable {P:Program}{J:Judge P}{Q:Gs_}{b:Frame}{n:Nat}{L L':Env}{ds:Ld_}{k:Li_}{cs:Lf_}{s:St}{ops:Ao_}{E H:LH}{S:List Seg}
variable {α:Type}{A B:Option α}{r:α}
theorem A2{c:Operand}{x y:Code}{p:Prop} [Decidable p] (K:(if p then A else B)=some r)(O:p->A=some r->JL J Q b n L ds (.code x::k) cs s)(U:¬p->B=some r->JL J Q b n L ds (.code y::k) cs s)
  (Y:ev L c=some (.bool (decide p)):=by exact rfl):JL J Q b n L ds (.code (.cond c x y)::k) cs s:=F4 Y (λh=>O h (ip K h)) λh=>U h (im K h)
theorem CV{c:Operand}{x y:Code}{t:Bool}(K:(if t=true then A else B)=some r)(O:t=true->A=some r->JL J Q b n L ds (.code x::k) cs s)(U:t=false->B=some r->JL J Q b n L ds (.code y::k) cs s)
  (Y:ev L c=some (.bool t):=by exact rfl):JL J Q b n L ds (.code (.cond c x y)::k) cs s:=OM Y (λh=>O h (ip K h)) λh=>U h (ib K h)
theorem I9{q:Prop} [Decidable q] (i:Nat)(K:(if q then A else B)=some r)(O:q->A=some r->JL J Q b n (Av L (some i) (.bool true)) ds k cs s)(U:¬q->B=some r->JL J Q b n (Av L (some i) (.bool false)) ds k cs s)
  (Y:look L i=some (.bool (decide q)):=by exact rfl):JL J Q b n L ds k cs s:=Lx Y (λh=>O h (ip K h)) λh=>U h (im K h)
theorem DX{t:Bool}(i:Nat)(K:(if t=true then A else B)=some r)(O:t=true->A=some r->JL J Q b n (Av L (some i) (.bool true)) ds k cs s)(U:t=false->B=some r->JL J Q b n (Av L (some i) (.bool false)) ds k cs s)
  (Y:look L i=some (.bool t):=by exact rfl):JL J Q b n L ds k cs s:=J7 Y (λh=>O h (ip K h)) λh=>U h (ib K h)
theorem CZ{K O:Type}{c:Code}{body:K->Option (Bp K O)}{f:Nat}{U:K}{a:O}(Z:iter body f U=some a)(I:Env->St->K->Prop)(ac:I L' s U)
  (round:∀L s x,I L s x->(∀Y,body x=some (.done Y)->Y=a)->(∃st,body x=some st)->(∀L' s' x',I L' s' x'->body x=some (.more x')->JL J Q b n L' ds (.inLoop c::k) cs s')->JL J Q b n L ds (.code c:: .inLoop c::k) cs s)
  (ag:H3 L L'=Ia L':=by exact rfl):JL J Q b n L ds (.code (.loop c)::k) cs s:=Et L' ag (RB Z I ac round)
variable {m:Nat}{D:Nat->Bool}{fuel:Nat}{listed:Array Bool}
def NM(ops:Ao_):Array Bool->List Nat->Bool
 | _,[]=>true
 | l,i::t=>Region.ready .any ops l== [i]&&NM ops (A4 l i) t
theorem R1:∀{t:List Nat} {l:Array Bool},NM ops l t=true->∀u,Region.linearise.go .any ops t.length u l []=t
 | [],_,_,_=>rfl
 | i::t,l,h,u=>by
  unfold NM at h
  rw [Bool.and_eq_true,beq_iff_eq] at h
  exact YO h.1 (R1 h.2) u
theorem CE(t:List Nat)(O:JL J Q b n L ds (.inRegion ops t::k) cs s)(K:(PN m listed&&NM ops listed t&&(fuel+1==t.length))=true:=by decide+kernel):AJ J Q b n ds ops k cs m D (fuel+1) listed L s:=by
 rw [Bool.and_eq_true,Bool.and_eq_true,beq_iff_eq] at K;exact AJ.leaf K.1.1 (by rw [K.2];exact R1 K.1.2) O
theorem Fb(m:Nat){id:Nat}(h:DJ ops m=true->AJ J Q b n ds ops k cs m CN ops.size (Array.replicate ops.size false) L (Aj E H S))(hm:P.follows .mixedOrders=true:=by exact rfl)(K:(b.kind != .early)=true:=by exact rfl)(O:DJ ops m=true:=by decide+kernel):
  JL J Q b n L ds (.code (.region id ops true)::k) cs (Aj E H S):=V2 m hm K O h
theorem Fl(m:Nat)(bks:List Nat){id:Nat}(K:HD S bks)(O:Ap E H S)(h:DJ ops m=true->AJ J Q b n ds ops k cs m (AX bks) ops.size (Array.replicate ops.size false) L (Aj E H S))(hm:P.follows .mixedOrders=true:=by exact rfl)(U:(b.kind != .early)=true:=by exact rfl)(Y:DJ ops m=true:=by decide+kernel):
  JL J Q b n L ds (.code (.region id ops true)::k) cs (Aj E H S):=Wq m bks K O hm U Y h
theorem FA{α:Type}{pp:Rp α}{a:Option Addr}{c:Nat}{xs:List α}{xv:α}{K:Int}{d:Option Tmp}{x y:Operand}{t ty e:TypeId}{p:String}{af:Ae_}{g:On_}{kd:IntKind}(i:Nat)(O:Am pp E a c xs)(U:ix xs K=some xv)(Y:DJ ops m=true)(Z:P.underlying t=some (.slice e))(ac:Be P e=some pp.n)
  (h:∀bk o ws,pp.r E ws xv->At E bk o ws->AJ J Q b n ds ops k cs m D fuel (A4 listed i) (Av L d (.pointer (some ⟨bk,o,none⟩))) s)
  (ag:ops[i]? =some ⟨d,.indexAddr t x y,ty,p,af,g⟩:=by exact rfl) (al:F8 ops listed m i=true:=by decide+kernel) (am:s.q=false:=by exact rfl)
  (hw:AI L ops ⟨d,.indexAddr t x y,ty,p,af,g⟩=some true:=by exact rfl) (an:A9 n d=true:=by exact rfl)
  (ao:ev L x=some (.slice a xs.length c):=by exact rfl) (ap:ev L y=some (.int kd K):=by exact rfl):
  AJ J Q b n ds ops k cs m D (fuel+1) listed L s:=YY i O U ag Y al am hw an ao ap Z ac h
end
end Pal
namespace Pal
open Go Go.Conc
theorem Er{P:Program}{J:Judge P}{Q:Gs_}{b:Frame}{n:Nat}{ds:Ld_}{ops:Ao_}{k:Li_}{cs:Lf_}{m fuel:Nat}{D:Nat->Bool}{listed:Array Bool}{L L':Env}{s:St}(k':AJ J Q b n ds ops k cs m D fuel listed L' s)(h:H3 L L'=Ia L'):AJ J Q b n ds ops k cs m D fuel listed L s:=Eg (Nq h) k'
instance {α:Type} [DecidableEq α] (xs:List α):Decidable (xs= []):=inferInstance
section
variable {P:Program}{J:Judge P}{Q:Gs_}{b:Frame}{n:Nat}{L L':Env}{ds:Ld_}{k:Li_}{cs:Lf_}{s:St}{ops:Ao_}{E H:LH}{S:List Seg}{i:Nat}{rest:List Nat}
variable {d:Option Tmp}{x y:Operand}{t u ty e:TypeId}{p:String}{af:Ae_}{g:On_}{v w:Value}
end
section
variable {P:Program}{J:Judge P}{Q:Gs_}{b:Frame}{n:Nat}{ds:Ld_}{ops:Ao_}{k:Li_}{cs:Lf_}{m fuel:Nat}{listed:Array Bool}{L:Env}{E H:LH}{S:List Seg}
variable {d:Option Tmp}{x y:Operand}{t ty e:TypeId}{p:String}{af:Ae_}{g:On_}{v:Value}{i:Nat}
theorem Take.L6{α:Type}{pp:Rp α}(O:Ap E H S)(U:ops[i]? =some ⟨d,.buildSlice t 0 #[],ty,p,af,g⟩)(hw:AI L ops ⟨d,.buildSlice t 0 #[],ty,p,af,g⟩=some true)(Y:A9 n d=true)
  (Z:P.underlying t=some (.slice e)) (ac:Be P e=some pp.n)
  (h:∀r seg,OL e pp E (some ⟨r,0,none⟩) 0 seg ([]:List α)->Ap E H (S++ [seg])->AJ J Q b n ds ops k cs m CN fuel (A4 listed i) (Av L d (.slice (some ⟨r,0,none⟩) 0 0)) (Aj E H (S++ [seg]))):
  Take J Q b n ds ops k cs m CN fuel listed L (Aj E H S) i:=
 Take.Ku U (by simp [DL,Y]) hw λρ al=>by
  rw [OF]
  refine As _ _ ?_
  unfold Instr.buildSlice
  refine As _ _ (Cj Z ?_)
  refine As _ _ (Ey ac ?_)
  rw [if_neg (by omega),if_pos (by omega)]
  refine As (x:=pure #[]) _ ?_
  simp only [lp,pure,List.map_toArray,List.map_nil,Instr.fill]
  refine As _ _ (Iv O λr K=>?_)
  rw [(EY K).1]
  exact h r _ ⟨[],.inr ⟨r,_,rfl,rfl,by simp,Nat.le_refl _,by simp⟩,rfl,λi x ws ag=>by simp at ag⟩ (EY K).2
theorem Take.Jv{α:Type}{pp:Rp α}{t1:TypeId}{U c cx:Nat}{a ax:Option Addr}{seg:Seg}{xs ys Y:List α}{ats:Array TypeId}{z:Value}(j:Nat)(ac:Ap E H S)(ag:Dr xs ys=some Y)
  (al:ops[i]? =some ⟨d,.call ⟨.builtin .append,#[x,y],ats⟩,ty,p,af,g⟩) (hw:AI L ops ⟨d,.call ⟨.builtin .append,#[x,y],ats⟩,ty,p,af,g⟩=some true) (am:A9 n d=true)
  (an:ev L x=some (.slice a xs.length c)) (ao:ev L y=some (.slice ax ys.length cx)) (ap:ats[0]? =some t) (aq:ats[1]? =some t1) (ar:P.underlying t=some (.slice e)) (au:P.underlying t1=some (.slice e)) (av:Be P e=some pp.n) (hb:Fs P e=some U) (aw:zeroOf P e=some z) (ay:z.cells.size=pp.n)
  (az:0<U) (aA:U<=64) (aB:OL e pp E a c seg xs) (aC:Am pp E ax cx ys) (aD:S[j]? =some seg)
  (h:∀K O g seg',OL e pp E K O seg' Y->Ap E H (S.set j (g++seg'))->AJ J Q b n ds ops k cs m CN fuel (A4 listed i) (Av L d (.slice K Y.length O)) (Aj E H (S.set j (g++seg')))):
  Take J Q b n ds ops k cs m CN fuel listed L (Aj E H S) i:=
 Take.Ku al (by simp [DL,am]) hw λρ Z=>SD j ag (Z _ _ an) (Z _ _ ao) ap aq ar au av hb aw ay az aA aB (by
  obtain⟨aE,aF,aG,aH,_⟩:=aC.KR (H:=H) (B:=S.flatten)
  exact⟨aE,aH,aF,aG⟩) ac aD λK O aI seg' aJ aK=>h K O aI seg' aJ aK
theorem LF{s:St}{D:Nat->Bool}{i j l:Nat}(K:s.q=false)(O:Region.ready .any ops listed= [i,j,l])(hi:Take J Q b n ds ops k cs m D fuel listed L s i)(U:Take J Q b n ds ops k cs m D fuel listed L s j)(Y:Take J Q b n ds ops k cs m D fuel listed L s l):AJ J Q b n ds ops k cs m D (fuel+1) listed L s:=
 Oq K O (by simp) (by intro q K;simp at K;rcases K with rfl | rfl | rfl <;> assumption)
end
theorem Am.cut{α:Type}{pp:Rp α}{E:LH}{a:Option Addr}{c:Nat}{xs ys:List α}{lo hi:Int}(Y:Am pp E a c xs)(hC:GJ xs lo hi=some ys):
  ∃Z ac,Am pp E Z ac ys/\∀{P:Program} {ρ:Operand->Value} {s:St} {d:Option Tmp} {x:Operand} {t ty e:TypeId} {p:String} {af:Ae_} {g:On_} {olo ohi:Option Operand},P.underlying t=some (.slice e)->Be P e=some pp.n->ρ x= .slice a xs.length c->
   (match ohi with | some w=>ρ w=iV hi | none=>hi=xs.length)->(match olo with | some w=>ρ w=iV lo | none=>lo=0)->Yl P ⟨d,.slice t x olo ohi none,ty,p,af,g⟩ ρ s (.slice Z ys.length ac):=by
 unfold GJ at hC;split at hC
 rotate_left
 ·cases hC
 rename_i hb;obtain⟨aw,ay,an⟩:=hb;cases hC;obtain⟨lo,rfl⟩:∃l:Nat,lo=l:=⟨lo.toNat,by omega⟩;obtain⟨hi,rfl⟩:∃l:Nat,hi=l:=⟨hi.toNat,by omega⟩;simp only [Int.toNat_natCast] at*;have az:=Y.1;have hlen:((xs.take hi).drop lo).length=hi - lo:=by simp;omega
 have ag:∀ad:Addr,a=some ad->ad.spot=none∨c=0:=λad K=>by
  rcases Y.2 with⟨_,h⟩ | ⟨bk,off,h,_⟩
  ·exact h ad K
  ·rw [h] at K;cases K;exact .inl rfl
 refine⟨if c=lo then a else a.map (·.add (lo*pp.n)),c - lo,⟨by rw [hlen];omega,?_⟩,?_⟩
 ·by_cases ao:hi - lo=0
  ·left;refine⟨List.eq_nil_of_length_eq_zero (by rw [hlen];exact ao),λad K=>?_⟩;split at K
   ·exact(ag ad K).imp id λh=>by omega
   ·cases a with
    | none=>cases K
    | some ap=>
     simp only [Option.map_some,Option.some.injEq] at K;subst K;exact .inl (by rw [DI ((ag ap rfl).resolve_right (by omega))])
  ·right;rcases Y.2 with⟨h,_⟩ | ⟨bk,off,rfl,O⟩
   ·subst h;simp at an;omega
   ·refine⟨bk,off+lo*pp.n,?_,λq z U=>?_⟩
    ·rw [if_neg (by omega),Option.map_some,DI rfl]
    ·rw [List.getElem?_drop,List.getElem?_take] at U;split at U
     ·obtain⟨ws,aq,al⟩:=O _ z U;refine⟨ws,aq,?_⟩;rw [Nat.add_mul] at al;rw [Nat.add_assoc];exact al
     ·cases U
 ·intro P ρ s d x t ty e p af g olo ohi ar au av O am;rw [hlen];refine Yl.slice (mx:=c) (hi:=hi) (lo:=lo) ar au av rfl ?_ ?_ (Nat.le_refl _) (by omega) (by omega)
  ·cases ohi with
   | none=>exact⟨by simp only at O;omega,rfl⟩
   | some w=>exact O
  ·cases olo with
   | none=>simp only at am;show lo=0;omega
   | some w=>exact am
end Pal
namespace Pal
open Go Go.Conc
section
variable {P:Program}{J:Judge P}{Q:Gs_}{b:Frame}{n:Nat}{ds:Ld_}{ops:Ao_}{k:Li_}{cs:Lf_}{m fuel:Nat}{D:Nat->Bool}{listed:Array Bool}{L:Env}{E H:LH}{S:List Seg}
theorem Hq{S1 S':List Seg}(K:S=S1)(O:S1.Perm S')(U:Ap E H S)(h:Ap E H S'->AJ J Q b n ds ops k cs m D fuel listed L (Aj E H S')):AJ J Q b n ds ops k cs m D fuel listed L (Aj E H S):=by
 subst K;exact AJ.perm O.flatten U h
end
end Pal
namespace Pal
open Go Go.Conc
section
variable {P:Program}{J:Judge P}{Q:Gs_}{b:Frame}{n:Nat}{L L':Env}{ds:Ld_}{k:Li_}{cs:Lf_}{s:St}{ops:Ao_}{E H:LH}{S:List Seg}{i:Nat}{rest:List Nat}
variable {d:Option Tmp}{x y:Operand}{t u ty e e2:TypeId}{p:String}{af:Ae_}{g:On_}{v w:Value}
def JI(E:LH):Nat->Bool:=λx=>(E x).isNone
theorem Zc(x:Nat):(Bu (JI E) (Aj E H S)).E x=(Aj E H S).get x:=by
 show(if JI E x then(Aj E H S).get x else E x)=_
 unfold JI;cases h:E x with
 | none=>simp
 | some o=>
  rw [if_neg (by simp)];unfold St.get;rw [show(Aj E H S).E x=some o from h]
theorem P8{s':St}(K:∀x o,(Bu (JI E) (Aj E H S)).E x=some o->s'.E x=some o){x:Nat}{o:Obj}(h:(Aj E H S).get x=some o):s'.get x=some o:=by
 have:=K x o (by rw [Zc];exact h);unfold St.get;rw [this]
theorem L9{s':St}(K:∀x o,(Bu (JI E) (Aj E H S)).E x=some o->s'.E x=some o){a:Addr}{v:Value}(h:(Aj E H S).cell? a=some v):s'.cell? a=some v:=by
 obtain⟨o,O,U⟩:=Option.bind_eq_some_iff.1 h;unfold St.cell?;rw [P8 K O];exact U
theorem Tj{s':St}(K:∀x o,(Bu (JI E) (Aj E H S)).E x=some o->s'.E x=some o){a:Addr}{vs:Lv_}(h:∀(i:Nat) v,vs[i]? =some v->(Aj E H S).cell? (Addr.add a i)=some v):∀(i:Nat) v,vs[i]? =some v->s'.cell? (Addr.add a i)=some v:=λi v O=>L9 K (h i v O)
theorem PI(m:Nat){id:Nat}(h:DJ ops m=true->AJ J Q b n ds ops k cs m (JI E) ops.size (Array.replicate ops.size false) L (Aj E H S))(hm:P.follows .mixedOrders=true:=by exact rfl)(K:(b.kind != .early)=true:=by exact rfl)(O:DJ ops m=true:=by decide+kernel):
  JL J Q b n L ds (.code (.region id ops true)::k) cs (Aj E H S):=OP m (JI E) rfl hm K (h O)
abbrev rs(q:Nat×Obj)(K:Seg)(p:Nat×Obj)(g2:Seg):Seg:=q::(K++ [p]++g2)
end
end Pal
namespace Pal
open Go Go.Conc
section
variable {κ ν:Type} [DecidableEq κ]
def KN(xs:List (κ×ν)):Prop:=(xs.map (·.1)).Nodup
theorem KN.perm{xs ys:List (κ×ν)}(h:KN xs)(p:ys.Perm xs):KN ys:=((p.map (λq:κ×ν=>q.1)).nodup_iff).2 h
theorem Rd{xs:List (κ×ν)}(h:KN xs){x:κ}{v:ν}:BH xs x=some v↔(x,v)∈xs:=by
 induction xs with
 | nil=>simp [BH]
 | cons y ys U=>
  have O:y.1 ∉ ys.map (·.1)/\KN ys:=by simpa [KN] using h
  by_cases e:x=y.1
  ·subst e;have K:BH (y::ys) y.1=some y.2:=by simp [BH]
   rw [K];constructor
   ·intro q;cases q;simp
   ·intro q;rcases List.mem_cons.1 q with q | q
    ·rw [← q]
    ·exact absurd (List.mem_map.2 ⟨_,q,rfl⟩) O.1
  ·have K:BH (y::ys) x=BH ys x:=by simp [BH,e]
   rw [K,U O.2];constructor
   ·intro q;exact List.mem_cons_of_mem _ q
   ·intro q;rcases List.mem_cons.1 q with q | q
    ·exact absurd (by rw [← q]) e
    ·exact q
theorem QR{xs ys:List (κ×ν)}(h:KN xs)(p:ys.Perm xs)(x:κ):BH ys x=BH xs x:=by
 apply Option.ext;intro v;rw [Rd h,Rd (h.perm p),p.mem_iff]
def DZ(xs:List (κ×ν))(x:κ):List (κ×ν):=xs.filter λy=>decide (x≠y.1)
theorem QP{xs:List (κ×ν)}{x:κ}(h:∀y∈xs,x≠y.1):DZ xs x=xs:=List.filter_eq_self.2 λy K=>by simpa using h y K
theorem ML{x:κ}{v:ν}:∀{xs:List (κ×ν)},KN xs->(Dc xs x v).Perm ((x,v)::DZ xs x)
 | [],_=> .refl _
 | y::ys,h=>by
  have K:y.1 ∉ ys.map (·.1)/\KN ys:=by simpa [KN] using h
  unfold Dc;by_cases e:x=y.1
  ·rw [if_pos e];have e2:DZ (y::ys) x=ys:=by
    have:DZ (y::ys) x=DZ ys x:=by simp [DZ,e]
    rw [this];exact QP λz O q=>K.1 (List.mem_map.2 ⟨z,O,by rw [← q,e]⟩)
   rw [e2]
  ·rw [if_neg e];have e2:DZ (y::ys) x=y::DZ ys x:=by simp [DZ,e]
   rw [e2];exact((ML K.2).cons y).trans (List.Perm.swap _ _ _)
theorem OJ{xs ys:List (κ×ν)}(p:ys.Perm xs)(x:κ):(DZ ys x).Perm (DZ xs x):=p.filter _
theorem UF{xs ys:List (κ×ν)}(h:KN xs)(p:ys.Perm xs)(x:κ)(v:ν):(Dc ys x v).Perm (Dc xs x v):=
 (ML (h.perm p)).trans (((OJ p x).cons _).trans (ML h).symm)
theorem KN.del{xs:List (κ×ν)}(h:KN xs)(x:κ):KN (DZ xs x):=by
 unfold KN DZ;exact List.Nodup.sublist (List.Sublist.map _ List.filter_sublist) h
theorem KN.put{xs:List (κ×ν)}(h:KN xs)(x:κ)(v:ν):KN (Dc xs x v):=by
 refine KN.perm ?_ (ML h);unfold KN;simp only [List.map_cons,List.nodup_cons];refine⟨λq=>?_,h.del x⟩;obtain⟨z,K,e⟩:=List.mem_map.1 q;have:=(List.mem_filter.1 K).2;simp at this;exact this e.symm
variable {pk:Rp κ}{pv:Rp ν}{ka va:Bool}{E E' H:LH}
def BF(pk:Rp κ)(ka:Bool)(pv:Rp ν)(va:Bool)(E:LH)(o:Obj)(xs:List (κ×ν)):Prop:=KN xs/\∃ys,ys.Perm xs/\Kl pk ka pv va E o ys
theorem BF.Ag{o:Obj}{xs:List (κ×ν)}(h:BF pk ka pv va E o xs)(hle:Le E E'):BF pk ka pv va E' o xs:=
 let ⟨K,ys,O,U⟩:=h;⟨K,ys,O,U.Ag hle⟩
theorem BF.perm{o:Obj}{xs ys:List (κ×ν)}(h:BF pk ka pv va E o xs)(p:ys.Perm xs):BF pk ka pv va E o ys:=
 let ⟨K,O,U,Y⟩:=h;⟨K.perm p,O,U.trans p.symm,Y⟩
theorem BF.nil:BF pk ka pv va E (.map #[] 0) []:=⟨List.nodup_nil,[],.refl _,⟨#[],0,rfl,trivial,.nil,by simp⟩⟩
def rM(pk:Rp κ)(ka:Bool)(pv:Rp ν)(va:Bool):Rp (List (κ×ν)):=⟨1,λE ws xs=>∃bk o,ws= [.map (some bk)]/\E bk=some o/\BF pk ka pv va E o xs,
 λhle ⟨bk,o,h,K,O⟩=>⟨bk,o,h,hle _ _ K,O.Ag hle⟩,λ⟨bk,o,h,_,_⟩=>by subst h;rfl,λ⟨bk,o,h,_,_⟩ w hw=>by subst h;simp at hw;subst hw;rfl⟩
section
variable {P:Program}{s:St}{t tm te:TypeId}{X:Halt->St->Prop}{bk:Nat}{o:Obj}{xs:List (κ×ν)}{k w:Value}{x:κ}{v0:ν}
theorem UJ(K:Gp P t pk ka)(hm:P.underlying tm=some (.map t te)){z:Value}{z0:ν}(O:zeroOf P te=some z)(U:Vr pv va E z z0)(Y:s.get bk=some o)(Z:BF pk ka pv va E o xs)(ac:Vr pk ka E k x)(ok:Bool){Q:Value->St->Prop}
  (h:∀w,Vr pv va E w ((BH xs x).getD z0)->Q (if ok then .tuple #[w,.bool (BH xs x).isSome] else w) s):lp P (Instr.lookup tm (.map (some bk)) k ok) s Q X:=by
 obtain⟨ag,ys,al,am⟩:=Z;refine U9 K hm O U Y am ac ok ?_;rw [QR ag al];exact h
theorem Ua(O:Gp P t pk ka)(hm:P.underlying tm=some (.map t te))(U:s.get bk=some o)(Y:s.H bk=some o)(Z:BF pk ka pv va E o xs)(ac:Vr pk ka E k x)(hw:Vr pv va E w v0){Q:Unit->St->Prop}
  (h:∀o',BF pk ka pv va E o' (Dc xs x v0)->Q () (s.upd bk o')):lp P (Instr.mapUpdate tm (.map (some bk)) k w) s Q X:=by
 obtain⟨K,ys,ag,al⟩:=Z;exact Uf O hm U Y al ac hw λo' am=>h o' ⟨K.put _ _,_,UF K ag _ _,am⟩
theorem Dz.erase(Y:Vr pk ka E k x):∀{es:List MapEntry} {ys:List (κ×ν)} {i:Nat},Dz pk ka pv va E es ys->KN ys->
  (Gg x es ys i=none/\DZ ys x=ys)∨∃j u,Gg x es ys i=some (i+j,u)/\Dz pk ka pv va E (es.eraseIdx j) (DZ ys x)
 | [],[],i,_,_=> .inl ⟨rfl,rfl⟩
 | e::es,y::ys,i,h,Z=>by
  have U:y.1 ∉ ys.map (·.1)/\KN ys:=by simpa [KN] using Z
  unfold Gg;by_cases K:x=y.1
  ·refine .inr ⟨0,e.val,by rw [if_pos K];rfl,?_⟩;have e2:DZ (y::ys) x=ys:=by
    have:DZ (y::ys) x=DZ ys x:=by simp [DZ,K]
    rw [this];exact QP λz ac q=>U.1 (List.mem_map.2 ⟨z,ac,by rw [← q,K]⟩)
   rw [e2];exact h.2.2
  ·have e2:DZ (y::ys) x=y::DZ ys x:=by simp [DZ,K]
   rcases Dz.erase Y (i:=i+1) h.2.2 U.2 with⟨a1,O⟩ | ⟨j,u,a1,O⟩
   ·exact .inl ⟨by rw [if_neg K];exact a1,by rw [e2,O]⟩
   ·refine .inr ⟨j+1,u,by rw [if_neg K,a1];congr 2;omega,?_⟩;rw [e2];exact⟨h.1,h.2.1,O⟩
 | [],_::_,_,h,_=>h.elim
 | _::_,[],_,h,_=>h.elim
theorem UN(ag:Gp P t pk ka)(hm:P.underlying tm=some (.map t te))(ap:s.get bk=some o)(al:s.H bk=some o)(aq:BF pk ka pv va E o xs)(K:Vr pk ka E k x){u:TypeId}{Q:Value->St->Prop}
  (h:∀o',BF pk ka pv va E o' (DZ xs x)->Q (.tuple #[]) (s.upd bk o')):lp P (Builtin.delete_ #[tm,t] u #[.map (some bk),k]) s Q X:=by
 obtain⟨O,ys,U,es,c,rfl,Y,am,an⟩:=aq;unfold Builtin.delete_;simp only [List.getElem?_toArray,List.getElem?_cons_zero,List.getElem?_cons_succ];refine As _ _ (Cj hm ?_)
 dsimp only;refine As _ _ ?_;unfold getObj;simp only [bind,Sem.bind,lp];refine⟨_,ap,rfl,?_⟩;refine As (x:=Instr.checkKey _ 10000 t k) _ (ag.BK K ?_);refine As (x:=Instr.findKey t k es.toList) _ (Ox ag K Y ?_);rcases Dz.erase K (i:=0) Y (O.perm U) with⟨Z,e2⟩ | ⟨j,u,Z,e2⟩
 ·rw [Z];simp only [setObj,lp,pure];refine⟨⟨_,al,rfl⟩,rfl,h _ ⟨O.del _,_,OJ U x,es,c,rfl,by rw [e2];exact Y,am,an⟩⟩
 ·rw [Z];simp only [setObj,lp,pure];have ao:(es.toList.eraseIdx j).Sublist es.toList:=List.eraseIdx_sublist _ _;have ac:(es.eraseIdxIfInBounds (0+j)).toList=es.toList.eraseIdx j:=by rw [Nat.zero_add];simp
  refine⟨⟨_,al,rfl⟩,rfl,h _ ⟨O.del _,_,OJ U x,_,c,rfl,by rw [ac];exact e2,?_,?_⟩⟩
  ·rw [ac];exact am.sublist (ao.map _)
  ·rw [ac];exact λe he=>an e (ao.subset he)
end
section
variable {P:Program}{J:Judge P}{Q:Gs_}{b:Frame}{n:Nat}{ds:Ld_}{ops:Ao_}{kk:Li_}{cs:Lf_}{L:Env}{s:St}{S:List Seg}
variable {d:Option Tmp}{x y z:Operand}{t u ty e tm te:TypeId}{p:String}{af:Ae_}{g:On_}{i:Nat}{rest:List Nat}{bk:Nat}{o:Obj}{xs:List (κ×ν)}{k w:Value}{x0:κ}{v0:ν}{ρ:Operand->Value}
theorem Yl.lookup{K v:Value}{z0:ν}{ok:Bool}(O:Gp P t pk ka)(hm:P.underlying tm=some (.map t te))(U:zeroOf P te=some K)(Y:Vr pv va E K z0)(Z:BF pk ka pv va E o xs)(ac:Vr pk ka E k x0)
  (ag:∀w,Vr pv va E w ((BH xs x0).getD z0)->(if ok then .tuple #[w,.bool (BH xs x0).isSome] else w)=v) (al:ρ x= .map (some bk)) (am:ρ y=k) (an:s.get bk=some o):Yl P ⟨d,.lookup tm x y ok,ty,p,af,g⟩ ρ s v:=by
 refine FM (sm:=Instr.lookup tm (ρ x) (ρ y) ok) rfl ?_;rw [al,am];exact UJ O hm U Y an Z ac ok λw hw=>⟨ag w hw,rfl⟩
theorem JS.makeMap(K:ops[i]? =some ⟨d,.makeMap t none,ty,p,af,g⟩)(hw:AI L ops ⟨d,.makeMap t none,ty,p,af,g⟩=some true)(O:BK b n ⟨d,.makeMap t none,ty,p,af,g⟩=true)(U:Ap E H S)
  (h:∀r,Ap E H (S++ [[(r,.map #[] 0)]])->JL J Q b n (Av L d (.map (some r))) ds (.inRegion ops rest::kk) cs (Aj E H (S++ [[(r,.map #[] 0)]]))):
  JL J Q b n L ds (.inRegion ops (i::rest)::kk) cs (Aj E H S):=
 JL.op K hw O λρ am=>by
  show lp P (do pure (Next.value (← Instr.makeMap t none))) _ _ _
  refine As _ _ ?_
  unfold Instr.makeMap
  simp only [newObj,bind,Sem.bind,pure,lp]
  refine⟨rfl,λr Y Z=>?_⟩
  obtain⟨ac,ag⟩:=J9 Y Z (.map #[] 0) U
  obtain⟨p1,p2⟩:=EY ac
  have al:(Aj E H S).upd r (.map #[] 0)=Aj E H (S++ [[(r,.map #[] 0)]]):=by rw [← p1,← ag];rfl
  show JL J Q b n (Av L d (.map (some r))) ds (.inRegion ops rest::kk) cs ((Aj E H S).upd r (.map #[] 0));rw [al];exact h r p2
theorem JS.mapUpdate(j:Nat)(Y:Gp P t pk ka)(hm:P.underlying tm=some (.map t te))(Z:BF pk ka pv va E o xs)(ac:Vr pk ka E k x0)(ag:Vr pv va E w v0)(K:Ap E H S)(O:S[j]? =some [(bk,o)])
  (al:ops[i]? =some ⟨d,.mapUpdate tm x y z,ty,p,af,g⟩) (hw:AI L ops ⟨d,.mapUpdate tm x y z,ty,p,af,g⟩=some true) (am:BK b n ⟨d,.mapUpdate tm x y z,ty,p,af,g⟩=true) (an:ev L x=some (.map (some bk))) (ao:ev L y=some k) (ap:ev L z=some w)
  (h:∀o',BF pk ka pv va E o' (Dc xs x0 v0)->Ap E H (S.set j [(bk,o')])->JL J Q b n (Av L d undef) ds (.inRegion ops rest::kk) cs (Aj E H (S.set j [(bk,o')]))):
  JL J Q b n L ds (.inRegion ops (i::rest)::kk) cs (Aj E H S):=
 JL.op al hw am λρ U=>by
  show lp P (do Instr.mapUpdate tm (ρ x) (ρ y) (ρ z);pure Next.skip) _ _ _
  rw [U _ _ an,U _ _ ao,U _ _ ap]
  refine As _ _ (Ua Y hm (DO (i:=0) K O rfl) (Jz K O) Z ac ag λo' aq=>?_)
  obtain⟨ar,au⟩:=Kc K O o'
  rw [ar]
  exact h o' aq au
theorem Uh{at1:TypeId}(j:Nat)(Y:Gp P t pk ka)(hm:P.underlying tm=some (.map t te))(Z:BF pk ka pv va E o xs)(ac:Vr pk ka E k x0)(K:Ap E H S)(O:S[j]? =some [(bk,o)])
  (ag:ops[i]? =some ⟨d,.call ⟨.builtin .delete,#[x,y],#[tm,t]⟩,ty,p,af,g⟩) (hw:AI L ops ⟨d,.call ⟨.builtin .delete,#[x,y],#[tm,t]⟩,ty,p,af,g⟩=some true) (al:BK b n ⟨d,.call ⟨.builtin .delete,#[x,y],#[tm,t]⟩,ty,p,af,g⟩=true) (am:ev L x=some (.map (some bk))) (an:ev L y=some k)
  (h:∀o',BF pk ka pv va E o' (DZ xs x0)->Ap E H (S.set j [(bk,o')])->JL J Q b n (Av L d (.tuple #[])) ds (.inRegion ops rest::kk) cs (Aj E H (S.set j [(bk,o')]))):
  JL J Q b n L ds (.inRegion ops (i::rest)::kk) cs (Aj E H S):=
 JL.op ag hw al λρ U=>by
  have ao:execOp ρ ⟨d,.call ⟨.builtin .delete,#[x,y],#[tm,t]⟩,ty,p,af,g⟩=(do pure (Next.value (← Builtin.delete_ #[tm,t] ty #[ρ x,ρ y]))):=by
   simp [execOp,resolve,Deferred.ofValue,invoke,bind,Sem.bind,pure,Go.builtin]
  rw [ao,U _ _ am,U _ _ an];refine As _ _ (UN Y hm (DO (i:=0) K O rfl) (Jz K O) Z ac λo' ap=>?_);obtain⟨aq,ar⟩:=Kc K O o';rw [aq];exact h o' ap ar
theorem Ow{todo:Li_}(j:Nat)(O:Ap E H S)(U:S[j]? =some [(bk,o)])
  (h:∀E',Le E E'->E' bk=some o->Ap E' H (S.set j [])->JL J Q b n L ds todo cs (Aj E' H (S.set j []))):JL J Q b n L ds todo cs (Aj E H S):=by
 obtain⟨Y,Z⟩:=G4 O U;rw [Y];have ac:((S.set j []).flatten++ [(bk,o)])[(S.set j []).flatten.length]? =some (bk,o):=by simp
 refine JL.freeze (S.set j []).flatten.length Z ac λE' hle ag K=>?_;have al:((S.set j []).flatten++ [(bk,o)]).eraseIdx (S.set j []).flatten.length=(S.set j []).flatten:=by rw [List.eraseIdx_append_of_length_le (Nat.le_refl _)];simp
 rw [al] at K ⊢;exact h E' hle ag K
theorem QO{α:Type}{m:Nat}{f:Nat->Sem α}{s:St}{Q:α->St->Prop}{X:Halt->St->Prop}(hm:0<m)(K:s.q=false)(h:∀i,i<m->lp P (f i) s Q X):lp P ((choose (.mapNext m)).bind f) s Q X:=by
 simp only [choose,Sem.bind,lp];split
 ·exact h 0 hm
 ·exact⟨K,λt=>h _ (Nat.mod_lt _ hm)⟩
theorem JS.range{es:Array MapEntry}{c:Nat}(hm:P.underlying tm=some (.map t te))(K:(Aj E H S).get bk=some (.map es c))(O:ops[i]? =some ⟨d,.range tm x,ty,p,af,g⟩)(hw:AI L ops ⟨d,.range tm x,ty,p,af,g⟩=some true)(U:BK b n ⟨d,.range tm x,ty,p,af,g⟩=true)(Y:Ap E H S)
  (Z:ev L x=some (.map (some bk)))
  (h:∀r,Ap E H (S++ [[(r,.mapIter (some bk) c #[] c)]])->JL J Q b n (Av L d (.pointer (some ⟨r,0,none⟩))) ds (.inRegion ops rest::kk) cs (Aj E H (S++ [[(r,.mapIter (some bk) c #[] c)]]))):
  JL J Q b n L ds (.inRegion ops (i::rest)::kk) cs (Aj E H S):=
 JL.op O hw U λρ ac=>by
  show lp P (do pure (Next.value (← Instr.range tm (ρ x)))) _ _ _
  rw [ac _ _ Z]
  refine As _ _ ?_
  unfold Instr.range
  refine As _ _ (Cj hm ?_)
  simp only [getObj,newObj,bind,Sem.bind,pure,lp]
  refine⟨_,K,rfl,rfl,λr ag al=>?_⟩
  obtain⟨am,an⟩:=J9 ag al (.mapIter (some bk) c #[] c) Y
  obtain⟨p1,p2⟩:=EY am
  have ao:(Aj E H S).upd r (.mapIter (some bk) c #[] c)=Aj E H (S++ [[(r,.mapIter (some bk) c #[] c)]]):=by rw [← p1,← an];rfl
  show JL J Q b n (Av L d (.pointer (some ⟨r,0,none⟩))) ds (.inRegion ops rest::kk) cs ((Aj E H S).upd r (.mapIter (some bk) c #[] c));rw [ao];exact h r p2
theorem JS.next{es:Array MapEntry}{c r:Nat}{seen:Array Nat}(j:Nat)(am:(Aj E H S).get bk=some (.map es c))(hb:∀e∈es.toList,e.born<c)(K:Ap E H S)(O:S[j]? =some [(r,.mapIter (some bk) c seen c)])
  (an:ops[i]? =some ⟨d,.next x false,ty,p,af,g⟩) (hw:AI L ops ⟨d,.next x false,ty,p,af,g⟩=some true) (ao:BK b n ⟨d,.next x false,ty,p,af,g⟩=true) (U:ev L x=some (.pointer (some ⟨r,0,none⟩)))
  (ap:∀e∈es.toList,e.born ∉ seen->Ap E H (S.set j [(r,.mapIter (some bk) c (seen.push e.born) c)])->JL J Q b n (Av L d (.tuple #[.bool true,e.key,e.val])) ds (.inRegion ops rest::kk) cs (Aj E H (S.set j [(r,.mapIter (some bk) c (seen.push e.born) c)])))
  (aq:(∀e∈es.toList,e.born∈seen)->JL J Q b n (Av L d (.tuple #[.bool false])) ds (.inRegion ops rest::kk) cs (Aj E H S)):
  JL J Q b n L ds (.inRegion ops (i::rest)::kk) cs (Aj E H S):=
 JL.op an hw ao λρ ar=>by
  show lp P (do pure (Next.value (← Instr.next (ρ x) false ty))) _ _ _
  rw [ar _ _ U]
  refine As _ _ ?_
  unfold Instr.next
  simp only [getObj,setObj,bind,Sem.bind,pure,lp]
  refine⟨_,DO (i:=0) K O rfl,rfl,?_⟩
  simp only [lp]
  refine⟨_,am,rfl,?_⟩
  have au:(!seen.isEmpty&& !es.isEmpty&&es.all (λe=>decide (e.born>=c)))=false:=by
   by_cases he:es.toList= []
   ·have:es.isEmpty=true:=by simpa [Array.isEmpty_iff] using he
    simp [this]
   ·obtain⟨e,ag⟩:=List.exists_mem_of_ne_nil _ he;have aI:=hb e ag;have:es.all (λe=>decide (e.born>=c))=false:=by
     cases U:es.all (λe=>decide (e.born>=c)) with
     | false=>rfl
     | true=>
      have:=Array.all_eq_true'.1 U e (Array.mem_toList_iff.1 ag);simp at this;omega
    simp [this]
  have av:Array.filter (λx:MapEntry=>decide (x.born<c)) (Array.filter (λe=> !seen.contains e.born) es)=Array.filter (λe=> !seen.contains e.born) es:=by
   apply Array.toList_inj.1;rw [Array.toList_filter,List.filter_eq_self];intro e he;rw [Array.toList_filter] at he;simpa using hb e (List.mem_filter.1 he).1
  have e2:Array.filter (λx:MapEntry=>decide (x.born>=c)) (Array.filter (λe=> !seen.contains e.born) es)= #[]:=by
   apply Array.toList_inj.1;rw [Array.toList_filter,List.filter_eq_nil_iff];intro e he;rw [Array.toList_filter] at he;have:=hb e (List.mem_filter.1 he).1;simp;omega
  dsimp only;rw [if_neg (by rw [au];exact Bool.false_ne_true),av,e2];have Y:∀e,e∈(Array.filter (λe=> !seen.contains e.born) es).toList↔e∈es.toList/\e.born ∉ seen:=by
   intro e;rw [Array.toList_filter,List.mem_filter];simp
  generalize Array.filter (λe:MapEntry=> !seen.contains e.born) es=left at Y ⊢;by_cases Z:left.toList= []
  ·have aw:left= #[]:=Array.toList_inj.1 Z;subst aw;refine QO (by simp) rfl λi hi=>?_;obtain rfl:i=0:=by simp at hi;exact hi
   have ay:((if(#[]:Array MapEntry).isEmpty=true then #[none] else #[])++Array.map some ((#[]:Array MapEntry)++ #[]))[0]? =some none:=by simp
   rw [ay];refine aq λe he=>?_;by_cases al:e.born∈seen
   ·exact al
   ·have:=(Y e).2 ⟨he,al⟩;simp at this
  ·have az:left.isEmpty=false:=by
    cases aA:left.isEmpty with
    | false=>rfl
    | true=>exact absurd (by simpa [Array.isEmpty_iff] using aA) Z
   rw [az];simp only [Bool.false_eq_true,if_false,Array.append_empty,Array.empty_append];have aB:0<left.size:=by
    rcases Nat.eq_zero_or_pos left.size with ac | ac
    ·exact absurd (by simpa using Array.eq_empty_of_size_eq_zero ac) Z
    ·exact ac
   refine QO (by simpa using aB) rfl λi hi=>?_;have aC:i<left.size:=by simpa using hi
   have aD:(Array.map some left)[i]? =some (some left[i]):=by simp [aC]
   rw [aD];simp only [lp];obtain⟨aE,aF⟩:=(Y left[i]).1 (Array.getElem_mem_toList _);refine⟨⟨_,Jz K O,rfl⟩,rfl,?_⟩;obtain⟨aG,aH⟩:=Kc K O (.mapIter (some bk) c (seen.push left[i].born) c);rw [aG];exact ap _ aE aF aH
theorem JS.entry{es:Array MapEntry}{c r:Nat}{seen:Array Nat}{e:MapEntry}(j:Nat)(U:(Aj E H S).get bk=some (.map es c))(he:e∈es.toList)(hb:(es.toList.map (·.born)).Pairwise (·<·))(Y:Ap E H S)(Z:S[j]? =some [(r,.mapIter (some bk) c (seen.push e.born) c)])
  (ac:ops[i]? =some ⟨d,.entry x,ty,p,af,g⟩) (hw:AI L ops ⟨d,.entry x,ty,p,af,g⟩=some true) (ag:BK b n ⟨d,.entry x,ty,p,af,g⟩=true) (al:ev L x=some (.pointer (some ⟨r,0,none⟩)))
  (h:JL J Q b n (Av L d (.tuple #[e.key,e.val])) ds (.inRegion ops rest::kk) cs (Aj E H S)):
  JL J Q b n L ds (.inRegion ops (i::rest)::kk) cs (Aj E H S):=
 JL.op ac hw ag λρ am=>by
  show lp P (do pure (Next.value (← Instr.entry (ρ x)))) _ _ _
  rw [am _ _ al]
  refine As _ _ ?_
  unfold Instr.entry
  simp only [getObj,bind,Sem.bind,pure,lp]
  refine⟨_,DO (i:=0) Y Z rfl,rfl,?_⟩
  simp only [Array.back?_push,bne_self_eq_false,lp]
  refine⟨_,U,rfl,?_⟩
  have an:es.find? (λx=>x.born==e.born)=some e:=by
   rw [← Array.find?_toList];have key:∀(l:List MapEntry),e∈l->(l.map (·.born)).Pairwise (·<·)->l.find? (λx=>x.born==e.born)=some e:=by
    intro l
    induction l with
    | nil=>intro h;cases h
    | cons y l ao=>
     intro hm K;rw [List.map_cons,List.pairwise_cons] at K;by_cases O:y.born=e.born
     ·rcases List.mem_cons.1 hm with rfl | hm
      ·simp
      ·have:=K.1 e.born (List.mem_map.2 ⟨e,hm,rfl⟩);omega
     ·rw [List.find?_cons_of_neg (by simpa using O)];rcases List.mem_cons.1 hm with rfl | hm
      ·exact absurd rfl O
      ·exact ao hm K.2
   exact key _ he hb
  simp only [bne_self_eq_false,Bool.false_eq_true,if_false,an,lp];exact h
end
end
end Pal
namespace Pal
open Go Go.Conc
theorem J2{E H:LH}{S:List Seg}{bk:Nat}{o:Obj}(h:E bk=some o):(Aj E H S).get bk=some o:=by
 show(match E bk with | some o=>some o | none=>_)=some o
 rw [h]
theorem Qm{α β:Type}(f:α->β){l:List α}(h:(l.map f).Nodup):l.Nodup:=by
 unfold List.Nodup at h ⊢;rw [List.pairwise_map] at h;exact h.imp λh e=>h (by rw [e])
theorem Rn{α:Type}:∀{l l':List α},l.Nodup->(∀x∈l,x∈l')->l.length<=l'.length
 | [],_,_,_=>Nat.zero_le _
 | x::l,l',h,O=>by
  obtain⟨a,b,rfl⟩:=List.append_of_mem (O x (by simp))
  have U:=List.nodup_cons.1 h
  have:=Rn (l:=l) (l':=a++b) U.2 (λy Y=>by
   have K:=O y (List.mem_cons_of_mem _ Y)
   have Z:y≠x:=λe=>U.1 (e▸Y)
   simp at K ⊢
   rcases K with K | K | K
   ·exact .inl K
   ·exact absurd K Z
   ·exact .inr K)
  simp at this ⊢;omega
section
variable {κ ν:Type} [DecidableEq κ] {pk:Rp κ}{pv:Rp ν}{ka va:Bool}{E E' H:LH}
def IE(es:Array MapEntry)(ys:List (κ×ν))(seen:Array Nat)(done:List (κ×ν)):Prop:=
 ∃K:List (MapEntry×(κ×ν)),done=K.map (·.2)/\seen.toList=K.map (·.1.born)/\K.Nodup/\∀q∈K,q∈es.toList.zip ys
theorem IE.nil{es:Array MapEntry}{ys:List (κ×ν)}:IE es ys #[] []:=⟨[],rfl,rfl,.nil,by simp⟩
theorem Rx:∀{es:List MapEntry} {ys:List (κ×ν)},(es.map (·.born)).Pairwise (·<·)->∀{p q:MapEntry×(κ×ν)},p∈es.zip ys->q∈es.zip ys->p.1.born=q.1.born->p=q
 | [],_,_,_,_,h,_,_=>by simp at h
 | _::_,[],_,_,_,h,_,_=>by simp at h
 | e::es,y::ys,U,p,q,K,O,hb=>by
  rw [List.map_cons,List.pairwise_cons] at U
  rw [List.zip_cons_cons] at K O
  have Y:∀{z:MapEntry×(κ×ν)},z∈es.zip ys->z.1.born∈es.map (·.born):=λ{z} Z=>by
   have:=(List.of_mem_zip Z).1
   exact List.mem_map.2 ⟨z.1,this,rfl⟩
  rcases List.mem_cons.1 K with rfl | K <;> rcases List.mem_cons.1 O with rfl | O
  ·rfl
  ·have:=U.1 _ (Y O);simp at hb;omega
  ·have:=U.1 _ (Y K);simp at hb;omega
  ·exact Rx U.2 K O hb
theorem Dz.zip:∀{es:List MapEntry} {ys:List (κ×ν)},Dz pk ka pv va E es ys->∀{q:MapEntry×(κ×ν)},q∈es.zip ys->Vr pk ka E q.1.key q.2.1/\Vr pv va E q.1.val q.2.2
 | [],[],_,_,h=>by simp at h
 | e::es,y::ys,h,q,K=>by
  rw [List.zip_cons_cons] at K
  rcases List.mem_cons.1 K with rfl | K
  ·exact⟨h.1,h.2.1⟩
  ·exact Dz.zip h.2.2 K
 | [],_::_,h,_,_=>h.elim
 | _::_,[],h,_,_=>h.elim
theorem Rt:∀{es:List MapEntry} {ys:List (κ×ν)},KN ys->(es.map (·.born)).Pairwise (·<·)->∀{p q:MapEntry×(κ×ν)},p∈es.zip ys->q∈es.zip ys->p.2.1=q.2.1->p=q
 | [],_,_,_,_,_,h,_,_=>by simp at h
 | _::_,[],_,_,_,_,h,_,_=>by simp at h
 | e::es,y::ys,ac,Y,p,q,K,O,hb=>by
  have U:y.1 ∉ ys.map (·.1)/\KN ys:=by simpa [KN] using ac
  rw [List.map_cons,List.pairwise_cons] at Y;rw [List.zip_cons_cons] at K O;have Z:∀{z:MapEntry×(κ×ν)},z∈es.zip ys->z.2.1∈ys.map (·.1):=λ{z} ag=>List.mem_map.2 ⟨z.2,(List.of_mem_zip ag).2,rfl⟩;rcases List.mem_cons.1 K with rfl | K <;> rcases List.mem_cons.1 O with rfl | O
  ·rfl
  ·have:=Z O;simp only at hb;rw [← hb] at this;exact absurd this U.1
  ·have:=Z K;simp only at hb;rw [hb] at this;exact absurd this U.1
  ·exact Rt U.2 Y.2 K O hb
theorem IE.len{es:Array MapEntry}{ys:List (κ×ν)}{seen:Array Nat}{done:List (κ×ν)}(h:IE es ys seen done):done.length<=ys.length:=by
 obtain⟨Y,rfl,Z,K,O⟩:=h;rw [List.length_map];have U:=Rn K O;exact Nat.le_trans U (by rw [List.length_zip];exact Nat.min_le_right _ _)
section
variable {P:Program}{J:Judge P}{Q:Gs_}{b:Frame}{n:Nat}{ds:Ld_}{ops:Ao_}{kk:Li_}{cs:Lf_}{L:Env}{s:St}{S:List Seg}
variable {d:Option Tmp}{x y z:Operand}{t u ty e tm te:TypeId}{p:String}{af:Ae_}{g:On_}{i:Nat}{rest:List Nat}{bk:Nat}{o:Obj}{xs ys:List (κ×ν)}
theorem RF{es:Array MapEntry}{c r:Nat}{seen:Array Nat}{done:List (κ×ν)}(j:Nat)(ag:Dz pk ka pv va E es.toList ys)(Z:(es.toList.map (·.born)).Pairwise (·<·))(hb:∀e∈es.toList,e.born<c)(ap:KN ys)(aq:IE es ys seen done)(ar:(Aj E' H S).get bk=some (.map es c))(au:Ap E' H S)(av:S[j]? =some [(r,.mapIter (some bk) c seen c)])
  (aw:ops[i]? =some ⟨d,.next x false,ty,p,af,g⟩) (hw:AI L ops ⟨d,.next x false,ty,p,af,g⟩=some true) (ay:BK b n ⟨d,.next x false,ty,p,af,g⟩=true) (az:ev L x=some (.pointer (some ⟨r,0,none⟩)))
  (aA:∀e O,Vr pk ka E e.key O.1->Vr pv va E e.val O.2->O∈ys->O.1 ∉ done.map (·.1)->e∈es.toList->IE es ys (seen.push e.born) (done++ [O])->Ap E' H (S.set j [(r,.mapIter (some bk) c (seen.push e.born) c)])->
   JL J Q b n (Av L d (.tuple #[.bool true,e.key,e.val])) ds (.inRegion ops rest::kk) cs (Aj E' H (S.set j [(r,.mapIter (some bk) c (seen.push e.born) c)])))
  (aB:done.Perm ys->JL J Q b n (Av L d (.tuple #[.bool false])) ds (.inRegion ops rest::kk) cs (Aj E' H S)):
  JL J Q b n L ds (.inRegion ops (i::rest)::kk) cs (Aj E' H S):=by
 obtain⟨ac,rfl,a1,al,Y⟩:=aq;have hlen:=ag.len;refine JS.next j ar hb au av aw hw ay az (λe he aC aD=>?_) (λaE=>?_)
 ·obtain⟨m,hm,aF⟩:=List.mem_iff_getElem.1 he;have U:(e,ys[m]'(by omega))∈es.toList.zip ys:=by
   rw [← aF];have:(es.toList.zip ys)[m]'(by rw [List.length_zip];omega)=(es.toList[m],ys[m]'(by omega)):=List.getElem_zip;rw [← this];exact List.getElem_mem _
  obtain⟨k1,aG⟩:=ag.zip U;have am:(e,ys[m]'(by omega)) ∉ ac:=λq=>aC (by
   rw [← Array.mem_toList_iff,a1]
   exact List.mem_map.2 ⟨_,q,rfl⟩)
  refine aA e _ k1 aG (List.getElem_mem _) (λq=>?_) he ⟨ac++ [(e,ys[m]'(by omega))],by simp,by simp [a1],?_,λq K=>?_⟩ aD
  ·obtain⟨O,aH,aI⟩:=List.mem_map.1 q;obtain⟨z,an,rfl⟩:=List.mem_map.1 aH;have:=Rt ap Z (Y z an) U aI;exact am (this▸an)
  ·rw [List.nodup_append];exact⟨al,by simp,by intro q K z ao aJ;simp at ao;subst ao aJ;exact am K⟩
  ·rcases List.mem_append.1 K with K | K
   ·exact Y q K
   ·simp at K;subst K;exact U
 ·refine aB ?_;have aK:ac.Perm (es.toList.zip ys):=by
   have aL:(es.toList.zip ys).Nodup:=by
    have:((es.toList.zip ys).map (·.1)).Nodup:=by
     rw [List.map_fst_zip (by omega)];exact Qm (λe:MapEntry=>e.born) (Z.imp (λh=>Nat.ne_of_lt h))
    exact Qm _ this
   refine(List.perm_ext_iff_of_nodup al aL).2 λq=>⟨λK=>Y q K,λK=>?_⟩;have:=aE q.1 (List.of_mem_zip K).1;rw [← Array.mem_toList_iff,a1] at this;obtain⟨z,U,aM⟩:=List.mem_map.1 this;have:=Rx Z (Y z U) K aM;exact this▸U
  have:=aK.map (·.2)
  rwa [List.map_snd_zip (by omega)] at this
end
end
end Pal
namespace Pal
open Go Go.Conc
section
variable {P:Program}{J:Judge P}{Q:Gs_}{b:Frame}{n:Nat}{ds:Ld_}{ops:Ao_}{k:Li_}{cs:Lf_}{fuel:Nat}{D:Nat->Bool}{listed:Array Bool}{L L':Env}{s:St}{xl:List Nat}
variable {d:Option Tmp}{op:Op}{ty:TypeId}{p:String}{af:Ae_}{g:On_}{v:Value}
theorem HF(i:Nat)(pure:Bool)(K:s.q=false)(O:GK n L ops i=some ⟨d,op,ty,p,af,g⟩)
  (U:∀ρ,ER L ρ->∀s':St,(pure=false->∀x o,(Bu D s).E x=some o->s'.E x=some o)->Yl P ⟨d,op,ty,p,af,g⟩ ρ s' v)
  (Y:Gf J Q b n ds ops k cs (AX xl) D fuel (A4 listed i) (Av L d v) s) (Z:Lg ops listed xl pure i=true:=by decide+kernel):Gf J Q b n ds ops k cs (AX xl) D (fuel+1) listed L s:=by
 obtain⟨ac,ag,al⟩:=OA O;exact JB.val i pure ac Z K ag al U Y
def Qc(n:Nat)(L:Env)(ops:Ao_)(i:Nat):Option Env:=
 match Jb ops.toList i with
 | some ⟨d,op,ty,p,af,g⟩=>match AI L ops ⟨d,op,ty,p,af,g⟩ with
  | some true=>match A9 n d with
   | true=>match Kq L op with
    | some v=>match d with
     | some d=>some ((d,v)::L)
     | none=>some L
    | none=>none
   | false=>none
  | _=>none
 | none=>none
theorem WI{i:Nat}(h:Qc n L ops i=some L'):∃o v,ops[i]? =some o/\A9 n o.dst=true/\AI L ops o=some true/\Kq L o.op=some v/\L'=Av L o.dst v:=by
 unfold Qc at h;split at h
 ·rename_i d op ty p af g K;rw [KT,Array.getElem?_toList] at K;split at h
  ·rename_i hw;split at h
   ·rename_i O;split at h
    ·rename_i v U;refine⟨_,v,K,O,hw,U,?_⟩;cases d with
     | none=>cases h;rfl
     | some d=>cases h;rfl
    ·cases h
   ·cases h
  ·cases h
 ·cases h
theorem Bl(i:Nat)(K:s.q=false)(h:Qc n L ops i=some L')
  (O:Gf J Q b n ds ops k cs (AX xl) D fuel (A4 listed i) L' s) (U:Lg ops listed xl true i=true:=by decide+kernel):Gf J Q b n ds ops k cs (AX xl) D (fuel+1) listed L s:=by
 obtain⟨o,v,Y,Z,hw,ac,rfl⟩:=WI h;exact JB.val i true Y U K hw Z (λρ ag s' _=>M9 ag ac) O
end
end Pal
namespace Pal
open Go Go.Conc
section
variable {P:Program}{J:Judge P}{Q:Gs_}{b:Frame}{n:Nat}{L L':Env}{ds:Ld_}{k:Li_}{cs:Lf_}{s:St}{ops:Ao_}{E H:LH}{S:List Seg}{i i2:Nat}{rest:List Nat}
variable {d d2:Option Tmp}{x y x2:Operand}{t t2 ft u ty ty2 e:TypeId}{p p2:String}{af af2:Ae_}{g g2:On_}{v w:Value}
theorem Dp(O:Ap E H S)(h:∀r E',Le E E'->At E' r 0 v.cells.toList->Ap E' H (S++ [[]])->JL J Q b n (Av L d (.pointer (some ⟨r,0,none⟩))) ds (.inRegion ops rest::k) cs (Aj E' H (S++ [[]])))
  (U:Fw b n L ops i=some ⟨d,.box e x,ty,p,af,g⟩:=by exact rfl) (Y:ev L x=some v:=by exact rfl):JL J Q b n L ds (.inRegion ops (i::rest)::k) cs (Aj E H S):=by
 obtain⟨Z,ac,ag⟩:=Ka U;refine JS.box Z ac ag O Y λr al=>DG (bk:=r) (c:=v.cells) (e:=e) (f:=(0,0)) S.length al (by simp) λE' hle am K=>?_;have an:(S++ [[(r,Obj.cells v.cells e (0,0))]]).set S.length []=S++ [[]]:=by simp
 rw [an] at K ⊢;exact h r E' hle am K
theorem BU{z:Value}(K:Ap E H S)(O:zeroOf P e=some z)(h:∀r,Ap E H (S++ [[(r,.cells z.cells e (0,0))]])->JL J Q b n (Av L d (.pointer (some ⟨r,0,none⟩))) ds (.inRegion ops rest::k) cs (Aj E H (S++ [[(r,.cells z.cells e (0,0))]])))
  (U:Fw b n L ops i=some ⟨d,.alloc e,ty,p,af,g⟩:=by exact rfl):JL J Q b n L ds (.inRegion ops (i::rest)::k) cs (Aj E H S):=by
 obtain⟨Y,Z,ac⟩:=Ka U;exact JS.alloc Y Z ac K O h
theorem Br{bk off K:Nat}{c:Av_}(j:Nat)(O:Ap E H S)(U:Be P t=some K)
  (h:Ap E H (S.set j [(bk,.cells (A8 c off v.cells.toList) e (0,0))])->JL J Q b n (Av L d undef) ds (.inRegion ops rest::k) cs (Aj E H (S.set j [(bk,.cells (A8 c off v.cells.toList) e (0,0))])))
  (Y:Fw b n L ops i=some ⟨d,.store t x y,ty,p,af,g⟩:=by exact rfl) (Z:ev L x=some (.pointer (some ⟨bk,off,none⟩)):=by exact rfl) (ac:ev L y=some v:=by exact rfl) (ag:S[j]? =some [(bk,.cells c e (0,0))]:=by exact rfl)
  (al:K=v.cells.size:=by exact rfl) (hle:off+v.cells.size<=c.size:=by exact Nat.le_of_ble_eq_true rfl) (am:v.cells.toList.all C8=true:=by first | exact rfl | simp [Value.cells,C8]):
  JL J Q b n L ds (.inRegion ops (i::rest)::k) cs (Aj E H S):=ZZ j O (by rw [← al];exact U) Y Z ac ag h hle (List.all_eq_true.1 am)
theorem Cf{bk o K Y off:Nat}{O:Array Field}{U:Nat}{ws:Lv_}(j:Nat)(Z:At E bk o ws)(ac:P.underlying t=some (.struct O))(ag:Be P ft=some (Y+1))(al:Dd P t2=some false)
  (am:JL J Q b n (Av (Av L d (.pointer (some ⟨bk,K+off,none⟩))) d2 v) ds (.inRegion ops rest::k) cs (Aj E H S))
  (an:Fw b n L ops i=some ⟨d,.fieldAddr t x U,ty,p,af,g⟩:=by exact rfl) (ao:ev L x=some (.pointer (some ⟨bk,K,none⟩)):=by exact rfl) (ap:LY O U=some (off,ft):=by exact rfl)
  (aq:Fw b n (Av L d (.pointer (some ⟨bk,K+off,none⟩))) ops i2=some ⟨d2,.load t2 x2,ty2,p2,af2,g2⟩:=by exact rfl) (ar:ev (Av L d (.pointer (some ⟨bk,K+off,none⟩))) x2=some (.pointer (some ⟨bk,o+j,none⟩)):=by exact rfl) (au:ws[j]? =some v:=by exact rfl):
  JL J Q b n L ds (.inRegion ops (i::i2::rest)::k) cs (Aj E H S):=JL.fd ac ag an ao ap (Da j Z al aq ar au am)
theorem JS.ix{α:Type}{pp:Rp α}{a:Option Addr}{c:Nat}{xs:List α}{xv:α}{m:Int}{kd:IntKind}(K:Am pp E a c xs)(hm:ix xs m=some xv)(O:P.underlying t=some (.slice e))(U:Be P e=some pp.n)
  (h:∀bk o ws,pp.r E ws xv->At E bk o ws->JL J Q b n (Av L d (.pointer (some ⟨bk,o,none⟩))) ds (.inRegion ops rest::k) cs (Aj E H S))
  (Y:Fw b n L ops i=some ⟨d,.indexAddr t x y,ty,p,af,g⟩:=by exact rfl) (Z:ev L x=some (.slice a xs.length c):=by exact rfl) (ac:ev L y=some (.int kd m):=by exact rfl):
  JL J Q b n L ds (.inRegion ops (i::rest)::k) cs (Aj E H S):=by
 obtain⟨ag,al,am⟩:=Ka Y;exact Se K hm ag al am Z ac O U h
theorem ES(K:List Seg)(O:Env){todo:Li_}{c:Code}(U:∀E',Le E E'->Ap E' H K->JL J Q b n O ds todo cs (Aj E' H K))
  (h:(∀{E':LH} {L:Env},Le E E'->Ap E' H K->H3 L O=Ia O->JL J Q b n L ds todo cs (Aj E' H K))->JL J Q b n L ds (.code c::todo) cs (Aj E H S)):JL J Q b n L ds (.code c::todo) cs (Aj E H S):=
 h λY Z ac=>AE (U _ Y Z) ac
theorem Es{U:List Nat}(Y Z:Nat)(K:List Seg)(O:Env){todo:Li_}(ac:∀E',Le E E'->Ap E' H K->JL J Q b n O ds (.inRegion ops (List.range' Y Z)::todo) cs (Aj E' H K))
  (h:(∀{E':LH} {L:Env},Le E E'->Ap E' H K->H3 L O=Ia O->JL J Q b n L ds (.inRegion ops (List.range' Y Z)::todo) cs (Aj E' H K))->JL J Q b n L ds (.inRegion ops U::todo) cs (Aj E H S)):JL J Q b n L ds (.inRegion ops U::todo) cs (Aj E H S):=
 h λag al am=>AE (ac _ ag al) am
theorem Ek{O ag:Type}{c:Code}{body:O->Option (Bp O ag)}{f:Nat}{Y:O}{a:ag}{Z:LH}{k:Li_}(am:iter body f Y=some a)(K:O->List Seg)(U:O->Env)(hle:Le Z E)(an:Ap E H (K Y))
  (round:∀x E',Le Z E'->Ap E' H (K x)->(∀al,body x=some (.done al)->al=a)->(∃st,body x=some st)->(∀{L':Env} {ac:LH} (x':O),Le Z ac->Ap ac H (K x')->H3 L' (U x')=Ia (U x')->body x=some (.more x')->JL J Q b n L' ds (.inLoop c::k) cs (Aj ac H (K x')))->JL J Q b n (U x) ds (.code c:: .inLoop c::k) cs (Aj E' H (K x)))
  (ao:H3 L (U Y)=Ia (U Y):=by exact rfl) (ap:Aj E H S=Aj E H (K Y):=by exact rfl):JL J Q b n L ds (.code (.loop c)::k) cs (Aj E H S):=by
 rw [ap];refine Et _ ao (RB am (λL s x=>∃E',Jm Z H E' (K x) (U x) L s) ⟨E,rfl,rfl,hle,an⟩ ?_);rintro _ _ x ⟨E',rfl,rfl,aq,ar⟩ hd hb au;exact round x E' aq ar hd hb λx' av g2 aw ay=>AE (au _ _ x' ⟨_,rfl,rfl,av,g2⟩ ay) aw
theorem Bi{f:FuncId}{fn:Func}{c:Code}{E:LH}{vs:Lv_}{B:Seg}{R:Value->LH->Seg->Prop}(O:P.funcs[f]? =some fn)
  (h:∀(Q:Gs_) (K:Frame) (cs:Lf_) (H:LH),Ap E H [B]->(∀{v:Value} {E':LH} {S':List Seg} {B':Seg},Le E E'->S'.flatten=B'->R v E' B'->Ap E' H S'->J.ok Q (G (K.finish v) cs) (Aj E' H S'))->JL J Q (base f) fn.ntmps (F6 0 vs) [] [.code c] (K::cs) (Aj E H [B]))
  (hb:fn.body=some c:=by exact rfl) (U:Nat.ble vs.length fn.ntmps=true:=by exact rfl):AR J f vs E B R:=
 PC O hb U λQ K cs H Y Z=>h Q K cs H Y λac ag al am=>Z _ _ _ _ ac ag al am
variable {m:Nat}{fuel:Nat}{listed:Array Bool}{bks xl:List Nat}
theorem Kj{bk:Nat}{c:Av_}{f:Nat×Nat}(i:Nat)(K:DJ ops m=true)(o:Nat)(j:Nat)(O:Ap E H S)(U:Dd P t=some false)
  (Y:AJ J Q b n ds ops k cs m (AX bks) fuel (A4 listed i) (Av L d w) (Aj E H S)) (Z:GK n L ops i=some ⟨d,.load t x,ty,p,af,g⟩:=by exact rfl) (ac:ev L x=some (.pointer (some ⟨bk,o,none⟩)):=by exact rfl)
  (ag:S[j]? =some [(bk,.cells c e f)]:=by exact rfl) (hw:c[o]? =some w:=by exact rfl) (al:AX bks bk=true:=by simp [AX]) (am:F8 ops listed m i=true:=by decide+kernel):AJ J Q b n ds ops k cs m (AX bks) (fuel+1) listed L (Aj E H S):=
 AP i K rfl Z (λρ h s' an=>Yl.load U (h _ _ ac) (Cc (o:=o) j O ag al an hw)) Y am
theorem JG.lp{bk o:Nat}{ws:Lv_}(i:Nat)(K:DJ ops m=true)(j:Nat)(O:At E bk o ws)(U:Ap E H S)(Y:HD S bks)(Z:Dd P t=some false)
  (ac:AJ J Q b n ds ops k cs m (AX bks) fuel (A4 listed i) (Av L d w) (Aj E H S)) (ag:GK n L ops i=some ⟨d,.load t x,ty,p,af,g⟩:=by exact rfl) (al:ev L x=some (.pointer (some ⟨bk,o+j,none⟩)):=by exact rfl)
  (hw:ws[j]? =some w:=by exact rfl) (am:F8 ops listed m i=true:=by decide+kernel):AJ J Q b n ds ops k cs m (AX bks) (fuel+1) listed L (Aj E H S):=
 AP i K rfl ag (λρ h s' an=>Yl.load Z (h _ _ al) (At.PU (j:=j) O (Zx U an Y) hw)) ac am
theorem TM{bk o K:Nat}{c:Av_}{f:Nat×Nat}(i:Nat)(O:DJ ops m=true)(vs:Lv_)(j:Nat)(U:Ap E H S)(hw:∀(q:Nat) w,vs[q]? =some w->c[o+q]? =some w)(Y:Dd P t=some true)(Z:Be P t=some K)
  (ac:AJ J Q b n ds ops k cs m (AX bks) fuel (A4 listed i) (Av L d (.agg vs.toArray)) (Aj E H S)) (ag:GK n L ops i=some ⟨d,.load t x,ty,p,af,g⟩:=by exact rfl) (al:ev L x=some (.pointer (some ⟨bk,o,none⟩)):=by exact rfl)
  (am:S[j]? =some [(bk,.cells c e f)]:=by exact rfl) (an:K=vs.length:=by exact rfl) (ao:AX bks bk=true:=by simp [AX]) (ap:F8 ops listed m i=true:=by decide+kernel):AJ J Q b n ds ops k cs m (AX bks) (fuel+1) listed L (Aj E H S):=
 AP i O rfl ag (λρ h s' aq=>Fz (vs:=vs) Y (by rw [← an];exact Z) (h _ _ al) (λq w ar=>by rw [DI rfl];exact Cc j U am ao aq (hw q w ar))) ac ap
theorem JG.ix{D:Nat->Bool}{α:Type}{xs:List α}{xv:α}{K:Int}{bk c O U:Nat}{kd:IntKind}(i:Nat)(Y:DJ ops m=true)(Z:xs.length=U)(hm:ix xs K=some xv)(ac:P.underlying t=some (.slice e))(ag:Be P e=some O)
  (al:AJ J Q b n ds ops k cs m D fuel (A4 listed i) (Av L d (.pointer (some ⟨bk,K.toNat*O,none⟩))) s) (am:s.q=false:=by exact rfl) (an:GK n L ops i=some ⟨d,.indexAddr t x y,ty,p,af,g⟩:=by exact rfl)
  (ao:ev L x=some (.slice (some ⟨bk,0,none⟩) U c):=by exact rfl) (ap:ev L y=some (.int kd K):=by exact rfl) (aq:F8 ops listed m i=true:=by decide+kernel):AJ J Q b n ds ops k cs m D (fuel+1) listed L s:=
 AP i Y am an (λρ h s' ar=>Fj Z hm ac ag (h _ _ ao) (h _ _ ap)) al aq
theorem JB.ix{D:Nat->Bool}{α:Type}{xs:List α}{xv:α}{K:Int}{bk c O U:Nat}{kd:IntKind}(i:Nat)(Y:xs.length=U)(hm:ix xs K=some xv)(Z:P.underlying t=some (.slice e))(ac:Be P e=some O)
  (ag:Gf J Q b n ds ops k cs (AX xl) D fuel (A4 listed i) (Av L d (.pointer (some ⟨bk,K.toNat*O,none⟩))) s) (al:s.q=false:=by exact rfl) (am:GK n L ops i=some ⟨d,.indexAddr t x y,ty,p,af,g⟩:=by exact rfl)
  (an:ev L x=some (.slice (some ⟨bk,0,none⟩) U c):=by exact rfl) (ao:ev L y=some (.int kd K):=by exact rfl) (ap:Lg ops listed xl true i=true:=by decide+kernel):Gf J Q b n ds ops k cs (AX xl) D (fuel+1) listed L s:=
 HF i true al am (λρ h s' aq=>Fj Y hm Z ac (h _ _ an) (h _ _ ao)) ag ap
theorem TC{bk o K:Nat}{c:Av_}{f:Nat×Nat}(i:Nat)(vs:Lv_)(j:Nat)(O:Ap E H S)(hw:∀(q:Nat) w,vs[q]? =some w->c[o+q]? =some w)(U:Dd P t=some true)(Y:Be P t=some K)
  (Z:Gf J Q b n ds ops k cs (AX xl) (AX bks) fuel (A4 listed i) (Av L d (.agg vs.toArray)) (Aj E H S)) (ac:GK n L ops i=some ⟨d,.load t x,ty,p,af,g⟩:=by exact rfl) (ag:ev L x=some (.pointer (some ⟨bk,o,none⟩)):=by exact rfl)
  (al:S[j]? =some [(bk,.cells c e f)]:=by exact rfl) (am:K=vs.length:=by exact rfl) (an:AX bks bk=true:=by simp [AX]) (ao:Lg ops listed xl false i=true:=by decide+kernel):Gf J Q b n ds ops k cs (AX xl) (AX bks) (fuel+1) listed L (Aj E H S):=
 HF i false rfl ac (λρ h s' ap=>Fz (vs:=vs) U (by rw [← am];exact Y) (h _ _ ag) (λq w aq=>by rw [DI rfl];exact Cc j O al an (ap rfl) (hw q w aq))) Z ao
theorem Fc{bk off K:Nat}{c:Av_}{D:Nat->Bool}(i j:Nat)(O:Ap E H S)(U:Be P t=some K)(hle:off+K<=c.size)
  (h:Ap E H (S.set j [(bk,.cells (A8 c off v.cells.toList) e (0,0))])->Gf J Q b n ds ops k cs (AX xl) D fuel (A4 listed i) (Av L d undef) (Aj E H (S.set j [(bk,.cells (A8 c off v.cells.toList) e (0,0))])))
  (Y:GK n L ops i=some ⟨d,.store t x y,ty,p,af,g⟩:=by exact rfl) (Z:ev L x=some (.pointer (some ⟨bk,off,none⟩)):=by exact rfl) (ac:ev L y=some v:=by exact rfl) (ag:S[j]? =some [(bk,.cells c e (0,0))]:=by exact rfl)
  (al:K=v.cells.size:=by exact rfl) (am:v.cells.toList.all C8=true:=by first | exact rfl | simp [Value.cells,C8]) (an:Region.ready .any ops listed= [i]:=by decide+kernel) (ao:AX xl i=true:=by decide+kernel):
  Gf J Q b n ds ops k cs (AX xl) D (fuel+1) listed L (Aj E H S):=by
 obtain⟨ap,aq,ar⟩:=OA Y;subst al;exact JB.store i j an ao ap aq ar O Z ac U (List.all_eq_true.1 am) ag hle h
end
end Pal
namespace Pal
open Go Go.Conc
abbrev s8(s:Nat):Value:= .int .u8 (s:Int)
def NK(a:Nat)(n:Int):Option Nat:=if 0<=n/\n<=8 then some (a>>>n.toNat) else none
def Lh(a b:Nat):Option Nat:=if a<256/\b<256 then some (a ||| b) else none
def NG(a b:Nat):Option Nat:=if a<256/\b<256 then some (a&&& b) else none
section
variable {P:Program}{s:St}{ρ:Operand->Value}{d:Option Tmp}{t u ty:TypeId}{x y:Operand}{p:String}{af:Ae_}{g:On_}{a b c r:Nat}{m:Int}
theorem Tx{m:Nat}(h:m<256):IntKind.u8.wrap (m:Int)=m:=by
 simp only [IntKind.wrap,IntKind.bits,IntKind.signed];simp;omega
theorem NX{m:Nat}(h:m<256):(BitVec.ofInt IntKind.u8.bits (m:Int)).toNat=m:=by
 simp [IntKind.bits,BitVec.toNat_ofInt];omega
theorem ZQ{k:Nat}(a c:Nat)(K:c<=k):((a:Int).fdiv (2 ^ (min c k)))=((a>>>c:Nat):Int):=by
 rw [Nat.min_eq_left K,Nat.shiftRight_eq_div_pow,Int.fdiv_eq_ediv_of_nonneg _ (Int.pow_nonneg (by decide)),Int.natCast_ediv]
 rfl
theorem Rh(K:ρ x=s8 a)(O:ρ y=iV m)(h:NK a m=some r):Yl P ⟨d,.binOp .shr t x y u,ty,p,af,g⟩ ρ s (s8 r):=by
 unfold NK at h;split at h
 ·rename_i U;cases h;have h:=Yl.shr (P:=P) (s:=s) (d:=d) (t:=t) (u:=u) (ty:=ty) (p:=p) (af:=af) (g:=g) K O U.1;rw [show IntKind.u8.bits=8 from rfl,ZQ a m.toNat (by omega)] at h;exact h
 ·cases h
theorem M3(O:ρ x=s8 a)(U:ρ y=s8 b)(h:Lh a b=some r):Yl P ⟨d,.binOp .or t x y u,ty,p,af,g⟩ ρ s (s8 r):=by
 unfold Lh at h;split at h
 ·rename_i K;cases h;have h:=Yl.or (P:=P) (s:=s) (d:=d) (t:=t) (u:=u) (ty:=ty) (p:=p) (af:=af) (g:=g) O U;rw [BitVec.toNat_or,NX K.1,NX K.2,Tx (Nat.or_lt_two_pow (n:=8) K.1 K.2)] at h;exact h
 ·cases h
theorem RG(O:ρ x=s8 a)(U:ρ y=s8 b)(h:NG a b=some r):Yl P ⟨d,.binOp .and t x y u,ty,p,af,g⟩ ρ s (s8 r):=by
 unfold NG at h;split at h
 ·rename_i K;cases h;have h:=Yl.and (P:=P) (s:=s) (d:=d) (t:=t) (u:=u) (ty:=ty) (p:=p) (af:=af) (g:=g) O U;rw [BitVec.toNat_and,NX K.1,NX K.2,Tx (Nat.lt_of_le_of_lt Nat.and_le_left K.1)] at h;exact h
 ·cases h
end
end Pal
namespace Pal
open Go Go.Conc
def PE(a b:Nat):Option Nat:=if a<4294967296/\b<4294967296 then some (a&&& b) else none
def Ps(a:Nat)(n:Int):Option Nat:=if 0<=n/\n<=32/\a*2 ^ n.toNat<4294967296 then some (a*2 ^ n.toNat) else none
def Kk(n:Int):Option Nat:=if 0<=n/\n<=8 then some ((1<<<n.toNat) % 256) else none
section
variable {P:Program}{s:St}{ρ:Operand->Value}{d:Option Tmp}{t u ty e:TypeId}{x y:Operand}{p:String}{af:Ae_}{g:On_}{a b c r:Nat}{m:Int}
theorem wrap32{m:Nat}(h:m<4294967296):IntKind.u32.wrap (m:Int)=m:=by
 simp only [IntKind.wrap,IntKind.bits,IntKind.signed];simp;omega
theorem TR{m:Nat}(h:m<4294967296):(BitVec.ofInt IntKind.u32.bits (m:Int)).toNat=m:=by
 simp [IntKind.bits,BitVec.toNat_ofInt];omega
theorem U7(O:ρ x= .int .u32 (a:Int))(U:ρ y= .int .u32 (b:Int))(h:PE a b=some r):Yl P ⟨d,.binOp .and t x y u,ty,p,af,g⟩ ρ s (.int .u32 (r:Int)):=by
 unfold PE at h;split at h
 ·rename_i K;cases h;have h:=Yl.and (P:=P) (s:=s) (d:=d) (t:=t) (u:=u) (ty:=ty) (p:=p) (af:=af) (g:=g) O U;rw [BitVec.toNat_and,TR K.1,TR K.2,wrap32 (Nat.lt_of_le_of_lt Nat.and_le_left K.1)] at h;exact h
 ·cases h
theorem VM(O:ρ x= .int .u32 (a:Int))(U:ρ y=iV m)(h:Ps a m=some r):Yl P ⟨d,.binOp .shl t x y u,ty,p,af,g⟩ ρ s (.int .u32 (r:Int)):=by
 unfold Ps at h;split at h
 ·rename_i K;cases h;have h:=Yl.shl (P:=P) (s:=s) (d:=d) (t:=t) (u:=u) (ty:=ty) (p:=p) (af:=af) (g:=g) O U K.1;have e:IntKind.u32.wrap ((a:Int)*2 ^ (min m.toNat IntKind.u32.bits))=((a*2 ^ m.toNat:Nat):Int):=by
   have Y:min m.toNat IntKind.u32.bits=m.toNat:=by simp [IntKind.bits];omega
   rw [Y,← wrap32 K.2.2];simp
  rw [e] at h;exact h
 ·cases h
theorem LD(K:ρ x=s8 1)(O:ρ y=iV m)(h:Kk m=some r):Yl P ⟨d,.binOp .shl t x y u,ty,p,af,g⟩ ρ s (s8 r):=by
 unfold Kk at h;split at h
 ·rename_i U;cases h;have h:=Yl.shl (P:=P) (s:=s) (d:=d) (t:=t) (u:=u) (ty:=ty) (p:=p) (af:=af) (g:=g) K O U.1;have e:IntKind.u8.wrap (((1:Nat):Int)*2 ^ (min m.toNat IntKind.u8.bits))=(((1<<<m.toNat) % 256:Nat):Int):=
   (by decide:∀k:Fin 9,IntKind.u8.wrap (((1:Nat):Int)*2 ^ (min k.1 IntKind.u8.bits))=(((1<<<k.1) % 256:Nat):Int)) ⟨m.toNat,by omega⟩
  rw [e] at h;exact h
 ·cases h
theorem Wc(K:ρ x=s8 a)(O:ρ y=s8 b)(hb:b<=256):Yl P ⟨d,.binOp .sub t x y u,ty,p,af,g⟩ ρ s (s8 ((a+(256 - b)) % 256)):=by
 have h:=Yl.sub (P:=P) (s:=s) (d:=d) (t:=t) (u:=u) (ty:=ty) (p:=p) (af:=af) (g:=g) K O;have e:IntKind.u8.wrap ((a:Int) - (b:Int))=(((a+(256 - b)) % 256:Nat):Int):=by
  simp only [IntKind.wrap,IntKind.bits,IntKind.signed];simp;omega
 rw [e] at h;exact h
theorem W8{kd:IntKind}{E:LH}(xs:List Nat):(rA xs.length (rN kd)).r E (xs.map λx=>Value.int kd ((x:Nat):Int)) xs:=by
 refine⟨rfl,xs.map λx=> [Value.int kd ((x:Nat):Int)],?_,by simp,λi x us K hu=>?_⟩
 ·induction xs with
  | nil=>rfl
  | cons x xs O=>simp [← O]
 ·rw [List.getElem?_map,K] at hu;exact(Option.some.inj hu).symm
theorem MW{α:Type}{kk:Nat}{pp:Rp α}{E:LH}{us:Lv_}{x:α}(h:pp.r E us x):(rA kk pp).r E (List.replicate kk us).flatten (List.replicate kk x):=
 ⟨by simp,List.replicate kk us,rfl,by simp,λi y ws K hw=>by
  rw [List.getElem?_replicate] at K hw
  split at K
  ·rename_i O
   rw [if_pos O] at hw
   cases K;cases hw
   exact h
  ·cases K⟩
theorem WO{k K:Nat}{z v:Value}(O:P.underlying t=some (.array k e))(U:zeroOf P t=some z)(Y:Be P e=some K)(Z: .agg z.cells=v):Yl P ⟨d,.build t #[],ty,p,af,g⟩ ρ s v:=by
 refine FM Oz ?_;unfold Instr.build;refine As (x:=zeroValue t) _ (Ho U ?_);refine As _ _ (Cj O ?_);refine As (x:=Go.sizeOf e) _ (Ey Y ?_);subst Z;simp [Instr.fill,lp,pure]
theorem XJ{k K:Nat}{z v:Value}{L:Env}{U:Array (Nat×Operand)}{vs:List (Nat×Value)}(h:ER L ρ)(Z:P.underlying t=some (.array k e))(ac:zeroOf P t=some z)(ag:Be P e=some K)(al:U.toList.mapM (λq=>(ev L q.2).map λv=>(q.1,v))=some vs)(O:(Instr.fill (λi=>some (i*K,K)) z.cells vs).map Value.agg=some v):Yl P ⟨d,.build t U,ty,p,af,g⟩ ρ s v:=by
 refine FM Oz ?_;unfold Instr.build;refine As (x:=zeroValue t) _ (Ho ac ?_);refine As _ _ (Cj Z ?_);refine As (x:=Go.sizeOf e) _ (Ey ag ?_);have am:=OE h al;have an:(U.map λ(j,x)=>(j,ρ x)).toList=vs:=by rw [← am,Array.toList_map]
 rw [an];cases Y:Instr.fill (λi=>some (i*K,K)) z.cells vs with
 | none=>rw [Y] at O;cases O
 | some cells=>rw [Y] at O;cases O;exact⟨rfl,rfl⟩
end
end Pal
namespace Pal
open Go Go.Conc
section
variable {P:Program}{E H:LH}{S:List Seg}{t e:TypeId}
end
section
variable {P:Program}{J:Judge P}{Q:Gs_}{b:Frame}{n:Nat}{ds:Ld_}{ops:Ao_}{k:Li_}{cs:Lf_}{m fuel:Nat}{D:Nat->Bool}{listed:Array Bool}{L:Env}{s:St}{E E' H:LH}{S:List Seg}
variable {d:Option Tmp}{x y:Operand}{t u ty e e2:TypeId}{p:String}{af:Ae_}{g:On_}{v:Value}{i:Nat}{kd:IntKind}
end
end Pal
namespace Pal
open Go Go.Conc
def GU(b:Frame)(T:Av_)(ds:Ld_)(todo:Li_)(ch:List PanicEntry):Frame:={b with tmps:=T,todo:=todo,defers:=ds,mode:= .panicking ch}
def raised(v:Value):List PanicEntry:= [{v,recovered:=false}]
def taken(v:Value):List PanicEntry:= [{v,recovered:=true}]
section
variable {P:Program}(J:Judge P)(Q:Gs_)
def JP(b:Frame)(n:Nat)(L:Env)(ds:Ld_)(cs:Lf_)(ch:List PanicEntry)(s:St):Prop:=
 ∀T,Has n L T->∀todo,J.ok Q (G (GU b T ds todo ch) cs) s
end
section
variable {P:Program}{J:Judge P}{Q:Gs_}{b bc:Frame}{n:Nat}{L L':Env}{ds dsc:Ld_}{k:Li_}{cs:Lf_}{s:St}{ch:List PanicEntry}{T Tc:Av_}{todoc:Li_}
variable {ops:Ao_}{i:Nat}{rest:List Nat}{d:Option Tmp}{x:Operand}{ty:TypeId}{p:String}{af:Ae_}{g:On_}{v:Value}
theorem JL.panic{t:TypeId}(O:ops[i]? =some ⟨d,.panic x,ty,p,af,g⟩)(U:b.roundOf=none)(hw:AI L ops ⟨d,.panic x,ty,p,af,g⟩=some true)(Y:ev L x=some (.iface t v))
  (h:JP J Q b n L ds cs (raised (.iface t v)) s):JL J Q b n L ds (.inRegion ops (i::rest)::k) cs s:=λT K=>
 Judge.C6 rfl (λw=>by
  have he:execOp (Bv T) ⟨d,.panic x,ty,p,af,g⟩= .halt (.panic (.iface t v)):=by
   simp [execOp,Instr.panic,K.ev Y,goPanic,bind,Sem.bind]
  rw [stepG_op O (B5 K hw)]
  simp [U,stepG.apply,he,Sem.run,Sem.runT,Sem.events,GStep.after,fr,GU,Frame.raise,G,raised,seen_none]) (h T K (.inRegion ops (i::rest)::k))
theorem JP.pop{fn:Func}(K:P.funcs[b.fn]? =some fn)(h:J.ok Q (G (GU bc Tc dsc todoc ch) cs) s):JP J Q b n L [] (fr bc Tc dsc todoc::cs) ch s:=λT O todo=>
 Judge.C6 rfl (λw=>by simp [G,stepG,unwind,GU,fr,Frame.raise,Frame.catches,K]) h
theorem JP.Py{f:FuncId}{fn:Func}{c:Code}{vs caps:Lv_}(an:b.roundOf=none)(O:P.funcs[f]? =some fn)(Y:(fn.name== "runtime.NumGoroutine")=false)(hb:fn.body=some c)(Z:(vs++caps).length<=fn.ntmps)
  (h:∀T,Has n L T->∀todo,JL J Q (baseD f) fn.ntmps (F6 0 (vs++caps)) [] [.code c] (GU b T ds todo ch::cs) s):JP J Q b n L (Ko f vs.toArray caps.toArray::ds) cs ch s:=λT ac todo=>by
 have ag:¬fn.name= "runtime.NumGoroutine" :=by simpa using Y
 refine Judge.C6 rfl (λw=>?_) (h T ac todo ((vs++caps).toArray++Array.replicate (fn.ntmps - (vs++caps).length) undef) ⟨by simp;simp at Z;omega,λt v al=>?_⟩)
 ·rw [BJ (b:=baseD f) rfl];have:=enter_atD (P:=P) (vs++caps).toArray O hb;simp only [List.size_toArray] at this;rw [← this];simp [G,stepG,unwind,callDeferred,GU,Ko,invoke,callFunc,O,ag,hb,GStep.after,seen_none]
 ·obtain⟨_,K⟩:=Jj al;have am:t<(vs++caps).length:=by
   rcases Nat.lt_or_ge t (vs++caps).length with U | U
   ·exact U
   ·simp only [Nat.sub_zero] at K;have:=(List.getElem?_eq_some_iff.1 K).1;omega
  rw [Array.getD_eq_getD_getElem?,Array.getElem?_append_left (by simpa using am)];simp only [Nat.sub_zero] at K;rw [List.getElem?_toArray,K];rfl
theorem Ur{ats:Array TypeId}{K:List PanicEntry}(O:ops[i]? =some ⟨d,.call ⟨.builtin .recover,#[],ats⟩,ty,p,af,g⟩)(U:b.roundOf=none)(Y:b.kind= .deferred)(ag:A9 n d=true)(hw:AI L ops ⟨d,.call ⟨.builtin .recover,#[],ats⟩,ty,p,af,g⟩=some true)
  (h:JL J Q b n (Av L d v) ds (.inRegion ops rest::k) (GU bc Tc dsc todoc ({v,recovered:=true}::K)::cs) s):
  JL J Q b n L ds (.inRegion ops (i::rest)::k) (GU bc Tc dsc todoc ({v,recovered:=false}::K)::cs) s:=λT Z=>
 Judge.C6 rfl (λw=>by
  have he:execOp (Bv T) ⟨d,.call ⟨.builtin .recover,#[],ats⟩,ty,p,af,g⟩= .pure .recover:=by
   simp [execOp,resolve,Deferred.ofValue,invoke,bind,Sem.bind,pure,Go.builtin]
  have ac:=Gk (b:=b) (ds:=ds) (k:=k) T ops i rest v _ O
  simp only [fr,U,Y] at ac
  rw [stepG_op O (B5 Z hw)]
  simp [U,Y,stepG.apply,he,Sem.run,Sem.runT,Sem.events,GStep.after,fr,GU,tryRecover,G,seen_none,ac]) (h _ (Z.put ag _))
theorem Ul{ats:Array TypeId}(K:ops[i]? =some ⟨d,.call ⟨.builtin .recover,#[],ats⟩,ty,p,af,g⟩)(O:b.roundOf=none)(U:b.kind= .deferred)(ac:A9 n d=true)(hw:AI L ops ⟨d,.call ⟨.builtin .recover,#[],ats⟩,ty,p,af,g⟩=some true)
  (h:JL J Q b n (Av L d .nilIface) ds (.inRegion ops rest::k) (Ej bc Tc dsc todoc::cs) s):
  JL J Q b n L ds (.inRegion ops (i::rest)::k) (Ej bc Tc dsc todoc::cs) s:=λT Y=>
 Judge.C6 rfl (λw=>by
  have he:execOp (Bv T) ⟨d,.call ⟨.builtin .recover,#[],ats⟩,ty,p,af,g⟩= .pure .recover:=by
   simp [execOp,resolve,Deferred.ofValue,invoke,bind,Sem.bind,pure,Go.builtin]
  have Z:=Gk (b:=b) (ds:=ds) (k:=k) T ops i rest .nilIface _ K
  simp only [fr,O,U] at Z
  rw [stepG_op K (B5 Y hw)]
  simp [O,U,stepG.apply,he,Sem.run,Sem.runT,Sem.events,GStep.after,fr,Ej,tryRecover,G,seen_none,Z]) (h _ (Y.put ac _))
theorem JO.XQ{fn:Func}(O:b.kind= .deferred)(U:P.funcs[b.fn]? =some fn)(K:fn.results= #[])(h:J.ok Q (G (Ej bc Tc dsc todoc) cs) s):JO J Q b n L [] (GU bc Tc dsc todoc (taken v)::cs) s:=λT Z todo=>by
 refine Judge.C6 rfl (λw=>?_) h
 have Y:=results_none K T P w
 have e2:=λ(x:Array Event)=>events_results_none (P:=P) (w:=w) K T x
 simp [G,stepG,unwind,Ej,GU,U,Y,e2,doReturn,O,GStep.after,seen_none,taken]
end
end Pal
namespace Pal
open Go Go.Conc Go.Proofs
abbrev Dq:=Int×Int×Int
abbrev Ay:=List Dq
abbrev AT:=List Ay
abbrev Bm:=List (List Int)
abbrev A5:=Bm×Ay
abbrev Au:=rP rI Ec
open Go.Proofs.Tryz
def AK:=AM Tryz.type3
def A1:=AM Tryz.type27
def FK:=AM Tryz.type101
def IS:=AM Tryz.type105
def Mt:=AM Tryz.type227
def Bh:=CU Tryz.underlying3
def Lo:=Ba Tryz.func91 rfl
def FL:=AM Tryz.type22
def FZ:=CU Tryz.underlying22
def Dv:=AM Tryz.type23
def Hl:=CU Tryz.underlying23
def Ee:=CU Tryz.underlying27
def Bn:=Dl Tryz.type27
def Gz:=AM Tryz.type28
def JY:=CU Tryz.underlying28
def KA:=Dl Tryz.type105
def BC:=AM Tryz.type25
def Iu:=CU Tryz.underlying105
def IQ:=Dl Tryz.type101
def HS:=Dl Tryz.type77
def Ci:=CU Tryz.underlying25
def DU:=AM Tryz.type77
def FY:=CU Tryz.underlying77
def CR:=Dl Tryz.type3
def KB:=Ba Tryz.func70 rfl
def Og:=Ba Tryz.func84 rfl
def HQ:=Ba Tryz.func74 rfl
def Lr:=AM Tryz.type4
def N5:=CU Tryz.underlying4
def Bc:=AM Tryz.type80
def BE:=CU Tryz.underlying80
def Hn:=AM Tryz.type197
def Hm:=Ba Tryz.func85 rfl
def Lp:=Dl Tryz.type28
def Lq:=Dl Tryz.type4
def Mo:=Ba Tryz.func115 rfl
def Ky:=Dl Tryz.type209
def HP:=Ba Tryz.func204 rfl
def Oi:=Dl Tryz.type80
def Mm:=CU Tryz.underlying167
def N4:=CU Tryz.underlying83
def Ob:=Ba Tryz.func71 rfl
def N7:=Ba Tryz.func205 rfl
def N9:=Ba Tryz.func179 rfl
def N8:=Ba Tryz.func137 rfl
def Mp:=Ba Tryz.func114 rfl
def JX:=CU Tryz.underlying197
def Oc:=Dl Tryz.type227
def Ml:=CU Tryz.underlying227
def Jh:=AM Tryz.type156
def Mq:=Dl Tryz.type156
def Mk:=CU Tryz.underlying156
def Dg:=AM Tryz.type21
def GY:=CU Tryz.underlying21
def Mw:=AM Tryz.type85
def HR:=Dl Tryz.type25
def Mr:=Ba Tryz.func67 rfl
def N6:=Ba Tryz.func110 rfl
def Ms:=Ba Tryz.func63 rfl
def Oa:=Ba Tryz.func43 rfl
def Od:=Ba Tryz.func22 rfl
def Oh:=Ba Tryz.func24 rfl
def Ln:=Ba Tryz.func29 rfl
def Of:=Ba Tryz.func26 rfl
def Ji:=AM Tryz.type72
def Mn:=CU Tryz.underlying72
def JZ:=Ba Tryz.func36 rfl
def Kz:=Ba Tryz.func37 rfl
def Oe:=Ba Tryz.func38 rfl
theorem mixed:Tryz.prog.follows .mixedOrders=true:=rfl
theorem ZB:B3 Tryz.prog 27 (rP rI (rP rI rI)) true 2:=B3.three underlying27 (B3.int underlying3 AK) (B3.int underlying3 AK) (B3.int underlying3 AK) (by decide+kernel) (by decide) (by decide) (by decide) rfl rfl rfl A1
theorem YK:B3 Tryz.prog 101 (rP rI rI) true 2:=B3.two underlying101 (B3.int underlying3 AK) (B3.int underlying3 AK) (by decide+kernel) (by decide) (by decide) rfl rfl FK
theorem YP:B3 Tryz.prog 105 (rA 5 rI) true 2:=B3.arr (kk:=5) (B3.int underlying3 AK) underlying105 IS
theorem YU:B3 Tryz.prog 225 (rA 10 rI) true 2:=B3.arr (kk:=10) (B3.int underlying3 AK) underlying225 (AM type225)
theorem Tm:B3 Tryz.prog 227 (rA 5 (rA 10 rI)) true 3:=B3.arr (kk:=5) YU underlying227 Mt
theorem Yt:B3 Tryz.prog 249 (rP (rN .u8) (rA 5 (rA 10 rI))) true 4:=B3.two underlying249 ((B3.nat underlying5 (AM type5)).up (by decide)) Tm (by decide+kernel) (by decide) (by decide) rfl rfl (AM type249)
theorem IG:Gp Tryz.prog 3 rI false:=(B3.int underlying3 AK).key (by decide)
theorem Pu:Gp Tryz.prog 101 (rP rI rI) true:=YK.key (by decide)
theorem SM:Gp Tryz.prog 227 (rA 5 (rA 10 rI)) true:=Tm.key (by decide)
theorem Tq:Gp Tryz.prog 249 (rP (rN .u8) (rA 5 (rA 10 rI))) true:=Yt.key (by decide)
end Pal
namespace Pal
open Go Go.Conc Go.Proofs
open Go.Proofs.Tryz
variable {J:Judge Tryz.prog}{E:LH}
def f91(fu_:Nat)(p0:Int)(p1:Int)(p2:Int):Option Bool:= Option.bind (if p1<=p0 then(some (decide (p0<=p2))) else(some false)) λK=> some K
theorem L5{p0:Int}{p1:Int}{p2:Int}{fu_:Nat}{r:Bool}(K:f91 fu_ p0 p1 p2=some r):AR J 91 [iV p0,iV p1,iV p2] E [] (λw E' B'=>w= .bool r/\B'= []):=by
 refine Bi func91 λQ aq cs H O Y=>?_;unfold f91 at K;obtain⟨Z,ac,ag⟩:=bs K;refine zg 10 rfl (Es 8 1 [] [(14,.bool Z)] (λar al am=>?_) (λU=>?_))
 ·refine zg 2 rfl ?_;obtain rfl:=oi ag;exact A3 func91 rfl rfl (Y al rfl ⟨rfl,rfl⟩ am)
 ·refine I9 10 ac (λan ao=>?_) (λan ap=>?_)
  ·refine zg 4 rfl ?_;obtain rfl:=oi ao;exact U Az O rfl
  ·refine zg 4 rfl ?_;obtain rfl:=oi ap;exact U Az O rfl
def f86(fu_:Nat)(p0:Int×Int×Int)(p1:Int)(p2:Int):Option Int:= (Ax (p1 - 1)).bind λK=> (f91 fu_ p0.1 0 K).bind λO=> Option.bind (if(!O)=true then(some true) else((Ax (p1 - 1)).bind λU=> (f91 fu_ p0.2.1 0 U).bind λY=> some (!Y))) λZ=> if Z=true then(some 3) else(if p0.1=p0.2.1 then(some 8) else((f91 fu_ p0.2.2 1 p2).bind λac=> if(!ac)=true then(some 1) else(some 0)))
theorem ZJ{p0:Int×Int×Int}{p1:Int}{p2:Int}{fu_:Nat}{r:Int}(ag:f86 fu_ p0 p1 p2=some r):AR J 86 [.agg #[iV p0.1,iV p0.2.1,iV p0.2.2],iV p1,iV p2] E [] (λw E' B'=>w=iV r/\B'= []):=by
 refine Bi func86 λQ aY cs H ap Y=>?_;unfold f86 at ag;refine zg 2 rfl (Dp ap λr2 aZ Z U aq=>?_);refine zg 6 rfl (Cf 0 U underlying27 AK Bh ?_);obtain⟨a0,ar,au⟩:=bs ag;refine zg 1 rfl (Ca ar rfl rfl rfl ?_);obtain⟨av,aw,ay⟩:=bs au;refine CG (L5 aw) rfl rfl Lo aq λa1 K al=>Al (v:= .bool (!av)) rfl (λρ h=>Yl.not (h _ _ rfl)) ?_;obtain⟨az,aA,aB⟩:=bs ay;refine zg 1 rfl (Es 14 1 [] [(2,iV p2),(3,Ak r2 0),(21,.bool az)] (λa2 O ac=>?_) (λam=>?_))
 ·refine zg 2 rfl (CV aB (λaC aD=>?_) (λaC aE=>?_))
  ·refine zg 4 rfl ?_;obtain rfl:=oi aD;exact A3 func86 rfl rfl (Y ((Z.Ad K).Ad O) rfl ⟨rfl,rfl⟩ ac)
  ·refine zg 2 rfl (Cf 0 (U.Ag (K.Ad O)) underlying27 AK Bh ?_);refine Cf 1 (U.Ag (K.Ad O)) underlying27 AK Bh ?_;refine zg 3 rfl (A2 aE (λaF aG=>?_) (λaF aH=>?_))
   ·refine zg 4 rfl ?_;obtain rfl:=oi aG;exact A3 func86 rfl rfl (Y ((Z.Ad K).Ad O) rfl ⟨rfl,rfl⟩ ac)
   ·refine zg 2 rfl (Cf 2 (U.Ag (K.Ad O)) underlying27 AK Bh ?_);obtain⟨aI,aJ,aK⟩:=bs aH;refine zg 1 rfl (CG (L5 aJ) rfl rfl Lo ac λa3 an ao=>?_);refine Al (v:= .bool (!aI)) rfl (λρ h=>Yl.not (h _ _ rfl)) (zg 2 rfl ?_);refine CV aK (λaL aM=>?_) (λaL aN=>?_)
    ·refine zg 4 rfl ?_;obtain rfl:=oi aM;exact A3 func86 rfl rfl (Y (((Z.Ad K).Ad O).Ad an) rfl ⟨rfl,rfl⟩ ao)
    ·refine zg 6 rfl ?_;obtain rfl:=oi aN;exact A3 func86 rfl rfl (Y (((Z.Ad K).Ad O).Ad an) rfl ⟨rfl,rfl⟩ ao)
 ·refine DX 14 aA (λaO aP=>?_) (λaO aQ=>?_)
  ·refine zg 7 rfl ?_;obtain rfl:=oi aP;exact am Az al rfl
  ·refine Cf 1 (U.Ag K) underlying27 AK Bh ?_;obtain⟨a4,aR,aS⟩:=bs aQ;refine zg 1 rfl (Ca aR rfl rfl rfl ?_);obtain⟨aT,aU,aV⟩:=bs aS;refine CG (L5 aU) rfl rfl Lo al λa5 aW aX=>Al (v:= .bool (!aT)) rfl (λρ h=>Yl.not (h _ _ rfl)) (zg 1 rfl ?_);obtain rfl:=oi aV;exact am aW aX rfl
def Ny(fu_:Nat)(O:List Int)(K:Int):Option (Bp Int ((Int)⊕(Unit))):= if K<(O.length:Int) then((ix O K).bind λU=> (f91 fu_ U 1 9).bind λY=> if(!Y)=true then(some (.done (Sum.inl 1))) else((Ax (K+1)).bind λZ=> some (.more Z))) else(some (.done (Sum.inr ())))
def Ns(fu_:Nat)(p0:A5)(K:Int):Option (Bp Int ((Int)⊕(Unit))):= if K<(p0.1.length:Int) then((ix p0.1 K).bind λO=> if 3<(O.length:Int) then(some (.done (Sum.inl 6))) else(Option.bind (iter (Ny fu_ O) fu_ 0) λU=> Sum.elim (λr=>some (.done (Sum.inl r))) (λZ=> (Ax (K+1)).bind λY=> some (.more Y)) U)) else(some (.done (Sum.inr ())))
def SP(fu_:Nat)(p0:A5)(K:Int):Option (Bp Int ((Int)⊕(Unit))):= if K<(p0.2.length:Int) then((ix p0.2 K).bind λU=> (f86 fu_ U (p0.1.length:Int) 9).bind λO=> if O≠0 then(some (.done (Sum.inl O))) else((Ax (K+1)).bind λY=> some (.more Y))) else(some (.done (Sum.inr ())))
def f47(fu_:Nat)(p0:A5):Option Int:= if(p0.1.length:Int)<2 then(some 7) else(if 5<(p0.1.length:Int) then(some 6) else(Option.bind (iter (Ns fu_ p0) fu_ 0) λK=> Sum.elim (λr=>some r) (λU=> if 8<(p0.2.length:Int) then(some 6) else(Option.bind (iter (SP fu_ p0) fu_ 0) λO=> Sum.elim (λr=>some r) (λY=> some 0) O)) K))
theorem ZO{a1:An}{c2:Nat}{aq:An}{ar:Nat}{p0:A5}(a3:Am (rL rI) E a1 c2 p0.1)(a4:Am Au E aq ar p0.2){fu_:Nat}{r:Int}(aD:f47 fu_ p0=some r):AR J 47 [.agg #[sV a1 p0.1 c2,sV aq p0.2 ar]] E [] (λw E' B'=>w=iV r/\B'= []):=by
 refine Bi func47 λQ cD cs H a5 O=>?_;unfold f47 at aD;refine zg 2 rfl (Dp a5 λY a6 K Z au=>?_);refine zg 5 rfl (Cf 0 Z underlying25 FL FZ ?_);refine JL.ln underlying22 rfl rfl rfl (zg 9 rfl ?_);refine A2 aD (λa7 a8=>?_) (λa7 a9=>?_)
 ·refine zg 4 rfl ?_;obtain rfl:=oi a8;exact A3 func47 rfl rfl (O K rfl ⟨rfl,rfl⟩ au)
 ·refine zg 6 rfl (A2 a9 (λba bb=>?_) (λba be=>?_))
  ·refine zg 4 rfl ?_;obtain rfl:=oi bb;exact A3 func47 rfl rfl (O K rfl ⟨rfl,rfl⟩ au)
  ·refine zg 5 rfl (Cf 0 Z underlying25 FL FZ ?_);refine JL.ln underlying22 rfl rfl rfl ?_;obtain⟨aE,bf,av⟩:=bs be;refine zg 2 rfl (Bw (λL s=>∃(aF:Unit) (aw:LH),aE=Sum.inr aF/\Jm a6 H aw [] [(1,Ak Y 0)] L s) ?_ ?_)
   ·rintro _ _ ⟨aF,aw,rfl,rfl,rfl,U,aG⟩;have bg:=elim_inr av;refine zg 3 rfl (Cf 1 (Z.Ag U) underlying25 Dv Hl ?_);refine JL.ln underlying23 rfl rfl rfl (zg 2 rfl ?_);refine A2 bg (λbh bi=>?_) (λbh bj=>?_)
    ·refine zg 4 rfl ?_;obtain rfl:=oi bi;exact A3 func47 rfl rfl (O (K.Ad U) rfl ⟨rfl,rfl⟩ aG)
    ·refine zg 4 rfl (Cf 1 (Z.Ag U) underlying25 Dv Hl ?_);refine JL.ln underlying23 rfl rfl rfl ?_;obtain⟨aH,bl,aI⟩:=bs bj;refine zg 2 rfl (Bw (λL s=>∃(aJ:Unit) (aK:LH),aH=Sum.inr aJ/\Jm aw H aK [] [] L s) ?_ ?_)
     ·rintro _ _ ⟨aJ,aK,rfl,rfl,rfl,bm,bn⟩;have bo:=elim_inr aI;refine zg 4 rfl ?_;obtain rfl:=oi bo;exact A3 func47 rfl rfl (O ((K.Ad U).Ad bm) rfl ⟨rfl,rfl⟩ bn)
     ·intro bp;refine JL.block (Ek bl (λay=> []) (λay=> [(1,Ak Y 0),(46,sV aq p0.2 ar),(47,iV (p0.2.length:Int)),(48,iV ay)]) Az aG ?_);rintro ay bq ac aL aM ⟨cE,an⟩ br;have aN:=an;unfold SP at aN;refine zg 5 rfl (A2 aN (λbu bv=>?_) (λbu bw=>?_))
      ·obtain⟨cF,bx,bz⟩:=bs bv;refine zg 5 rfl (JS.ix (a4.Ag ((K.Ad U).Ad ac)) bx underlying23 A1 ?_);rintro cG cH _ ⟨_,_,rfl,rfl,⟨_,_,rfl,rfl,rfl⟩⟩ bA;refine Cd bA Ee A1 rfl rfl (BU aL Bn λcI bB=>?_);refine Br 0 bB A1 λbC=>?_;refine DG 0 bC rfl λcJ az bD bE=>zg 3 rfl (Cd bD Ee A1 rfl rfl ?_);refine Cf 0 (Z.Ag ((U.Ad ac).Ad az)) underlying25 FL FZ ?_;refine JL.ln underlying22 rfl rfl rfl ?_;obtain⟨cK,bF,bG⟩:=bs bz;refine CG (ZJ bF) rfl rfl (Ba func86 rfl) bE λcM aO aP=>zg 7 rfl (A2 bG (λbH bI=>?_) (λbH bJ=>?_))
       ·refine zg 5 rfl ?_;obtain rfl:=oi bI;obtain rfl:=aM _ an;have bK:=elim_inl aI;obtain rfl:=oi bK;exact A3 func47 rfl rfl (O ((((K.Ad U).Ad ac).Ad az).Ad aO) rfl ⟨rfl,rfl⟩ aP)
       ·obtain⟨bL,bM,bN⟩:=bs bJ;refine zg 3 rfl (Bt bM rfl rfl rfl ?_);refine zg 2 rfl ?_;obtain rfl:=oi bN;exact br bL ((ac.Ad az).Ad aO) aP rfl an
      ·refine JL.exit rfl ?_;obtain rfl:=oi bw;have bO:aH=(Sum.inr ()):=(aM _ an).symm;exact AE (bp _ _ ⟨(),bq,bO,rfl,rfl,ac,aL⟩) rfl
   ·intro bP;refine JL.block (Ek bf (λag=> []) (λag=> [(1,Ak Y 0),(21,sV a1 p0.1 c2),(22,iV (p0.1.length:Int)),(23,iV ag)]) Az au ?_);rintro ag aQ al aA aB ⟨cN,am⟩ bQ;have aR:=am;unfold Ns at aR;refine zg 5 rfl (A2 aR (λbR bS=>?_) (λbR bT=>?_))
    ·obtain⟨aS,bU,bV⟩:=bs bS;refine zg 5 rfl (JS.ix (a3.Ag (K.Ad al)) bU underlying22 Gz ?_);rintro cO cP _ ⟨bW,bY,rfl,bZ⟩ b0;refine Da 0 b0 JY rfl rfl rfl (zg 6 rfl ?_);refine JL.ln underlying28 rfl rfl rfl (zg 2 rfl ?_);refine A2 bV (λb1 b2=>?_) (λb1 b3=>?_)
     ·refine zg 4 rfl ?_;obtain rfl:=oi b2;obtain rfl:=aB _ am;have b4:=elim_inl av;obtain rfl:=oi b4;exact A3 func47 rfl rfl (O (K.Ad al) rfl ⟨rfl,rfl⟩ aA)
     ·refine zg 4 rfl (JL.ln underlying28 rfl rfl rfl ?_);obtain⟨aT,b5,aU⟩:=bs b3;refine zg 2 rfl (Bw (λL s=>∃(aV:Unit) (aW:LH),aT=Sum.inr aV/\Jm aQ H aW [] [(1,Ak Y 0),(21,sV a1 p0.1 c2),(22,iV (p0.1.length:Int)),(23,iV ag)] L s) ?_ ?_)
      ·rintro _ _ ⟨aV,aW,rfl,rfl,rfl,b6,b7⟩;have b8:=elim_inr aU;obtain⟨b9,ca,cb⟩:=bs b8;refine zg 2 rfl (Bt ca rfl rfl rfl ?_);refine zg 2 rfl ?_;obtain rfl:=oi cb;exact bQ b9 (al.Ad b6) b7 rfl am
      ·intro cc;refine JL.block (Ek b5 (λaC=> []) (λaC=> [(1,Ak Y 0),(21,sV a1 p0.1 c2),(22,iV (p0.1.length:Int)),(23,iV ag),(30,sV bW aS bY),(31,iV (aS.length:Int)),(32,iV aC)]) Az aA ?_);rintro aC cd ao aX aY ⟨cQ,ap⟩ ce;have aZ:=ap;unfold Ny at aZ;refine zg 5 rfl (A2 aZ (λcf cg=>?_) (λcf ci=>?_))
       ·obtain⟨cR,ck,cm⟩:=bs cg;refine zg 5 rfl (JS.ix (bZ.Ag ao) ck underlying28 AK ?_);rintro cT cV _ rfl cn;refine Da 0 cn Bh rfl rfl rfl ?_;obtain⟨co,cp,cq⟩:=bs cm;refine zg 5 rfl (CG (L5 cp) rfl rfl Lo aX λcW a0 a2=>?_);refine Al (v:= .bool (!co)) rfl (λρ h=>Yl.not (h _ _ rfl)) (JL.done ?_);refine CV cq (λcr ct=>?_) (λcr cu=>?_)
        ·refine zg 4 rfl ?_;obtain rfl:=oi ct;obtain rfl:=aY _ ap;have cv:=elim_inl aU;obtain rfl:=oi cv;obtain rfl:=aB _ am;have cw:=elim_inl av;obtain rfl:=oi cw;exact A3 func47 rfl rfl (O (((K.Ad al).Ad ao).Ad a0) rfl ⟨rfl,rfl⟩ a2)
        ·obtain⟨cy,cz,cA⟩:=bs cu;refine zg 3 rfl (Bt cz rfl rfl rfl ?_);refine zg 2 rfl ?_;obtain rfl:=oi cA;exact ce cy (ao.Ad a0) a2 rfl ap
       ·refine JL.exit rfl ?_;obtain rfl:=oi ci;have cB:aT=(Sum.inr ()):=(aY _ ap).symm;exact AE (cc _ _ ⟨(),cd,cB,rfl,rfl,ao,aX⟩) rfl
    ·refine JL.exit rfl ?_;obtain rfl:=oi bT;have cC:aE=(Sum.inr ()):=(aB _ am).symm;exact AE (bP _ _ ⟨(),aQ,cC,rfl,rfl,al,aA⟩) rfl
def Nk(fu_:Nat)(p0:A5)(O:(List Int)×Int):Option (Bp ((List Int)×Int) ((List Int))):= if O.2<(p0.2.length:Int) then((ix p0.2 O.2).bind λK=> (ix O.1 K.2.1).bind λY=> (Ax (Y+K.2.2)).bind λU=> (ix O.1 K.2.1).bind λal=> (ix (O.1.set (Int.toNat K.2.1) U) K.1).bind λZ=> (Ax (Z - K.2.2)).bind λac=> (ix (O.1.set (Int.toNat K.2.1) U) K.1).bind λam=> (Ax (O.2+1)).bind λag=> some (.more (((O.1.set (Int.toNat K.2.1) U).set (Int.toNat K.1) ac),ag))) else(some (.done O.1))
def f84(fu_:Nat)(p0:A5):Option ((List Int)):= Option.bind (iter (Nk fu_ p0) fu_ ((List.replicate 5 (0:Int)),0)) λK=> some K
theorem PY{a1:An}{c2:Nat}{aD:An}{aE:Nat}{p0:A5}(bJ:Am (rL rI) E a1 c2 p0.1)(aX:Am Au E aD aE p0.2){fu_:Nat}{r:(List Int)}(aL:f84 fu_ p0=some r):AR J 84 [.agg #[sV a1 p0.1 c2,sV aD p0.2 aE]] E [] (λw E' B'=>∃(aM:Lv_),w= .agg aM.toArray/\B'= []/\(rA 5 rI).r E' aM r):=by
 refine Bi func84 λQ bK cs H aY aZ=>?_;unfold f84 at aL;refine zg 2 rfl (Dp aY λbL aw aN a0 a2=>?_);refine BU a2 KA λay a3=>?_;refine zg 3 rfl (BU a3 KA λU a4=>?_);refine zg 4 rfl (JL.fd underlying77 BC rfl rfl rfl ?_);refine Cf 1 a0 underlying25 Dv Hl ?_;refine JL.ln underlying23 rfl rfl rfl ?_;obtain⟨a5,a6,a7⟩:=bs aL;refine zg 2 rfl (Bw (λL s=>∃(aq:LH) (Y:Lv_),Jn aw H aq [bX ay (([]:Lv_)++(List.replicate 5 (iV 0):Lv_)).toArray 105,bX U (([]:Lv_)++Y).toArray 105] [(2,Ak ay 0),(3,Ak U 0)] L s ((rA 5 rI).r aq Y a5)) ?_ ?_)
 ·rintro _ _ ⟨aq,Y,rfl,rfl,a8,aO,ac⟩;refine zg 2 rfl (Al (v:= .agg Y.toArray) rfl (λρ h=>HY (kk:=5) (pp:=rI) ac Iu IS (h _ _ rfl) (GA (l:= []) 1 aO rfl)) ?_);refine Hp (v:= .agg Y.toArray) (l:= []) (ws:=(List.replicate 5 (iV 0):Lv_)) (us:=Y) (o:=0) 0 rfl rfl rfl aO rfl rfl rfl (by rw [B9 (kk:=5) (pp:=rI) ac];exact AM type105) ((rA 5 rI).one ac) rfl (by rw [B9 (kk:=5) (pp:=rI) ac,B9 (kk:=5) (pp:=rI) (GF (E:=aq) (pp:=rI) rfl)];omega) λaP=>?_;rw [Jo (by rw [B9 (kk:=5) (pp:=rI) ac,B9 (kk:=5) (pp:=rI) (GF (E:=aq) (pp:=rI) rfl)])] at aP ⊢;refine JL.done (JS.drop 1 aP rfl λaQ=>?_);obtain rfl:=oi a7;refine JL.ret (v:= .agg Y.toArray) rfl rfl (Bs.list func84 rfl (vs:= [.agg Y.toArray]) ⟨⟨_,rfl,Ld.many (vs:=Y) Iu (by rw [B9 (kk:=5) (pp:=rI) ac];exact AM type105) (GA (l:= []) 0 aQ rfl)⟩,trivial⟩) (C5 0 aQ rfl λa9=>?_);exact aZ (aN.Ad a8) rfl ⟨Y,rfl,rfl,ac⟩ a9
 ·intro ba;refine JL.block (CZ a6 (λL s al=>∃(az:LH) (am:Lv_),Jn aw H az [bX ay (([]:Lv_)++(List.replicate 5 (iV 0):Lv_)).toArray 105,bX U (([]:Lv_)++am).toArray 105] [(2,Ak ay 0),(3,Ak U 0),(8,sV aD p0.2 aE),(9,iV (p0.2.length:Int)),(10,iV al.2)] L s ((rA 5 rI).r az am al.1)) ⟨aw,(List.replicate 5 (iV 0):Lv_),rfl,rfl,Az,a4,(GF (E:=aw) (pp:=rI) rfl)⟩ ?_);rintro _ _ al ⟨az,am,rfl,rfl,aF,aR,an⟩ bb ⟨bM,aG⟩ be;have aS:=aG;unfold Nk at aS;refine zg 5 rfl (A2 aS (λbf bg=>?_) (λbf bh=>?_))
  ·obtain⟨K,bi,bj⟩:=bs bg;refine zg 5 rfl (JS.ix (aX.Ag (aN.Ad aF)) bi underlying23 A1 ?_);rintro bN bO _ ⟨_,_,rfl,rfl,⟨_,_,rfl,rfl,rfl⟩⟩ bl;refine Cd bl Ee A1 rfl rfl (BU aR Bn λbP bm=>?_);refine Br 2 bm A1 λbn=>?_;refine DG 2 bn rfl λaH ao aA ar=>zg 2 rfl (Fl 6 [U] ⟨⟨1,_,rfl⟩,trivial⟩ ar λO=>?_);refine JG.fd 0 O underlying27 AK rfl rfl rfl rfl (JG.lp 1 O 1 aA ar ⟨⟨1,_,rfl⟩,trivial⟩ Bh ?_);obtain⟨bo,aT,bp⟩:=bs bj;obtain⟨_,rfl,_,_,bq⟩:=Hr (kk:=5) (pp:=rI) (Rp.Ag _ ao an) aT;refine AP (v:= .pointer (some ⟨U,0+Int.toNat (K.2.1)*1,none⟩)) 2 O rfl rfl (λρ h s' au=>IY (kk:=5) (pp:=rI) (Rp.Ag _ ao an) aT underlying105 AK (h _ _ rfl) (h _ _ rfl)) (AP (v:=iV bo) 3 O rfl rfl (λρ h s' au=>Yl.load Bh (h _ _ rfl) (MI (l:= []) 1 ar rfl (by simp [AX]) au (bq 0 _ rfl))) ?_);refine JG.fd 4 O underlying27 AK rfl rfl rfl rfl (JG.lp 5 O 2 aA ar ⟨⟨1,_,rfl⟩,trivial⟩ Bh ?_);refine CE [6,7,8] ?_;obtain⟨Z,br,bu⟩:=bs bp;refine Bt br rfl rfl rfl ?_;obtain⟨bQ,aI,bv⟩:=bs bu;obtain⟨_,rfl,_,_,bR⟩:=Hr (kk:=5) (pp:=rI) (Rp.Ag _ ao an) aI;refine Al (v:= .pointer (some ⟨U,0+Int.toNat (K.2.1)*1,none⟩)) rfl (λρ h=>IY (kk:=5) (pp:=rI) (Rp.Ag _ ao an) aI underlying105 AK (h _ _ rfl) (h _ _ rfl)) ?_;have aB:=Nz (us:= [iV Z]) (y:=Z) (Rp.Ag _ ao an) aI rfl;refine Hp (v:=iV Z) (l:= []) (ws:=am) (us:= [iV Z]) (o:=Int.toNat (K.2.1)*1) 1 rfl rfl rfl ar rfl rfl rfl AK (by simp [Value.cells,C8]) rfl aB.2 λap=>?_;replace aB:=aB.1;generalize bw:Ie am (Int.toNat (K.2.1)*1) [iV Z]=aJ at ap ⊢;have av:(rA 5 rI).r aH aJ (al.1.set (Int.toNat K.2.1) Z):=by rw [← bw];exact aB
   refine JL.done (Fl 6 [U] ⟨⟨1,_,rfl⟩,trivial⟩ ap λO=>?_);refine JG.fd 0 O underlying27 AK rfl rfl rfl rfl (JG.lp 1 O 0 aA ap ⟨⟨1,_,rfl⟩,trivial⟩ Bh ?_);obtain⟨bx,aU,bz⟩:=bs bv;obtain⟨_,rfl,_,_,bA⟩:=Hr (kk:=5) (pp:=rI) av aU;refine AP (v:= .pointer (some ⟨U,0+Int.toNat (K.1)*1,none⟩)) 2 O rfl rfl (λρ h s' au=>IY (kk:=5) (pp:=rI) av aU underlying105 AK (h _ _ rfl) (h _ _ rfl)) (AP (v:=iV bx) 3 O rfl rfl (λρ h s' au=>Yl.load Bh (h _ _ rfl) (MI (l:= []) 1 ap rfl (by simp [AX]) au (bA 0 _ rfl))) ?_);refine JG.fd 4 O underlying27 AK rfl rfl rfl rfl (JG.lp 5 O 2 aA ap ⟨⟨1,_,rfl⟩,trivial⟩ Bh ?_);refine CE [6,7,8] ?_;obtain⟨ag,bB,bC⟩:=bs bz;refine Ca bB rfl rfl rfl ?_;obtain⟨bS,aK,bD⟩:=bs bC;obtain⟨_,rfl,_,_,bT⟩:=Hr (kk:=5) (pp:=rI) av aK;refine Al (v:= .pointer (some ⟨U,0+Int.toNat (K.1)*1,none⟩)) rfl (λρ h=>IY (kk:=5) (pp:=rI) av aK underlying105 AK (h _ _ rfl) (h _ _ rfl)) ?_;have aC:=Nz (us:= [iV ag]) (y:=ag) av aK rfl;refine Hp (v:=iV ag) (l:= []) (ws:=aJ) (us:= [iV ag]) (o:=Int.toNat (K.1)*1) 1 rfl rfl rfl ap rfl rfl rfl AK (by simp [Value.cells,C8]) rfl aC.2 λaV=>?_;replace aC:=aC.1;generalize bE:Ie aJ (Int.toNat (K.1)*1) [iV ag]=aW at aV ⊢;have bF:(rA 5 rI).r aH aW ((al.1.set (Int.toNat K.2.1) Z).set (Int.toNat K.1) ag):=by rw [← bE];exact aC
   obtain⟨bG,bH,bI⟩:=bs bD;refine zg 3 rfl (Bt bH rfl rfl rfl ?_);refine zg 2 rfl ?_;obtain rfl:=oi bI;exact AE (be _ _ (((al.1.set (Int.toNat K.2.1) Z).set (Int.toNat K.1) ag),bG) ⟨aH,aW,rfl,rfl,(aF.Ad ao),aV,bF⟩ aG) rfl
  ·refine JL.exit rfl ?_;obtain rfl:=oi bh;obtain rfl:=bb _ aG;exact AE (ba _ _ ⟨az,am,rfl,rfl,aF,aR,an⟩) rfl
def f204(fu_:Nat)(p0:List Int)(p1:Int×Int×Int):Option ((List Int)):= (ix p0 p1.1).bind λO=> (Ax (O+p1.2.2)).bind λK=> (ix p0 p1.1).bind λZ=> (ix (p0.set (Int.toNat p1.1) K) p1.2.1).bind λU=> (Ax (U - p1.2.2)).bind λY=> (ix (p0.set (Int.toNat p1.1) K) p1.2.1).bind λac=> some ((p0.set (Int.toNat p1.1) K).set (Int.toNat p1.2.1) Y)
theorem H4{w1:Lv_}{p0:List Int}{p1:Int×Int×Int}(al:(rA 5 rI).r E w1 p0){fu_:Nat}{r:(List Int)}(aA:f204 fu_ p0 p1=some r):AR J 204 [.agg w1.toArray,.agg #[iV p1.1,iV p1.2.1,iV p1.2.2]] E [] (λw E' B'=>∃(aB:Lv_),w= .agg aB.toArray/\B'= []/\(rA 5 rI).r E' aB r):=by
 refine Bi func204 λQ aZ cs H aG aH=>?_;unfold f204 at aA;refine zg 2 rfl (JS.box (v:= .agg w1.toArray) rfl rfl rfl aG rfl λr3 aI=>?_);refine Dp aI λa0 ap Z aq aJ=>?_;refine BU aJ KA λa1 am=>?_;refine zg 2 rfl (Fl 6 [r3] ⟨⟨1,_,rfl⟩,trivial⟩ am λK=>?_);refine JG.fd 0 K underlying27 AK rfl rfl rfl rfl (JG.lp 1 K 0 aq am ⟨⟨1,_,rfl⟩,trivial⟩ Bh ?_);obtain⟨aK,aC,aL⟩:=bs aA;obtain⟨_,rfl,_,_,aM⟩:=Hr (kk:=5) (pp:=rI) (Rp.Ag _ Z al) aC;refine AP (v:= .pointer (some ⟨r3,0+Int.toNat (p1.1)*1,none⟩)) 2 K rfl rfl (λρ h s' an=>IY (kk:=5) (pp:=rI) (Rp.Ag _ Z al) aC underlying105 AK (h _ _ rfl) (h _ _ rfl)) (AP (v:=iV aK) 3 K rfl rfl (λρ h s' an=>Yl.load Bh (h _ _ rfl) (MI (l:= []) 1 am rfl (by simp [AX]) an (aM 0 _ rfl))) ?_);refine JG.fd 4 K underlying27 AK rfl rfl rfl rfl (JG.lp 5 K 2 aq am ⟨⟨1,_,rfl⟩,trivial⟩ Bh ?_);refine CE [6,7,8] ?_;obtain⟨U,aN,aO⟩:=bs aL;refine Bt aN rfl rfl rfl ?_;obtain⟨a2,av,aP⟩:=bs aO;obtain⟨_,rfl,_,_,a3⟩:=Hr (kk:=5) (pp:=rI) (Rp.Ag _ Z al) av;refine Al (v:= .pointer (some ⟨r3,0+Int.toNat (p1.1)*1,none⟩)) rfl (λρ h=>IY (kk:=5) (pp:=rI) (Rp.Ag _ Z al) av underlying105 AK (h _ _ rfl) (h _ _ rfl)) ?_;have ar:=Nz (us:= [iV U]) (y:=U) (Rp.Ag _ Z al) av rfl;refine Hp (v:=iV U) (l:= []) (ws:=w1) (us:= [iV U]) (o:=Int.toNat (p1.1)*1) 1 rfl rfl rfl am rfl rfl rfl AK (by simp [Value.cells,C8]) rfl ar.2 λac=>?_;replace ar:=ar.1;generalize aQ:Ie w1 (Int.toNat (p1.1)*1) [iV U]=aw at ac ⊢;have ao:(rA 5 rI).r ap aw (p0.set (Int.toNat p1.1) U):=by rw [← aQ];exact ar
 refine zg 2 rfl (Fl 6 [r3] ⟨⟨1,_,rfl⟩,trivial⟩ ac λK=>?_);refine JG.fd 0 K underlying27 AK rfl rfl rfl rfl (JG.lp 1 K 1 aq ac ⟨⟨1,_,rfl⟩,trivial⟩ Bh ?_);obtain⟨aR,aD,aS⟩:=bs aP;obtain⟨_,rfl,_,_,aT⟩:=Hr (kk:=5) (pp:=rI) ao aD;refine AP (v:= .pointer (some ⟨r3,0+Int.toNat (p1.2.1)*1,none⟩)) 2 K rfl rfl (λρ h s' an=>IY (kk:=5) (pp:=rI) ao aD underlying105 AK (h _ _ rfl) (h _ _ rfl)) (AP (v:=iV aR) 3 K rfl rfl (λρ h s' an=>Yl.load Bh (h _ _ rfl) (MI (l:= []) 1 ac rfl (by simp [AX]) an (aT 0 _ rfl))) ?_);refine JG.fd 4 K underlying27 AK rfl rfl rfl rfl (JG.lp 5 K 2 aq ac ⟨⟨1,_,rfl⟩,trivial⟩ Bh ?_);refine CE [6,7,8] ?_;obtain⟨ag,aU,aV⟩:=bs aS;refine Ca aU rfl rfl rfl ?_;obtain⟨a4,ay,aW⟩:=bs aV;obtain⟨_,rfl,_,_,a5⟩:=Hr (kk:=5) (pp:=rI) ao ay;refine Al (v:= .pointer (some ⟨r3,0+Int.toNat (p1.2.1)*1,none⟩)) rfl (λρ h=>IY (kk:=5) (pp:=rI) ao ay underlying105 AK (h _ _ rfl) (h _ _ rfl)) ?_;have au:=Nz (us:= [iV ag]) (y:=ag) ao ay rfl;refine Hp (v:=iV ag) (l:= []) (ws:=aw) (us:= [iV ag]) (o:=Int.toNat (p1.2.1)*1) 1 rfl rfl rfl ac rfl rfl rfl AK (by simp [Value.cells,C8]) rfl au.2 λaz=>?_;replace au:=au.1;generalize aX:Ie aw (Int.toNat (p1.2.1)*1) [iV ag]=O at az ⊢;have Y:(rA 5 rI).r ap O ((p0.set (Int.toNat p1.1) U).set (Int.toNat p1.2.1) ag):=by rw [← aX];exact au
 refine zg 3 rfl (Al (v:= .agg O.toArray) rfl (λρ h=>HY (kk:=5) (pp:=rI) Y Iu IS (h _ _ rfl) (GA (l:= []) 1 az rfl)) ?_);refine Hp (v:= .agg O.toArray) (l:= []) (ws:=(List.replicate 5 (iV 0):Lv_)) (us:=O) (o:=0) 3 rfl rfl rfl az rfl rfl rfl (by rw [B9 (kk:=5) (pp:=rI) Y];exact AM type105) ((rA 5 rI).one Y) rfl (by rw [B9 (kk:=5) (pp:=rI) Y,B9 (kk:=5) (pp:=rI) (GF (E:=ap) (pp:=rI) rfl)];omega) λaE=>?_;rw [Jo (by rw [B9 (kk:=5) (pp:=rI) Y,B9 (kk:=5) (pp:=rI) (GF (E:=ap) (pp:=rI) rfl)])] at aE ⊢;refine JL.done (JS.drop 1 aE rfl λaF=>?_);obtain rfl:=oi aW;refine JL.ret (v:= .agg O.toArray) rfl rfl (Bs.list func204 rfl (vs:= [.agg O.toArray]) ⟨⟨_,rfl,Ld.many (vs:=O) Iu (by rw [B9 (kk:=5) (pp:=rI) Y];exact AM type105) (GA (l:= []) 3 aF rfl)⟩,trivial⟩) (C5 3 aF rfl λaY=>?_);exact aH Z rfl ⟨O,rfl,rfl,Y⟩ aY
def f106(fu_:Nat)(p0:Int)(p1:Int):Option Nat:= (Ax (max p0 p1 - 1)).bind λK=> (ix ([1,2,4,8]:List Nat) K).bind λO=> (Ax (4*(min p0 p1))).bind λU=> (Ps O U).bind λY=> some Y
theorem Y3{p0:Int}{p1:Int}{fu_:Nat}{r:Nat}(K:f106 fu_ p0 p1=some r):AR J 106 [iV p0,iV p1] E [] (λw E' B'=>w= .int .u32 ((r:Nat):Int)/\B'= []):=by
 refine Bi func106 λQ aq cs H O U=>?_;unfold f106 at K;refine zg 8 rfl (Al (v:=iV (min p0 p1)) rfl (λρ h=>Yl.min2 (h _ _ rfl) (h _ _ rfl)) ?_);refine zg 2 rfl (Al (v:=iV (max p0 p1)) rfl (λρ h=>Yl.max2 (h _ _ rfl) (h _ _ rfl)) ?_);refine zg 5 rfl (Al (v:= .agg (([1,2,4,8]:List Nat).map λx=>Value.int .u32 ((x:Nat):Int)).toArray) rfl (λρ h=>XJ h underlying164 (Dl type164) (AM type86) rfl rfl) ?_);obtain⟨ar,Y,Z⟩:=bs K;refine zg 1 rfl (Ca Y rfl rfl rfl ?_);obtain⟨au,ac,ag⟩:=bs Z;refine SZ (W8 (E:=E) ([1,2,4,8]:List Nat)) ac rfl rfl rfl rfl rfl underlying164 (AM type86) (CU underlying86) ?_ (λ_=>rfl);rintro _ rfl;obtain⟨av,al,am⟩:=bs ag;refine zg 1 rfl (Al rfl (λρ h=>Na (h _ _ rfl) (h _ _ rfl) al) ?_);obtain⟨an,ao,ap⟩:=bs am;refine Al (v:= .int .u32 ((an:Nat):Int)) rfl (λρ h=>VM (h _ _ rfl) (h _ _ rfl) ao) (zg 2 rfl ?_);obtain rfl:=oi ap;exact A3 func106 rfl rfl (U Az rfl ⟨rfl,rfl⟩ O)
def f136(fu_:Nat)(p0:Nat)(p1:Int)(p2:Int):Option Bool:= (f106 fu_ p1 p2).bind λK=> (PE p0 K).bind λO=> some (decide ((((O):Nat):Int)≠(((0):Nat):Int)))
theorem YS{p0:Nat}{p1:Int}{p2:Int}{fu_:Nat}{r:Bool}(K:f136 fu_ p0 p1 p2=some r):AR J 136 [.int .u32 ((p0:Nat):Int),iV p1,iV p2] E [] (λw E' B'=>w= .bool r/\B'= []):=by
 refine Bi func136 λQ ao cs H O U=>?_;unfold f136 at K;obtain⟨ap,Y,Z⟩:=bs K;refine zg 9 rfl (CG (Y3 Y) rfl rfl (Ba func106 rfl) O λaq ac ag=>?_);obtain⟨al,am,an⟩:=bs Z;refine Al (v:= .int .u32 ((al:Nat):Int)) rfl (λρ h=>U7 (h _ _ rfl) (h _ _ rfl) am) (zg 3 rfl ?_);obtain rfl:=oi an;exact A3 func136 rfl rfl (U ac rfl ⟨rfl,rfl⟩ ag)
def MX(fu_:Nat)(O:(AB)×Int)(K:(AB)×Int):Option (Bp ((AB)×Int) ((AB))):= if K.2<O.2 then((room K.1 (K.2,O.2)).bind λU=> (Ax (K.2+1)).bind λY=> some (.more (U,Y))) else(some (.done K.1))
def Nf(fu_:Nat)(p0:A5)(K:(AB)×Int):Option (Bp ((AB)×Int) ((AB))):= if K.2<(p0.1.length:Int) then(Option.bind (iter (MX fu_ K) fu_ (K.1,0)) λO=> (Ax (K.2+1)).bind λU=> some (.more (O,U))) else(some (.done K.1))
def f133(fu_:Nat)(p0:A5):Option ((AB)):= Option.bind (iter (Nf fu_ p0) fu_ ([],0)) λK=> some K
theorem YJ{a1:An}{c2:Nat}{aD:An}{aE:Nat}{p0:A5}(bG:Am (rL rI) E a1 c2 p0.1)(bH:Am Au E aD aE p0.2){fu_:Nat}{r:(AB)}(aF:f133 fu_ p0=some r):AR J 133 [.agg #[sV a1 p0.1 c2,sV aD p0.2 aE]] E [] (λw E' B'=>∃(aG:An) (aH:Nat),w= sV aG r aH/\B'= []/\Am Ec E' aG aH r):=by
 refine Bi func133 λQ bI cs H aR aS=>?_;unfold f133 at aF;refine zg 2 rfl (Dp aR λbJ aw aT aU aV=>?_);refine zg 9 rfl (JL.fd underlying77 BC rfl rfl rfl ?_);refine Cf 0 aU underlying25 FL FZ ?_;refine JL.ln underlying22 rfl rfl rfl ?_;obtain⟨aI,aW,aX⟩:=bs aF;refine zg 2 rfl (Bw (λL s=>∃(ay:LH) (an:An) (ao:Nat) (az:Seg),Jn aw H ay [az] [(3,sV an aI ao)] L s (OL 101 Ec ay an ao az aI)) ?_ ?_)
 ·rintro _ _ ⟨ay,an,ao,az,rfl,rfl,aY,aZ,a0⟩;refine zg 5 rfl (BO 0 a0 aZ rfl λbK a2 a3 a4=>?_);obtain rfl:=oi aX;exact A3 func133 rfl rfl (aS ((aT.Ad aY).Ad a2) rfl ⟨an,ao,rfl,rfl,a3⟩ a4)
 ·intro a5;refine JL.block (CZ aW (λL s K=>∃(O:LH) (Y:An) (Z:Nat) (ac:Seg),Jn aw H O [ac] [(3,sV Y K.1 Z),(9,iV (p0.1.length:Int)),(10,iV K.2)] L s (OL 101 Ec O Y Z ac K.1)) ⟨aw,none,0,[],rfl,rfl,Az,aV,OL.nil⟩ ?_);rintro _ _ K ⟨O,Y,Z,ac,rfl,rfl,aJ,aK,aL⟩ a6 ⟨bL,aA⟩ a7;have aM:=aA;unfold Nf at aM;refine zg 5 rfl (A2 aM (λa8 a9=>?_) (λa8 ba=>?_))
  ·obtain⟨aB,bb,be⟩:=bs a9;refine zg 13 rfl (Bw (λL s=>∃(ap:LH) (aq:An) (ar:Nat) (au:Seg),Jn O H ap [au] [(3,sV aq aB ar),(9,iV (p0.1.length:Int)),(10,iV K.2)] L s (OL 101 Ec ap aq ar au aB)) ?_ ?_)
   ·rintro _ _ ⟨ap,aq,ar,au,rfl,rfl,bf,bg,bh⟩;obtain⟨bi,bj,bl⟩:=bs be;refine zg 2 rfl (Bt bj rfl rfl rfl ?_);refine zg 2 rfl ?_;obtain rfl:=oi bl;exact AE (a7 _ _ (aB,bi) ⟨ap,aq,ar,au,rfl,rfl,(aJ.Ad bf),bg,bh⟩ aA) rfl
   ·intro bm;refine JL.block (CZ bb (λL s U=>∃(ag:LH) (al:An) (am:Nat) (av:Seg),Jn O H ag [av] [(3,sV al U.1 am),(4,iV K.2),(9,iV (p0.1.length:Int)),(10,iV K.2),(13,iV K.2),(14,iV U.2)] L s (OL 101 Ec ag al am av U.1)) ⟨O,Y,Z,ac,rfl,rfl,Az,aK,aL⟩ ?_);rintro _ _ U ⟨ag,al,am,av,rfl,rfl,aN,aO,aP⟩ bn ⟨bM,aC⟩ bo;have aQ:=aC;unfold MX at aQ;refine zg 5 rfl (A2 aQ (λbp bq=>?_) (λbp br=>?_))
    ·refine zg 12 rfl (Al (v:= .agg #[iV U.2,iV K.2]) rfl (λρ h=>CY [(0,1),(1,1)] h IQ underlying101 ⟨rfl,AM type3,rfl,AM type3,trivial⟩ rfl rfl) ?_);obtain⟨bu,bv,bw⟩:=bs bq;refine JS.app (pp:=Ec) (v:= .agg #[iV U.2,iV K.2]) (a:=al) (c:=am) 0 bv rfl rfl rfl rfl (λ_=>rfl) rfl (λ_=>rfl) rfl rfl rfl underlying167 underlying167 underlying167 FK (Ck type101) IQ rfl (by decide) (by decide) (by decide) (by decide) aP ⟨_,_,rfl,rfl,rfl⟩ aO rfl λbN bx bz bA bB bC=>?_;obtain⟨bD,bE,bF⟩:=bs bw;refine zg 4 rfl (Bt bE rfl rfl rfl ?_);refine zg 2 rfl ?_;obtain rfl:=oi bF;exact AE (bo _ _ (bu,bD) ⟨ag,bx,bz,bA,rfl,rfl,aN,bC,bB⟩ aC) rfl
    ·refine JL.exit rfl ?_;obtain rfl:=oi br;obtain rfl:=bn _ aC;exact AE (bm _ _ ⟨ag,al,am,av,rfl,rfl,aN,aO,aP⟩) rfl
  ·refine JL.exit rfl ?_;obtain rfl:=oi ba;obtain rfl:=a6 _ aA;exact AE (a5 _ _ ⟨O,Y,Z,ac,rfl,rfl,aJ,aK,aL⟩) rfl
def f113(fu_:Nat)(p0:Int×Int×Int)(p1:Int×Int×Int):Option Int:= if p0.1≠p1.1 then((Ax (p0.1 - p1.1)).bind λK=> some K) else(if p0.2.1≠p1.2.1 then((Ax (p0.2.1 - p1.2.1)).bind λO=> some O) else((Ax (p0.2.2 - p1.2.2)).bind λU=> some U))
theorem SU{p0:Int×Int×Int}{p1:Int×Int×Int}{fu_:Nat}{r:Int}(ag:f113 fu_ p0 p1=some r):AR J 113 [.agg #[iV p0.1,iV p0.2.1,iV p0.2.2],.agg #[iV p1.1,iV p1.2.1,iV p1.2.2]] E [] (λw E' B'=>w=iV r/\B'= []):=by
 refine Bi func113 λQ aC cs H al Y=>?_;unfold f113 at ag;refine zg 2 rfl (Dp al λr2 aD Z O am=>?_);refine Dp am λaE aF K U ac=>?_;refine zg 6 rfl (Cf 0 (O.Ag K) underlying27 AK Bh ?_);refine Cf 0 U underlying27 AK Bh ?_;refine zg 3 rfl (A2 ag (λan ao=>?_) (λan ap=>?_))
 ·refine zg 2 rfl (Cf 0 (O.Ag K) underlying27 AK Bh ?_);refine Cf 0 U underlying27 AK Bh ?_;obtain⟨aG,aq,ar⟩:=bs ao;refine Ca aq rfl rfl rfl (zg 2 rfl ?_);obtain rfl:=oi ar;exact A3 func113 rfl rfl (Y (Z.Ad K) rfl ⟨rfl,rfl⟩ ac)
 ·refine zg 2 rfl (Cf 1 (O.Ag K) underlying27 AK Bh ?_);refine Cf 1 U underlying27 AK Bh ?_;refine zg 3 rfl (A2 ap (λau av=>?_) (λau aw=>?_))
  ·refine zg 2 rfl (Cf 1 (O.Ag K) underlying27 AK Bh ?_);refine Cf 1 U underlying27 AK Bh ?_;obtain⟨aH,ay,az⟩:=bs av;refine Ca ay rfl rfl rfl (zg 2 rfl ?_);obtain rfl:=oi az;exact A3 func113 rfl rfl (Y (Z.Ad K) rfl ⟨rfl,rfl⟩ ac)
  ·refine zg 4 rfl (Cf 2 (O.Ag K) underlying27 AK Bh ?_);refine Cf 2 U underlying27 AK Bh ?_;obtain⟨aI,aA,aB⟩:=bs aw;refine Ca aA rfl rfl rfl (zg 2 rfl ?_);obtain rfl:=oi aB;exact A3 func113 rfl rfl (Y (Z.Ad K) rfl ⟨rfl,rfl⟩ ac)
def Nv(fu_:Nat)(p0:List Int)(K:Int×Int):Option (Bp (Int×Int) Int):= if K.2<(p0.length:Int) then((ix p0 K.2).bind λO=> (Ax (K.1+O)).bind λU=> (Ax (K.2+1)).bind λY=> some (.more (U,Y))) else(some (.done K.1))
def f85(fu_:Nat)(p0:List Int):Option Int:= Option.bind (iter (Nv fu_ p0) fu_ (0,0)) λK=> some K
theorem HC{a1:An}{c2:Nat}{p0:List Int}(ag:Am rI E a1 c2 p0){fu_:Nat}{r:Int}(Y:f85 fu_ p0=some r):AR J 85 [sV a1 p0 c2] E [] (λw E' B'=>w=iV r/\B'= []):=by
 refine Bi func85 λQ aK cs H al am=>?_;unfold f85 at Y;refine zg 12 rfl (JL.ln underlying28 rfl rfl rfl ?_);obtain⟨an,ao,ap⟩:=bs Y;refine zg 2 rfl (ES [] [(3,iV an)] (λaL aq ar=>?_) (λau=>?_))
 ·refine zg 5 rfl ?_;obtain rfl:=oi ap;exact A3 func85 rfl rfl (am aq rfl ⟨rfl,rfl⟩ ar)
 ·refine JL.block (Ek ao (λK=> []) (λK=> [(3,iV K.1),(6,sV a1 p0 c2),(7,iV (p0.length:Int)),(8,iV K.2)]) Az al ?_);rintro K aM O Z av ⟨aN,U⟩ aw;have ac:=U;unfold Nv at ac;refine zg 5 rfl (A2 ac (λay az=>?_) (λay aA=>?_))
  ·obtain⟨aO,aB,aC⟩:=bs az;refine zg 5 rfl (JS.ix (ag.Ag O) aB underlying28 AK ?_);rintro aP aQ _ rfl aD;refine Da 0 aD Bh rfl rfl rfl ?_;obtain⟨aE,aF,aG⟩:=bs aC;refine zg 5 rfl (Bt aF rfl rfl rfl ?_);obtain⟨aH,aI,aJ⟩:=bs aG;refine zg 4 rfl (Bt aI rfl rfl rfl ?_);refine zg 2 rfl ?_;obtain rfl:=oi aJ;exact aw (aE,aH) O Z rfl U
  ·refine JL.exit rfl ?_;obtain rfl:=oi aA;obtain rfl:=av _ U;exact au O Z rfl
end Pal
namespace Pal
open Go Go.Conc
section
variable {P:Program}{J:Judge P}{Q:Gs_}{b:Frame}{n:Nat}{ds:Ld_}{ops:Ao_}{k:Li_}{cs:Lf_}{L:Env}{E H:LH}{S:List Seg}
variable {d:Option Tmp}{x y w:Operand}{t u ty e:TypeId}{p:String}{af:Ae_}{g:On_}{i:Nat}{rest:List Nat}{s:St}{ρ:Operand->Value}
theorem Am.ae{α:Type}{pp:Rp α}{kk bk o:Nat}{ws:Lv_}{xs ys:List α}{hi:Int}(U:At E bk o ws)(O:(rA kk pp).r E ws xs)(hC:GJ xs 0 hi=some ys):Am pp E (some ⟨bk,o,none⟩) kk ys:=by
 have ag:=O.1;unfold GJ at hC;split at hC
 ·rename_i hb;cases hC;refine⟨by simp;omega,.inr ⟨bk,o,rfl,λq z K=>?_⟩⟩;simp only [Int.toNat_zero,List.drop_zero,List.getElem?_take] at K;split at K
  ·have Y:ix xs (q:Int)=some z:=by unfold ix;rw [if_pos (by omega)];simpa using K
   obtain⟨us,Z,ac,_,_⟩:=ZL O U Y;exact⟨us,Z,by simpa using ac⟩
  ·cases K
 ·cases hC
theorem Xu{α:Type}{pp:Rp α}{kk bk o:Nat}{ws:Lv_}{xs ys:List α}{hi:Int}(U:At E bk o ws)(K:(rA kk pp).r E ws xs)(hC:GJ xs 0 hi=some ys)
  (Y:ops[i]? =some ⟨d,.slice t x none (some w) none,ty,p,af,g⟩) (hw:AI L ops ⟨d,.slice t x none (some w) none,ty,p,af,g⟩=some true) (Z:BK b n ⟨d,.slice t x none (some w) none,ty,p,af,g⟩=true)
  (ac:ev L x=some (.pointer (some ⟨bk,o,none⟩))) (ag:ev L w=some (iV hi)) (al:P.underlying t=some (.array kk e)) (am:Be P e=some pp.n)
  (h:Am pp E (some ⟨bk,o,none⟩) kk ys->JL J Q b n (Av L d (.slice (some ⟨bk,o,none⟩) ys.length kk)) ds (.inRegion ops rest::k) cs s):
  JL J Q b n L ds (.inRegion ops (i::rest)::k) cs s:=by
 have an:=Am.ae U K hC;have aq:=K.1;refine AZ Y hw Z (λρ O=>?_) (h an);refine FM (sm:=Instr.sliceAt t (ρ x) none (some (ρ w)) none) rfl ?_;rw [O _ _ ac,O _ _ ag];unfold GJ at hC;split at hC
 ·rename_i hb;cases hC;obtain⟨ar,au,av⟩:=hb;unfold Instr.sliceAt;refine As _ _ (Cj al ?_);simp only [Instr.sureAddr,bind,Sem.bind,pure];have ao:Instr.sliceBounds false kk kk none (some (iV hi)) none=(pure (0,hi.toNat,kk):Sem _):=by
   simp only [Instr.sliceBounds,Instr.sliceBound,asIntOf,bind,Sem.bind,pure];rw [if_pos (by omega)];rfl
  rw [ao];simp only [pure,Sem.bind];refine As (x:=Go.sizeOf e) _ (Ey am ?_);have ap:(if kk=0 then(⟨bk,o,none⟩:Addr) else Addr.add ⟨bk,o,none⟩ (0*pp.n))=⟨bk,o,none⟩:=by
   split
   ·rfl
   ·rw [DI rfl];simp
  rw [ap];have e2:((xs.take hi.toNat).drop (0:Int).toNat).length=hi.toNat - 0:=by simp;omega
  rw [e2];exact⟨rfl,rfl⟩
 ·cases hC
theorem Vv{a:Option Addr}{l c:Nat}(K:P.underlying t=some (.slice e))(O:ρ x= .slice a l c)(U:ρ (.const (.slice none 0 0))= .slice none 0 0):Yl P ⟨d,.binOp .neq t x (.const (.slice none 0 0)) u,ty,p,af,g⟩ ρ s (.bool (!a.isNone)):=by
 have Y:∀o,eqGuard o t x (.const (.slice none 0 0)) (.slice a l c) (.slice none 0 0)=Sem.pure ():=λo=>by cases o <;> rfl
 refine FM (sm:=do eqGuard .neq t x (.const (.slice none 0 0)) (ρ x) (ρ (.const (.slice none 0 0)));binOp .neq t (ρ x) (ρ (.const (.slice none 0 0)))) rfl ?_
 rw [O,U,Y];simp only [bind,Sem.bind];have hb:binOp .neq t (.slice a l c) (.slice none 0 0)=(do pure (.bool (!(← Op.equal t (.slice a l c) (.slice none 0 0))))):=rfl
 rw [hb];refine As (x:=Op.equal t _ _) _ ?_;unfold Op.equal Op.maxDepth Op.equalIn;refine As _ _ (Cj K ?_);cases a with
 | none=>exact⟨rfl,rfl⟩
 | some ad=>exact⟨rfl,rfl⟩
end
end Pal
namespace Pal
open Go Go.Conc Go.Proofs
open Go.Proofs.Tryz
variable {J:Judge Tryz.prog}{E:LH}
def SX(fu_:Nat)(p0:A5)(p1:List Int)(K:Int):Option (Bp Int ((A5×Int)⊕(Unit))):= if K<(p1.length:Int) then((ix p1 K).bind λO=> (Ax ((p0.1.length:Int) - 1)).bind λU=> (f91 fu_ O 0 U).bind λY=> if(!Y)=true then(some (.done (Sum.inl (([],[]),3)))) else((Ax (K+1)).bind λZ=> some (.more Z))) else(some (.done (Sum.inr ())))
def f70(fu_:Nat)(p0:A5)(p1:List Int):Option (A5×Int):= (f47 fu_ p0).bind λK=> if K≠0 then(some (([],[]),K)) else(Option.bind (iter (SX fu_ p0 p1) fu_ 0) λO=> Sum.elim (λr=>some r) (λac=> Option.bind (if(p1.length:Int)=2 then((ix p1 (0)).bind λU=> (ix p1 (1)).bind λY=> some (decide (U=Y))) else(some false)) λZ=> if Z=true then(some (([],[]),8)) else(some (p0,0))) O)
theorem K9{a1:An}{c2:Nat}{Y:An}{Z:Nat}{al:An}{am:Nat}{p0:A5}{p1:List Int}(az:Am (rL rI) E a1 c2 p0.1)(aA:Am Au E Y Z p0.2)(aq:Am rI E al am p1){fu_:Nat}{r:A5×Int}(aB:f70 fu_ p0 p1=some r):AR J 70 [.agg #[sV a1 p0.1 c2,sV Y p0.2 Z],sV al p1 am] E [] (λw E' B'=>∃(aC:An) (aD:Nat) (aE:An) (aF:Nat),w= .tuple #[.agg #[sV aC r.1.1 aD,sV aE r.1.2 aF],iV r.2]/\B'= []/\Am (rL rI) E' aC aD r.1.1/\Am Au E' aE aF r.1.2):=by
 refine Bi func70 λQ bS cs H aX ao=>?_;unfold f70 at aB;refine zg 2 rfl (Dp aX λar bT K au aY=>?_);refine BU aY HS λag aZ=>?_;refine zg 5 rfl (Cd au Ci BC rfl rfl ?_);obtain⟨aG,a0,a2⟩:=bs aB;refine CG (ZO (az.Ag K) (aA.Ag K) a0) rfl rfl (Ba func47 rfl) aZ λa3 O aH=>zg 7 rfl (A2 a2 (λa4 a5=>?_) (λa4 a6=>?_))
 ·refine zg 2 rfl (Al (v:= .agg #[nS,nS]) rfl (λρ h=>CY [(0,2)] h HS underlying77 ⟨rfl,AM type25,trivial⟩ rfl rfl) ?_);refine zg 1 rfl (Br 2 aH DU λaI=>?_);refine zg 2 rfl ?_;obtain rfl:=oi a5;refine JL.ret (v:= .tuple #[.agg #[nS,nS],iV aG]) rfl rfl (Bs.list func70 rfl (vs:= [.agg #[nS,nS],iV aG]) ⟨⟨_,rfl,Ld.many (vs:= [nS,nS]) FY DU (Dh (off:=0) 2 aI rfl rfl)⟩,rfl,trivial⟩) (C5 2 aI rfl λa7=>?_);exact ao (K.Ad O) rfl ⟨none,0,none,0,rfl,rfl,Am.nil,Am.nil⟩ a7
 ·refine zg 5 rfl (JL.ln underlying28 rfl rfl rfl ?_);obtain⟨aJ,a8,aK⟩:=bs a6;refine zg 2 rfl (Bw (λL s=>∃(aL:Unit) (av:LH),aJ=Sum.inr aL/\Jm a3 H av [bX ag #[nS,nS] 77] [(1,sV al p1 am),(2,Ak ar 0),(4,Ak ag 0)] L s) ?_ ?_)
  ·rintro _ _ ⟨aL,av,rfl,rfl,rfl,ac,aM⟩;have a9:=elim_inr aK;refine zg 2 rfl (Fb 12 λU=>?_);refine DK 0 U rfl rfl (AP 1 U rfl rfl (λρ h s' bU=>Yl.len rfl underlying28 (h _ _ rfl)) ?_);refine A7 U rfl [2,3] rfl ?_;obtain⟨ba,aN,bb⟩:=bs a9;refine Gl 0 #[true,true,true,true,true,true,true,true,true,true,true,true] (λL s=>L= [(2,Ak ar 0),(4,Ak ag 0),(41,.bool ba)]/\s=Aj av H [bX ag #[nS,nS] 77]) ?_ ?_
   ·rintro _ _ ⟨rfl,rfl⟩;refine AJ.fin (by decide+kernel) (CV bb (λbe bf=>?_) (λbe bg=>?_))
    ·refine zg 2 rfl (Al (v:= .agg #[nS,nS]) rfl (λρ h=>CY [(0,2)] h HS underlying77 ⟨rfl,AM type25,trivial⟩ rfl rfl) ?_);refine Br 0 aM DU λaO=>?_;refine zg 2 rfl ?_;obtain rfl:=oi bf;refine JL.ret (v:= .tuple #[.agg #[nS,nS],iV 8]) rfl rfl (Bs.list func70 rfl (vs:= [.agg #[nS,nS],iV 8]) ⟨⟨_,rfl,Ld.many (vs:= [nS,nS]) FY DU (Dh (off:=0) 0 aO rfl rfl)⟩,rfl,trivial⟩) (C5 0 aO rfl λbh=>?_);exact ao ((K.Ad O).Ad ac) rfl ⟨none,0,none,0,rfl,rfl,Am.nil,Am.nil⟩ bh
    ·refine zg 3 rfl (Cd (au.Ag (O.Ad ac)) Ci BC rfl rfl ?_);refine Al (v:= .agg #[sV a1 p0.1 c2,sV Y p0.2 Z]) rfl (λρ h=>CY [(0,2)] h HS underlying77 ⟨rfl,AM type25,trivial⟩ rfl rfl) (Br 0 aM DU λaP=>?_);refine zg 2 rfl ?_;obtain rfl:=oi bg;refine JL.ret (v:= .tuple #[.agg #[sV a1 p0.1 c2,sV Y p0.2 Z],iV 0]) rfl rfl (Bs.list func70 rfl (vs:= [.agg #[sV a1 p0.1 c2,sV Y p0.2 Z],iV 0]) ⟨⟨_,rfl,Ld.many (vs:= [sV a1 p0.1 c2,sV Y p0.2 Z]) FY DU (Dh (off:=0) 0 aP rfl rfl)⟩,rfl,trivial⟩) (C5 0 aP rfl λbi=>?_);exact ao ((K.Ad O).Ad ac) rfl ⟨a1,c2,Y,Z,rfl,rfl,(az.Ag ((K.Ad O).Ad ac)),(aA.Ag ((K.Ad O).Ad ac))⟩ bi
   ·intro aQ;refine GZ (q:=(p1.length:Int)=2) (i:=33) rfl (λaw=>?_) (λaw=>?_)
    ·have bj:=ip aN aw;refine DK 4 U rfl rfl ?_;obtain⟨bV,bl,bm⟩:=bs bj;refine FA 5 (aq.Ag ((K.Ad O).Ad ac)) bl U underlying28 AK ?_;rintro bW bY _ rfl bn;refine EM 6 U 0 bn Bh rfl rfl rfl rfl ?_;refine DK 7 U rfl rfl ?_;obtain⟨bZ,bo,bp⟩:=bs bm;refine FA 8 (aq.Ag ((K.Ad O).Ad ac)) bo U underlying28 AK ?_;rintro b0 b1 _ rfl bq;refine EM 9 U 0 bq Bh rfl rfl rfl rfl ?_;refine A7 U rfl [10,11] rfl ?_;obtain rfl:=oi bp;refine Eg ?_ (aQ _ _ ⟨rfl,rfl⟩);exact⟨rfl,rfl,rfl,trivial⟩
    ·have br:=im aN aw;refine A7 U rfl [4,5,6,7,8,9,10,11] rfl ?_;obtain rfl:=oi br;refine Eg ?_ (aQ _ _ ⟨rfl,rfl⟩);exact⟨rfl,rfl,rfl,trivial⟩
  ·intro bu;refine JL.block (Ek a8 (λay=> [bX ag #[nS,nS] 77]) (λay=> [(1,sV al p1 am),(2,Ak ar 0),(4,Ak ag 0),(15,sV al p1 am),(16,iV (p1.length:Int)),(17,iV ay)]) Az aH ?_);rintro ay bv an aR aS ⟨b2,ap⟩ bw;have aT:=ap;unfold SX at aT;refine zg 5 rfl (A2 aT (λbx bz=>?_) (λbx bA=>?_))
   ·obtain⟨b3,bB,bC⟩:=bs bz;refine zg 5 rfl (JS.ix (aq.Ag ((K.Ad O).Ad an)) bB underlying28 AK ?_);rintro b4 b5 _ rfl bD;refine Da 0 bD Bh rfl rfl rfl (zg 5 rfl ?_);refine Cf 0 (au.Ag (O.Ad an)) underlying25 FL FZ ?_;refine JL.ln underlying22 rfl rfl rfl ?_;obtain⟨b6,bE,bF⟩:=bs bC;refine Ca bE rfl rfl rfl ?_;obtain⟨bG,bH,bI⟩:=bs bF;refine CG (L5 bH) rfl rfl Lo aR λb7 aU aV=>Al (v:= .bool (!bG)) rfl (λρ h=>Yl.not (h _ _ rfl)) (JL.done ?_);refine CV bI (λbJ bK=>?_) (λbJ bL=>?_)
    ·refine zg 2 rfl (Al (v:= .agg #[nS,nS]) rfl (λρ h=>CY [(0,2)] h HS underlying77 ⟨rfl,AM type25,trivial⟩ rfl rfl) ?_);refine Br 0 aV DU λaW=>?_;refine zg 2 rfl ?_;obtain rfl:=oi bK;obtain rfl:=aS _ ap;have bM:=elim_inl aK;obtain rfl:=oi bM;refine JL.ret (v:= .tuple #[.agg #[nS,nS],iV 3]) rfl rfl (Bs.list func70 rfl (vs:= [.agg #[nS,nS],iV 3]) ⟨⟨_,rfl,Ld.many (vs:= [nS,nS]) FY DU (Dh (off:=0) 0 aW rfl rfl)⟩,rfl,trivial⟩) (C5 0 aW rfl λbN=>?_);exact ao (((K.Ad O).Ad an).Ad aU) rfl ⟨none,0,none,0,rfl,rfl,Am.nil,Am.nil⟩ bN
    ·obtain⟨bO,bP,bQ⟩:=bs bL;refine zg 3 rfl (Bt bP rfl rfl rfl ?_);refine zg 2 rfl ?_;obtain rfl:=oi bQ;exact bw bO (an.Ad aU) aV rfl ap
   ·refine JL.exit rfl ?_;obtain rfl:=oi bA;have bR:aJ=(Sum.inr ()):=(aS _ ap).symm;exact AE (bu _ _ ⟨(),bv,bR,rfl,rfl,an,aR⟩) rfl
def Mb(fu_:Nat)(p0:List Int):Option ((List Int)):= (Dr ([]:List Int) p0).bind λK=> some K
theorem Yi{ad:Addr}{c2:Nat}{p0:List Int}(Y:Am rI E (some ad) c2 p0){fu_:Nat}{r:(List Int)}(K:Mb fu_ p0=some r):AR J 87 [.slice (some ad) p0.length c2] E [] (λw E' B'=>∃(O:An) (U:Nat) (g0:Seg),w= sV O r U/\B'=g0/\OL 3 rI E' O U g0 r):=by
 refine Bi func87 λQ av cs H Z ac=>?_;unfold Mb at K;refine zg 8 rfl (Al (v:= .bool false) rfl (λρ h=>MK (a:=(some ad)) underlying28 (h _ _ rfl) (h _ _ rfl)) ?_);refine zg 5 rfl (SI (pp:=rI) rfl rfl rfl underlying28 AK Z λr1 g2 ag al=>?_);obtain⟨aw,am,an⟩:=bs K;refine zg 1 rfl (F3 (pp:=rI) 1 am rfl rfl rfl rfl rfl rfl rfl underlying28 underlying28 AK (Ck type3) CR rfl (by decide) (by decide) ag Y al rfl λao ap aq ar au=>?_);refine zg 2 rfl ?_;obtain rfl:=oi an;exact A3 func87 rfl rfl (ac Az rfl ⟨ao,ap,aq,rfl,(by first | rfl | simp | (simp [Value.cells])),ar⟩ au)
def TO(fu_:Nat)(p0:List Int):Option ((List Int)):= some ([])
theorem Yk{c2:Nat}{p0:List Int}(ac:Am rI E none c2 p0){fu_:Nat}{r:(List Int)}(K:TO fu_ p0=some r):AR J 87 [sV none p0 c2] E [] (λw E' B'=>∃(O:An) (U:Nat) (g0:Seg),w= sV O r U/\B'=g0/\OL 3 rI E' O U g0 r):=by
 refine Bi func87 λQ ag cs H Y Z=>?_;unfold TO at K;refine zg 8 rfl (Al (v:= .bool true) rfl (λρ h=>MK (a:=none) underlying28 (h _ _ rfl) (h _ _ rfl)) ?_);refine zg 6 rfl ?_;obtain rfl:=oi K;exact A3 func87 rfl rfl (Z Az rfl ⟨none,0,[],rfl,rfl,OL.nil⟩ Y)
def f87(fu_:Nat)(p0:List Int):Option (List Int):=Mb fu_ p0
theorem Zs{a1:An}{c2:Nat}{p0:List Int}(O:Am rI E a1 c2 p0){fu_:Nat}{r:List Int}(K:f87 fu_ p0=some r):AR J 87 [.slice a1 p0.length c2] E [] (λw E' B'=>∃(U:An) (Y:Nat) (g0:Seg),w= .slice U r.length Y/\B'=g0/\OL 3 rI E' U Y g0 r):=by
 cases a1 with
 | some ad=>exact Yi O K
 | none=>
  have Z:p0= []:=by
   rcases O.2 with h | ⟨_,_,h,_⟩
   ·exact h.1
   ·cases h
  subst Z;have ac:r= []:=by
   have ag:Mb fu_ []=some []:=rfl;unfold f87 at K;rw [ag] at K;exact(Option.some.inj K).symm
  subst ac;exact Yk (fu_:=fu_) O rfl
def L2(fu_:Nat)(p0:Ay):Option (Ay):= (Dr ([]:Ay) p0).bind λK=> some K
theorem XG{ad:Addr}{c2:Nat}{p0:Ay}(Y:Am Au E (some ad) c2 p0){fu_:Nat}{r:Ay}(K:L2 fu_ p0=some r):AR J 129 [.slice (some ad) p0.length c2] E [] (λw E' B'=>∃(O:An) (U:Nat) (g0:Seg),w= sV O r U/\B'=g0/\OL 27 Au E' O U g0 r):=by
 refine Bi func129 λQ av cs H Z ac=>?_;unfold L2 at K;refine zg 8 rfl (Al (v:= .bool false) rfl (λρ h=>MK (a:=(some ad)) underlying80 (h _ _ rfl) (h _ _ rfl)) ?_);refine zg 5 rfl (SI (pp:=Au) rfl rfl rfl underlying80 A1 Z λr1 g2 ag al=>?_);obtain⟨aw,am,an⟩:=bs K;refine zg 1 rfl (F3 (pp:=Au) 1 am rfl rfl rfl rfl rfl rfl rfl underlying80 underlying80 A1 (Ck type27) Bn rfl (by decide) (by decide) ag Y al rfl λao ap aq ar au=>?_);refine zg 2 rfl ?_;obtain rfl:=oi an;exact A3 func129 rfl rfl (ac Az rfl ⟨ao,ap,aq,rfl,(by first | rfl | simp | (simp [Value.cells])),ar⟩ au)
def TA(fu_:Nat)(p0:Ay):Option (Ay):= some ([])
theorem W0{c2:Nat}{p0:Ay}(ac:Am Au E none c2 p0){fu_:Nat}{r:Ay}(K:TA fu_ p0=some r):AR J 129 [sV none p0 c2] E [] (λw E' B'=>∃(O:An) (U:Nat) (g0:Seg),w= sV O r U/\B'=g0/\OL 27 Au E' O U g0 r):=by
 refine Bi func129 λQ ag cs H Y Z=>?_;unfold TA at K;refine zg 8 rfl (Al (v:= .bool true) rfl (λρ h=>MK (a:=none) underlying80 (h _ _ rfl) (h _ _ rfl)) ?_);refine zg 6 rfl ?_;obtain rfl:=oi K;exact A3 func129 rfl rfl (Z Az rfl ⟨none,0,[],rfl,rfl,OL.nil⟩ Y)
def f129(fu_:Nat)(p0:Ay):Option Ay:=L2 fu_ p0
theorem YX{a1:An}{c2:Nat}{p0:Ay}(O:Am Au E a1 c2 p0){fu_:Nat}{r:Ay}(K:f129 fu_ p0=some r):AR J 129 [.slice a1 p0.length c2] E [] (λw E' B'=>∃(U:An) (Y:Nat) (g0:Seg),w= .slice U r.length Y/\B'=g0/\OL 27 Au E' U Y g0 r):=by
 cases a1 with
 | some ad=>exact XG O K
 | none=>
  have Z:p0= []:=by
   rcases O.2 with h | ⟨_,_,h,_⟩
   ·exact h.1
   ·cases h
  subst Z;have ac:r= []:=by
   have ag:L2 fu_ []=some []:=rfl;unfold f129 at K;rw [ag] at K;exact(Option.some.inj K).symm
  subst ac;exact W0 (fu_:=fu_) O rfl
def f43(fu_:Nat)(p0:A5):Option ((List Int)×Int):= (f70 fu_ p0 ([])).bind λK=> if K.2≠0 then(some ([],K.2)) else((f84 fu_ K.1).bind λO=> (GJ O 0 (p0.1.length:Int)).bind λU=> (f87 fu_ U).bind λY=> some (Y,0))
theorem PF{a1:An}{c2:Nat}{ac:An}{ag:Nat}{p0:A5}(ay:Am (rL rI) E a1 c2 p0.1)(az:Am Au E ac ag p0.2){fu_:Nat}{r:(List Int)×Int}(al:f43 fu_ p0=some r):AR J 43 [.agg #[sV a1 p0.1 c2,sV ac p0.2 ag]] E [] (λw E' B'=>∃(am:An) (an:Nat),w= .tuple #[sV am r.1 an,iV r.2]/\B'= []/\Am rI E' am an r.1):=by
 refine Bi func43 λQ a7 cs H aA ao=>?_;unfold f43 at al;refine zg 2 rfl (Dp aA λa8 a9 U ap aB=>?_);refine zg 5 rfl (Cd ap Ci BC rfl rfl ?_);obtain⟨ba,aC,aD⟩:=bs al;refine BX (K9 (ay.Ag U) (az.Ag U) Am.nil aC) rfl rfl KB aB ?_;rintro _ bb _ Y ⟨be,bf,bg,bh,rfl,rfl,aE,aF⟩ aG;refine zg 3 rfl (BU aG HS λbi aH=>?_);refine Br 3 aH DU λaI=>?_;refine DG 3 aI rfl λbj K aJ aq=>zg 8 rfl (A2 aD (λaK aL=>?_) (λaK aM=>?_))
 ·refine zg 6 rfl ?_;obtain rfl:=oi aL;exact A3 func43 rfl rfl (ao ((U.Ad Y).Ad K) rfl ⟨none,0,rfl,rfl,Am.nil⟩ aq)
 ·refine zg 3 rfl (Cd aJ FY DU rfl rfl ?_);obtain⟨bl,aN,aO⟩:=bs aM;refine BX (PY (aE.Ag K) (aF.Ag K) aN) rfl rfl Og aq ?_;rintro _ ar _ au ⟨Z,rfl,rfl,O⟩ aP;refine BU aP KA λbm aQ=>?_;refine Hp (v:= .agg Z.toArray) (l:= []) (ws:=(List.replicate 5 (iV 0):Lv_)) (us:=Z) (o:=0) 5 rfl rfl rfl aQ rfl rfl rfl (by rw [B9 (kk:=5) (pp:=rI) O];exact AM type105) ((rA 5 rI).one O) rfl (by rw [B9 (kk:=5) (pp:=rI) O,B9 (kk:=5) (pp:=rI) (GF (E:=ar) (pp:=rI) rfl)];omega) λav=>?_;rw [Jo (by rw [B9 (kk:=5) (pp:=rI) O,B9 (kk:=5) (pp:=rI) (GF (E:=ar) (pp:=rI) rfl)])] at av ⊢;refine zg 3 rfl (Cf 0 (ap.Ag ((Y.Ad K).Ad au)) underlying25 FL FZ ?_);refine JL.ln underlying22 rfl rfl rfl (DG 5 av rfl λbn aw aR aS=>?_);obtain⟨bo,aT,aU⟩:=bs aO;refine Xu (ws:=Z) (pp:=rI) aR (Rp.Ag _ aw O) aT rfl rfl rfl rfl rfl underlying105 AK λaV=>?_;obtain⟨bp,aW,aX⟩:=bs aU;refine BX (Zs aV aW) rfl rfl (Ba func87 rfl) aS ?_;rintro _ bq br aY ⟨aZ,a0,_,rfl,rfl,a2⟩ a3;refine zg 3 rfl (BO 6 a2 a3 rfl λbu a4 a5 a6=>?_);obtain rfl:=oi aX;exact A3 func43 rfl rfl (ao ((((((U.Ad Y).Ad K).Ad au).Ad aw).Ad aY).Ad a4) rfl ⟨aZ,a0,rfl,rfl,a5⟩ a6)
def M8(fu_:Nat)(p0:Ay)(p1:Ay)(K:Int):Option (Bp Int ((Int)⊕(Unit))):= if K<(p0.length:Int) then((ix p0 K).bind λU=> if(p1.length:Int)<=K then(some (.done (Sum.inl 1))) else((ix p1 K).bind λY=> (f113 fu_ U Y).bind λO=> if O≠0 then(some (.done (Sum.inl O))) else((Ax (K+1)).bind λZ=> some (.more Z)))) else(some (.done (Sum.inr ())))
def f112(fu_:Nat)(p0:Ay)(p1:Ay):Option Int:= Option.bind (iter (M8 fu_ p0 p1) fu_ 0) λK=> Sum.elim (λr=>some r) (λO=> if(p0.length:Int)<(p1.length:Int) then(some (-1)) else(some 0)) K
theorem Yz{a1:An}{c2:Nat}{U:An}{Y:Nat}{p0:Ay}{p1:Ay}(aE:Am Au E a1 c2 p0)(aF:Am Au E U Y p1){fu_:Nat}{r:Int}(aq:f112 fu_ p0 p1=some r):AR J 112 [sV a1 p0 c2,sV U p1 Y,(fV 113)] E [] (λw E' B'=>w=iV r/\B'= []):=by
 refine Bi func112 λQ bn cs H aG Z=>?_;unfold f112 at aq;refine zg 8 rfl (JL.ln underlying80 rfl rfl rfl ?_);obtain⟨ar,aH,ag⟩:=bs aq;refine zg 2 rfl (Bw (λL s=>∃(au:Unit) (av:LH),ar=Sum.inr au/\Jm E H av [] [(0,sV a1 p0 c2),(1,sV U p1 Y)] L s) ?_ ?_)
 ·rintro _ _ ⟨au,av,rfl,rfl,rfl,aw,ay⟩;have aI:=elim_inr ag;refine zg 4 rfl (JL.ln underlying80 rfl rfl rfl ?_);refine zg 1 rfl (JL.ln underlying80 rfl rfl rfl ?_);refine zg 2 rfl (A2 aI (λaJ aK=>?_) (λaJ aL=>?_))
  ·refine zg 4 rfl ?_;obtain rfl:=oi aK;exact A3 func112 rfl rfl (Z aw rfl ⟨rfl,rfl⟩ ay)
  ·refine zg 5 rfl ?_;obtain rfl:=oi aL;exact A3 func112 rfl rfl (Z aw rfl ⟨rfl,rfl⟩ ay)
 ·intro aM;refine JL.block (Ek aH (λal=> []) (λal=> [(0,sV a1 p0 c2),(1,sV U p1 Y),(2,(fV 113)),(11,sV a1 p0 c2),(12,iV (p0.length:Int)),(13,iV al)]) Az aG ?_);rintro al aN K az am ⟨bo,O⟩ aO;have aA:=O;unfold M8 at aA;refine zg 5 rfl (A2 aA (λaP aQ=>?_) (λaP aR=>?_))
  ·obtain⟨an,aS,aT⟩:=bs aQ;refine zg 6 rfl (JS.ix (aE.Ag K) aS underlying80 A1 ?_);rintro bp bq _ ⟨_,_,rfl,rfl,⟨_,_,rfl,rfl,rfl⟩⟩ aU;refine Cd aU Ee A1 rfl rfl (BU az Bn λbr aV=>?_);refine zg 1 rfl (Br 0 aV A1 λaW=>?_);refine DG 0 aW rfl λbu ac aX aB=>zg 6 rfl (JL.ln underlying80 rfl rfl rfl ?_);refine zg 2 rfl (A2 aT (λaY aZ=>?_) (λaY a0=>?_))
   ·refine zg 4 rfl ?_;obtain rfl:=oi aZ;obtain rfl:=am _ O;have a2:=elim_inl ag;obtain rfl:=oi a2;exact A3 func112 rfl rfl (Z (K.Ad ac) rfl ⟨rfl,rfl⟩ aB)
   ·obtain⟨ao,a3,a4⟩:=bs a0;refine zg 5 rfl (JS.ix (aF.Ag (K.Ad ac)) a3 underlying80 A1 ?_);rintro bv bw _ ⟨_,_,rfl,rfl,⟨_,_,rfl,rfl,rfl⟩⟩ a5;refine Cd a5 Ee A1 rfl rfl (BU aB Bn λbx a6=>?_);refine Br 1 a6 A1 λa7=>?_;refine DG 1 a7 rfl λbz ap a8 a9=>zg 4 rfl (Cd (aX.Ag ap) Ee A1 rfl rfl ?_);refine Cd a8 Ee A1 rfl rfl ?_;obtain⟨bA,ba,bb⟩:=bs a4;refine KP (vs:= [.agg #[iV an.1,iV an.2.1,iV an.2.2],.agg #[iV ao.1,iV ao.2.1,iV ao.2.2]]) (SU ba) rfl rfl rfl rfl (Ba func113 rfl) rfl a9 ?_;rintro _ bB _ aC ⟨rfl,rfl⟩ aD;refine zg 7 rfl (A2 bb (λbe bf=>?_) (λbe bg=>?_))
    ·refine zg 5 rfl ?_;obtain rfl:=oi bf;obtain rfl:=am _ O;have bh:=elim_inl ag;obtain rfl:=oi bh;exact A3 func112 rfl rfl (Z (((K.Ad ac).Ad ap).Ad aC) rfl ⟨rfl,rfl⟩ aD)
    ·obtain⟨bi,bj,bl⟩:=bs bg;refine zg 3 rfl (Bt bj rfl rfl rfl ?_);refine zg 2 rfl ?_;obtain rfl:=oi bl;exact aO bi (((K.Ad ac).Ad ap).Ad aC) aD rfl O
  ·refine JL.exit rfl ?_;obtain rfl:=oi aR;have bm:ar=(Sum.inr ()):=(am _ O).symm;exact AE (aM _ _ ⟨(),aN,bm,rfl,rfl,K,az⟩) rfl
def f74(fu_:Nat)(p0:Ay)(p1:Ay):Option Int:= (f112 fu_ p0 p1).bind λK=> some K
theorem H6{a1:An}{c2:Nat}{K:An}{O:Nat}{p0:Ay}{p1:Ay}(Y:Am Au E a1 c2 p0)(Z:Am Au E K O p1){fu_:Nat}{r:Int}(U:f74 fu_ p0 p1=some r):AR J 74 [sV a1 p0 c2,sV K p1 O] E [] (λw E' B'=>w=iV r/\B'= []):=by
 refine Bi func74 λQ ap cs H ac ag=>?_;unfold f74 at U;obtain⟨aq,al,am⟩:=bs U;refine zg 8 rfl (CG (Yz Y Z al) rfl rfl (Ba func112 rfl) ac λar an ao=>?_);refine zg 2 rfl ?_;obtain rfl:=oi am;exact A3 func74 rfl rfl (ag an rfl ⟨rfl,rfl⟩ ao)
def f73(fu_:Nat)(p0:Ay)(p1:Ay):Option Bool:= (f74 fu_ p0 p1).bind λK=> some (decide (K<0))
theorem Zy{a1:An}{c2:Nat}{K:An}{O:Nat}{p0:Ay}{p1:Ay}(Y:Am Au E a1 c2 p0)(Z:Am Au E K O p1){fu_:Nat}{r:Bool}(U:f73 fu_ p0 p1=some r):AR J 73 [sV a1 p0 c2,sV K p1 O] E [] (λw E' B'=>w= .bool r/\B'= []):=by
 refine Bi func73 λQ ap cs H ac ag=>?_;unfold f73 at U;obtain⟨aq,al,am⟩:=bs U;refine zg 8 rfl (CG (H6 Y Z al) rfl rfl HQ ac λar an ao=>?_);refine zg 3 rfl ?_;obtain rfl:=oi am;exact A3 func73 rfl rfl (ag an rfl ⟨rfl,rfl⟩ ao)
def f72(fu_:Nat)(p0:Ay×Bool)(p1:Ay):Option ((Ay×Bool)):= Option.bind (if(!p0.2)=true then(some true) else((f73 fu_ p1 p0.1).bind λK=> some K)) λO=> Option.bind (if O=true then(some (p1,true)) else(some p0)) λU=> some U
theorem ZC{bk:Nat}{a1:An}{c2:Nat}{K:An}{O:Nat}{p0:Ay×Bool}{p1:Ay}(an:Am Au E a1 c2 p0.1)(ao:Am Au E K O p1){fu_:Nat}{r:(Ay×Bool)}(ap:f72 fu_ p0 p1=some r):AR J 72 [Ak bk 0,sV K p1 O,(fV 73)] E [(bk,.cells #[sV a1 p0.1 c2,.bool p0.2] 82 (0,0))] (λw E' B'=>∃(aq:An) (ar:Nat),w= .tuple #[]/\B'= [(bk,.cells #[sV aq r.1 ar,.bool r.2] 82 (0,0))]/\Am Au E' aq ar r.1):=by
 refine Bi func72 λQ aU cs H Y ay=>?_;unfold f72 at ap;refine zg 4 rfl (JL.fd underlying82 Lr rfl rfl rfl ?_);refine Al (v:= .bool p0.2) rfl (λρ h=>Yl.load N5 (h _ _ rfl) (BS (j:=0) (off:=1) Y rfl rfl)) (Al (v:= .bool (!p0.2)) rfl (λρ h=>Yl.not (h _ _ rfl)) ?_);obtain⟨az,aA,aB⟩:=bs ap;refine zg 1 rfl (Ix [] (λL s=>∃(U:LH),Jm E H U [bX bk #[sV a1 p0.1 c2,.bool p0.2] 82] [(0,Ak bk 0),(1,sV K p1 O),(19,.bool az)] L s) ?_ ?_)
 ·rintro _ _ ⟨U,rfl,rfl,ag,au⟩;obtain⟨al,aC,aD⟩:=bs aB;refine JL.done (Bw (λL s=>∃(am:LH) (Z:An) (ac:Nat),Jn U H am [bX bk #[sV Z al.1 ac,.bool al.2] 82] [] L s (Am Au am Z ac al.1)) ?_ ?_)
  ·rintro _ _ ⟨am,Z,ac,rfl,rfl,aE,aF,aG⟩;obtain rfl:=oi aD;exact JL.fin (v:= .tuple #[]) rfl rfl (Bs.list func72 rfl (vs:= []) trivial) (ay (ag.Ad aE) rfl ⟨Z,ac,rfl,rfl,aG⟩ aF)
  ·intro av;refine CV aC (λaH aI=>?_) (λaH aJ=>?_)
   ·refine zg 5 rfl (JL.fd underlying82 Bc rfl rfl rfl ?_);refine Br 0 au Bc λaK=>?_;refine zg 1 rfl (JL.fd underlying82 Lr rfl rfl rfl ?_);refine Br 0 aK Lr λaL=>?_;refine JL.done ?_;obtain rfl:=oi aI;exact AE (av _ _ ⟨U,K,O,rfl,rfl,Az,aL,(ao.Ag ag)⟩) rfl
   ·refine JL.skip ?_;obtain rfl:=oi aJ;exact AE (av _ _ ⟨U,a1,c2,rfl,rfl,Az,au,(an.Ag ag)⟩) rfl
 ·intro aw;refine DX 11 aA (λaM aN=>?_) (λaM aO=>?_)
  ·refine zg 8 rfl ?_;obtain rfl:=oi aN;exact AE (aw _ _ ⟨E,rfl,rfl,Az,Y⟩) rfl
  ·refine zg 4 rfl (JL.fd underlying82 Bc rfl rfl rfl ?_);refine Al (v:= sV a1 p0.1 c2) rfl (λρ h=>Yl.load BE (h _ _ rfl) (BS (j:=0) (off:=0) Y rfl rfl)) ?_;obtain⟨aV,aP,aQ⟩:=bs aO;refine KP (vs:= [sV K p1 O,sV a1 p0.1 c2]) (Zy ao an aP) rfl rfl rfl rfl (Ba func73 rfl) rfl Y ?_;rintro _ aR _ aS ⟨rfl,rfl⟩ aT;refine zg 1 rfl ?_;obtain rfl:=oi aQ;exact AE (aw _ _ ⟨aR,rfl,rfl,aS,aT⟩) rfl
end Pal
namespace Pal
open Go Go.Conc Go.Proofs
open Go.Proofs.Tryz
variable {J:Judge Tryz.prog}{E:LH}
def Sz(fu_:Nat)(O:List Int)(K:(AB)×Int):Option (Bp ((AB)×Int) ((AB))):= if K.2<(O.length:Int) then((ix O K.2).bind λU=> (Ax (((BH K.1 U).getD 0)+1)).bind λY=> (Ax (K.2+1)).bind λZ=> some (.more ((Dc K.1 U Y),Z))) else(some (.done K.1))
def SC(fu_:Nat)(p0:A5)(K:(List AB)×Int):Option (Bp ((List AB)×Int) ((List AB))):= if K.2<(p0.1.length:Int) then((ix p0.1 K.2).bind λO=> Option.bind (iter (Sz fu_ O) fu_ (([]:AB),0)) λU=> (room K.1 U).bind λY=> (Ax (K.2+1)).bind λZ=> some (.more (Y,Z))) else(some (.done K.1))
def f120(fu_:Nat)(p0:A5):Option ((List AB)):= Option.bind (iter (SC fu_ p0) fu_ ([],0)) λK=> some K
theorem XP{a1:An}{c2:Nat}{aF:An}{aG:Nat}{p0:A5}(aV:Am (rL rI) E a1 c2 p0.1)(b2:Am Au E aF aG p0.2){fu_:Nat}{r:(List AB)}(aH:f120 fu_ p0=some r):AR J 120 [.agg #[sV a1 p0.1 c2,sV aF p0.2 aG]] E [] (λw E' B'=>∃(aI:An) (aJ:Nat),w= sV aI r aJ/\B'= []/\Am (rM rI false rI false) E' aI aJ r):=by
 refine Bi func120 λQ b3 cs H aW aX=>?_;unfold f120 at aH;refine zg 2 rfl (Dp aW λb4 ar aK aY aZ=>?_);refine zg 9 rfl (JL.fd underlying77 BC rfl rfl rfl ?_);refine Cf 0 aY underlying25 FL FZ ?_;refine JL.ln underlying22 rfl rfl rfl ?_;obtain⟨aL,a0,a2⟩:=bs aH;refine zg 2 rfl (Bw (λL s=>∃(au:LH) (am:An) (an:Nat) (av:Seg),Jn ar H au [av] [(3,sV am aL an)] L s (OL 197 (rM rI false rI false) au am an av aL)) ?_ ?_)
 ·rintro _ _ ⟨au,am,an,av,rfl,rfl,a3,a4,a5⟩;refine zg 5 rfl (BO 0 a5 a4 rfl λb5 a6 a7 a8=>?_);obtain rfl:=oi a2;exact A3 func120 rfl rfl (aX ((aK.Ad a3).Ad a6) rfl ⟨am,an,rfl,rfl,a7⟩ a8)
 ·intro a9;refine JL.block (CZ a0 (λL s K=>∃(O:LH) (U:An) (Y:Nat) (ac:Seg),Jn ar H O [ac] [(3,sV U K.1 Y),(11,sV a1 p0.1 c2),(12,iV (p0.1.length:Int)),(13,iV K.2)] L s (OL 197 (rM rI false rI false) O U Y ac K.1)) ⟨ar,none,0,[],rfl,rfl,Az,aZ,OL.nil⟩ ?_);rintro _ _ K ⟨O,U,Y,ac,rfl,rfl,aw,aM,aN⟩ ba ⟨b6,ay⟩ bb;have aO:=ay;unfold SC at aO;refine zg 5 rfl (A2 aO (λbe bf=>?_) (λbe bg=>?_))
  ·obtain⟨aP,bh,bi⟩:=bs bf;refine zg 5 rfl (JS.ix (aV.Ag (aK.Ad aw)) bh underlying22 Gz ?_);rintro b7 b8 _ ⟨bj,bl,rfl,bm⟩ bn;refine Da 0 bn JY rfl rfl rfl (zg 4 rfl ?_);refine JS.makeMap rfl rfl rfl aM λag bo=>zg 6 rfl (JL.ln underlying28 rfl rfl rfl ?_);obtain⟨aQ,bp,bq⟩:=bs bi;refine zg 2 rfl (Bw (λL s=>∃(az:LH) (ao:Obj),Jn O H az [ac,[(ag,ao)]] [(3,sV U K.1 Y),(6,.map (some ag)),(11,sV a1 p0.1 c2),(12,iV (p0.1.length:Int)),(13,iV K.2)] L s (BF rI false rI false az ao aQ)) ?_ ?_)
   ·rintro _ _ ⟨az,ao,rfl,rfl,aR,br,bu⟩;refine zg 3 rfl (Ow 1 br rfl λaS aA bv bw=>?_);have bx:BF rI false rI false aS ao aQ:=(bu.Ag aA);obtain⟨bz,bA,bB⟩:=bs bq;refine JS.app (pp:=(rM rI false rI false)) (v:= .map (some ag)) (a:=U) (c:=Y) 0 bA rfl rfl rfl rfl (λ_=>rfl) rfl (λ_=>rfl) rfl rfl rfl underlying156 underlying156 underlying156 Hn (Ck type197) (Dl type197) rfl (by decide) (by decide) (by decide) (by decide) (aN.Ag (aR.Ad aA)) ⟨_,_,rfl,bv,bx⟩ bw rfl λb9 bC bD bE bF bG=>?_;obtain⟨bH,bI,bJ⟩:=bs bB;refine zg 4 rfl (Bt bI rfl rfl rfl ?_);refine zg 2 rfl ?_;obtain rfl:=oi bJ;exact AE (bb _ _ (bz,bH) ⟨aS,bC,bD,bE,rfl,rfl,((aw.Ad aR).Ad aA),bG,bF⟩ ay) rfl
   ·intro bK;refine JL.block (CZ bp (λL s Z=>∃(al:LH) (ap:Obj),Jn O H al [ac,[(ag,ap)]] [(3,sV U K.1 Y),(6,.map (some ag)),(11,sV a1 p0.1 c2),(12,iV (p0.1.length:Int)),(13,iV K.2),(18,sV bj aP bl),(19,iV (aP.length:Int)),(20,iV Z.2)] L s (BF rI false rI false al ap Z.1)) ⟨O,(.map #[] 0),rfl,rfl,Az,bo,BF.nil⟩ ?_);rintro _ _ Z ⟨al,ap,rfl,rfl,aB,aC,aD⟩ bL ⟨ca,aE⟩ bM;have aT:=aE;unfold Sz at aT;refine zg 5 rfl (A2 aT (λbN bO=>?_) (λbN bP=>?_))
    ·obtain⟨aq,bQ,bR⟩:=bs bO;refine zg 5 rfl (JS.ix (bm.Ag aB) bQ underlying28 AK ?_);rintro cb cc _ rfl bS;refine Da 0 bS Bh rfl rfl rfl (zg 5 rfl ?_);refine Al (v:=iV ((BH Z.1 aq).getD 0)) rfl (λρ h=>Yl.lookup (ok:=false) (xs:=Z.1) (x0:=aq) (z0:=0) IG underlying197 CR ⟨_,rfl,rfl⟩ aD ⟨_,rfl,rfl⟩ (by rintro _ ⟨_,rfl,rfl⟩;rfl) (h _ _ rfl) (h _ _ rfl) (DO (j:=1) (i:=0) aC rfl rfl)) ?_;obtain⟨aU,bT,bU⟩:=bs bR;refine Bt bT rfl rfl rfl (JS.mapUpdate (xs:=Z.1) (x0:=aq) (v0:=aU) 1 IG underlying197 aD ⟨_,rfl,rfl⟩ ⟨_,rfl,rfl⟩ aC rfl rfl rfl rfl rfl rfl rfl λbV bW bY=>?_);obtain⟨bZ,b0,b1⟩:=bs bU;refine zg 3 rfl (Bt b0 rfl rfl rfl ?_);refine zg 2 rfl ?_;obtain rfl:=oi b1;exact AE (bM _ _ ((Dc Z.1 aq aU),bZ) ⟨al,bV,rfl,rfl,aB,bY,bW⟩ aE) rfl
    ·refine JL.exit rfl ?_;obtain rfl:=oi bP;obtain rfl:=bL _ aE;exact AE (bK _ _ ⟨al,ap,rfl,rfl,aB,aC,aD⟩) rfl
  ·refine JL.exit rfl ?_;obtain rfl:=oi bg;obtain rfl:=ba _ ay;exact AE (a9 _ _ ⟨O,U,Y,ac,rfl,rfl,aw,aM,aN⟩) rfl
def SQ(fu_:Nat)(p0:A5)(O:(List Int))(K:(List Int)×Int):Option (Bp ((List Int)×Int) ((List Int))):= if K.2<5 then((ix O K.2).bind λU=> Option.bind (if K.2<(p0.1.length:Int) then((ix p0.1 K.2).bind λY=> (f85 fu_ Y).bind λZ=> (Ax (-(U))).bind λac=> some (decide (Z<ac))) else(some false)) λag=> Option.bind (if ag=true then((room K.1 K.2).bind λal=> some al) else(some K.1)) λam=> (Ax (K.2+1)).bind λan=> some (.more (am,an))) else(some (.done K.1))
def f39(fu_:Nat)(p0:A5):Option ((List Int)×Int):= (f70 fu_ p0 ([])).bind λK=> if K.2≠0 then(some ([],K.2)) else((f84 fu_ K.1).bind λO=> Option.bind (iter (SQ fu_ p0 O) fu_ ([],0)) λU=> some (U,0))
theorem Zo{a1:An}{c2:Nat}{aJ:An}{aK:Nat}{p0:A5}(aL:Am (rL rI) E a1 c2 p0.1)(aW:Am Au E aJ aK p0.2){fu_:Nat}{r:(List Int)×Int}(aM:f39 fu_ p0=some r):AR J 39 [.agg #[sV a1 p0.1 c2,sV aJ p0.2 aK]] E [] (λw E' B'=>∃(aN:An) (aO:Nat),w= .tuple #[sV aN r.1 aO,iV r.2]/\B'= []/\Am rI E' aN aO r.1):=by
 refine Bi func39 λQ cc cs H aX aP=>?_;unfold f39 at aM;refine zg 2 rfl (Dp aX λay cd al az aY=>?_);refine zg 5 rfl (Cd az Ci BC rfl rfl ?_);obtain⟨ce,aZ,a0⟩:=bs aM;refine BX (K9 (aL.Ag al) (aW.Ag al) Am.nil aZ) rfl rfl KB aY ?_;rintro _ cf _ am ⟨cg,ci,ck,cm,rfl,rfl,a2,a3⟩ a4;refine zg 3 rfl (BU a4 HS λcn a5=>?_);refine Br 3 a5 DU λa6=>?_;refine DG 3 a6 rfl λco O a7 aQ=>zg 8 rfl (A2 a0 (λa8 a9=>?_) (λa8 ba=>?_))
 ·refine zg 6 rfl ?_;obtain rfl:=oi a9;exact A3 func39 rfl rfl (aP ((al.Ad am).Ad O) rfl ⟨none,0,rfl,rfl,Am.nil⟩ aQ)
 ·refine zg 8 rfl (Cd a7 FY DU rfl rfl ?_);obtain⟨cp,bb,be⟩:=bs ba;refine BX (PY (a2.Ag O) (a3.Ag O) bb) rfl rfl Og aQ ?_;rintro _ aA _ ao ⟨aB,rfl,rfl,bf⟩ bg;obtain⟨aR,bh,bi⟩:=bs be;refine zg 2 rfl (Bw (λL s=>∃(aC:LH) (ap:An) (aq:Nat) (aD:Seg),Jn aA H aC [aD] [(6,sV ap aR aq)] L s (OL 3 rI aC ap aq aD aR)) ?_ ?_)
  ·rintro _ _ ⟨aC,ap,aq,aD,rfl,rfl,bj,bl,bm⟩;refine zg 6 rfl (BO 0 bm bl rfl λcq bn bo bp=>?_);obtain rfl:=oi bi;exact A3 func39 rfl rfl (aP (((((al.Ad am).Ad O).Ad ao).Ad bj).Ad bn) rfl ⟨ap,aq,rfl,rfl,bo⟩ bp)
  ·intro bq;refine JL.block (CZ bh (λL s K=>∃(Z:LH) (U:An) (Y:Nat) (ac:Seg),Jn aA H Z [ac] [(1,Ak ay 0),(6,sV U K.1 Y),(18,.agg aB.toArray),(19,iV K.2)] L s (OL 3 rI Z U Y ac K.1)) ⟨aA,none,0,[],rfl,rfl,Az,bg,OL.nil⟩ ?_);rintro _ _ K ⟨Z,U,Y,ac,rfl,rfl,ag,aE,aF⟩ br ⟨cr,aG⟩ bu;have aS:=aG;unfold SQ at aS;refine zg 5 rfl (A2 aS (λbv bw=>?_) (λbv bx=>?_))
   ·obtain⟨ct,bz,bA⟩:=bs bw;refine zg 6 rfl (SZ (Rp.Ag _ ag bf) bz rfl rfl rfl rfl rfl underlying105 AK Bh ?_ (λ_=>rfl));rintro _ rfl;refine zg 6 rfl (Cf 0 (az.Ag (((am.Ad O).Ad ao).Ad ag)) underlying25 FL FZ ?_);refine JL.ln underlying22 rfl rfl rfl ?_;obtain⟨bB,bC,bD⟩:=bs bA;refine zg 2 rfl (Ix [] (λL s=>∃(an:LH),Jm Z H an [ac] [(1,Ak ay 0),(6,sV U K.1 Y),(7,iV K.2),(18,.agg aB.toArray),(19,iV K.2),(38,.bool bB)] L s) ?_ ?_)
    ·rintro _ _ ⟨an,rfl,rfl,aH,aT⟩;obtain⟨aI,bE,bF⟩:=bs bD;refine JL.done (Bw (λL s=>∃(ar:LH) (au:An) (av:Nat) (aw:Seg),Jn an H ar [aw] [(1,Ak ay 0),(6,sV au aI av),(18,.agg aB.toArray),(19,iV K.2)] L s (OL 3 rI ar au av aw aI)) ?_ ?_)
     ·rintro _ _ ⟨ar,au,av,aw,rfl,rfl,bG,bH,bI⟩;obtain⟨bJ,bK,bL⟩:=bs bF;refine zg 2 rfl (Bt bK rfl rfl rfl ?_);refine zg 2 rfl ?_;obtain rfl:=oi bL;exact AE (bu _ _ (aI,bJ) ⟨ar,au,av,aw,rfl,rfl,((ag.Ad aH).Ad bG),bH,bI⟩ aG) rfl
     ·intro aU;refine CV bE (λbM bN=>?_) (λbM bO=>?_)
      ·obtain⟨cu,bP,bQ⟩:=bs bN;refine zg 3 rfl (JS.app (pp:=rI) (v:=iV K.2) (a:=U) (c:=Y) 0 bP rfl rfl rfl rfl (λ_=>rfl) rfl (λ_=>rfl) rfl rfl rfl underlying28 underlying28 underlying28 AK (Ck type3) CR rfl (by decide) (by decide) (by decide) (by decide) (aF.Ag aH) rfl aT rfl λcv bR bS bT bU bV=>?_);refine zg 2 rfl ?_;obtain rfl:=oi bQ;exact AE (aU _ _ ⟨an,bR,bS,bT,rfl,rfl,Az,bV,bU⟩) rfl
      ·refine JL.skip ?_;obtain rfl:=oi bO;exact AE (aU _ _ ⟨an,U,Y,ac,rfl,rfl,Az,aT,(aF.Ag aH)⟩) rfl
    ·intro aV;refine I9 28 bC (λbW bY=>?_) (λbW bZ=>?_)
     ·refine Cf 0 (az.Ag (((am.Ad O).Ad ao).Ad ag)) underlying25 FL FZ ?_;obtain⟨cw,b0,b1⟩:=bs bY;refine zg 1 rfl (JS.ix (aL.Ag ((((al.Ad am).Ad O).Ad ao).Ad ag)) b0 underlying22 Gz ?_);rintro cy cz _ ⟨cA,cB,rfl,b2⟩ b3;refine Da 0 b3 JY rfl rfl rfl ?_;obtain⟨cC,b4,b5⟩:=bs b1;refine CG (HC b2 b4) rfl rfl Hm aE λb6 b7 b8=>?_;obtain⟨b9,ca,cb⟩:=bs b5;refine zg 1 rfl (Al (v:=iV b9) rfl (λρ h=>Ht (h _ _ rfl) ca) ?_);refine zg 2 rfl ?_;obtain rfl:=oi cb;exact AE (aV _ _ ⟨b6,rfl,rfl,b7,b8⟩) rfl
     ·refine zg 10 rfl ?_;obtain rfl:=oi bZ;exact AE (aV _ _ ⟨Z,rfl,rfl,Az,aE⟩) rfl
   ·refine JL.exit rfl ?_;obtain rfl:=oi bx;obtain rfl:=br _ aG;exact AE (bq _ _ ⟨Z,U,Y,ac,rfl,rfl,ag,aE,aF⟩) rfl
def Sn(fu_:Nat)(p0:List Int)(p1:Int)(K:Int):Option (Bp Int ((Int)⊕(Unit))):= if K<(p0.length:Int) then((ix p0 K).bind λO=> if p1=O then(some (.done (Sum.inl K))) else((Ax (K+1)).bind λU=> some (.more U))) else(some (.done (Sum.inr ())))
def f128(fu_:Nat)(p0:List Int)(p1:Int):Option Int:= Option.bind (iter (Sn fu_ p0 p1) fu_ 0) λK=> Sum.elim (λr=>some r) (λO=> some (-1)) K
theorem XZ{a1:An}{c2:Nat}{p0:List Int}{p1:Int}(aq:Am rI E a1 c2 p0){fu_:Nat}{r:Int}(Z:f128 fu_ p0 p1=some r):AR J 128 [sV a1 p0 c2,iV p1] E [] (λw E' B'=>w=iV r/\B'= []):=by
 refine Bi func128 λQ aQ cs H ar ac=>?_;unfold f128 at Z;refine zg 8 rfl (JL.ln underlying28 rfl rfl rfl ?_);obtain⟨ag,au,al⟩:=bs Z;refine zg 2 rfl (Bw (λL s=>∃(am:Unit) (an:LH),ag=Sum.inr am/\Jm E H an [] [] L s) ?_ ?_)
 ·rintro _ _ ⟨am,an,rfl,rfl,rfl,av,aw⟩;have ay:=elim_inr al;refine zg 4 rfl ?_;obtain rfl:=oi ay;exact A3 func128 rfl rfl (ac av rfl ⟨rfl,rfl⟩ aw)
 ·intro az;refine JL.block (Ek au (λU=> []) (λU=> [(0,sV a1 p0 c2),(1,iV p1),(7,iV (p0.length:Int)),(8,iV U)]) Az ar ?_);rintro U aA K Y ao ⟨aR,O⟩ aB;have ap:=O;unfold Sn at ap;refine zg 5 rfl (A2 ap (λaC aD=>?_) (λaC aE=>?_))
  ·obtain⟨aS,aF,aG⟩:=bs aD;refine zg 13 rfl (JS.ix (aq.Ag K) aF underlying28 AK ?_);rintro aT aU _ rfl aH;refine Da 0 aH Bh rfl rfl rfl (zg 2 rfl ?_);refine A2 aG (λaI aJ=>?_) (λaI aK=>?_)
   ·refine zg 5 rfl ?_;obtain rfl:=oi aJ;obtain rfl:=ao _ O;have aL:=elim_inl al;obtain rfl:=oi aL;exact A3 func128 rfl rfl (ac K rfl ⟨rfl,rfl⟩ Y)
   ·obtain⟨aM,aN,aO⟩:=bs aK;refine zg 3 rfl (Bt aN rfl rfl rfl ?_);refine zg 2 rfl ?_;obtain rfl:=oi aO;exact aB aM K Y rfl O
  ·refine JL.exit rfl ?_;obtain rfl:=oi aE;have aP:ag=(Sum.inr ()):=(ao _ O).symm;exact AE (az _ _ ⟨(),aA,aP,rfl,rfl,K,Y⟩) rfl
def f82(fu_:Nat)(p0:List Int)(p1:Int):Option Bool:= (f128 fu_ p0 p1).bind λK=> some (decide (0<=K))
theorem ZT{a1:An}{c2:Nat}{p0:List Int}{p1:Int}(O:Am rI E a1 c2 p0){fu_:Nat}{r:Bool}(K:f82 fu_ p0 p1=some r):AR J 82 [sV a1 p0 c2,iV p1] E [] (λw E' B'=>w= .bool r/\B'= []):=by
 refine Bi func82 λQ am cs H U Y=>?_;unfold f82 at K;obtain⟨an,Z,ac⟩:=bs K;refine zg 8 rfl (CG (XZ O Z) rfl rfl (Ba func128 rfl) U λao ag al=>?_);refine zg 3 rfl ?_;obtain rfl:=oi ac;exact A3 func82 rfl rfl (Y ag rfl ⟨rfl,rfl⟩ al)
def SW(fu_:Nat)(O:A5×Int)(K:(List ((Int×Int)×Bool))×Int):Option (Bp ((List ((Int×Int)×Bool))×Int) ((List ((Int×Int)×Bool)))):= if K.2<(O.1.2.length:Int) then((ix O.1.2 K.2).bind λU=> (Ax (K.2+1)).bind λY=> some (.more ((Dc K.1 (U.1,U.2.1) true),Y))) else(some (.done K.1))
def S2(fu_:Nat)(U:A5×Int)(Y:(List ((Int×Int)×Bool)))(O:List Int)(K:Bm×Int):Option (Bp (Bm×Int) (Bm)):= if K.2<(U.1.1.length:Int) then(Option.bind ((f82 fu_ O K.2).bind λZ=> Option.bind (if Z=true then(some true) else(if 0<(O.length:Int) then((Ax ((O.length:Int) - 1)).bind λac=> (ix O ac).bind λag=> some (!((BH Y (ag,K.2)).getD false))) else(some false))) λal=> if al=true then(some K.1) else((Dr O ([K.2]:List Int)).bind λam=> (room K.1 am).bind λan=> some an)) λao=> (Ax (K.2+1)).bind λap=> some (.more (ao,ap))) else(some (.done K.1))
def Tk(fu_:Nat)(Z:A5×Int)(U:(List ((Int×Int)×Bool)))(Y:Bm)(O:Bm×Int):Option (Bp (Bm×Int) (((List Int)×Int)⊕(Bm))):= if O.2<(Y.length:Int) then((ix Y O.2).bind λK=> Option.bind (if 1<(K.length:Int) then((Ax ((K.length:Int) - 1)).bind λac=> (ix K ac).bind λag=> (ix K (0)).bind λal=> some ((BH U (ag,al)).getD false)) else(some false)) λam=> if am=true then(some (.done (Sum.inl (K,0)))) else(Option.bind (iter (S2 fu_ Z U K) fu_ (O.1,0)) λan=> (Ax (O.2+1)).bind λao=> some (.more (an,ao)))) else(some (.done (Sum.inr O.1)))
def S8(fu_:Nat)(U:A5×Int)(Y:(List ((Int×Int)×Bool)))(K:Bm):Option (Bp (Bm) (((List Int)×Int)⊕(Unit))):= if 0<(K.length:Int) then(Option.bind (iter (Tk fu_ U Y K) fu_ ([],0)) λZ=> Sum.elim (λr=>some (.done (Sum.inl r))) (λO=> if(O.length:Int)=0 then(some (.done (Sum.inr ()))) else(some (.more O))) Z) else(some (.done (Sum.inr ())))
def f33(fu_:Nat)(p0:A5):Option ((List Int)×Int):= (f70 fu_ p0 ([])).bind λK=> if K.2≠0 then(some ([],K.2)) else(Option.bind (iter (SW fu_ K) fu_ (([]:List ((Int×Int)×Bool)),0)) λO=> Option.bind (iter (S8 fu_ K O) fu_ ([[]]:Bm)) λU=> Sum.elim (λr=>some r) (λY=> some ([],11)) U)
theorem Zz{a1:An}{c2:Nat}{bB:An}{bC:Nat}{p0:A5}(b9:Am (rL rI) E a1 c2 p0.1)(ca:Am Au E bB bC p0.2){fu_:Nat}{r:(List Int)×Int}(bD:f33 fu_ p0=some r):AR J 33 [.agg #[sV a1 p0.1 c2,sV bB p0.2 bC]] E [] (λw E' B'=>∃(bE:An) (bF:Nat),w= .tuple #[sV bE r.1 bF,iV r.2]/\B'= []/\Am rI E' bE bF r.1):=by
 refine Bi func33 λQ e6 cs H cb bh=>?_;unfold f33 at bD;refine zg 2 rfl (Dp cb λe7 e8 aM cc cd=>?_);refine zg 6 rfl (Cd cc Ci BC rfl rfl ?_);obtain⟨aN,ce,cf⟩:=bs bD;refine BX (K9 (b9.Ag aM) (ca.Ag aM) Am.nil ce) rfl rfl KB cd ?_;rintro _ e9 _ bi ⟨fa,fb,cg,ci,rfl,rfl,fc,ck⟩ cm;refine zg 3 rfl (BU cm HS λag cn=>?_);refine Br 3 cn DU λco=>?_;refine DG 3 co rfl λbj aU bG bH=>zg 8 rfl (A2 cf (λcp cq=>?_) (λcp cr=>?_))
 ·refine zg 6 rfl ?_;obtain rfl:=oi cq;exact A3 func33 rfl rfl (bh ((aM.Ad bi).Ad aU) rfl ⟨none,0,rfl,rfl,Am.nil⟩ bH)
 ·refine zg 3 rfl (JS.makeMap rfl rfl rfl bH λK ct=>?_);refine zg 5 rfl (JL.fd underlying77 BC rfl rfl rfl ?_);refine Cf 1 bG underlying25 Dv Hl ?_;refine JL.ln underlying23 rfl rfl rfl ?_;obtain⟨aE,cu,cv⟩:=bs cr;refine zg 2 rfl (Bw (λL s=>∃(aF:LH) (ac:Obj),Jn bj H aF [[(K,ac)]] [(4,Ak ag 0),(6,.map (some K))] L s (BF Ec true rB false aF ac aE)) ?_ ?_)
  ·rintro _ _ ⟨aF,ac,rfl,rfl,bl,cw,bI⟩;refine zg 2 rfl (FO (pp:=(rL rI)) [nS] [[]] rfl rfl rfl underlying22 Gz Lp (by decide) rfl rfl rfl ⟨⟨_,_,rfl,Am.nil⟩,trivial⟩ cw λcy cz cA cB=>?_);refine zg 3 rfl (JL.label ?_);obtain⟨bm,cC,bJ⟩:=bs cv;refine JL.seq (Bw (λL s=>∃(bK:Unit) (bL:LH),bm=Sum.inr bK/\Jm aF H bL [] [] L s) ?_ ?_)
   ·rintro _ _ ⟨bK,bL,rfl,rfl,rfl,cD,cE⟩;have cF:=elim_inr bJ;refine zg 5 rfl ?_;obtain rfl:=oi cF;exact A3 func33 rfl rfl (bh ((((aM.Ad bi).Ad aU).Ad bl).Ad cD) rfl ⟨none,0,rfl,rfl,Am.nil⟩ cE)
   ·intro bM;refine JL.block (CZ cC (λL s O=>∃(av:LH) (al:An) (am:Nat) (an:Seg),Jn aF H av [[(K,ac)],an] [(4,Ak ag 0),(6,.map (some K)),(9,sV al O am)] L s (OL 28 (rL rI) av al am an O)) ⟨aF,(AS cy),1,cz,rfl,rfl,Az,cB,cA⟩ ?_);rintro _ _ O ⟨av,al,am,an,rfl,rfl,aw,bN,cG⟩ bn ⟨fe,aO⟩ cH;have bO:=aO;unfold S8 at bO;refine zg 4 rfl (JL.ln underlying22 rfl rfl rfl ?_);refine zg 2 rfl (A2 bO (λcI cJ=>?_) (λcI cK=>?_))
    ·refine zg 10 rfl (JL.ln underlying22 rfl rfl rfl ?_);obtain⟨bP,cM,bQ⟩:=bs cJ;refine zg 2 rfl (Bw (λL s=>∃(aP:Bm) (aQ:LH) (aV:An) (aW:Nat) (aX:Seg),bP=Sum.inr aP/\Jn av H aQ [[(K,ac)],aX] [(4,Ak ag 0),(6,.map (some K)),(10,sV aV aP aW)] L s (OL 28 (rL rI) aQ aV aW aX aP)) ?_ ?_)
     ·rintro _ _ ⟨aP,aQ,aV,aW,aX,rfl,rfl,rfl,bR,bS,cN⟩;have cO:=elim_inr bQ;refine zg 8 rfl (JL.ln underlying22 rfl rfl rfl ?_);refine zg 2 rfl (A2 cO (λcP cQ=>?_) (λcP cR=>?_))
      ·refine JL.exit rfl (JS.drop 0 bS rfl λcT=>?_);refine JS.drop 1 cT rfl λcV=>?_;obtain rfl:=oi cQ;have cW:bm=(Sum.inr ()):=(bn _ aO).symm;exact AE (bM _ _ ⟨(),aQ,cW,rfl,rfl,(aw.Ad bR),cV⟩) rfl
      ·refine zg 2 rfl ?_;obtain rfl:=oi cR;exact AE (cH _ _ aP ⟨aQ,aV,aW,aX,rfl,rfl,(aw.Ad bR),bS,cN⟩ aO) rfl
     ·intro cX;refine JL.block (CZ cM (λL s Y=>∃(ap:LH) (aG:An) (aH:Nat) (aI:Seg),Jn av H ap [[(K,ac)],an,aI] [(4,Ak ag 0),(6,.map (some K)),(10,sV aG Y.1 aH),(43,sV al O am),(44,iV (O.length:Int)),(45,iV Y.2)] L s (OL 28 (rL rI) ap aG aH aI Y.1)) ⟨av,none,0,[],rfl,rfl,Az,bN,OL.nil⟩ ?_);rintro _ _ Y ⟨ap,aG,aH,aI,rfl,rfl,ay,aR,bT⟩ bU ⟨ff,aY⟩ cY;have bV:=aY;unfold Tk at bV;refine zg 5 rfl (A2 bV (λcZ c0=>?_) (λcZ c1=>?_))
      ·obtain⟨aq,c3,c4⟩:=bs c0;refine zg 5 rfl (OV 1 (cG.Ag ay) c3 rfl rfl rfl rfl rfl rfl underlying22 Gz ?_);rintro fg fh f155 _ c5 ⟨az,aJ,rfl,ar⟩ c6 fj fk fl fm;refine Al (v:= sV az aq aJ) rfl (λρ h=>Yl.load JY (h _ _ rfl) (BS (j:=1) aR c5 (c6 0 _ rfl))) (zg 6 rfl ?_);refine JL.ln underlying28 rfl rfl rfl (zg 3 rfl ?_);refine PI 15 λZ=>A7 Z rfl [0,1,2] rfl ?_;obtain⟨c7,bW,c8⟩:=bs c4;refine Gl 0 #[true,true,true,true,true,true,true,true,true,true,true,true,true,true,true] (λL s=>L= [(4,Ak ag 0),(6,.map (some K)),(10,sV aG Y.1 aH),(12,sV az aq aJ),(43,sV al O am),(44,iV (O.length:Int)),(45,iV Y.2),(65,.bool c7)]/\s=Aj ap H [[(K,ac)],an,aI]) ?_ ?_
       ·rintro _ _ ⟨rfl,rfl⟩;refine AJ.fin (by decide+kernel) (CV c8 (λc9 da=>?_) (λc9 db=>?_))
        ·refine zg 6 rfl (JS.drop 0 aR rfl λdc=>?_);refine JS.drop 1 dc rfl λdd=>JS.drop 2 dd rfl λde=>?_;obtain rfl:=oi da;obtain rfl:=bU _ aY;have df:=elim_inl bQ;obtain rfl:=oi df;obtain rfl:=bn _ aO;have dg:=elim_inl bJ;obtain rfl:=oi dg;exact A3 func33 rfl rfl (bh (((((aM.Ad bi).Ad aU).Ad bl).Ad aw).Ad ay) rfl ⟨az,aJ,rfl,rfl,ar⟩ de)
        ·refine zg 3 rfl (JL.fd underlying77 BC rfl rfl rfl ?_);refine Cf 0 (bG.Ag ((bl.Ad aw).Ad ay)) underlying25 FL FZ ?_;refine JL.ln underlying22 rfl rfl rfl ?_;obtain⟨bo,dh,di⟩:=bs db;refine zg 2 rfl (Bw (λL s=>∃(aZ:LH) (a0:An) (a2:Nat) (a3:Seg),Jn ap H aZ [[(K,ac)],an,a3] [(4,Ak ag 0),(6,.map (some K)),(10,sV a0 bo a2),(43,sV al O am),(44,iV (O.length:Int)),(45,iV Y.2)] L s (OL 28 (rL rI) aZ a0 a2 a3 bo)) ?_ ?_)
         ·rintro _ _ ⟨aZ,a0,a2,a3,rfl,rfl,dj,dk,dn⟩;obtain⟨dp,dq,dr⟩:=bs di;refine zg 2 rfl (Bt dq rfl rfl rfl ?_);refine zg 2 rfl ?_;obtain rfl:=oi dr;exact AE (cY _ _ (bo,dp) ⟨aZ,a0,a2,a3,rfl,rfl,(ay.Ad dj),dk,dn⟩ aY) rfl
         ·intro dt;refine JL.block (CZ dh (λL s U=>∃(aS:LH) (aA:An) (aB:Nat) (aK:Seg),Jn ap H aS [[(K,ac)],an,aK] [(4,Ak ag 0),(6,.map (some K)),(10,sV aA U.1 aB),(12,sV az aq aJ),(43,sV al O am),(44,iV (O.length:Int)),(45,iV Y.2),(70,iV (aN.1.1.length:Int)),(71,iV U.2)] L s (OL 28 (rL rI) aS aA aB aK U.1)) ⟨ap,aG,aH,aI,rfl,rfl,Az,aR,bT⟩ ?_);rintro _ _ U ⟨aS,aA,aB,aK,rfl,rfl,au,bY,bp⟩ du ⟨fo,bq⟩ dv;have bZ:=bq;unfold S2 at bZ;refine zg 5 rfl (A2 bZ (λdw dx=>?_) (λdw dy=>?_))
          ·obtain⟨br,dz,dA⟩:=bs dx;refine zg 2 rfl (Bw (λL s=>∃(a4:LH) (a5:An) (a6:Nat) (a7:Seg),Jn aS H a4 [[(K,ac)],an,a7] [(4,Ak ag 0),(6,.map (some K)),(10,sV a5 br a6),(12,sV az aq aJ),(43,sV al O am),(44,iV (O.length:Int)),(45,iV Y.2),(70,iV (aN.1.1.length:Int)),(71,iV U.2)] L s (OL 28 (rL rI) a4 a5 a6 a7 br)) ?_ ?_)
           ·rintro _ _ ⟨a4,a5,a6,a7,rfl,rfl,dB,dC,dD⟩;obtain⟨dE,dF,dG⟩:=bs dA;refine JL.region (Bt dF rfl rfl rfl ?_);refine zg 2 rfl ?_;obtain rfl:=oi dG;exact AE (dv _ _ (br,dE) ⟨a4,a5,a6,a7,rfl,rfl,(au.Ad dB),dC,dD⟩ bq) rfl
           ·intro b0;obtain⟨fp,dH,dI⟩:=bs dz;refine zg 11 rfl (CG (ZT (ar.Ag au) dH) rfl rfl (Ba func82 rfl) bY λa8 ao a9=>?_);obtain⟨dJ,dK,dL⟩:=bs dI;refine zg 1 rfl (Ix [] (λL s=>∃(bu:LH),Jm a8 H bu [[(K,ac)],an,aK] [(4,Ak ag 0),(6,.map (some K)),(10,sV aA U.1 aB),(12,sV az aq aJ),(14,iV U.2),(43,sV al O am),(44,iV (O.length:Int)),(45,iV Y.2),(70,iV (aN.1.1.length:Int)),(71,iV U.2),(94,.bool dJ)] L s) ?_ ?_)
            ·rintro _ _ ⟨bu,rfl,rfl,aC,b1⟩;refine JL.done (CV dL (λdM dN=>?_) (λdM dO=>?_))
             ·refine JL.exit rfl ?_;obtain rfl:=oi dN;exact AE (b0 _ _ ⟨bu,aA,aB,aK,rfl,rfl,(ao.Ad aC),b1,(bp.Ag (ao.Ad aC))⟩) rfl
             ·refine zg 5 rfl (JL.ln underlying28 rfl rfl rfl ?_);refine zg 1 rfl (JL.ln underlying28 rfl rfl rfl ?_);refine Al (v:= .slice az aq.length aq.length) rfl (λρ h=>QG (Am.spot (ar.Ag ((au.Ad ao).Ad aC))) (And.left (ar.Ag ((au.Ad ao).Ad aC))) underlying28 AK (h _ _ rfl) (h _ _ rfl) (h _ _ rfl)) (zg 1 rfl ?_);refine FO (pp:=rI) [iV U.2] [U.2] rfl rfl rfl underlying28 AK CR (by decide) rfl rfl rfl ⟨rfl,trivial⟩ b1 λfq fs dQ dR=>BO 3 dQ dR rfl λfu bv dS dT=>?_;obtain⟨dU,dV,dW⟩:=bs dO;refine UB (pp:=rI) dV rfl rfl rfl rfl rfl rfl rfl underlying28 underlying28 AK (Ck type3) CR rfl (by decide) (by decide) (ar.Ag (((au.Ad ao).Ad aC).Ad bv)) dS dT λdX dY dZ b2 ea eb=>?_;obtain⟨fv,ec,ed⟩:=bs dW;refine JS.app (pp:=(rL rI)) (v:= sV dY dU dZ) (a:=aA) (c:=aB) 2 ec rfl rfl rfl rfl (λ_=>rfl) rfl (λ_=>rfl) rfl rfl rfl underlying22 underlying22 underlying22 Gz (Ck type28) Lp rfl (by decide) (by decide) (by decide) (by decide) (bp.Ag (((ao.Ad aC).Ad bv).Ad b2)) ⟨_,_,rfl,ea⟩ eb rfl λfw ee ef eg eh ei=>zg 3 rfl ?_;obtain rfl:=oi ed;exact AE (b0 _ _ ⟨dX,ee,ef,eg,rfl,rfl,(((ao.Ad aC).Ad bv).Ad b2),ei,eh⟩) rfl
            ·intro bw;refine DX 77 dK (λej ek=>?_) (λej el=>?_)
             ·refine zg 17 rfl ?_;obtain rfl:=oi ek;exact AE (bw _ _ ⟨a8,rfl,rfl,Az,a9⟩) rfl
             ·refine zg 1 rfl (JL.ln underlying28 rfl rfl rfl ?_);refine zg 2 rfl (I9 81 el (λem en=>?_) (λem eo=>?_))
              ·refine zg 3 rfl (JL.ln underlying28 rfl rfl rfl ?_);obtain⟨fx,ep,er⟩:=bs en;refine Ca ep rfl rfl rfl ?_;obtain⟨ba,et,eu⟩:=bs er;refine JS.ix (ar.Ag (au.Ad ao)) et underlying28 AK ?_;rintro fy fz _ rfl ew;refine Da 0 ew Bh rfl rfl rfl (zg 1 rfl ?_);refine Al (v:= .agg #[iV ba,iV U.2]) rfl (λρ h=>CY [(0,1),(1,1)] h IQ underlying101 ⟨rfl,AM type3,rfl,AM type3,trivial⟩ rfl rfl) (Al (v:= .bool (((BH aE (ba,U.2)).getD false))) rfl (λρ h=>Yl.lookup (ok:=false) (xs:=aE) (x0:=(ba,U.2)) (z0:=false) Pu underlying99 Lq ⟨_,rfl,rfl⟩ (bI.Ag (((aw.Ad ay).Ad au).Ad ao)) ⟨_,⟨_,_,rfl,rfl,rfl⟩,rfl⟩ (by rintro _ ⟨_,rfl,rfl⟩;rfl) (h _ _ rfl) (h _ _ rfl) (DO (j:=0) (i:=0) a9 rfl rfl)) ?_);refine Al (v:= .bool ((!((BH aE (ba,U.2)).getD false)))) rfl (λρ h=>Yl.not (h _ _ rfl)) (zg 2 rfl ?_);obtain rfl:=oi eu;exact AE (bw _ _ ⟨a8,rfl,rfl,Az,a9⟩) rfl
              ·refine zg 13 rfl ?_;obtain rfl:=oi eo;exact AE (bw _ _ ⟨a8,rfl,rfl,Az,a9⟩) rfl
          ·refine JL.exit rfl ?_;obtain rfl:=oi dy;obtain rfl:=du _ bq;exact AE (dt _ _ ⟨aS,aA,aB,aK,rfl,rfl,au,bY,bp⟩) rfl
       ·intro b3;refine GZ (q:=1<(aq.length:Int)) (i:=53) rfl (λbx=>?_) (λbx=>?_)
        ·have ex:=ip bW bx;refine A7 Z rfl [3,4,5] rfl ?_;obtain⟨fA,ey,ez⟩:=bs ex;refine AP 6 Z rfl rfl (λρ h s' aD=>Eh (h _ _ rfl) (h _ _ rfl) ey) ?_;obtain⟨bb,eA,eB⟩:=bs ez;refine FA 7 ar eA Z underlying28 AK ?_;rintro fB fC _ rfl eC;refine AP (v:=iV bb) 8 Z rfl rfl (λρ h s' aD=>Yl.load Bh (h _ _ rfl) (L9 aD (At.K5 (j:=0) eC rfl))) ?_;refine DK 9 Z rfl rfl ?_;obtain⟨be,eD,eE⟩:=bs eB;refine FA 10 ar eD Z underlying28 AK ?_;rintro fD fE _ rfl eF;refine AP (v:=iV be) 11 Z rfl rfl (λρ h s' aD=>Yl.load Bh (h _ _ rfl) (L9 aD (At.K5 (j:=0) eF rfl))) ?_;refine AP (v:= .agg #[iV bb,iV be]) 12 Z rfl rfl (λρ h s' aD=>CY [(0,1),(1,1)] h IQ underlying101 ⟨rfl,AM type3,rfl,AM type3,trivial⟩ rfl rfl) ?_;refine AP (v:= .bool (((BH aE (bb,be)).getD false))) 13 Z rfl rfl (λρ h s' aD=>Yl.lookup (ok:=false) (xs:=aE) (x0:=(bb,be)) (z0:=false) Pu underlying99 Lq ⟨_,rfl,rfl⟩ (bI.Ag (aw.Ad ay)) ⟨_,⟨_,_,rfl,rfl,rfl⟩,rfl⟩ (by rintro _ ⟨_,rfl,rfl⟩;rfl) (h _ _ rfl) (h _ _ rfl) (P8 aD (DO (j:=0) (i:=0) aR rfl rfl))) ?_;refine DK 14 Z rfl rfl ?_;obtain rfl:=oi eE;refine Eg ?_ (b3 _ _ ⟨rfl,rfl⟩);exact⟨rfl,rfl,rfl,rfl,rfl,rfl,rfl,rfl,trivial⟩
        ·have eG:=im bW bx;refine A7 Z rfl [3,4,5,6,7,8,9,10,11,12,13,14] rfl ?_;obtain rfl:=oi eG;refine Eg ?_ (b3 _ _ ⟨rfl,rfl⟩);exact⟨rfl,rfl,rfl,rfl,rfl,rfl,rfl,rfl,trivial⟩
      ·refine JL.exit rfl (JS.drop 1 aR rfl λeH=>?_);obtain rfl:=oi c1;have eI:bP=(Sum.inr Y.1):=(bU _ aY).symm;exact AE (cX _ _ ⟨Y.1,ap,aG,aH,aI,eI,rfl,rfl,ay,eH,bT⟩) rfl
    ·refine JL.exit rfl (JS.drop 0 bN rfl λeJ=>?_);refine JS.drop 1 eJ rfl λeK=>?_;obtain rfl:=oi cK;have eL:bm=(Sum.inr ()):=(bn _ aO).symm;exact AE (bM _ _ ⟨(),av,eL,rfl,rfl,aw,eK⟩) rfl
  ·intro eM;refine JL.block (CZ cu (λL s aT=>∃(bf:LH) (bg:Obj),Jn bj H bf [[(K,bg)]] [(4,Ak ag 0),(6,.map (some K)),(26,sV cg aN.1.2 ci),(27,iV (aN.1.2.length:Int)),(28,iV aT.2)] L s (BF Ec true rB false bf bg aT.1)) ⟨bj,(.map #[] 0),rfl,rfl,Az,ct,BF.nil⟩ ?_);rintro _ _ aT ⟨bf,bg,rfl,rfl,bz,b4,b5⟩ eN ⟨fF,bA⟩ eO;have b6:=bA;unfold SW at b6;refine zg 5 rfl (A2 b6 (λeP eQ=>?_) (λeP eR=>?_))
   ·obtain⟨aL,eS,eT⟩:=bs eQ;refine zg 5 rfl (JS.ix (ck.Ag (aU.Ad bz)) eS underlying23 A1 ?_);rintro fG fH _ ⟨_,_,rfl,rfl,⟨_,_,rfl,rfl,rfl⟩⟩ eU;refine Cd eU Ee A1 rfl rfl (BU b4 Bn λfI eV=>?_);refine Br 1 eV A1 λeW=>?_;refine DG 1 eW rfl λeX b7 b8 eY=>zg 3 rfl (Cf 0 b8 underlying27 AK Bh ?_);refine Cf 1 b8 underlying27 AK Bh ?_;refine Al (v:= .agg #[iV aL.1,iV aL.2.1]) rfl (λρ h=>CY [(0,1),(1,1)] h IQ underlying101 ⟨rfl,AM type3,rfl,AM type3,trivial⟩ rfl rfl) (JS.mapUpdate (xs:=aT.1) (x0:=(aL.1,aL.2.1)) (v0:=true) 0 Pu underlying99 (b5.Ag b7) ⟨_,⟨_,_,rfl,rfl,rfl⟩,rfl⟩ ⟨_,rfl,rfl⟩ eY rfl rfl rfl rfl rfl rfl rfl λeZ e0 e1=>?_);obtain⟨e3,e4,e5⟩:=bs eT;refine zg 3 rfl (Bt e4 rfl rfl rfl ?_);refine zg 2 rfl ?_;obtain rfl:=oi e5;exact AE (eO _ _ ((Dc aT.1 (aL.1,aL.2.1) true),e3) ⟨eX,eZ,rfl,rfl,(bz.Ad b7),e1,e0⟩ bA) rfl
   ·refine JL.exit rfl ?_;obtain rfl:=oi eR;obtain rfl:=eN _ bA;exact AE (eM _ _ ⟨bf,bg,rfl,rfl,bz,b4,b5⟩) rfl
end Pal
namespace Pal
open Go Go.Conc Go.Proofs
open Go.Proofs.Tryz
variable {J:Judge Tryz.prog}{E:LH}
def S7:List Nat:= [0,1,2,2,3,3,3,3,4,4,4,4,4,4,4,4,5,5,5,5,5,5,5,5,5,5,5,5,5,5,5,5,6,6,6,6,6,6,6,6,6,6,6,6,6,6,6,6,6,6,6,6,6,6,6,6,6,6,6,6,6,6,6,6,7,7,7,7,7,7,7,7,7,7,7,7,7,7,7,7,7,7,7,7,7,7,7,7,7,7,7,7,7,7,7,7,7,7,7,7,7,7,7,7,7,7,7,7,7,7,7,7,7,7,7,7,7,7,7,7,7,7,7,7,7,7,7,7,8,8,8,8,8,8,8,8,8,8,8,8,8,8,8,8,8,8,8,8,8,8,8,8,8,8,8,8,8,8,8,8,8,8,8,8,8,8,8,8,8,8,8,8,8,8,8,8,8,8,8,8,8,8,8,8,8,8,8,8,8,8,8,8,8,8,8,8,8,8,8,8,8,8,8,8,8,8,8,8,8,8,8,8,8,8,8,8,8,8,8,8,8,8,8,8,8,8,8,8,8,8,8,8,8,8,8,8,8,8,8,8,8,8,8,8,8,8,8,8,8,8,8,8,8,8,8,8]
def f146(fu_:Nat)(p0:Nat):Option Int:= Option.bind (if(((4294967296):Nat):Int)<=(((p0):Nat):Int) then(some (p0>>>32,32)) else(some (p0,0))) λK=> Option.bind (if(((65536):Nat):Int)<=(((K.1):Nat):Int) then((Ax (K.2+16)).bind λY=> some (K.1>>>16,Y)) else(some K)) λO=> Option.bind (if(((256):Nat):Int)<=(((O.1):Nat):Int) then((Ax (O.2+8)).bind λZ=> some (O.1>>>8,Z)) else(some O)) λU=> (P4 S7 (((((U.1) % 256):Nat):Int))).bind λac=> (Ax (((ac):Nat):Int)).bind λag=> (Ax (U.2+ag)).bind λal=> some al
theorem XK{p0:Nat}{fu_:Nat}{r:Int}(Y:f146 fu_ p0=some r):AR J 146 [.int .u64 ((p0:Nat):Int)] E [] (λw E' B'=>w=iV r/\B'= []):=by
 refine Bi func146 λQ aX cs H Z ao=>?_;unfold f146 at Y;obtain⟨K,ap,aq⟩:=bs Y;refine zg 10 rfl (ES [] [(0,.int .u64 ((K.1:Nat):Int)),(2,iV K.2)] (λaY ar ac=>?_) (λag=>?_))
 ·obtain⟨O,au,av⟩:=bs aq;refine zg 6 rfl (ES [] [(0,.int .u64 ((O.1:Nat):Int)),(2,iV O.2)] (λaZ aw al=>?_) (λam=>?_))
  ·obtain⟨U,ay,az⟩:=bs av;refine zg 6 rfl (ES [] [(0,.int .u64 ((U.1:Nat):Int)),(2,iV U.2)] (λa0 aA aB=>?_) (λan=>?_))
   ·refine zg 4 rfl (Al (v:= .int .u8 (((U.1) % 256:Nat):Int)) rfl (λρ h=>Xt underlying72 underlying5 (h _ _ rfl)) ?_);obtain⟨aC,aD,aE⟩:=bs az;refine Al (v:= .int .u8 ((aC:Nat):Int)) rfl (λρ h=>VQ (l:=S7) (by decide+kernel) underlying9 (h _ _ rfl) (h _ _ rfl) aD) ?_;obtain⟨aF,aG,aH⟩:=bs aE;refine Al (v:=iV aF) rfl (λρ h=>Xk underlying5 underlying3 (h _ _ rfl) aG) ?_;obtain⟨a1,aI,aJ⟩:=bs aH;refine Bt aI rfl rfl rfl (zg 2 rfl ?_);obtain rfl:=oi aJ;exact A3 func146 rfl rfl (ao ((ar.Ad aw).Ad aA) rfl ⟨rfl,rfl⟩ aB)
   ·refine A2 ay (λaK aL=>?_) (λaK aM=>?_)
    ·refine zg 3 rfl (Al (v:= .int .u64 ((O.1>>>8:Nat):Int)) rfl (λρ h=>KV 8 (h _ _ rfl) (h _ _ rfl) (by decide)) ?_);obtain⟨a2,aN,aO⟩:=bs aL;refine zg 4 rfl (Bt aN rfl rfl rfl ?_);refine zg 2 rfl ?_;obtain rfl:=oi aO;exact an Az al rfl
    ·refine JL.skip ?_;obtain rfl:=oi aM;exact an Az al rfl
  ·refine A2 au (λaP aQ=>?_) (λaP aR=>?_)
   ·refine zg 3 rfl (Al (v:= .int .u64 ((K.1>>>16:Nat):Int)) rfl (λρ h=>KV 16 (h _ _ rfl) (h _ _ rfl) (by decide)) ?_);obtain⟨a3,aS,aT⟩:=bs aQ;refine zg 4 rfl (Bt aS rfl rfl rfl ?_);refine zg 2 rfl ?_;obtain rfl:=oi aT;exact am Az ac rfl
   ·refine JL.skip ?_;obtain rfl:=oi aR;exact am Az ac rfl
 ·refine A2 ap (λaU aV=>?_) (λaU aW=>?_)
  ·refine zg 3 rfl (Al (v:= .int .u64 ((p0>>>32:Nat):Int)) rfl (λρ h=>KV 32 (h _ _ rfl) (h _ _ rfl) (by decide)) ?_);refine zg 5 rfl ?_;obtain rfl:=oi aV;exact ag Az Z rfl
  ·refine JL.skip ?_;obtain rfl:=oi aW;exact ag Az Z rfl
def f115(fu_:Nat)(p0:Nat):Option Int:= (f146 fu_ p0).bind λK=> some K
theorem Nh{p0:Nat}{fu_:Nat}{r:Int}(K:f115 fu_ p0=some r):AR J 115 [.int .u64 ((p0:Nat):Int)] E [] (λw E' B'=>w=iV r/\B'= []):=by
 refine Bi func115 λQ al cs H O U=>?_;unfold f115 at K;obtain⟨am,Y,Z⟩:=bs K;refine zg 10 rfl (CG (XK Y) rfl rfl (Ba func146 rfl) O λan ac ag=>?_);refine zg 2 rfl ?_;obtain rfl:=oi Z;exact A3 func115 rfl rfl (U ac rfl ⟨rfl,rfl⟩ ag)
def O3(fu_:Nat)(p1:Int)(K:Int×Ay):Option (Bp (Int×Ay) (Ay)):= Option.bind (if p1<K.1 then((ix K.2 K.1).bind λY=> (Ax (K.1 - 1)).bind λZ=> (ix K.2 Z).bind λac=> (f113 fu_ Y ac).bind λag=> some (decide (ag<0))) else(some false)) λal=> if al=true then((Ax (K.1 - 1)).bind λO=> (Ax (K.1 - 1)).bind λam=> (ix K.2 am).bind λU=> (ix K.2 K.1).bind λan=> (ix (K.2.set (Int.toNat K.1) U) O).bind λap=> (Ax (K.1 - 1)).bind λao=> some (.more (ao,((K.2.set (Int.toNat K.1) U).set (Int.toNat O) an)))) else(some (.done K.2))
def Ng(fu_:Nat)(p1:Int)(p2:Int)(K:Int×Ay):Option (Bp (Int×Ay) (Ay)):= if K.1<p2 then(Option.bind (iter (O3 fu_ p1) fu_ K) λO=> (Ax (K.1+1)).bind λU=> some (.more (U,O))) else(some (.done K.2))
def f193(fu_:Nat)(p0:Ay)(p1:Int)(p2:Int):Option (Ay):= (Ax (p1+1)).bind λK=> Option.bind (iter (Ng fu_ p1 p2) fu_ (K,p0)) λO=> some O
theorem Yb{K:Nat}{U:Nat}{nw:Nat}{aA:Av_}{p0:Ay}{p1:Int}{p2:Int}(hW:WL 27 Au E K U nw aA p0){fu_:Nat}{r:Ay}(aG:f193 fu_ p0 p1 p2=some r):AR J 193 [.slice (AS K) nw U,iV p1,iV p2,(fV 113)] E [(K,.cells aA 27 (0,0))] (λw E' B'=>∃(aH:Av_),w= .tuple #[]/\B'= [(K,.cells aH 27 (0,0))]/\WL 27 Au E' K U nw aH r):=by
 refine Bi func193 λQ b1 cs H aX aY=>?_;unfold f193 at aG;obtain⟨b2,aZ,a0⟩:=bs aG;refine zg 3 rfl (Bt aZ rfl rfl rfl ?_);obtain⟨a1,a2,a3⟩:=bs a0;refine zg 2 rfl (Bw (λL s=>∃(aB:LH) (f17:Av_),Jn E H aB [bX K f17 27] [] L s (WL 27 Au aB K U nw f17 a1)) ?_ ?_)
 ·rintro _ _ ⟨aB,f17,rfl,rfl,a4,a5,a6⟩;obtain rfl:=oi a3;exact JL.fin (v:= .tuple #[]) rfl rfl (Bs.list func193 rfl (vs:= []) trivial) (aY a4 rfl ⟨f17,rfl,(by first | rfl | simp | (simp [Value.cells])),a6⟩ a5)
 ·intro a7;refine JL.block (CZ a2 (λL s am=>∃(al:LH) (f25:Av_),Jn E H al [bX K f25 27] [(0,.slice (AS K) nw U),(1,iV p1),(2,iV p2),(3,(fV 113)),(8,iV am.1)] L s (WL 27 Au al K U nw f25 am.2)) ⟨E,aA,rfl,rfl,Az,aX,hW⟩ ?_);rintro _ _ am ⟨al,f25,rfl,rfl,aI,aJ,aK⟩ a8 ⟨b3,aC⟩ a9;have aL:=aC;unfold Ng at aL;refine zg 7 rfl (A2 aL (λba bb=>?_) (λba be=>?_))
  ·obtain⟨aM,bf,bg⟩:=bs bb;refine zg 8 rfl (Bw (λL s=>∃(av:LH) (f48:Av_),Jn al H av [bX K f48 27] [(0,.slice (AS K) nw U),(1,iV p1),(2,iV p2),(3,(fV 113)),(8,iV am.1)] L s (WL 27 Au av K U nw f48 aM)) ?_ ?_)
   ·rintro _ _ ⟨av,f48,rfl,rfl,bh,bi,bj⟩;obtain⟨bl,bm,bn⟩:=bs bg;refine zg 3 rfl (Bt bm rfl rfl rfl ?_);refine zg 2 rfl ?_;obtain rfl:=oi bn;exact AE (a9 _ _ (bl,aM) ⟨av,f48,rfl,rfl,(aI.Ad bh),bi,bj⟩ aC) rfl
   ·intro bo;refine JL.block (CZ bf (λL s ag=>∃(aq:LH) (f58:Av_),Jn al H aq [bX K f58 27] [(0,.slice (AS K) nw U),(1,iV p1),(2,iV p2),(3,(fV 113)),(8,iV am.1),(9,iV ag.1)] L s (WL 27 Au aq K U nw f58 ag.2)) ⟨al,f25,rfl,rfl,Az,aJ,aK⟩ ?_);rintro _ _ ag ⟨aq,f58,rfl,rfl,aN,ar,O⟩ bp ⟨b4,aD⟩ bq;have aO:=aD;unfold O3 at aO;refine zg 2 rfl (Fl 17 [K] ⟨⟨0,_,rfl⟩,trivial⟩ ar λac=>?_);refine A7 ac rfl [0,1,2,3] rfl ?_;obtain⟨br,aP,bu⟩:=bs aO;refine Gl 0 #[true,true,true,true,true,true,true,true,true,true,true,true,true,true,true,true,true] (λL s=>∃(aw:LH),Jm aq H aw [bX K f58 27] [(0,.slice (AS K) nw U),(1,iV p1),(2,iV p2),(3,(fV 113)),(8,iV am.1),(9,iV ag.1),(34,.bool br)] L s) ?_ ?_
    ·rintro _ _ ⟨aw,rfl,rfl,an,ay⟩;refine AJ.fin (by decide+kernel) (CV bu (λbv bw=>?_) (λbv bx=>?_))
     ·refine zg 3 rfl (IB [15,17] [K] mixed rfl ?_);refine Bl 0 rfl rfl (Bl 1 rfl rfl ?_);refine Bl 2 rfl rfl (Bl 3 rfl rfl ?_);obtain⟨aQ,bz,bA⟩:=bs bw;refine HF 4 true rfl rfl (λρ h s' aR=>Eh (h _ _ rfl) (h _ _ rfl) bz) (Bl 5 rfl rfl ?_);refine Bl 6 rfl rfl ?_;obtain⟨b5,bB,bC⟩:=bs bA;refine HF 7 true rfl rfl (λρ h s' aR=>Eh (h _ _ rfl) (h _ _ rfl) bB) ?_;obtain⟨Y,aS,bD⟩:=bs bC;obtain⟨_,⟨_,_,rfl,rfl,⟨_,_,rfl,rfl,rfl⟩⟩,bE⟩:=WL.at (O.Ag an) aS;refine JB.ix 8 O.2 aS underlying23 A1 ?_;refine TC 9 [iV Y.1,iV Y.2.1,iV Y.2.2] 0 ay bE Ee A1 ?_;refine Bl 10 rfl rfl (Bl 11 rfl rfl ?_);obtain⟨Z,az,bF⟩:=bs bD;obtain⟨_,⟨_,_,rfl,rfl,⟨_,_,rfl,rfl,rfl⟩⟩,bG⟩:=WL.at (O.Ag an) az;refine JB.ix 12 O.2 az underlying23 A1 ?_;refine TC 13 [iV Z.1,iV Z.2.1,iV Z.2.2] 0 ay bG Ee A1 ?_;refine JB.ix 14 O.2 az underlying23 A1 ?_;have au:=WL.put (x':=Y) (ws':= [iV Y.1,iV Y.2.1,iV Y.2.2]) (O.Ag an) O.2 az ⟨_,_,rfl,rfl,⟨_,_,rfl,rfl,rfl⟩⟩;refine Fc 15 0 ay A1 au.2 λbH=>?_;obtain⟨b6,aE,bI⟩:=bs bF;obtain⟨_,⟨_,_,rfl,rfl,⟨_,_,rfl,rfl,rfl⟩⟩,b7⟩:=WL.at au.1 aE;refine JB.ix 16 (au.1).2 aE underlying23 A1 ?_;have aT:=WL.put (x':=Z) (ws':= [iV Z.1,iV Z.2.1,iV Z.2.2]) au.1 (au.1).2 aE ⟨_,_,rfl,rfl,⟨_,_,rfl,rfl,rfl⟩⟩;refine Fc 17 0 bH A1 aT.2 λbJ=>?_;refine JB.fin (by decide+kernel) ?_;obtain⟨bK,bL,bM⟩:=bs bI;refine zg 3 rfl (Ca bL rfl rfl rfl ?_);refine zg 2 rfl ?_;obtain rfl:=oi bM;exact AE (bq _ _ (bK,((ag.2.set (Int.toNat ag.1) Y).set (Int.toNat aQ) Z)) ⟨aw,(A8 (A8 f58 (Int.toNat (ag.1)*3) [iV Y.1,iV Y.2.1,iV Y.2.2]) (Int.toNat (aQ)*3) [iV Z.1,iV Z.2.1,iV Z.2.2]),rfl,rfl,(aN.Ad an),bJ,aT.1⟩ aD) rfl
     ·refine JL.exit rfl ?_;obtain rfl:=oi bx;obtain rfl:=bp _ aD;exact AE (bo _ _ ⟨aw,f58,rfl,rfl,(aN.Ad an),ay,(O.Ag an)⟩) rfl
    ·intro aU;refine GZ (q:=p1<ag.1) (i:=21) rfl (λaF=>?_) (λaF=>?_)
     ·have bN:=ip aP aF;refine A7 ac rfl [4,5,6] rfl ?_;obtain⟨ao,aV,bO⟩:=bs bN;obtain⟨_,⟨_,_,rfl,rfl,⟨_,_,rfl,rfl,rfl⟩⟩,bP⟩:=WL.at O aV;refine JG.ix 7 ac (O).2 aV underlying23 A1 ?_;refine TM 8 ac [iV ao.1,iV ao.2.1,iV ao.2.2] 0 ar bP Ee A1 ?_;refine A7 ac rfl [9,10] rfl ?_;obtain⟨b8,bQ,bR⟩:=bs bO;refine AP 11 ac rfl rfl (λρ h s' aR=>Eh (h _ _ rfl) (h _ _ rfl) bQ) ?_;obtain⟨ap,aW,bS⟩:=bs bR;obtain⟨_,⟨_,_,rfl,rfl,⟨_,_,rfl,rfl,rfl⟩⟩,bT⟩:=WL.at O aW;refine JG.ix 12 ac (O).2 aW underlying23 A1 ?_;refine TM 13 ac [iV ap.1,iV ap.2.1,iV ap.2.2] 0 ar bT Ee A1 ?_;obtain⟨b9,bU,bV⟩:=bs bS;refine Jl (i:=14) ⟨⟨0,_,rfl⟩,trivial⟩ (vs:= [.agg #[iV ao.1,iV ao.2.1,iV ao.2.2],.agg #[iV ap.1,iV ap.2.1,iV ap.2.2]]) (SU bU) (by decide+kernel) rfl rfl rfl rfl (Ba func113 rfl) rfl ar ?_;rintro _ bW _ bY ⟨rfl,rfl⟩ bZ;refine A7 ac rfl [15,16] rfl ?_;obtain rfl:=oi bV;refine Eg ?_ (aU _ _ ⟨bW,rfl,rfl,bY,bZ⟩);exact⟨rfl,rfl,rfl,rfl,rfl,rfl,rfl,trivial⟩
     ·have b0:=im aP aF;refine A7 ac rfl [4,5,6,7,8,9,10,11,12,13,14,15,16] rfl ?_;obtain rfl:=oi b0;refine Eg ?_ (aU _ _ ⟨aq,rfl,rfl,Az,ar⟩);exact⟨rfl,rfl,rfl,rfl,rfl,rfl,rfl,trivial⟩
  ·refine JL.exit rfl ?_;obtain rfl:=oi be;obtain rfl:=a8 _ aC;exact AE (a7 _ _ ⟨al,f25,rfl,rfl,aI,aJ,aK⟩) rfl
def Pe(fu_:Nat)(p0:Ay)(p1:Int)(p2:Int)(p3:Int)(U:Unit):Option (Bp Unit ((Ay)⊕(Unit))):= (Ax (p2 - p1)).bind λK=> if K<=12 then((f193 fu_ p0 p1 p2).bind λO=> some (.done (Sum.inl O))) else(if p3=0 then(none) else(none))
def f169(fu_:Nat)(p0:Ay)(p1:Int)(p2:Int)(p3:Int):Option (Ay):= Option.bind (iter (Pe fu_ p0 p1 p2 p3) fu_ ()) λK=> Sum.elim (λr=>some r) (λO=> none) K
theorem Yg{K:Nat}{O:Nat}{nw:Nat}{U:Av_}{p0:Ay}{p1:Int}{p2:Int}{p3:Int}(hW:WL 27 Au E K O nw U p0){fu_:Nat}{r:Ay}(Y:f169 fu_ p0 p1 p2 p3=some r):AR J 169 [.slice (AS K) nw O,iV p1,iV p2,iV p3,(fV 113)] E [(K,.cells U 27 (0,0))] (λw E' B'=>∃(Z:Av_),w= .tuple #[]/\B'= [(K,.cells Z 27 (0,0))]/\WL 27 Au E' K O nw Z r):=by
 refine Bi func169 λQ aL cs H an ao=>?_;unfold f169 at Y;obtain⟨aM,ap,aq⟩:=bs Y;refine zg 8 rfl (Bw (λL s=>False) ?_ ?_)
 ·intro _ _ ar;exact ar.elim
 ·intro aN;refine JL.block (Ek ap (λac=> [bX K U 27]) (λac=> [(0,.slice (AS K) nw O),(1,iV p1),(2,iV p2),(3,iV p3),(4,(fV 113)),(10,.bool true),(11,.bool true)]) Az an ?_);rintro ac aO ag au av ⟨aP,al⟩ aQ;have am:=al;unfold Pe at am;obtain⟨aR,aw,ay⟩:=bs am;refine zg 5 rfl (Ca aw rfl rfl rfl ?_);refine zg 8 rfl (A2 ay (λaz aA=>?_) (λaz aB=>?_))
  ·obtain⟨aS,aC,aD⟩:=bs aA;refine zg 6 rfl (Ce 0 (Yb (hW.Ag ag) aC) rfl rfl (Ba func193 rfl) au rfl ?_);rintro _ aT _ aE ⟨f32,rfl,rfl,aF⟩ aG;refine JL.done ?_;obtain rfl:=oi aD;obtain rfl:=av _ al;have aH:=elim_inl aq;obtain rfl:=oi aH;exact A3 func169 rfl rfl (ao (ag.Ad aE) rfl ⟨f32,rfl,(by first | rfl | simp | (simp [Value.cells])),aF⟩ aG)
  ·refine zg 7 rfl (A2 aB (λaI aJ=>?_) (λaI aK=>?_))
   ·refine zg 6 rfl ?_;cases aJ
   ·refine zg 5 rfl (Al (v:= .bool false) rfl (λρ h=>Yl.not (c:=true) (h _ _ rfl)) ?_);refine zg 9 rfl ?_;cases aK
def f130(fu_:Nat)(p0:Ay):Option (Ay):= (f115 fu_ (CP (p0.length:Int))).bind λK=> (f169 fu_ p0 0 (p0.length:Int) K).bind λO=> some O
theorem Yf{K:Nat}{O:Nat}{nw:Nat}{U:Av_}{p0:Ay}(hW:WL 27 Au E K O nw U p0){fu_:Nat}{r:Ay}(Y:f130 fu_ p0=some r):AR J 130 [.slice (AS K) nw O,(fV 113)] E [(K,.cells U 27 (0,0))] (λw E' B'=>∃(Z:Av_),w= .tuple #[]/\B'= [(K,.cells Z 27 (0,0))]/\WL 27 Au E' K O nw Z r):=by
 refine Bi func130 λQ aw cs H ag al=>?_;unfold f130 at Y;refine zg 3 rfl (Al (v:=iV (p0.length:Int)) rfl (λρ h=>Su (hW).2 rfl underlying80 (h _ _ rfl)) ?_);refine zg 6 rfl (Al (v:= .int .u64 ((CP (p0.length:Int):Nat):Int)) rfl (λρ h=>Yl.CP underlying3 underlying136 (h _ _ rfl)) ?_);obtain⟨ay,am,an⟩:=bs Y;refine CG (Nh am) rfl rfl Mo ag λaz ac ao=>?_;obtain⟨aA,ap,aq⟩:=bs an;refine zg 1 rfl (Ce 0 (Yg (hW.Ag ac) ap) rfl rfl (Ba func169 rfl) ao rfl ?_);rintro _ aB _ ar ⟨f12,rfl,rfl,au⟩ av;refine JL.done ?_;obtain rfl:=oi aq;exact JL.fin (v:= .tuple #[]) rfl rfl (Bs.list func130 rfl (vs:= []) trivial) (al (ac.Ad ar) rfl ⟨f12,rfl,(by first | rfl | simp | (simp [Value.cells])),au⟩ av)
def Rq(fu_:Nat)(p1:Int)(K:Int)(U:Unit):Option (Bp Unit Unit):= Option.bind (if p1<K then(none) else(some false)) λO=> if O=true then((Ax (K - 1)).bind λY=> (Ax (K - 1)).bind λZ=> none) else(some (.done ()))
def Rv(fu_:Nat)(p1:Int)(p2:Int)(K:Int):Option (Bp Int Unit):= if K<p2 then(Option.bind (iter (Rq fu_ p1 K) fu_ ()) λU=> (Ax (K+1)).bind λO=> some (.more O)) else(some (.done ()))
def PG(fu_:Nat)(p1:Int)(p2:Int):Option Unit:= (Ax (p1+1)).bind λK=> Option.bind (iter (Rv fu_ p1 p2) fu_ K) λO=> some ()
theorem Xd{p1:Int}{p2:Int}{fu_:Nat}{r:Unit}(Z:PG fu_ p1 p2=some r):AR J 193 [nS,iV p1,iV p2,(fV 113)] E [] (λw E' B'=>w= .tuple #[]/\B'= []):=by
 refine Bi func193 λQ a9 cs H au av=>?_;unfold PG at Z;obtain⟨ba,aw,ay⟩:=bs Z;refine zg 3 rfl (Bt aw rfl rfl rfl ?_);obtain⟨bb,az,aA⟩:=bs ay;refine zg 2 rfl (ES [] [] (λbe aB aC=>?_) (λaD=>?_))
 ·obtain rfl:=oi aA;exact JL.fin (v:= .tuple #[]) rfl rfl (Bs.list func193 rfl (vs:= []) trivial) (av aB rfl ⟨rfl,rfl⟩ aC)
 ·refine JL.block (Ek az (λK=> []) (λK=> [(0,.slice none 0 0),(1,iV p1),(2,iV p2),(3,(fV 113)),(8,iV K)]) Az au ?_);rintro K bf ac ag aE ⟨bg,U⟩ aF;have al:=U;unfold Rv at al;refine zg 7 rfl (A2 al (λaG aH=>?_) (λaG aI=>?_))
  ·obtain⟨bh,aJ,aK⟩:=bs aH;refine zg 8 rfl (ES [] [(0,.slice none 0 0),(1,iV p1),(2,iV p2),(3,(fV 113)),(8,iV K)] (λbi aL aM=>?_) (λaN=>?_))
   ·obtain⟨aO,aP,aQ⟩:=bs aK;refine zg 3 rfl (Bt aP rfl rfl rfl ?_);refine zg 2 rfl ?_;obtain rfl:=oi aQ;exact aF aO (ac.Ad aL) aM rfl U
   ·refine JL.block (Ek aJ (λam=> []) (λam=> [(0,.slice none 0 0),(1,iV p1),(2,iV p2),(3,(fV 113)),(8,iV K),(9,iV K)]) Az ag ?_);rintro am an aR aS aT ⟨bj,ao⟩ bl;have ap:=ao;unfold Rq at ap;refine zg 2 rfl (Fb 17 λO=>?_);refine A7 O rfl [0,1,2,3] rfl ?_;obtain⟨aU,aq,aV⟩:=bs ap;refine Gl 0 #[true,true,true,true,true,true,true,true,true,true,true,true,true,true,true,true,true] (λL s=>∃(ar:LH),Jm an H ar [] [(0,.slice none 0 0),(1,iV p1),(2,iV p2),(3,(fV 113)),(8,iV K),(9,iV K),(34,.bool aU)] L s) ?_ ?_
    ·rintro _ _ ⟨ar,rfl,rfl,aW,aX⟩;refine AJ.fin (by decide+kernel) (CV aV (λaY aZ=>?_) (λaY a0=>?_))
     ·refine zg 3 rfl (Fb 16 λO=>?_);refine A7 O rfl [0,1,2,3] rfl ?_;obtain⟨bm,a1,a2⟩:=bs aZ;refine AP 4 O rfl rfl (λρ h s' a3=>Eh (h _ _ rfl) (h _ _ rfl) a1) (A7 O rfl [5,6] rfl ?_);obtain⟨bn,a4,a5⟩:=bs a2;refine AP 7 O rfl rfl (λρ h s' a3=>Eh (h _ _ rfl) (h _ _ rfl) a4) ?_;cases a5
     ·refine JL.exit rfl ?_;obtain rfl:=oi a0;obtain rfl:=aT _ ao;exact aN (aR.Ad aW) aX rfl
    ·intro a6;refine GZ (q:=p1<K) (i:=21) rfl (λY=>?_) (λY=>?_)
     ·have a7:=ip aq Y;refine A7 O rfl [4,5,6] rfl ?_;cases a7
     ·have a8:=im aq Y;refine A7 O rfl [4,5,6,7,8,9,10,11,12,13,14,15,16] rfl ?_;obtain rfl:=oi a8;refine Eg ?_ (a6 _ _ ⟨an,rfl,rfl,Az,aS⟩);exact⟨rfl,rfl,rfl,rfl,rfl,rfl,rfl,trivial⟩
  ·refine JL.exit rfl ?_;obtain rfl:=oi aI;obtain rfl:=aE _ U;exact aD ac ag rfl
def Rc(fu_:Nat)(p1:Int)(p2:Int)(p3:Int)(O:Unit):Option (Bp Unit ((Unit)⊕(Unit))):= (Ax (p2 - p1)).bind λK=> if K<=12 then((PG fu_ p1 p2).bind λU=> some (.done (Sum.inl ()))) else(if p3=0 then(none) else(none))
def PZ(fu_:Nat)(p1:Int)(p2:Int)(p3:Int):Option Unit:= Option.bind (iter (Rc fu_ p1 p2 p3) fu_ ()) λK=> Sum.elim (λr=>some r) (λO=> none) K
theorem W1{p1:Int}{p2:Int}{p3:Int}{fu_:Nat}{r:Unit}(K:PZ fu_ p1 p2 p3=some r):AR J 169 [nS,iV p1,iV p2,iV p3,(fV 113)] E [] (λw E' B'=>w= .tuple #[]/\B'= []):=by
 refine Bi func169 λQ aG cs H Z ac=>?_;unfold PZ at K;obtain⟨aH,ag,al⟩:=bs K;refine zg 8 rfl (Bw (λL s=>False) ?_ ?_)
 ·intro _ _ am;exact am.elim
 ·intro aI;refine JL.block (Ek ag (λO=> []) (λO=> [(0,.slice none 0 0),(1,iV p1),(2,iV p2),(3,iV p3),(4,(fV 113)),(10,.bool true),(11,.bool true)]) Az Z ?_);rintro O aJ an ao ap ⟨aK,U⟩ aL;have Y:=U;unfold Rc at Y;obtain⟨aM,aq,ar⟩:=bs Y;refine zg 5 rfl (Ca aq rfl rfl rfl ?_);refine zg 8 rfl (A2 ar (λau av=>?_) (λau aw=>?_))
  ·obtain⟨aN,ay,az⟩:=bs av;refine zg 6 rfl (CG (Xd ay) rfl rfl (Ba func193 rfl) ao λaO aA aB=>?_);refine JL.done ?_;obtain rfl:=oi az;obtain rfl:=ap _ U;have aC:=elim_inl al;obtain rfl:=oi aC;exact A3 func169 rfl rfl (ac (an.Ad aA) rfl ⟨rfl,rfl⟩ aB)
  ·refine zg 7 rfl (A2 aw (λaD aE=>?_) (λaD aF=>?_))
   ·refine zg 6 rfl ?_;cases aE
   ·refine zg 5 rfl (Al (v:= .bool false) rfl (λρ h=>Yl.not (c:=true) (h _ _ rfl)) ?_);refine zg 9 rfl ?_;cases aF
def Ty(fu_:Nat):Option Unit:= (f115 fu_ (CP ((0:Nat):Int))).bind λK=> (PZ fu_ 0 ((0:Nat):Int) K).bind λO=> some ()
theorem Xe{fu_:Nat}{r:Unit}(K:Ty fu_=some r):AR J 130 [nS,(fV 113)] E [] (λw E' B'=>w= .tuple #[]/\B'= []):=by
 refine Bi func130 λQ ap cs H O U=>?_;unfold Ty at K;refine zg 3 rfl (JL.ln underlying80 rfl rfl rfl ?_);refine zg 6 rfl (Al (v:= .int .u64 ((CP ((0:Nat):Int):Nat):Int)) rfl (λρ h=>Yl.CP underlying3 underlying136 (h _ _ rfl)) ?_);obtain⟨aq,Y,Z⟩:=bs K;refine CG (Nh Y) rfl rfl Mo O λar ac ag=>?_;obtain⟨au,al,am⟩:=bs Z;refine zg 1 rfl (CG (W1 al) rfl rfl (Ba func169 rfl) ag λav an ao=>?_);refine JL.done ?_;obtain rfl:=oi am;exact JL.fin (v:= .tuple #[]) rfl rfl (Bs.list func130 rfl (vs:= []) trivial) (U (ac.Ad an) rfl ⟨rfl,rfl⟩ ao)
theorem Xv{J:Judge Tryz.prog}{E:LH}{a:An}{c:Nat}{g:Seg}{p0:Ay}(Y:OL 27 Au E a c g p0){fu_:Nat}{r:Ay}(K:f130 fu_ p0=some r):
  AR J 130 [.slice a p0.length c,.func (.func 113) #[] #[]] E g (λw E' B'=>w= .tuple #[]/\OL 27 Au E' a c B' r/\r.length=p0.length):=by
 rcases Y.cases with⟨rfl,rfl,rfl,rfl⟩ | ⟨bk,f,rfl,rfl,hW⟩
 ·have Z:r= []:=by
   cases fu_ with
   | zero=>exact absurd K (by simp [f130,f169,f193,iter])
   | succ fu_=>
    cases fu_ with
    | zero=>exact(Option.some.inj (K.symm.trans (by rfl:f130 1 []=some []))).trans rfl
    | succ fu_=>exact(Option.some.inj (K.symm.trans (by rfl:f130 (fu_+2) []=some []))).trans rfl
  subst Z;refine(Xe (fu_:=10) (r:=()) rfl).Ag ?_;rintro w E' B' hle ⟨O,rfl⟩;exact⟨O,OL.nil,rfl⟩
 ·refine(Yf hW K).Ag ?_;rintro w E' B' hle ⟨ac,O,rfl,U⟩;exact⟨O,U.1,U.2⟩
def f90(fu_:Nat)(p0:Ay):Option (Ay):= (f129 fu_ p0).bind λK=> (f130 fu_ K).bind λO=> some O
theorem Zr{a1:An}{c2:Nat}{p0:Ay}(al:Am Au E a1 c2 p0){fu_:Nat}{r:Ay}(Z:f90 fu_ p0=some r):AR J 90 [sV a1 p0 c2] E [] (λw E' B'=>∃(ac:An) (ag:Nat),w= sV ac r ag/\B'= []/\Am Au E' ac ag r):=by
 refine Bi func90 λQ aE cs H am an=>?_;unfold f90 at Z;obtain⟨aF,ao,ap⟩:=bs Z;refine zg 7 rfl (BX (YX al ao) rfl rfl (Ba func129 rfl) am ?_);rintro _ aG aH aq ⟨K,O,_,rfl,rfl,ar⟩ au;obtain⟨U,av,aw⟩:=bs ap;refine zg 5 rfl (Ce 1 (Xv ar av) rfl rfl (Ba func130 rfl) au rfl ?_);rintro _ aI aJ ay ⟨rfl,az,Y⟩ aA;refine Fi (L':= [(6,.tuple #[]),(0,.slice K U.length O),(2,.slice none 0 0),(3,.slice a1 p0.length c2),(4,.slice K U.length O),(5,.slice K U.length O)]) ⟨rfl,by rw [Y];rfl,rfl,rfl,by rw [Y];rfl,by rw [Y];rfl,trivial⟩ ?_;refine zg 6 rfl (BO 1 az aA rfl λaK aB aC aD=>?_);obtain rfl:=oi aw;exact A3 func90 rfl rfl (an ((aq.Ad ay).Ad aB) rfl ⟨K,O,rfl,rfl,aC⟩ aD)
end Pal
namespace Pal
open Go Go.Conc
section
variable {P:Program}{J:Judge P}{Q:Gs_}{b:Frame}{n:Nat}{ds:Ld_}{ops:Ao_}{k:Li_}{cs:Lf_}{m fuel:Nat}{listed:Array Bool}{L:Env}{s:St}{E H:LH}{S:List Seg}
variable {d:Option Tmp}{x y:Operand}{t ty e:TypeId}{p:String}{af:Ae_}{g:On_}{v:Value}{i:Nat}
theorem Take.y0{oi:Oper}(hi:ops[i]? =some oi)(K:(!DL oi.op&&A9 n oi.dst)=true)(hw:AI L ops oi=some true)(O:∀ρ,ER L ρ->Yl P oi ρ s v)
  (h:AJ J Q b n ds ops k cs m CN fuel (A4 listed i) (Av L oi.dst v) s):Take J Q b n ds ops k cs m CN fuel listed L s i:=
 Take.Ku hi K hw λρ U=>by
  have:=O ρ U
  unfold Yl at this
  refine Ei _ this ?_ (λ_ _ h=>h)
  rintro Y s' ⟨rfl,rfl⟩
  exact h
end
end Pal
namespace Pal
open Go Go.Conc
def Gu{P:Program}(J:Judge P)(f:FuncId)(args:Lv_)(E:LH)(B:Seg)(p:Bool)(pv:Value)(R:Value->LH->Seg->Prop):Prop:=
 ∀(Q:Gs_) (bc:Frame) (Tc:Av_) (dsc:Ld_) (K:Li_) (cs:Lf_) (H:LH),Nd E H B->
  (p=false->∀v E' B',Le E E'->R v E' B'->Nd E' H B'->J.ok Q (G ((fr bc Tc dsc K).finish v) cs) (mk E' H B'))->
  (p=true->∀E' B',Le E E'->Nd E' H B'->J.ok Q (G (GU bc Tc dsc K (raised pv)) cs) (mk E' H B'))->
  J.ok Q (G (Frame.enter P f args.toArray .normal) (fr bc Tc dsc K::cs)) (mk E H B)
section
variable {P:Program}{J:Judge P}{Q:Gs_}{b bc:Frame}{n:Nat}{L:Env}{ds dsc:Ld_}{k:Li_}{cs:Lf_}{E H:LH}{S:List Seg}{i:Nat}{rest:List Nat}{d:Option Tmp}{ty e t:TypeId}{pp:String}{af:Ae_}{g:On_}{ops:Ao_}{pv:Value}
theorem Gu.enter{f:FuncId}{fn:Func}{c:Code}{vs:Lv_}{B:Seg}{R:Value->LH->Seg->Prop}{p:Bool}(ac:P.funcs[f]? =some fn)(hb:fn.body=some c)(ar:vs.length<=fn.ntmps)
  (h:∀(Q:Gs_) (bc:Frame) (Tc:Av_) (dsc:Ld_) (O:Li_) (cs:Lf_) (H:LH),Ap E H [B]->
   (p=false->∀v E' S' B',Le E E'->S'.flatten=B'->R v E' B'->Ap E' H S'->J.ok Q (G ((fr bc Tc dsc O).finish v) cs) (Aj E' H S'))->
   (p=true->∀E' S',Le E E'->Ap E' H S'->J.ok Q (G (GU bc Tc dsc O (raised pv)) cs) (Aj E' H S'))->
   JL J Q (base f) fn.ntmps (F6 0 vs) [] [.code c] (fr bc Tc dsc O::cs) (Aj E H [B])):Gu J f vs E B p pv R:=λQ bc Tc dsc O cs H ag al K=>by
 have he:Frame.enter P f vs.toArray .normal=fr (base f) (vs.toArray++Array.replicate (fn.ntmps - vs.length) undef) [] [.code c]:=by
  simp [Frame.enter,fr,ac,hb,base];rfl
 have am:mk E H B=Aj E H [B]:=by unfold Aj;simp
 rw [he,am];refine h Q bc Tc dsc O cs H (by unfold Ap;simpa using ag) (λU v E' S' B' hle an ao Y=>?_) (λU E' S' hle Y=>?_) _ ⟨by simp;omega,λt v ap=>?_⟩
 ·subst an;exact al U v E' S'.flatten hle ao Y
 ·exact K U E' S'.flatten hle Y
 ·obtain⟨_,K⟩:=Jj ap;have aq:t<vs.length:=by
   rcases Nat.lt_or_ge t vs.length with Z | Z
   ·exact Z
   ·simp at K;have:=(List.getElem?_eq_some_iff.1 K).1;omega
  rw [Array.getD_eq_getD_getElem?,Array.getElem?_append_left (by simpa using aq)];simp at K;simp [K]
theorem U5{x:Operand}{f:FuncId}{caps:Lv_}{args:Array Operand}{ats:Array TypeId}{s:St}{vs:Lv_}(hb:Dw P f=true)
  (U:ops[i]? =some ⟨d,.call ⟨.value x,args,ats⟩,ty,pp,af,g⟩) (hw:AI L ops ⟨d,.call ⟨.value x,args,ats⟩,ty,pp,af,g⟩=some true) (O:((b.kind != .early)&&A9 n d)=true)
  (Y:ev L x=some (.func (.func f) #[] caps.toArray)) (Z:evs L args.toList=some vs)
  (h:∀T,Has n L T->J.ok Q (G (Frame.enter P f (vs++caps).toArray .normal) (fr b T ds (.inRegion ops (i::rest)::k)::cs)) s):
  JL J Q b n L ds (.inRegion ops (i::rest)::k) cs s:=λT K=>by
 simp only [Bool.and_eq_true] at O
 have ac:args.map (Bv T)=vs.toArray:=by
  rw [← Gj K.F5 Z];apply Array.ext';simp
 refine Judge.oper U (B5 K hw) (by simpa using O.1) (.inr λc ag=>by cases ag) ?_;have hd:lp P (execOp (Bv T) ⟨d,.call ⟨.value x,args,ats⟩,ty,pp,af,g⟩) s (upon J Q b T ds ops i rest k cs d) (K3 J Q b T ds ops i rest k cs):=by
  have al:execOp (Bv T) ⟨d,.call ⟨.value x,args,ats⟩,ty,pp,af,g⟩=(do let d ← Deferred.ofValue (.func (.func f) #[] caps.toArray) vs.toArray;invoke d.target d.args):=by
   simp only [execOp,resolve,ac,K.F5 _ _ Y]
  rw [al];simp only [Deferred.ofValue,bind,Sem.bind,pure,invoke];have e: #[]++vs.toArray++caps.toArray=(vs++caps).toArray:=by simp
  rw [e];exact IT hb (h T K)
 exact hd
theorem Vf{f:FuncId}{args:Array Operand}{ats:Array TypeId}{s:St}{vs:Lv_}(hb:Dw P f=true)
  (U:ops[i]? =some ⟨d,.call ⟨.value (.func f),args,ats⟩,ty,pp,af,g⟩) (hw:AI L ops ⟨d,.call ⟨.value (.func f),args,ats⟩,ty,pp,af,g⟩=some true) (O:((b.kind != .early)&&A9 n d)=true)
  (Y:evs L args.toList=some vs)
  (h:∀T,Has n L T->J.ok Q (G (Frame.enter P f vs.toArray .normal) (fr b T ds (.inRegion ops (i::rest)::k)::cs)) s):
  JL J Q b n L ds (.inRegion ops (i::rest)::k) cs s:=λT K=>by
 simp only [Bool.and_eq_true] at O
 have Z:args.map (Bv T)=vs.toArray:=by
  rw [← Gj K.F5 Y];apply Array.ext';simp
 refine Judge.oper U (B5 K hw) (by simpa using O.1) (.inr λc ac=>by cases ac) ?_;have hd:lp P (execOp (Bv T) ⟨d,.call ⟨.value (.func f),args,ats⟩,ty,pp,af,g⟩) s (upon J Q b T ds ops i rest k cs d) (K3 J Q b T ds ops i rest k cs):=by
  simp only [execOp,resolve,bind,Sem.bind,Deferred.ofValue,Bv,pure,invoke];have e: #[]++args.map (Bv T)++ #[]=vs.toArray:=by rw [Z];simp
  rw [e];exact IT hb (h T K)
 exact hd
theorem Xb{g:Frame}{s:St}(O:s.q=false)(h:(∃w,Fits s w)->J.ok Q (G g cs) s):J.ok Q (G g cs) s:=by
 by_cases K:∃w,Fits s w
 ·exact h K
 ·exact J.step ⟨rfl,λw f=>absurd ⟨w,f⟩ K,λe=>by subst e;cases O⟩
theorem Gu.use{f:FuncId}{vs:Lv_}{B:Seg}{R:Value->LH->Seg->Prop}{p:Bool}{Tc:Av_}{Y:Li_}(j:Nat)(an:Gu J f vs E B p pv R)(ac:Ap E H S)(ag:S[j]? =some B)
  (Z:p=false->∀v E' B',Le E E'->R v E' B'->Ap E' H (S.set j B')->J.ok Q (G ((fr bc Tc dsc Y).finish v) cs) (Aj E' H (S.set j B')))
  (ao:p=true->∀E' B',Le E E'->Ap E' H (S.set j B')->J.ok Q (G (GU bc Tc dsc Y (raised pv)) cs) (Aj E' H (S.set j B'))):
  J.ok Q (G (Frame.enter P f vs.toArray .normal) (fr bc Tc dsc Y::cs)) (Aj E H S):=by
 have K:S.flatten.Perm (B++(S.set j []).flatten):=(Ef (seg':=B) ag).1.trans List.perm_append_comm;have al:Nd E H (B++(S.set j []).flatten):=Nd.perm ac K;have ap:Aj E H S=mk E (Bb (S.set j []).flatten H) B:=by
  rw [show Aj E H S=mk E H S.flatten from rfl,Fa ac K];unfold mk;rw [FN]
 have aq:Nd E H (S.set j []).flatten:=by
  have:=al;rw [Nd.iff] at this ⊢;rw [List.map_append,List.nodup_append] at this;exact⟨this.1.2.1,λq ar=>this.2 q (List.mem_append_right _ ar)⟩
 have back:∀(g:Frame) (E':LH) (B':Seg),Le E E'->Nd E' (Bb (S.set j []).flatten H) B'->(Ap E' H (S.set j B')->J.ok Q (G g cs) (Aj E' H (S.set j B')))->J.ok Q (G g cs) (mk E' (Bb (S.set j []).flatten H) B'):=λg E' B' hle U au=>by
  have e2:mk E' (Bb (S.set j []).flatten H) B'=mk E' H (B'++(S.set j []).flatten):=by unfold mk;rw [FN]
  refine Xb rfl λ⟨w,av⟩=>?_;have aw:Nd E' H (S.set j []).flatten:=aq.grow λx ay=>by
   have az:=av.d x ay;have Z:Bb B' (Bb (S.set j []).flatten H) x=none:=az;exact(HT Z).1
  have O:Nd E' H (B'++(S.set j []).flatten):=Nd.glue U aw;rw [e2];have am:(B'++(S.set j []).flatten).Perm (S.set j B').flatten:=List.perm_append_comm.trans (Ef ag).2.symm;rw [Fa O am];exact au (Nd.perm O am)
 rw [ap];refine an Q bc Tc dsc Y cs _ (Nd.front al) (λK v E' B' hle aA U=>back _ E' B' hle U λO=>Z K v E' B' hle aA O) (λK E' B' hle U=>back _ E' B' hle U λO=>ao K E' B' hle O)
theorem QS{x:Operand}{f:FuncId}{caps:Lv_}{args:Array Operand}{ats:Array TypeId}{vs:Lv_}{seg:Seg}{R:Value->LH->Seg->Prop}{p:Bool}(j:Nat)(hb:Dw P f=true)
  (ac:Gu J f (vs++caps) E seg p pv R) (Y:ops[i]? =some ⟨d,.call ⟨.value x,args,ats⟩,ty,pp,af,g⟩) (hw:AI L ops ⟨d,.call ⟨.value x,args,ats⟩,ty,pp,af,g⟩=some true) (K:((b.kind != .early)&&A9 n d)=true)
  (ag:ev L x=some (.func (.func f) #[] caps.toArray)) (al:evs L args.toList=some vs) (am:Ap E H S) (an:S[j]? =some seg)
  (ao:p=true->∀E' seg',Le E E'->Ap E' H (S.set j seg')->JP J Q b n L ds cs (raised pv) (Aj E' H (S.set j seg')))
  (ap:p=false->∀v E' seg',Le E E'->R v E' seg'->Ap E' H (S.set j seg')->JL J Q b n (Av L d v) ds (.inRegion ops rest::k) cs (Aj E' H (S.set j seg'))):
  JL J Q b n L ds (.inRegion ops (i::rest)::k) cs (Aj E H S):=
 U5 hb Y hw K ag al λT Z=>Gu.use j ac am an
  (λO v E' B' hle aq U=>by
   rw [Gk (o:=⟨d,.call ⟨.value x,args,ats⟩,ty,pp,af,g⟩) _ _ _ _ _ Y]
   simp only [Bool.and_eq_true] at K
   exact ap O v E' B' hle aq U _ (Z.put K.2 v))
  (λO E' B' hle U=>ao O E' B' hle U T Z _)
theorem Vg{f:FuncId}{args:Array Operand}{ats:Array TypeId}{vs:Lv_}{seg:Seg}{R:Value->LH->Seg->Prop}{p:Bool}(j:Nat)(hb:Dw P f=true)
  (ac:Gu J f vs E seg p pv R) (Y:ops[i]? =some ⟨d,.call ⟨.value (.func f),args,ats⟩,ty,pp,af,g⟩) (hw:AI L ops ⟨d,.call ⟨.value (.func f),args,ats⟩,ty,pp,af,g⟩=some true) (K:((b.kind != .early)&&A9 n d)=true)
  (ag:evs L args.toList=some vs) (al:Ap E H S) (am:S[j]? =some seg)
  (an:p=true->∀E' seg',Le E E'->Ap E' H (S.set j seg')->JP J Q b n L ds cs (raised pv) (Aj E' H (S.set j seg')))
  (ao:p=false->∀v E' seg',Le E E'->R v E' seg'->Ap E' H (S.set j seg')->JL J Q b n (Av L d v) ds (.inRegion ops rest::k) cs (Aj E' H (S.set j seg'))):
  JL J Q b n L ds (.inRegion ops (i::rest)::k) cs (Aj E H S):=
 Vf hb Y hw K ag λT Z=>Gu.use j ac al am
  (λO v E' B' hle ap U=>by
   rw [Gk (o:=⟨d,.call ⟨.value (.func f),args,ats⟩,ty,pp,af,g⟩) _ _ _ _ _ Y]
   simp only [Bool.and_eq_true] at K
   exact ao O v E' B' hle ap U _ (Z.put K.2 v))
  (λO E' B' hle U=>an O E' B' hle U T Z _)
theorem VY{ρ:Operand->Value}{x y z1:Operand}{s:St}{p:String}{a:Option Addr}{l c K m:Nat}{hi:Int}(O:∀ad,a=some ad->ad.spot=none∨c=0)(U:m<=c)(he:hi=(m:Int))(Y:P.underlying t=some (.slice e))(Z:Be P e=some K)(ac:ρ x= .slice a l c)(ag:ρ y=iV hi)(al:ρ z1=iV hi):
  Yl P ⟨d,.slice t x none (some y) (some z1),ty,p,af,g⟩ ρ s (.slice a m m):=by
 subst he;have h:=Yl.slice (P:=P) (s:=s) (d:=d) (ty:=ty) (p:=p) (af:=af) (g:=g) (olo:=none) (ohi:=some y) (omx:=some z1) (lo:=0) (hi:=m) (mx:=m) Y Z ac al ag rfl U (Nat.le_refl _) (Nat.zero_le _);have am:(if m=0 then a else a.map (·.add (0*K)))=a:=by
  split
  ·rfl
  ·cases a with
   | none=>rfl
   | some ad=>
    have:=(O ad rfl).resolve_right (by omega);simp only [Option.map_some,Nat.zero_mul];rw [DI this];obtain⟨b,o,sp⟩:=ad;simp only at this;subst this;simp
 rw [am] at h;simpa using h
theorem Am.Z0{α:Type}{q:Rp α}{a:Option Addr}{c:Nat}{xs ys:List α}{hi:Int}(U:Am q E a c xs)(hC:GJ xs 0 hi=some ys):Am q E a c ys/\ys.length<=c/\hi=(ys.length:Int):=by
 unfold GJ at hC;split at hC
 rotate_left
 ·cases hC
 rename_i hb;obtain⟨Z,ac,ag⟩:=hb;cases hC;have al:=U.1;have hlen:(((xs.take hi.toNat).drop (0:Int).toNat)).length=hi.toNat:=by simp;omega
 refine⟨⟨by rw [hlen];omega,?_⟩,by rw [hlen];omega,by rw [hlen];omega⟩;rcases U.2 with⟨h,O⟩ | ⟨bk,off,Y,O⟩
 ·exact .inl ⟨by rw [h];simp,O⟩
 ·refine .inr ⟨bk,off,Y,λi x K=>O i x ?_⟩;simp only [Int.toNat_zero,List.drop_zero] at K;rw [List.getElem?_take] at K;split at K
  ·exact K
  ·cases K
theorem Take.Rf{m fuel:Nat}{listed:Array Bool}{x y:Operand}{p:String}{α:Type}{q:Rp α}{t1:TypeId}{Y c cx:Nat}{a ax:Option Addr}{xs ys Z:List α}{ats:Array TypeId}{z:Value}(U:Dr xs ys=some Z)
  (aq:ops[i]? =some ⟨d,.call ⟨.builtin .append,#[x,y],ats⟩,ty,p,af,g⟩) (hw:AI L ops ⟨d,.call ⟨.builtin .append,#[x,y],ats⟩,ty,p,af,g⟩=some true) (ar:A9 n d=true)
  (au:ev L x=some (.slice a xs.length xs.length)) (av:ev L y=some (.slice ax ys.length cx)) (aw:ats[0]? =some t) (ay:ats[1]? =some t1) (az:P.underlying t=some (.slice e)) (aA:P.underlying t1=some (.slice e)) (aB:Be P e=some q.n) (hb:Fs P e=some Y) (aC:zeroOf P e=some z) (aD:z.cells.size=q.n)
  (aE:0<Y) (aF:Y<=64) (ac:Am q E a c xs) (aG:Am q E ax cx ys) (ag:Ap E H S)
  (h:∀E' al K,Le E E'->Am q E' al K Z->Ap E' H (S++ [[]])->AJ J Q b n ds ops k cs m CN fuel (A4 listed i) (Av L d (.slice al Z.length K)) (Aj E' H (S++ [[]]))):
  Take J Q b n ds ops k cs m CN fuel listed L (Aj E H S) i:=by
 unfold Dr at U;split at U
 rotate_left
 ·cases U
 rename_i aH;cases U;obtain⟨wss,am,aI,aJ,aZ⟩:=Am.KR (H:=H) (B:=S.flatten) ac.full;obtain⟨aK,aL,aM,aN,aO⟩:=Am.KR (H:=H) (B:=S.flatten) aG;have hlen:(xs++ys).length=xs.length+ys.length:=by simp
 show Take J Q b n ds ops k cs m CN fuel listed L (mk E H S.flatten) i;refine Take.Ku aq (by simp [DL,ar]) hw λρ an=>?_;rw [Ls,an x _ au,an y _ av];refine As _ _ (Qh aw ay aA az aB hb aC aD ag aJ aN aO aE aH aF ?_ ?_)
 ·intro hm;have aP:ys= []:=List.eq_nil_of_length_eq_zero hm;subst aP;have aQ:Ap E H (S++ [[]]):=by unfold Ap at*;rw [G1,List.append_nil];exact ag
  have aR:mk E H S.flatten=Aj E H (S++ [[]]):=by unfold Aj;rw [G1,List.append_nil]
  rw [aR];have:=h E a xs.length (Le.refl _) (by rw [List.append_nil];exact ac.full) aQ;rw [hlen] at this;exact this
 ·intro r O K aS aT aU aV;have aW:OL e q E (some ⟨r,0,none⟩) K [(r,.cells O e (0,0))] (xs++ys):=
   ⟨wss++aK,.inr ⟨r,O,rfl,rfl,aT,by rw [hlen];exact aS,by rw [hlen,List.flatten_append];exact aU.symm⟩,by simp [am,aL],MC am aI aM⟩
  have ao:=EY (S:=S) (seg:= [(r,.cells O e (0,0))]) aV;show AJ J Q b n ds ops k cs m CN fuel _ _ (mk E H (S.flatten++ [(r,.cells O e (0,0))]));rw [ao.1];refine F0 S.length aW ao.2 (by simp) λE' hle aX ap=>?_;have aY:(S++ [[(r,Obj.cells O e (0,0))]]).set S.length []=S++ [[]]:=I2 _ _ _ _;rw [aY] at ap ⊢;have:=h E' (some ⟨r,0,none⟩) K hle aX ap;rw [hlen] at this;exact this
theorem Uj{ρ:Operand->Value}{x:Operand}{s:St}{p:String}{v:Value}{xt t1:TypeId}{f1:Array Field}(K:P.underlying t1=some (.struct f1))(O:ρ x= .iface t1 v):Yl P ⟨d,.typeAssert x xt t1 true,ty,p,af,g⟩ ρ s (.tuple #[v,.bool true]):=by
 refine FM (sm:=Instr.typeAssert (ρ x) xt t1 true) rfl ?_;rw [O];unfold Instr.typeAssert;refine As _ _ (Cj K ?_);simp [lp,pure]
theorem Ug{ρ:Operand->Value}{x:Operand}{s:St}{p:String}{z:Value}{xt t1:TypeId}{f1:Array Field}(K:P.underlying t1=some (.struct f1))(O:zeroOf P t1=some z)(U:ρ x= .nilIface):Yl P ⟨d,.typeAssert x xt t1 true,ty,p,af,g⟩ ρ s (.tuple #[z,.bool false]):=by
 refine FM (sm:=Instr.typeAssert (ρ x) xt t1 true) rfl ?_;rw [U];unfold Instr.typeAssert;refine As _ _ (Cj K ?_);exact As (x:=zeroValue t1) _ (Ho O ⟨rfl,rfl⟩)
end
end Pal
