/- DebtDouble, row of debt: for every input the law is true and its argument reads behind the call as before it. Part 3 of 8. -/
import Derived.Test.YtmeophcclkejkaaGreatDba
import Derived.Test.YtmeophcclkejkaaGreatDbb
import Derived.Test.YtmeophcclkejkaaGreatRows
import Derived.Test.YtmeophcclkejkaaGreatChecked
import Derived.Conc.LeavingOf
import Derived.Conc.HoldsTime
import Derived.Carry
import Derived.ChangeSame
import Derived.ChangeVars
import Derived.ChangeSlices
import Derived.JoinedOf
import Derived.RowKit
import Derived.Deep.Strs
import Derived.Stop.Joined
import Derived.Test.YtmeophcclkejkaaGreatProg
set_option linter.all false
set_option maxRecDepth 100000
namespace Pal
open Go Go.Conc
open Go.ConcN (sumTo upd sumTo_upd upd_ne upd_same)
def LC(P:Program)(R:Value->St->Prop):GP:=λg s=>
 g.status= .running/\∃v,R v s/\∀w,stepG P true g w= .ended (.done v) w #[]
section
variable {P:Program}{R:Value->St->Prop}{J:Judge P}{n:Nat}{L:Env}{s:St}{b:Frame}
theorem JO.end{fn:Func}{t:Tmp}{v:Value}(K:b.kind= .normal)(hi:P.inits.idxOf? b.fn=none)(O:P.funcs[b.fn]? =some fn)(U:fn.results= #[.tmp t])(Y:look L t=some v)(Z:R v s):JO J (LC P R) b n L [] [] s:=λT ac todo=>by
 refine J.stop ⟨rfl,v,Z,λw=>?_⟩
 have e:results fn T=Sem.pure v:=by
  have:=ac.at_ t v Y;simp only [results,U,Array.mapM_eq_mapM_toList];show Sem.pure (T.getD t undef)=_;rw [this]
 have ag:(results fn T).run P w= .ok v w:=by rw [e];rfl
 have e2:(results fn T).events P w #[]= #[]:=by rw [e];simp [Sem.events_pure']
 simp [G,stepG,unwind,Eg,O,ag,e2,doReturn,K,GStep.after,hi,seen_none]
end
section
variable {P:Program}{R:Value->St->Prop}
def After(P:Program)(R:Value->St->Prop)(K:World)(s₀:St)(v:Value)(w':World):Prop:=
 ∃s,R v s/\Fits s w'/\(∀b o,s₀.E b=some o->s.E b=some o)/\w'.tape=K.tape/\Gg K.os w'.os/\w'.output=K.output
def PU(P:Program)(R:Value->St->Prop)(K:World)(s₀:St)(O:Nat)(m:Machine)(t:Trace):Prop:=
 ∃gs w sl q Sh g s,m=crowd gs w sl/\Hh P gs w t q Sh g s/\LC P R g s/\O=sumTo gs.size q/\(∀b o,s₀.E b=some o->s.E b=some o)/\w.tape=K.tape/\Gg K.os w.os/\w.output=K.output
theorem WN{ap:World}{s₀:St}(ay:Nat)(m:Machine)(t:Trace)(h:PU P R ap s₀ ay m t):
  (∃o w ops,stepT P m=(.ended o w,ops)/\Good P (After P R ap s₀) m o w (t++ops))∨(∃m' ops az,stepT P m=(.next m',ops)/\az<ay/\PU P R ap s₀ az m' (t++ops)):=by
 obtain⟨gs,w,sl,q,Sh,g,s,rfl,hC,aU,rfl,aI,aJ,aK,aL⟩:=h;obtain⟨ac,v,aM,aN⟩:=aU;have aV:∀x∈gs,awake x:=by
  intro x Y;obtain⟨i,hi,rfl⟩:=Array.mem_iff_getElem.1 Y;rcases Nat.eq_zero_or_pos i with rfl | aq
  ·have:gs[0]=g:=by simpa [Array.getElem?_eq_getElem hi] using hC.main
   rw [this];exact awake_of (.inl ac)
  ·exact awake_of ((hC.lv.old i _ aq (Array.getElem?_eq_getElem hi)).status.elim .inl λx=> .inr (.inr x))
 obtain⟨i,x,d,aO,hi,Y,aP⟩:=crowd_pick (P:=P) (w:=w) (sl:=sl) aV ⟨0,g,hC.main,ac⟩;have aQ:=hC.at_ d;have aW:0<gs.size:=(Array.getElem?_eq_some_iff.1 hC.main).1;have aX:∀(a:Nat) (fn:FuncId) (pos:String),MemOp.ofEvents a fn pos #[]= #[]:=λa fn pos=>by rw [ofEvents_eq];simp
 rcases Nat.eq_zero_or_pos i with rfl | aq
 ·obtain rfl:x=g:=by rw [hC.main] at hi;exact(Option.some.inj hi).symm
  have ag:=runT_many_ended (P:=P) (sl:=aO) (i:=0) hi (show stepG P (0==0) x (w.at d)=_ from aN (w.at d));rw [aX] at ag;refine .inl ⟨_,_,_,aP.trans ag,v,rfl,⟨s,aM,aQ.B4.fits 0 aW,aI,aJ,aK,aL⟩,?_,?_,⟨λy K=>?_,rfl⟩,λj y K O=>?_⟩
  ·simpa using hC.B4.clean
  ·simpa using hC.over
  ·obtain⟨j,O⟩:=List.mem_iff_getElem?.1 K;rw [List.getElem?_drop] at O;exact⟨_,(hC.lv.old (1+j) y (by omega) (by simpa [crowd] using O)).leaves⟩
  ·have Z:=hC.lv.old j y (by omega) K;exact⟨q j,by simp only [Array.append_empty];exact Z.hears w⟩
 ·have Z:=hC.lv.old i x aq hi;have aY:(i==0)=false:=by simp;omega
  have aR:i<gs.size:=(Array.getElem?_eq_some_iff.1 hi).1;cases av:q i with
  | zero=>rw [av] at Z;rw [Z.1] at Y;cases Y
  | succ k=>
   rw [av] at Z;rcases Z with⟨aZ,_⟩ | ⟨_,x',es,hm,a0,a1⟩
   ·rw [aZ] at Y;cases Y
   have a5:sumTo gs.size (upd q i k)+(k+1)=sumTo gs.size q+k:=by
    have:=sumTo_upd q k id aR;simpa [av] using this
   have ag:=runT_crowd_go (P:=P) (sl:=aO) (i:=i) hi (by rw [aY];exact a0 (w.at d));have aw:((gs.map (woken P x x' (w.at d))).setIfInBounds i x').size=gs.size:=by simp
   have al:∀op∈MemOp.ofEvents i x.frame.fn x.frame.place es,op.g=i:=λop U=>by obtain⟨e,_,rfl⟩:=mem_ofEvents U;rfl
   have aS:∀op∈MemOp.ofEvents i x.frame.fn x.frame.place es,op.act.touch? =none:=λop U=>by obtain⟨e,he,rfl⟩:=mem_ofEvents U;exact touch_mute (hm e he)
   have a2:Hh P ((gs.map (woken P x x' (w.at d))).setIfInBounds i x') (w.at d) (t++MemOp.ofEvents i x.frame.fn x.frame.place es) (upd q i k) Sh g s:=by
    refine⟨?_,⟨λj y O K=>?_,λj O=>?_⟩,?_,?_,?_⟩
    ·have a3:i≠0:=by omega
     rw [Array.getElem?_setIfInBounds_ne a3,Array.getElem?_map,hC.main];simp [woken_run ac]
    ·by_cases am:i=j
     ·subst am;rw [Array.getElem?_setIfInBounds_self_of_lt (by simpa using aR)] at K;obtain rfl:=Option.some.inj K;rw [upd_same,Deaf_own];exact a1
     ·rw [Array.getElem?_setIfInBounds_ne am,Array.getElem?_map] at K;obtain⟨z,a4,rfl⟩:=Option.map_eq_some_iff.1 K;have aT:=hC.lv.old j z O a4;rw [woken_quitsD aT,upd_ne q k (Ne.symm am),Deaf_other t am _ al];exact aT
    ·rw [Deaf_other t (g':=i) (by simp at O;omega) _ al];exact hC.lv.above j (by simpa using O)
    ·rw [aw];exact aQ.B4.mute al aS (λop U=>by obtain⟨e,he,rfl⟩:=mem_ofEvents U;exact low_mute (hm e he) _) rfl
    ·exact handedOver_app hC.over λop U=> .inr (aS op U)
    ·rw [Deaf_other t (by omega) _ al];exact hC.hears
   exact .inr ⟨_,_,_,aP.trans ag,by rw [← aw];rw [aw];omega,_,_,_,_,_,_,_,rfl,a2,⟨ac,v,aM,aN⟩,rfl,aI,aJ,aK,aL⟩
theorem ends{gs:Array Goroutine}{w:World}{sl:Option (Nat×Nat)}{t:Trace}{q:Nat->Nat}{Sh:Nat->Prop}{g:Goroutine}{s:St}(hC:Hh P gs w t q Sh g s)(O:LC P R g s):
  ∃N last o w' K,runNT P (N+1) (crowd gs w sl) t=(.ended o w',K)/\runN P N (crowd gs w sl)= .next last/\step P last= .ended o w'/\Good P (After P R w s) last o w' K:=
 run_of_inv Nat.lt_wfRel.wf (PU P R w s) (Good P (After P R w s)) WN _ _ _ ⟨gs,w,sl,q,Sh,g,s,rfl,hC,O,rfl,λ_ _ h=>h,rfl,.refl _,rfl⟩
theorem US{m m':Machine}{t K:Trace}{n:Nat}(h:runNT P n m t=(.next m',K)):runN P n m= .next m':=by rw [← runNT_fst P n m t,h]
def GO(W:World):St:=⟨λb=>W.heap[b]?,λ_=>none,false⟩
theorem Wb{W:World}{g:Goroutine}(h:(GG P).ok (LC P R) g (GO W)):
  ∃M last o w' K,runNT P (M+1) (solo g W) #[]=(.ended o w',K)/\runN P M (solo g W)= .next last/\step P last= .ended o w'/\Good P (After P R W (GO W)) last o w' K:=by
 have hC:Hh P #[g] W #[] (λ_=>0) (λ_=>False) g (GO W):=by
  have Y:∀{i:Nat} {a:Touch},touchAt #[] i=some a->False:=λ{i a} h=>by simp [touchAt,Trace.act?] at h
  refine⟨rfl,leavers_one P g,⟨λi hi=>?_,λi j hi ac aT=>by simp at hi ac;omega,λi hi b hb=>hb.elim,λb hb=>hb.elim,λsaid=>?_,by simp,λi _ b _ x a O=>(Y O).elim,λi _ b _ x a O=>(Y O).elim⟩,λi g ag=>by simp [Trace.g?] at ag,rfl⟩
  ·have:i=0:=by simp at hi;exact hi
   subst this;exact⟨λb o U=>U,λb o U=>(by cases U),λb _=>rfl⟩
  ·rintro⟨i,j,_,⟨a,b,al,_⟩,_⟩;simp [Trace.act?] at al
 obtain⟨n,gs',w',am,K,q',aU,g',s',Z,ap,aq,av,aw,ay,az⟩:=h #[g] W none #[] _ _ hC;obtain⟨N,last,o,aI,aJ,k1,aK,aL,aM⟩:=ends (sl:=am) ap aq;refine⟨n+N,last,o,aI,aJ,?_,?_,aL,?_⟩
 ·rw [solo_eq_crowd,Nat.add_assoc,runNT_add,Z];exact k1
 ·have aN:=US Z;rw [solo_eq_crowd,runN_add,aN];exact aK
 ·obtain⟨v,e,⟨s2,a1,aO,aP,aQ,aR,aS⟩,r⟩:=aM;exact⟨v,e,⟨s2,a1,aO,λb o hb=>aP b o (av b o hb),aQ.trans aw,ay.trans aR,aS.trans az⟩,r⟩
end
end Pal
namespace Pal
open Go Go.Conc
theorem Vp{P:Program}{Q:Gs_}{E H:LH}{f:FuncId}{fn:Func}{c:Code}{vs:Lv_}(U:P.funcs[f]? =some fn)(hb:fn.body=some c)(ag:fn.ntmps=fn.ntmps)(al:vs.length<=fn.ntmps)
  (h:JL (GG P) Q (base f) fn.ntmps (Ga 0 vs) [] [.code c] [] (Aj E H [[]])):(GG P).ok Q (G (Frame.enter P f vs.toArray .normal) []) (mk E H []):=by
 have he:Frame.enter P f vs.toArray .normal=fr (base f) (vs.toArray++Array.replicate (fn.ntmps - vs.length) undef) [] [.code c]:=by
  simp [Frame.enter,fr,U,hb,base];rfl
 rw [he];have Y:mk E H []=Aj E H [[]]:=by unfold Aj;simp
 rw [Y];refine h _ ⟨by simp;omega,λt v Z=>?_⟩;obtain⟨_,K⟩:=Jo Z;have ac:t<vs.length:=by
  rcases Nat.lt_or_ge t vs.length with O | O
  ·exact O
  ·simp at K;have:=(List.getElem?_eq_some_iff.1 K).1;omega
 rw [Array.getD_eq_getD_getElem?,Array.getElem?_append_left (by simpa using ac)];simp at K;simp [K]
end Pal
namespace Pal
open Go Go.Conc Go.Proofs Go.ChangeShapes Go.WideShapes Go.ChangeAt Go.RowKit
open Go.Proofs.YtmeophcclkejkaaGreat
theorem Tryz.own:ownKnob Tryz.prog.godebug=none:=by kernel_rfl
theorem Tryz.laidOut:laidOutB Tryz.prog=true:=by kernel_rfl
theorem Tryz.YJ:Tryz.prog.cellsOf 3=1:=by kernel_rfl
theorem Uq{R:Value->St->Prop}{W w':World}{v:Value}(h:After Tryz.prog R W (GO W) v w'):(∃s,R v s)/\Below W.heap.size W {w' with os:=W.os}/\Go.ConcM.OsLater W.os w'.os:=by
 obtain⟨s,Y,Z,ac,ag,al,am⟩:=h;have hb:∀k,k<W.heap.size->w'.heap[k]? =W.heap[k]? :=λk O=>by
  have K:(GO W).E k=some W.heap[k]:=Array.getElem?_eq_getElem O;have U:=Z.e k _ (ac k _ K);rw [U,Array.getElem?_eq_getElem O]
 refine⟨⟨s,Y⟩,⟨rfl,ag,am,?_,hb⟩,al⟩;show W.heap.size<=w'.heap.size;rcases Nat.eq_zero_or_pos W.heap.size with ap | ap
 ·omega
 ·have K:=hb (W.heap.size - 1) (by omega);have aq:W.heap[W.heap.size - 1]? =some W.heap[W.heap.size - 1]:=Array.getElem?_eq_getElem (by omega);rw [aq] at K;have U:=(Array.getElem?_eq_some_iff.1 K).1;omega
theorem QR(a:Addr):a.add 0=a:=by unfold Addr.add;rw [if_pos rfl]
section
variable {H:Type}{enc:TypeId×Value->H}{W:World}{fuel:Nat}{cs:Lv_}{x:DataW H×List MemPlace}
theorem Wm{b off:Nat}{v:Value}(h:W.cell? ⟨b,off,none⟩=some v):At (GO W).E b off [v]:=by
 unfold World.cell? at h;split at h
 ·rename_i c e f hW;simp only [Option.isSome_none,Bool.false_eq_true,if_false] at h;refine⟨c,e,f,hW,λj w K=>?_⟩
  match j,K with
  | 0,K=>simp at K;subst K;simpa using h
  | j+1,K=>simp at K
 ·cases h
theorem VH{b off:Nat}(O:0<cs.length)(h:∀j,j<cs.length->W.cell? ⟨b,off+j,none⟩=cs[j]?):At (GO W).E b off cs:=by
 have U:=h 0 O;rw [List.getElem?_eq_getElem O] at U;obtain⟨f,e,fr,Y,_⟩:=Wm U;have hW:W.heap[b]? =some (.cells f e fr):=Y;refine⟨f,e,fr,Y,λj w Z=>?_⟩;have ac:=(List.getElem?_eq_some_iff.1 Z).1;have K:=h j ac;rw [Z] at K;unfold World.cell? at K;simp only [hW] at K;simpa using K
theorem X1{α:Type}{p:Rp α}{t e:TypeId}(aJ:Tryz.prog.underlying t=some (.slice e))(aK:Tryz.prog.cellsOf e=p.n)(aL:0<p.n)
  (aM:∀n cs x,DataW.trod enc Tryz.prog W 0 (λ_=>true) true n e cs=some x->∃v,p.r (GO W).E cs v)
  (aN:DataW.trod enc Tryz.prog W 0 (λ_=>true) true fuel t cs=some x):∃(a:Option Addr) (c:Nat) (aq:List α),cs= [.slice a aq.length c]/\Am p (GO W).E a c aq:=by
 rcases DataW.trod_slice aJ aN with⟨ac,aO⟩ | ⟨a,len,cap,elems,rest,n,_,ac,aO,_,aP,_,hlen,av,aw,_⟩
 ·exact⟨none,0,[],ac,Am.nil⟩
 ·rw [aK] at av aw;rcases Nat.eq_zero_or_pos cap with ay | ay
  ·have:len=0:=by omega
   subst this;subst ay;exact⟨some a,0,[],ac,Nat.le_refl _,.inl ⟨rfl,λ_ _=> .inr rfl⟩⟩
  ·have az:∀i,i<len->∃vs y,vs.length=p.n/\(∀j,j<p.n->W.cell? ((a.add (i*p.n)).add j)=vs[j]?)/\DataW.trod enc Tryz.prog W 0 (λ_=>true) true n e vs=some y:=λi hi=>by
    have K:=av i hi;rw [List.getElem?_eq_getElem (by omega)] at K;obtain⟨vs,al,Y⟩:=Option.bind_eq_some_iff.1 K;obtain⟨_,O,am⟩:=World.cells?_some al;exact⟨vs,_,O,am,Y⟩
   have ap:a.spot=none:=by
    have key:∀vs:Lv_,vs.length=p.n->(∀j,j<p.n->W.cell? ((a.add (0*p.n)).add j)=vs[j]?)->a.spot=none:=λvs ag U=>by
     have:=U 0 aL;rw [List.getElem?_eq_getElem (by omega),QR,Nat.zero_mul,QR] at this;exact World.cell?_spot this
    rcases Nat.eq_zero_or_pos len with K | K
    ·obtain⟨al,Y⟩:=aw rfl;have O:=Y 0 (by omega);rw [List.getElem?_eq_getElem (by omega)] at O;obtain⟨vs,am,_⟩:=Option.bind_eq_some_iff.1 O;obtain⟨_,ag,U⟩:=World.cells?_some am;rw [K] at U;exact key vs ag U
    ·obtain⟨vs,y,ag,U,_⟩:=az 0 K;exact key vs ag U
   have aI:∀i:Fin len,∃z:α,∃vs,p.r (GO W).E vs z/\At (GO W).E a.block (a.off+i*p.n) vs:=λi=>by
    obtain⟨vs,y,al,Y,O⟩:=az i i.2;obtain⟨z,Z⟩:=aM _ _ _ O;refine⟨z,vs,Z,VH (by omega) λj aQ=>?_⟩;have:=Y j (by omega);rw [Dz ap,Dz rfl] at this;exact this
   refine⟨some a,cap,List.ofFn λi=>Classical.choose (aI i),by simpa using ac,by simpa using aP,.inr ⟨a.block,a.off,?_,λi z Z=>?_⟩⟩
   ·obtain⟨b,o,s⟩:=a;simp only at ap;subst ap;rfl
   ·have hi:i<len:=by have:=(List.getElem?_eq_some_iff.1 Z).1;simpa using this
    simp [hi] at Z;have:=Classical.choose_spec (aI ⟨i,hi⟩);rw [Z] at this;exact this
theorem WZ(h:DataW.trod enc Tryz.prog W 0 (λ_=>true) true fuel 3 cs=some x):∃z:Int,cs= [iV z]:=by
 obtain⟨n1,K,_⟩:=DataW.trod_int Tryz.underlying3 h;exact⟨n1,K⟩
theorem Wo(O:DataW.trod enc Tryz.prog W 0 (λ_=>true) true fuel 28 cs=some x):∃(a:Option Addr) (c:Nat) (K:List Int),cs= [.slice a K.length c]/\Am rI (GO W).E a c K:=
 X1 (p:=rI) Tryz.underlying28 Tryz.YJ Nat.one_pos (λn cs x h=>by
  obtain⟨z,rfl⟩:=WZ h
  exact⟨z,rfl⟩) O
theorem WM{v:Value}{O:Nat}{d:DataW H}{p:List MemPlace}(U:Value.okWide Tryz.prog W .any O 28 v)(hd:DataW.Trod enc Tryz.prog W 0 (λ_=>true) true 28 v d p):
  ∃(a:Option Addr) (c:Nat) (K:List Int),v= .slice a K.length c/\Am rI (GO W).E a c K:=by
 obtain⟨Z,len,cap,rfl⟩:=okWide_slice Tryz.underlying28 U;obtain⟨fuel,Y⟩:=hd;obtain⟨a,c,K,e,g⟩:=Wo Y;simp [Value.cells] at e;obtain⟨rfl,rfl,rfl⟩:=e;exact⟨_,_,_,rfl,g⟩
end
end Pal
namespace Pal
open Go Go.Conc
def Hi(K:Bool)(ws:Lv_):Value:=if K then .agg ws.toArray else ws.headD undef
def Vr{α:Type}(pp:Rp α)(K:Bool)(E:LH)(v:Value)(x:α):Prop:=∃ws,pp.r E ws x/\v=Hi K ws
theorem Vr.Ah{α:Type}{pp:Rp α}{K:Bool}{E E':LH}{v:Value}{x:α}(h:Vr pp K E v x)(hle:Le E E'):Vr pp K E' v x:=
 let ⟨ws,O,U⟩:=h;⟨ws,pp.Ah hle O,U⟩
structure Gu (P:Program) (t:TypeId) {κ:Type} [DecidableEq κ] (pk:Rp κ) (ka:Bool):Prop where
 BH:∀{em:Bool} {E:LH} {v:Value} {x:κ} {s:St} {Q:Unit->St->Prop} {X:Halt->St->Prop},Vr pk ka E v x->Q () s->lp P (Instr.checkKey em 10000 t v) s Q X
 kind:∃kd,P.underlying t=some kd/\((∀v w,Instr.sameNow kd v w=none)∨∀{E:LH} {v w:Value} {x y:κ},Vr pk ka E v x->Vr pk ka E w y->Instr.sameNow kd v w=some (decide (x=y)))
 eq:∀{E:LH} {v w:Value} {x y:κ} {s:St} {Q:Bool->St->Prop} {X:Halt->St->Prop},Vr pk ka E v x->Vr pk ka E w y->Q (decide (x=y)) s->lp P (Op.equal t v w) s Q X
 same:∀{E:LH} {v:Value} {x:κ},Vr pk ka E v x->Instr.sameBits 10000 v v=true
 uniq:∀{E:LH} {v w:Value} {x:κ},Vr pk ka E v x->Vr pk ka E w x->v=w
section
variable {κ ν:Type} [DecidableEq κ] {pk:Rp κ}{pv:Rp ν}{ka va:Bool}{E E':LH}
def Dx(pk:Rp κ)(ka:Bool)(pv:Rp ν)(va:Bool)(E:LH):List MapEntry->List (κ×ν)->Prop
 | [],[]=>True
 | e::es,x::xs=>Vr pk ka E e.key x.1/\Vr pv va E e.val x.2/\Dx pk ka pv va E es xs
 | _,_=>False
theorem Dx.Ah(hle:Le E E'):∀{es:List MapEntry} {xs:List (κ×ν)},Dx pk ka pv va E es xs->Dx pk ka pv va E' es xs
 | [],[],_=>trivial
 | e::es,x::xs,h=>⟨h.1.Ah hle,h.2.1.Ah hle,Dx.Ah hle h.2.2⟩
 | [],_::_,h=>h.elim
 | _::_,[],h=>h.elim
theorem Dx.len:∀{es:List MapEntry} {xs:List (κ×ν)},Dx pk ka pv va E es xs->es.length=xs.length
 | [],[],_=>rfl
 | e::es,x::xs,h=>by simp [Dx.len h.2.2]
 | [],_::_,h=>h.elim
 | _::_,[],h=>h.elim
def Gj(x:κ):List MapEntry->List (κ×ν)->Nat->Option (Nat×Value)
 | e::es,y::ys,i=>if x=y.1 then some (i,e.val) else Gj x es ys (i+1)
 | _,_,_=>none
def BA(xs:List (κ×ν))(x:κ):Option ν:=(xs.find? λy=>decide (x=y.1)).map (·.2)
def Df(xs:List (κ×ν))(x:κ)(v:ν):List (κ×ν):=match xs with
 | []=> [(x,v)]
 | y::ys=>if x=y.1 then(x,v)::ys else y::Df ys x v
theorem Sq{x:κ}:∀{es:List MapEntry} {xs:List (κ×ν)} {i:Nat},Dx pk ka pv va E es xs->(Gj x es xs i=none/\BA xs x=none)∨∃j w v0,Gj x es xs i=some (j,w)/\BA xs x=some v0/\Vr pv va E w v0
 | [],[],i,_=> .inl ⟨rfl,rfl⟩
 | e::es,y::ys,i,h=>by
  unfold Gj BA
  by_cases K:x=y.1
  ·exact .inr ⟨i,e.val,y.2,by rw [if_pos K],by simp [K],h.2.1⟩
  ·rcases Sq (x:=x) (i:=i+1) h.2.2 with⟨O,U⟩ | ⟨j,w,v0,O,U,Y⟩
   ·exact .inl ⟨by rw [if_neg K];exact O,by simpa [K,BA] using U⟩
   ·exact .inr ⟨j,w,v0,by rw [if_neg K];exact O,by simpa [K,BA] using U,Y⟩
 | [],_::_,_,h=>h.elim
 | _::_,[],_,h=>h.elim
theorem Dx.put{x:κ}{v0:ν}{O w:Value}(U:Vr pk ka E O x)(hw:Vr pv va E w v0)(Z:Nat):∀{es:List MapEntry} {xs:List (κ×ν)} {i:Nat},Dx pk ka pv va E es xs->
  (Gj x es xs i=none/\Dx pk ka pv va E (es++ [{key:=O,val:=w,born:=Z}]) (Df xs x v0))∨
  ∃j u,Gj x es xs i=some (i+j,u)/\j<es.length/\(∀e,es[j]? =some e->Vr pk ka E e.key x)/\Dx pk ka pv va E (es.modify j λe=>{e with key:=O,val:=w}) (Df xs x v0)
 | [],[],i,_=> .inl ⟨rfl,U,hw,trivial⟩
 | e::es,y::ys,i,h=>by
  unfold Gj Df
  by_cases K:x=y.1
  ·refine .inr ⟨0,e.val,by rw [if_pos K];rfl,by simp,λac he=>?_,?_⟩
   ·simp at he;subst he;rw [K];exact h.1
   ·rw [if_pos K];exact⟨U,hw,h.2.2⟩
  ·rcases Dx.put U hw Z (i:=i+1) h.2.2 with⟨Y,ag⟩ | ⟨j,u,Y,ag,al,am⟩
   ·exact .inl ⟨by rw [if_neg K];exact Y,by rw [if_neg K];exact⟨h.1,h.2.1,ag⟩⟩
   ·refine .inr ⟨j+1,u,by rw [if_neg K,Y];congr 2;omega,by simp;omega,λac he=>al ac (by simpa using he),?_⟩;rw [if_neg K];exact⟨h.1,h.2.1,am⟩
 | [],_::_,_,h=>h.elim
 | _::_,[],_,h=>h.elim
def Ks(pk:Rp κ)(ka:Bool)(pv:Rp ν)(va:Bool)(E:LH)(o:Obj)(xs:List (κ×ν)):Prop:=
 ∃es clock,o= .map es clock/\Dx pk ka pv va E es.toList xs/\(es.toList.map (·.born)).Pairwise (·<·)/\∀e∈es.toList,e.born<clock
theorem Ks.Ah{o:Obj}{xs:List (κ×ν)}(h:Ks pk ka pv va E o xs)(hle:Le E E'):Ks pk ka pv va E' o xs:=
 let ⟨es,c,K,O,U⟩:=h;⟨es,c,K,O.Ah hle,U⟩
variable {P:Program}{s:St}{t tm te:TypeId}{X:Halt->St->Prop}
theorem Qb(U:Gu P t pk ka){k:Value}{x:κ}(Y:Vr pk ka E k x){Q:Option (Nat×Value)->St->Prop}:∀{es:List MapEntry} {xs:List (κ×ν)} {i:Nat},Dx pk ka pv va E es xs->Q (Gj x es xs i) s->lp P (Instr.findAsking t k es i) s Q X
 | [],[],i,_,h=>h
 | e::es,y::ys,i,h,K=>by
  unfold Instr.findAsking
  refine Au _ _ (U.eq Y h.1 ?_)
  unfold Gj at K
  by_cases O:x=y.1
  ·rw [decide_eq_true O]
   rw [if_pos O] at K;exact K
  ·rw [decide_eq_false O];rw [if_neg O] at K;exact Qb U Y h.2.2 K
 | [],_::_,_,h,_=>h.elim
 | _::_,[],_,h,_=>h.elim
theorem Qm{kd:TypeDesc}{k:Value}{x:κ}(O:Vr pk ka E k x)(U:∀{E:LH} {v w:Value} {x y:κ},Vr pk ka E v x->Vr pk ka E w y->Instr.sameNow kd v w=some (decide (x=y))):∀{es:List MapEntry} {xs:List (κ×ν)} {i:Nat},Dx pk ka pv va E es xs->Instr.findNow kd k es i=some (Gj x es xs i)
 | [],[],i,_=>rfl
 | e::es,y::ys,i,h=>by
  unfold Instr.findNow Gj
  rw [U O h.1]
  by_cases K:x=y.1
  ·simp [K]
  ·simp only [decide_eq_false K,if_neg K];exact Qm O U h.2.2
 | [],_::_,_,h=>h.elim
 | _::_,[],_,h=>h.elim
theorem Oj(O:Gu P t pk ka){k:Value}{x:κ}(U:Vr pk ka E k x){Q:Option (Nat×Value)->St->Prop}{es:List MapEntry}{xs:List (κ×ν)}(h:Dx pk ka pv va E es xs)(K:Q (Gj x es xs 0) s):lp P (Instr.findKey t k es) s Q X:=by
 unfold Instr.findKey;obtain⟨kd,Y,Z | ac⟩:=O.kind
 ·refine Au _ _ (Cg Y ?_);cases es with
  | nil=>
   cases xs with
   | nil=>exact K
   | cons y ys=>exact h.elim
  | cons e es=>
   have ag:Instr.findNow kd k (e::es) 0=none:=by unfold Instr.findNow;rw [Z]
   rw [ag];exact Qb O U h K
 ·refine Au _ _ (Cg Y ?_);rw [Qm U ac h];exact K
theorem Vh(O:Gu P t pk ka)(hm:P.underlying tm=some (.map t te)){z:Value}{z0:ν}(Z:zeroOf P te=some z)(ac:Vr pv va E z z0){bk:Nat}{o:Obj}{xs:List (κ×ν)}{k:Value}{x:κ}(ag:s.get bk=some o)(al:Ks pk ka pv va E o xs)(U:Vr pk ka E k x)(ok:Bool){Q:Value->St->Prop}
  (h:∀w,Vr pv va E w ((BA xs x).getD z0)->Q (if ok then .tuple #[w,.bool (BA xs x).isSome] else w) s):lp P (Instr.lookup tm (.map (some bk)) k ok) s Q X:=by
 obtain⟨es,c,rfl,Y,ap,aq⟩:=al;unfold Instr.lookup;refine Au _ _ (Cg hm ?_);refine Au _ _ ?_;unfold getObj;simp only [bind,Sem.bind,lp];refine⟨_,ag,rfl,?_⟩;refine Au (x:=Instr.checkKey _ 10000 t k) _ (O.BH U ?_);refine Au (x:=Instr.findKey t k es.toList) _ (Oj O U Y ?_);rcases Sq (x:=x) (i:=0) Y with⟨K,e2⟩ | ⟨j,w,v0,K,e2,am⟩
 ·rw [K];simp only;refine Au (x:=zeroValue te) _ (Ho Z ?_);have:=h z (by rw [e2];exact ac);rw [e2] at this;exact this
 ·rw [K];have:=h w (by rw [e2];exact am);rw [e2] at this;exact this
theorem Uc(O:Gu P t pk ka)(hm:P.underlying tm=some (.map t te)){bk:Nat}{o:Obj}{xs:List (κ×ν)}{k w:Value}{x:κ}{v0:ν}(am:s.get bk=some o)(Z:s.H bk=some o)(ap:Ks pk ka pv va E o xs)(K:Vr pk ka E k x)(hw:Vr pv va E w v0){Q:Unit->St->Prop}
  (h:∀o',Ks pk ka pv va E o' (Df xs x v0)->Q () (s.upd bk o')):lp P (Instr.mapUpdate tm (.map (some bk)) k w) s Q X:=by
 obtain⟨es,c,rfl,ac,ag,U⟩:=ap;unfold Instr.mapUpdate;refine Au _ _ (Cg hm ?_);unfold getObj;simp only [bind,Sem.bind,lp];refine⟨_,am,rfl,?_⟩;refine Au (x:=Instr.checkKey false 10000 t k) _ (O.BH K ?_);refine Au (x:=Instr.findKey t k es.toList) _ (Oj O K ac ?_);rcases Dx.put K hw c (i:=0) ac with⟨Y,e2⟩ | ⟨j,u,Y,e2,aq,av⟩
 ·rw [Y];simp only [setObj,lp];refine⟨⟨_,Z,rfl⟩,rfl,h _ ⟨es.push {key:=k,val:=w,born:=c},c+1,rfl,by simpa using e2,?_,?_⟩⟩
  ·rw [Array.toList_push,List.map_append,List.pairwise_append];refine⟨ag,by simp,λa aw b hb=>?_⟩;simp at hb;subst hb;obtain⟨e,he,rfl⟩:=List.mem_map.1 aw;exact U e he
  ·intro e he;rw [Array.toList_push] at he;rcases List.mem_append.1 he with he | he
   ·have:=U e he;omega
   ·simp at he;subst he;simp
 ·rw [Y];have al:es[j]? =some (es[j]'(by simpa using e2)):=Array.getElem?_eq_getElem (by simpa using e2);have ay:(es[j]'(by simpa using e2)).key=k:=O.uniq (aq _ (by rw [Array.getElem?_toList];exact al)) K;simp only [Nat.zero_add,al,Option.map_some,Option.getD_some,ay];refine Au (x:=Instr.keyThatStays k k) _ ?_;unfold Instr.keyThatStays;rw [if_pos (O.same K)];simp only [lp,pure,setObj];refine⟨⟨_,Z,rfl⟩,rfl,h _ ⟨_,c,rfl,by simpa using av,?_,?_⟩⟩
  ·have:(es.modify j λe=>{e with key:=k,val:=w}).toList.map (·.born)=es.toList.map (·.born):=by
    rw [Array.toList_modify];apply List.ext_getElem?;intro q;simp only [List.getElem?_map,List.getElem?_modify];split <;> cases es.toList[q]? <;> rfl
   rw [this];exact ag
  ·intro e he;rw [Array.toList_modify] at he;obtain⟨q,az,rfl⟩:=List.mem_iff_getElem.1 he;rw [List.getElem_modify];have aI:q<es.toList.length:=by simpa using az
   split
   ·show(es.toList[q]'aI).born<c;exact U _ (List.getElem_mem _)
   ·exact U _ (List.getElem_mem _)
end
end Pal
namespace Pal
open Go Go.Conc
theorem R0{l us r:Lv_}:∀j w,us[j]? =some w->(l++us++r).toArray[l.length+j]? =some w:=λj w h=>by
 have K:j<us.length:=(List.getElem?_eq_some_iff.1 h).1
 rw [List.getElem?_toArray,List.append_assoc,List.getElem?_append_right (by omega),show l.length+j - l.length=j by omega,List.getElem?_append_left K]
 exact h
section
variable {P:Program}{s:St}{t e:TypeId}{X:Halt->St->Prop}
theorem KL{c:Av_}{off:Nat}{us:Lv_}{O:Bool}(Y:Dd P e=some O)(Z:Bh P e=some us.length)(ac:O=false->us.length=1)(hw:∀j w,us[j]? =some w->c[off+j]? =some w)
  {Q:Value->St->Prop} (k:Q (Hi O us) s):lp P (Go.part e c off) s Q X:=by
 unfold Go.part;refine Au (x:=isAgg e) _ (MF Y ?_);cases O with
 | true=>
  simp only [if_true];refine Au (x:=Go.sizeOf e) _ (EH Z ?_);have ag:c.extract off (off+us.length)=us.toArray:=by
   apply Array.ext_getElem?;intro j;by_cases U:j<us.length
   ·have K:=hw j us[j] (List.getElem?_eq_getElem U);have al:off+j<c.size:=(Array.getElem?_eq_some_iff.1 K).1;simp only [Array.getElem?_extract];rw [if_pos (by omega),K];simp [U]
   ·simp only [Array.getElem?_extract];rw [if_neg (by omega)];simp;omega
  show Q (.agg (c.extract off (off+us.length))) s;rw [ag];exact k
 | false=>
  obtain⟨w,rfl⟩:∃w,us= [w]:=by
   match us,ac rfl with
   | [w],_=>exact⟨w,rfl⟩
  have K:=hw 0 w rfl;rw [Nat.add_zero] at K;simp only [Bool.false_eq_true,if_false,K];exact k
end
structure BZ (P:Program) (t:TypeId) {α:Type} [DecidableEq α] (pp:Rp α) (K:Bool) (dep:Nat):Prop where
 agg:Dd P t=some K
 size:Bh P t=some pp.n
 one:K=false->pp.n=1
 eq:∀{n:Nat} {E E':LH} {ws ws':Lv_} {x y:α} {s:St} {Q:Bool->St->Prop} {X:Halt->St->Prop},dep<=n->pp.r E ws x->pp.r E' ws' y->Q (decide (x=y)) s->lp P (Op.equalIn n t (Hi K ws) (Hi K ws')) s Q X
 BH:∀{n:Nat} {em:Bool} {E:LH} {ws:Lv_} {x:α} {s:St} {Q:Unit->St->Prop} {X:Halt->St->Prop},dep<=n->pp.r E ws x->Q () s->lp P (Instr.checkKey em n t (Hi K ws)) s Q X
 uniq:∀{E E':LH} {ws ws':Lv_} {x:α},pp.r E ws x->pp.r E' ws' x->ws=ws'
 same:∀{E:LH} {ws:Lv_} {x:α},pp.r E ws x->∀w∈ws,∀m,Instr.sameBits (m+1) w w=true
 now:∃kd,P.underlying t=some kd/\((∀v w,Instr.sameNow kd v w=none)∨∀{E E':LH} {ws ws':Lv_} {x y:α},pp.r E ws x->pp.r E' ws' y->Instr.sameNow kd (Hi K ws) (Hi K ws')=some (decide (x=y)))
section
variable {P:Program}{t e:TypeId}
theorem BZ.int{kd:IntKind}(U:P.underlying t=some (.int kd))(Y:Bh P t=some 1):BZ P t (rK kd) false 1 where
 agg:=by unfold Dd;rw [U]
 size:=Y
 one _:=rfl
 eq {n E E' ws ws' x y s Q X} Z K O k:=by
  obtain⟨m,rfl⟩:∃m,n=m+1:=⟨n - 1,by omega⟩;have K:ws= [.int kd x]:=K;have O:ws'= [.int kd y]:=O;subst K O;refine SG U ?_;have e:(x==y)=decide (x=y):=by by_cases h:x=y <;> simp [h]
  rw [e];exact k
 BH {n em E ws x s Q X} Z K k:=by
  obtain⟨m,rfl⟩:∃m,n=m+1:=⟨n - 1,by omega⟩;have K:ws= [.int kd x]:=K;subst K;unfold Instr.checkKey;refine Au _ _ (Cg U ?_);exact k
 uniq K O:=by
  have K:_= [Value.int kd _]:=K;have O:_= [Value.int kd _]:=O;rw [K,O]
 same {E ws x} h w hw m:=by
  have h:ws= [Value.int kd x]:=h;subst h;simp at hw;subst hw;simp [Instr.sameBits]
 now:=⟨_,U,.inr λ{E E' ws ws' x y} K O=>by
  have K:ws= [.int kd x]:=K
  have O:ws'= [.int kd y]:=O
  subst K O
  have e:(x==y)=decide (x=y):=by by_cases h:x=y <;> simp [h]
  show(if kd=kd then some (x==y) else none)=_
  rw [if_pos rfl,e]⟩
theorem BZ.nat{kd:IntKind}(U:P.underlying t=some (.int kd))(Z:Bh P t=some 1):BZ P t (rN kd) false 1 where
 agg:=by unfold Dd;rw [U]
 size:=Z
 one _:=rfl
 eq {n E E' ws ws' x y s Q X} ac K O k:=by
  obtain⟨m,rfl⟩:∃m,n=m+1:=⟨n - 1,by omega⟩;have K:ws= [.int kd ((x:Nat):Int)]:=K;have O:ws'= [.int kd ((y:Nat):Int)]:=O;subst K O;refine SG U ?_;have e:((x:Int)==(y:Int))=decide (x=y):=by
   by_cases h:x=y
   ·simp [h]
   ·have Y:¬(x:Int)=(y:Int):=by omega
    simp [h,Y]
  rw [e];exact k
 BH {n em E ws x s Q X} ac K k:=by
  obtain⟨m,rfl⟩:∃m,n=m+1:=⟨n - 1,by omega⟩;have K:ws= [.int kd ((x:Nat):Int)]:=K;subst K;unfold Instr.checkKey;refine Au _ _ (Cg U ?_);exact k
 uniq K O:=by
  have K:_= [Value.int kd _]:=K;have O:_= [Value.int kd _]:=O;rw [K,O]
 same {E ws x} h w hw m:=by
  have h:ws= [Value.int kd ((x:Nat):Int)]:=h;subst h;simp at hw;subst hw;simp [Instr.sameBits]
 now:=⟨_,U,.inr λ{E E' ws ws' x y} K O=>by
  have K:ws= [.int kd ((x:Nat):Int)]:=K
  have O:ws'= [.int kd ((y:Nat):Int)]:=O
  subst K O
  have e:((x:Int)==(y:Int))=decide (x=y):=by
   by_cases h:x=y
   ·simp [h]
   ·have Y:¬(x:Int)=(y:Int):=by omega
    simp [h,Y]
  show(if kd=kd then some ((x:Int)==(y:Int)) else none)=_
  rw [if_pos rfl,e]⟩
theorem BZ.up{α:Type} [DecidableEq α] {pp:Rp α}{O:Bool}{dep U:Nat}(h:BZ P t pp O dep)(hd:dep<=U):BZ P t pp O U:=
 ⟨h.agg,h.size,h.one,λK=>h.eq (Nat.le_trans hd K),λK=>h.BH (Nat.le_trans hd K),h.uniq,h.same,h.now⟩
theorem O1{α:Type}{kk:Nat}{pp:Rp α}{E:LH}{ws:Lv_}{xs:List α}(K:(rA kk pp).r E ws xs){i:Nat}(hi:i<kk):∃x us,xs[i]? =some x/\pp.r E us x/\us.length=pp.n/\∀j w,us[j]? =some w->ws.toArray[i*pp.n+j]? =some w:=by
 have O:xs[i]? =some (xs[i]'(by rw [K.1];exact hi)):=List.getElem?_eq_getElem (by rw [K.1];exact hi);have Y:ix xs (i:Int)=some (xs[i]'(by rw [K.1];exact hi)):=by unfold ix;rw [if_pos (by omega)];simpa using O
 obtain⟨us,U,_,_,Z⟩:=Hr (m:=(i:Int)) K Y;exact⟨_,us,O,U,pp.len U,λj w ac=>by have:=Z j w ac;rw [List.getElem?_toArray];simpa using this⟩
theorem BZ.arr{α:Type} [DecidableEq α] {pp:Rp α}{aN:Bool}{dep kk:Nat}(h:BZ P e pp aN dep)(Z:P.underlying t=some (.array kk e))(aO:Bh P t=some (kk*pp.n)):BZ P t (rA kk pp) true (dep+1) where
 agg:=by unfold Dd;rw [Z]
 size:=aO
 one:=λh=>by cases h
 eq {n E E' ws ws' xs ys s Q X} aP ac aI k:=by
  obtain⟨n,rfl⟩:∃m,n=m+1:=⟨n - 1,by omega⟩;have aY:=ac.1;have aZ:=aI.1;unfold Op.equalIn;refine Au _ _ (Cg Z ?_);refine Au (x:=Go.sizeOf e) _ (EH h.size ?_);simp only [Hi,if_true];simp only [Std.Legacy.Range.forIn_eq_forIn_range',Std.Legacy.Range.size,Nat.sub_zero,Nat.add_one_sub_one,Nat.div_one];let bd:Nat->Option Bool×Unit->Sem (ForInStep (Option Bool×Unit)):=λi _=>do
   if !(← Op.equalIn n e (← Go.part e ws.toArray (i*pp.n)) (← Go.part e ws'.toArray (i*pp.n))) then pure (ForInStep.done (some false,())) else pure (ForInStep.yield (none,()))
  have key:∀(m st:Nat),st+m=kk->(∀i,i<st->xs[i]? =ys[i]?)->∀{K:Option Bool×Unit->St->Prop},K (if xs=ys then(none,()) else(some false,())) s->lp P (forIn (List.range' st m) (none,()) bd:Sem _) s K X:=by
   intro m
   induction m with
   | zero=>
    intro st al am K O;have U:xs=ys:=by
     apply List.ext_getElem?;intro i;rcases Nat.lt_or_ge i st with hi | hi
     ·exact am i hi
     ·rw [List.getElem?_eq_none (by omega),List.getElem?_eq_none (by omega)]
    rw [if_pos U] at O;simp only [List.range'_zero,List.forIn_nil];exact O
   | succ m ap=>
    intro st al am K O;simp only [List.range'_succ,List.forIn_cons];obtain⟨a,us,ag,aq,Y,av⟩:=O1 ac (i:=st) (by omega);obtain⟨c,a0,aw,aQ,aJ,aR⟩:=O1 aI (i:=st) (by omega);refine Au _ _ (Au _ _ (KL h.agg (by rw [Y];exact h.size) (λq=>by rw [Y];exact h.one q) av ?_));refine Au _ _ (KL h.agg (by rw [aJ];exact h.size) (λq=>by rw [aJ];exact h.one q) aR ?_);refine Au _ _ (h.eq (by omega) aq aQ ?_);by_cases ay:a=c
    ·subst ay;simp only [decide_true,Bool.not_true,Bool.false_eq_true,if_false,lp,pure];exact ap (st+1) (by omega) (λi hi=>by
      rcases Nat.lt_or_ge i st with aK | aK
      ·exact am i aK
      ·obtain rfl:i=st:=by omega
       rw [ag,aw]) O
    ·have aS:¬xs=ys:=λq=>ay (by rw [q] at ag;rw [ag] at aw;exact Option.some.inj aw);rw [if_neg aS] at O;simp only [ay,decide_false,Bool.not_false,if_true,lp,pure];exact O
  refine Au _ _ (key kk 0 (by omega) (λi hi=>by omega) ?_);by_cases U:xs=ys
  ·rw [if_pos U];simpa [lp,pure,U] using k
  ·rw [if_neg U];simpa [lp,pure,U] using k
 BH {n em E ws xs s Q X} aP ac k:=by
  obtain⟨n,rfl⟩:∃m,n=m+1:=⟨n - 1,by omega⟩;unfold Instr.checkKey;refine Au _ _ (Cg Z ?_);simp only [Hi,if_true];simp only [Std.Legacy.Range.forIn_eq_forIn_range',Std.Legacy.Range.size,Nat.sub_zero,Nat.add_one_sub_one,Nat.div_one];let bd:Nat->Unit->Sem (ForInStep Unit):=λi _=>do
   Instr.checkKey em n e (← Go.part e ws.toArray (i*(← Go.sizeOf e)))
   pure (ForInStep.yield ())
  have key:∀(m st:Nat),st+m=kk->∀{K:Unit->St->Prop},K () s->lp P (forIn (List.range' st m) () bd:Sem _) s K X:=by
   intro m
   induction m with
   | zero=>
    intro st al K O;simp only [List.range'_zero,List.forIn_nil];exact O
   | succ m ap=>
    intro st al K O;simp only [List.range'_succ,List.forIn_cons];obtain⟨a,us,ag,aq,Y,av⟩:=O1 ac (i:=st) (by omega);refine Au _ _ (Au (x:=Go.sizeOf e) _ (EH h.size ?_));refine Au _ _ (KL h.agg (by rw [Y];exact h.size) (λq=>by rw [Y];exact h.one q) av ?_);refine Au _ _ (h.BH (by omega) aq ?_);exact ap (st+1) (by omega) O
  exact Au _ _ (key kk 0 (by omega) k)
 uniq {E E' ws ws' xs} az aT:=by
  obtain⟨a1,wss,rfl,aL,c1⟩:=az;obtain⟨a2,aU,rfl,a3,c2⟩:=aT;have:wss=aU:=by
   apply List.ext_getElem (by omega);intro i hi aV;have aM:xs[i]? =some (xs[i]'(by omega)):=List.getElem?_eq_getElem (by omega);exact h.uniq (c1 i _ _ aM (List.getElem?_eq_getElem hi)) (c2 i _ _ aM (List.getElem?_eq_getElem aV))
  rw [this]
 same {E ws xs} az w hw m:=by
  obtain⟨a1,wss,rfl,aL,c1⟩:=az;obtain⟨us,aW,hw⟩:=List.mem_flatten.1 hw;obtain⟨i,hi⟩:=List.mem_iff_getElem?.1 aW;have aX:i<xs.length:=by rw [a1,← aL];exact(List.getElem?_eq_some_iff.1 hi).1
  exact h.same (c1 i _ us (List.getElem?_eq_getElem aX) hi) w hw m
 now:=⟨_,Z,.inl λv w=>rfl⟩
theorem BZ.field{α:Type} [DecidableEq α] {pp:Rp α}{ac:Bool}{dep n:Nat}{f:Field}{s:St}{X:Halt->St->Prop}(h:BZ P f.type pp ac dep)(hd:dep<=n)(ag:f.name≠ "_"){E E':LH}{us Y:Lv_}{x y:α}(r1:pp.r E us x)(r2:pp.r E' Y y){cx Z:Av_}
  (w1:∀j w,us[j]? =some w->cx[f.offset+j]? =some w) (w2:∀j w,Y[j]? =some w->Z[f.offset+j]? =some w) {K:ForInStep (Option Bool×Unit)->St->Prop} (O:K (if x=y then .yield (none,()) else .done (some false,())) s):
  lp P (if f.name≠ "_" then do
   if !(← Op.equalIn n f.type (← Go.part f.type cx f.offset) (← Go.part f.type Z f.offset)) then pure (ForInStep.done (some false,())) else pure (ForInStep.yield (none,()))
   else pure (ForInStep.yield (none,()))) s K X:=by
 rw [if_pos ag]
 refine Au _ _ (KL h.agg (by rw [pp.len r1];exact h.size) (λq=>by rw [pp.len r1];exact h.one q) w1 ?_)
 refine Au _ _ (KL h.agg (by rw [pp.len r2];exact h.size) (λq=>by rw [pp.len r2];exact h.one q) w2 ?_)
 refine Au _ _ (h.eq hd r1 r2 ?_)
 by_cases U:x=y
 ·rw [if_pos U] at O;simpa [lp,pure,U] using O
 ·rw [if_neg U] at O;simpa [lp,pure,U] using O
theorem BZ.LJ{α:Type} [DecidableEq α] {pp:Rp α}{O em:Bool}{dep n:Nat}{f:Field}{s:St}{X:Halt->St->Prop}(h:BZ P f.type pp O dep)(hd:dep<=n)(U:f.name≠ "_"){E:LH}{us:Lv_}{x:α}(r1:pp.r E us x){cx:Av_}
  (w1:∀j w,us[j]? =some w->cx[f.offset+j]? =some w) {K:ForInStep Unit->St->Prop} (Y:K (.yield ()) s):
  lp P (if f.name≠ "_" then do
   Instr.checkKey em n f.type (← Go.part f.type cx f.offset)
   pure (ForInStep.yield ())
   else pure (ForInStep.yield ())) s K X:=by
 rw [if_pos U]
 refine Au _ _ (KL h.agg (by rw [pp.len r1];exact h.size) (λq=>by rw [pp.len r1];exact h.one q) w1 ?_)
 refine Au _ _ (h.BH hd r1 ?_)
 exact Y
theorem K9{us r:Lv_}{o:Nat}(K:o=0):∀j w,us[j]? =some w->(us++r).toArray[o+j]? =some w:=λj w h=>by subst K;exact R0 (l:= []) j w h
theorem NG{l us r:Lv_}{o:Nat}(K:o=l.length):∀j w,us[j]? =some w->(l++(us++r)).toArray[o+j]? =some w:=λj w h=>by
 subst K
 have:=R0 (l:=l) (r:=r) j w h
 rwa [List.append_assoc] at this
theorem Nv{l us:Lv_}{o:Nat}(K:o=l.length):∀j w,us[j]? =some w->(l++us).toArray[o+j]? =some w:=λj w h=>by
 have:=NG (r:= []) K j w h
 rwa [List.append_nil] at this
theorem Pa{l m us:Lv_}{o:Nat}(K:o=l.length+m.length):∀j w,us[j]? =some w->(l++(m++us)).toArray[o+j]? =some w:=λj w h=>by
 have:=Nv (l:=l++m) (o:=o) (by simp [K]) j w h
 rwa [List.append_assoc] at this
theorem BZ.two{α β:Type} [DecidableEq α] [DecidableEq β] {K:Rp α}{p2:Rp β}{a1 aw:Bool}{dep:Nat}{f1 f2:Field}(O:P.underlying t=some (.struct #[f1,f2]))(U:BZ P f1.type K a1 dep)(Y:BZ P f2.type p2 aw dep)(ay:P.stoodInHeld t=false)
  (n1:f1.name≠ "_") (n2:f2.name≠ "_") (ag:f1.offset=0) (al:f2.offset=K.n) (az:Bh P t=some (K.n+p2.n)):BZ P t (rP K p2) true (dep+1) where
 agg:=by unfold Dd;rw [O]
 size:=az
 one:=λh=>by cases h
 eq {n E E' ws ws' x y s Q X} aI am aJ k:=by
  obtain⟨n,rfl⟩:∃m,n=m+1:=⟨n - 1,by omega⟩;obtain⟨ap,aq,rfl,r1,r2⟩:=am;obtain⟨v1,v2,rfl,Z,av⟩:=aJ;simp only [Hi,if_true];unfold Op.equalIn;refine Au _ _ (Cg O ?_);refine Au (x:=program) _ ?_;show lp P (if P.stoodInHeld t=true then _ else _) s _ _
  rw [if_neg (by rw [ay];exact Bool.false_ne_true)]
  dsimp only;rw [← Array.forIn_toList];simp only [List.forIn_cons,List.forIn_nil];refine Au _ _ (Au _ _ (U.field (by omega) n1 r1 Z (K9 ag) (K9 ag) ?_));by_cases ac:x.1=y.1
  ·rw [if_pos ac];refine Au _ _ (Y.field (by omega) n2 r2 av (Nv (al.trans (K.len r1).symm)) (Nv (al.trans (K.len Z).symm)) ?_);by_cases e2:x.2=y.2
   ·have e:x=y:=Prod.ext ac e2;rw [if_pos e2];simpa [lp,pure,e] using k
   ·have e:¬x=y:=λq=>e2 (by rw [q]);rw [if_neg e2];simpa [lp,pure,e] using k
  ·have e:¬x=y:=λq=>ac (by rw [q]);rw [if_neg ac];simpa [lp,pure,e] using k
 BH {n em E ws x s Q X} aI am k:=by
  obtain⟨n,rfl⟩:∃m,n=m+1:=⟨n - 1,by omega⟩;obtain⟨ap,aq,rfl,r1,r2⟩:=am;simp only [Hi,if_true];unfold Instr.checkKey;refine Au _ _ (Cg O ?_)
  dsimp only;rw [← Array.forIn_toList];simp only [List.forIn_cons,List.forIn_nil];refine Au _ _ (Au _ _ (U.LJ (by omega) n1 r1 (K9 ag) ?_));refine Au _ _ (Y.LJ (by omega) n2 r2 (Nv (al.trans (K.len r1).symm)) ?_);exact k
 uniq {E E' ws ws' x} a b:=by
  obtain⟨ap,aq,rfl,r1,r2⟩:=a;obtain⟨v1,v2,rfl,Z,av⟩:=b;rw [U.uniq r1 Z,Y.uniq r2 av]
 same {E ws x} a w hw m:=by
  obtain⟨ap,aq,rfl,r1,r2⟩:=a;rcases List.mem_append.1 hw with hw | hw
  ·exact U.same r1 w hw m
  ·exact Y.same r2 w hw m
 now:=⟨_,O,.inl λv w=>rfl⟩
theorem BZ.three{α β aK:Type} [DecidableEq α] [DecidableEq β] [DecidableEq aK] {K:Rp α}{p2:Rp β}{p3:Rp aK}{a1 aM aN:Bool}{dep:Nat}{f1 f2 f3:Field}(U:P.underlying t=some (.struct #[f1,f2,f3]))(Y:BZ P f1.type K a1 dep)(Z:BZ P f2.type p2 aM dep)(ac:BZ P f3.type p3 aN dep)(aO:P.stoodInHeld t=false)
  (n1:f1.name≠ "_") (n2:f2.name≠ "_") (aL:f3.name≠ "_") (ap:f1.offset=0) (aq:f2.offset=K.n) (av:f3.offset=K.n+p2.n) (aP:Bh P t=some (K.n+(p2.n+p3.n))):BZ P t (rP K (rP p2 p3)) true (dep+1) where
 agg:=by unfold Dd;rw [U]
 size:=aP
 one:=λh=>by cases h
 eq {n E E' ws ws' x y s Q X} aQ aw aR k:=by
  obtain⟨n,rfl⟩:∃m,n=m+1:=⟨n - 1,by omega⟩;obtain⟨ay,_,rfl,r1,az,aI,rfl,r2,r3⟩:=aw;obtain⟨v1,_,rfl,O,v2,aS,rfl,ag,aJ⟩:=aR;simp only [Hi,if_true];unfold Op.equalIn;refine Au _ _ (Cg U ?_);refine Au (x:=program) _ ?_;show lp P (if P.stoodInHeld t=true then _ else _) s _ _
  rw [if_neg (by rw [aO];exact Bool.false_ne_true)]
  dsimp only;rw [← Array.forIn_toList];simp only [List.forIn_cons,List.forIn_nil];refine Au _ _ (Au _ _ (Y.field (by omega) n1 r1 O (K9 ap) (K9 ap) ?_));by_cases al:x.1=y.1
  ·rw [if_pos al];refine Au _ _ (Z.field (by omega) n2 r2 ag (NG (aq.trans (K.len r1).symm)) (NG (aq.trans (K.len O).symm)) ?_);by_cases e2:x.2.1=y.2.1
   ·rw [if_pos e2];refine Au _ _ (ac.field (by omega) aL r3 aJ (Pa (by rw [av,K.len r1,p2.len r2])) (Pa (by rw [av,K.len O,p2.len ag])) ?_);by_cases am:x.2.2=y.2.2
    ·have e:x=y:=Prod.ext al (Prod.ext e2 am);rw [if_pos am];simpa [lp,pure,e] using k
    ·have e:¬x=y:=λq=>am (by rw [q]);rw [if_neg am];simpa [lp,pure,e] using k
   ·have e:¬x=y:=λq=>e2 (by rw [q]);rw [if_neg e2];simpa [lp,pure,e] using k
  ·have e:¬x=y:=λq=>al (by rw [q]);rw [if_neg al];simpa [lp,pure,e] using k
 BH {n em E ws x s Q X} aQ aw k:=by
  obtain⟨n,rfl⟩:∃m,n=m+1:=⟨n - 1,by omega⟩;obtain⟨ay,_,rfl,r1,az,aI,rfl,r2,r3⟩:=aw;simp only [Hi,if_true];unfold Instr.checkKey;refine Au _ _ (Cg U ?_)
  dsimp only;rw [← Array.forIn_toList];simp only [List.forIn_cons,List.forIn_nil];refine Au _ _ (Au _ _ (Y.LJ (by omega) n1 r1 (K9 ap) ?_));refine Au _ _ (Z.LJ (by omega) n2 r2 (NG (aq.trans (K.len r1).symm)) ?_);refine Au _ _ (ac.LJ (by omega) aL r3 (Pa (by rw [av,K.len r1,p2.len r2])) ?_);exact k
 uniq {E E' ws ws' x} a b:=by
  obtain⟨ay,_,rfl,r1,az,aI,rfl,r2,r3⟩:=a;obtain⟨v1,_,rfl,O,v2,aS,rfl,ag,aJ⟩:=b;rw [Y.uniq r1 O,Z.uniq r2 ag,ac.uniq r3 aJ]
 same {E ws x} a w hw m:=by
  obtain⟨ay,_,rfl,r1,az,aI,rfl,r2,r3⟩:=a;rcases List.mem_append.1 hw with hw | hw
  ·exact Y.same r1 w hw m
  ·rcases List.mem_append.1 hw with hw | hw
   ·exact Z.same r2 w hw m
   ·exact ac.same r3 w hw m
 now:=⟨_,U,.inl λv w=>rfl⟩
theorem BZ.key{α:Type} [DecidableEq α] {pp:Rp α}{K:Bool}{dep:Nat}(h:BZ P t pp K dep)(hd:dep<=10000):Gu P t pp K where
 BH:=by
  rintro em E v x s Q X ⟨ws,Y,rfl⟩ k;exact h.BH hd Y k
 kind:=by
  obtain⟨kd,O,Z⟩:=h.now;refine⟨kd,O,Z.imp id λac=>?_⟩;rintro E v w x y ⟨ws,r1,rfl⟩ ⟨ws',r2,rfl⟩;exact ac r1 r2
 eq:=by
  rintro E v w x y s Q X ⟨ws,r1,rfl⟩ ⟨ws',r2,rfl⟩ k;exact h.eq hd r1 r2 k
 same:=by
  rintro E v x ⟨ws,r1,rfl⟩;cases K with
  | false=>
   obtain⟨w,rfl⟩:∃w,ws= [w]:=by
    have:=(pp.len r1).trans (h.one rfl)
    match ws,this with
    | [w],_=>exact⟨w,rfl⟩
   exact h.same r1 w (by simp) 9999
  | true=>
   show(ws.toArray.size==ws.toArray.size&&(ws.toArray.toList.zip ws.toArray.toList).all λ(x,y)=>Instr.sameBits 9999 x y)=true;rw [Bool.and_eq_true];refine⟨by simp,List.all_eq_true.2 ?_⟩;rintro⟨a,b⟩ ag;have O:∀(l:Lv_) a b,(a,b)∈l.zip l->a=b/\a∈l:=by
    intro l
    induction l with
    | nil=>intro a b h;simp at h
    | cons c l U=>
     intro a b h;simp only [List.zip_cons_cons,List.mem_cons,Prod.mk.injEq] at h;rcases h with⟨rfl,rfl⟩ | h
     ·exact⟨rfl,by simp⟩
     ·exact⟨(U a b h).1,List.mem_cons_of_mem _ (U a b h).2⟩
   obtain⟨rfl,hm⟩:=O _ a b ag;exact h.same r1 a (by simpa using hm) 9998
 uniq:=by
  rintro E v w x ⟨ws,r1,rfl⟩ ⟨ws',r2,rfl⟩;rw [h.uniq r1 r2]
section
variable {s:St}{ρ:Operand->Value}{x y:Operand}{d:Option Tmp}{u ty:TypeId}{p:String}{af:Ae_}{g:On_}{E E':LH}{ws ws':Lv_}
theorem RL{α:Type} [DecidableEq α] {pp:Rp α}{dep:Nat}{a b:α}(h:BZ P t pp true dep)(hd:dep<=10000)(K:P.eqGuardType P.depth t=false)(r1:pp.r E ws a)(r2:pp.r E' ws' b)(O:ρ x= .agg ws.toArray)(U:ρ y= .agg ws'.toArray):Yl P ⟨d,.binOp .neq t x y u,ty,p,af,g⟩ ρ s (.bool (decide (a≠b))):=by
 refine FO (sm:=do eqGuard .neq t x y (ρ x) (ρ y);binOp .neq t (ρ x) (ρ y)) rfl ?_
 rw [O,U];refine Au _ _ (U5 (.inr rfl) K ?_);have hb:binOp .neq t (.agg ws.toArray) (.agg ws'.toArray)=(do pure (.bool (!(← Op.equal t (.agg ws.toArray) (.agg ws'.toArray))))):=rfl
 rw [hb];exact Au (x:=Op.equal t _ _) _ (h.eq hd r1 r2 ⟨by simp,rfl⟩)
end
end
end Pal
namespace Pal
open Go Go.Conc
theorem Ue{E H:LH}{B:List (Nat×Obj)}(i:Nat){bk:Nat}{o:Obj}(K:Nd E H B)(h:B[i]? =some (bk,o)):∃E',Le E E'/\E' bk=some o/\Nd E' H (B.eraseIdx i)/\Ca (mk E H B) (mk E' H (B.eraseIdx i)):=by
 have ap:=List.mem_of_getElem? h;have aq:E bk=none/\H bk=none:=by
  have:∀{B:List (Nat×Obj)},Nd E H B->(bk,o)∈B->E bk=none/\H bk=none:=by
   intro B K O
   induction B with
   | nil=>simp at O
   | cons q B Y=>
    rcases List.mem_cons.1 O with rfl | O
    ·exact⟨K.1,K.2.1⟩
    ·exact Y K.2.2.2 O
  exact this K ap
 let E':LH:=λx=>if x=bk then some o else E x
 have ag:E' bk=some o:=by simp [E']
 have hle:Le E E':=λx u U=>by
  have:x≠bk:=λe=>by subst e;rw [aq.1] at U;cases U
  simp [E',this,U]
 have av:Nd E' H (B.eraseIdx i):=by
  have:∀{B:List (Nat×Obj)} {i:Nat},Nd E H B->B[i]? =some (bk,o)->Nd E' H (B.eraseIdx i)/\∀p∈B.eraseIdx i,p.1≠bk:=by
   intro B
   induction B with
   | nil=>intro i _ h;simp at h
   | cons q B Y=>
    obtain⟨c,v⟩:=q;intro i K h;have up:∀{B:List (Nat×Obj)},Nd E H B->(∀p∈B,p.1≠bk)->Nd E' H B:=by
     intro B K al
     induction B with
     | nil=>trivial
     | cons q B aw=>exact⟨by simpa [E',al q (by simp)] using K.1,K.2.1,K.2.2.1,aw K.2.2.2 λp O=>al p (List.mem_cons_of_mem _ O)⟩
    cases i with
    | zero=>
     simp at h;obtain⟨rfl,rfl⟩:=h;exact⟨up K.2.2.2 K.2.2.1,K.2.2.1⟩
    | succ i=>
     simp at h;obtain⟨Z,ac⟩:=Y K.2.2.2 h;have am:c≠bk:=λe=>K.2.2.1 (bk,o) (List.mem_of_getElem? h) e.symm;refine⟨⟨by simpa [E',am] using K.1,K.2.1,λp O=>K.2.2.1 p (List.mem_of_mem_eraseIdx O),Z⟩,λp O=>?_⟩;rcases List.mem_cons.1 O with rfl | O
     ·exact am
     ·exact ac p O
  exact(this K h).1
 refine⟨E',hle,ag,av,⟨λx u U=>hle x u U,λx u U=>(Lq K h U).2,λx u U=>?_,rfl⟩⟩;by_cases e:x=bk
 ·subst e;right;have:u=o:=by have:E' x=some u:=U;rw [ag] at this;exact(Option.some.inj this).symm
  subst this;refine⟨I2 K h,?_⟩;cases ay:(mk E' H (B.eraseIdx i)).H x with
  | none=>rfl
  | some y=>exact absurd rfl (Lq K h ay).1
 ·left;have Z:E' x=some u:=U;have ac:E' x=E x:=by simp [E',e]
  show E x=some u;rw [← ac];exact Z
theorem T5{E H:LH}{B0:List (Nat×Obj)}{e:TypeId}{K l c:Nat}{a:Option Addr}{blk:List (Nat×Obj)}{xs:Lv_}(ag:GS e K a l c blk xs)(U:Nd E H (B0++blk)):∃E',Le E E'/\NT E' K (.slice a l c) l xs/\Nd E' H B0/\Ca (mk E H (B0++blk)) (mk E' H B0):=by
 rcases ag with⟨rfl,rfl,rfl,rfl,rfl⟩ | ⟨bk,f,rfl,rfl,al,Y,rfl⟩
 ·simp only [List.append_nil] at U ⊢;exact⟨E,Le.refl _,.nil,U,.refl _⟩
 ·have am:(B0++ [(bk,Obj.cells f e (0,0))])[B0.length]? =some (bk,Obj.cells f e (0,0)):=by simp
  obtain⟨E',hle,ap,Z,ac⟩:=Ue B0.length U am;have aq:(B0++ [(bk,Obj.cells f e (0,0))]).eraseIdx B0.length=B0:=by rw [List.eraseIdx_append_of_length_le (Nat.le_refl _)];simp
  rw [aq] at Z ac;refine⟨E',hle,⟨_,c,rfl,Y,?_,.inr ⟨bk,0,f,e,(0,0),rfl,ap,λj w O=>?_⟩⟩,Z,ac⟩
  ·have:l*K<=c*K:=Nat.mul_le_mul_right _ Y;simp [al,Nat.min_eq_left this]
  ·rw [List.getElem?_take] at O;split at O
   ·simpa using O
   ·cases O
theorem T9{α:Type}{pp:Rp α}{E H:LH}{S:List Seg}{e:TypeId}{a:Option Addr}{c:Nat}{seg:Seg}{xs:List α}(j:Nat)(U:OL e pp E a c seg xs)(ap:Aq E H S)(aq:S[j]? =some seg):∃E',Le E E'/\Am pp E' a c xs/\Aq E' H (S.set j [])/\Ca (Aj E H S) (Aj E' H (S.set j [])):=by
 obtain⟨wss,U,ac,ag⟩:=U;have av:∀ad:Addr,a=some ad->ad.spot=none:=λad K=>by
  rcases U with⟨O,_⟩ | ⟨bk,f,O,_⟩
  ·rw [O] at K;cases K
  ·rw [O] at K;cases K;rfl
 obtain⟨O,aw⟩:=G4 ap aq;obtain⟨E',hle,ay,az,al⟩:=T5 U aw;rw [← O] at al;refine⟨E',hle,?_,az,al⟩;obtain⟨aI,aJ,Y,aK,aP,Z⟩:=ay;obtain⟨rfl,-,rfl⟩:a=aI/\xs.length=xs.length/\c=aJ:=by
  simp only [Value.slice.injEq] at Y;exact⟨Y.1,rfl,Y.2.2⟩
 refine⟨aK,?_⟩;rcases Z with Z | ⟨bk,off,f,aL,fr,aM,g2,aN⟩
 ·exact .inl ⟨List.eq_nil_of_length_eq_zero Z,λad K=> .inl (av ad K)⟩
 ·refine .inr ⟨bk,off,aM,λi x am=>?_⟩;have aO:i<wss.length:=by rw [ac];exact(List.getElem?_eq_some_iff.1 am).1
  have hw:=List.getElem?_eq_getElem aO;refine⟨wss[i],pp.Ah hle (ag i x _ am hw),f,aL,fr,g2,λm w hm=>?_⟩;rw [Nat.add_assoc];exact aN _ w (J6 (H5 ac ag) hw m w hm)
theorem Ca.get{s s₀:St}(h:Ca s s₀){b:Nat}{o:Obj}(K:s₀.get b=some o):s.get b=some o:=by
 unfold St.get at K ⊢;cases O:s₀.E b with
 | some o'=>
  rw [O] at K;simp only at K;cases K;rcases h.Ey _ _ O with U | ⟨U,_⟩
  ·rw [U]
  ·cases he:s.E b with
   | none=>exact U
   | some Y=>
    have:=h.ext _ _ he;rw [O] at this;cases this;rfl
 | none=>
  rw [O] at K;simp only at K;cases he:s.E b with
  | none=>exact h.own _ _ K
  | some Y=>
   have:=h.ext _ _ he;rw [O] at this;cases this
theorem Ca.upd{s s₀:St}(h:Ca s s₀){b:Nat}(o:Obj)(hb:(∃u,s₀.H b=some u)∨s₀.E b=none):Ca (s.upd b o) (s₀.upd b o):=by
 refine⟨h.ext,λx u K=>?_,λx u K=>?_,h.q⟩
 ·simp only [St.upd] at K ⊢;by_cases e:x=b
  ·rw [if_pos e] at K ⊢;exact K
  ·rw [if_neg e] at K ⊢;exact h.own _ _ K
 ·have O:s₀.E x=some u:=K;rcases h.Ey _ _ O with U | ⟨U,Y⟩
  ·exact .inl U
  ·refine .inr ?_;have e:x≠b:=λe=>by
    subst e;rcases hb with⟨w,hw⟩ | hb
    ·rw [hw] at Y;cases Y
    ·rw [hb] at O;cases O
   simp only [St.upd,if_neg e];exact⟨U,Y⟩
theorem Ca.none{s s₀:St}(h:Ca s s₀){b:Nat}(U:s.E b=none)(O:s.H b=none):s₀.E b=none/\s₀.H b=none:=by
 constructor
 ·cases he:s₀.E b with
  | none=>rfl
  | some o=>
   rcases h.Ey _ _ he with K | ⟨K,_⟩
   ·rw [U] at K;cases K
   ·rw [O] at K;cases K
 ·cases he:s₀.H b with
  | none=>rfl
  | some o=>have:=h.own _ _ he;rw [O] at this;cases this
theorem WQ{P:Program}{α:Type}(x:Sem α):∀{s s₀:St} {Q:α->St->Prop} {X:Halt->St->Prop},Ca s s₀->lp P x s₀ Q X->lp P x s (λa s'=>∃Z,Ca s' Z/\Q a Z) (λh s'=>∃Z,Ca s' Z/\X h Z):=by
 induction x with
 | pure a=>intro s s₀ Q X g h;exact⟨s₀,g,h⟩
 | load m a k K=>
  intro s s₀ Q X g h;obtain⟨O,v,U,Y⟩:=h;obtain⟨o,al,am⟩:=Option.bind_eq_some_iff.1 U;exact⟨O,v,by unfold St.cell?;rw [g.get al];exact am,K v g Y⟩
 | store m a v k K=>
  intro s s₀ Q X g h;obtain⟨O,U,o,Y,ap,aq,av⟩:=h;exact⟨O,U,o,g.own _ _ Y,ap,aq,K (g.upd _ (.inl ⟨o,Y⟩)) av⟩
 | new o k K=>
  intro s s₀ Q X g h;refine⟨by rw [← g.q];exact h.1,λr O U=>?_⟩;obtain⟨ag,e2⟩:=g.none O U;exact K r (g.upd _ (.inr ag)) (h.2 r ag e2)
 | shape r k K=>intro s s₀ Q X g h;obtain⟨o,O,U⟩:=h;exact⟨o,g.get O,K _ g U⟩
 | freeze a n k K=>intro s s₀ Q X g h;exact h.elim
 | frozen a k K=>intro s s₀ Q X g h;obtain⟨o,O,U⟩:=h;exact⟨o,g.get O,K _ g U⟩
 | getObj r k K=>intro s s₀ Q X g h;obtain⟨o,O,U,Y⟩:=h;exact⟨o,g.get O,U,K _ g Y⟩
 | setObj r o k K=>
  intro s s₀ Q X g h;obtain⟨⟨o',O,aw⟩,U,Y⟩:=h;exact⟨⟨o',g.own _ _ O,aw⟩,U,K (g.upd _ (.inl ⟨o',O⟩)) Y⟩
 | choose q k K=>
  intro s s₀ Q X g h;simp only [lp] at h ⊢;split
  ·rename_i ac;rw [if_pos ac] at h;exact K _ g h
  ·rename_i ac;rw [if_neg ac] at h;exact⟨by rw [← g.q];exact h.1,λt=>K _ g (h.2 t)⟩
 | sys c k K=>intro s s₀ Q X g h;exact h.elim
 | program k K=>intro s s₀ Q X g h;exact K _ g h
 | mark m k K=>
  intro s s₀ Q X g h;refine⟨?_,K g h.2⟩;rcases h.1 with⟨O,U⟩ | O
  ·exact .inl ⟨by rw [← g.q];exact O,U⟩
  ·exact .inr O
 | halt h=>intro s s₀ Q X g ay;exact⟨s₀,g,ay⟩
section
variable {P:Program}{J:Judge P}{Q:Gs_}{b:Frame}{n:Nat}{ds:Ld_}{ops:Ao_}{k:Li_}{cs:Lf_}{m fuel:Nat}{D:Nat->Bool}{listed:Array Bool}{L:Env}{s:St}{E E' H:LH}{S:List Seg}
variable {d:Option Tmp}{x y:Operand}{t u ty e:TypeId}{p:String}{af:Ae_}{g:On_}{v:Value}{i:Nat}{kd:IntKind}
theorem Q0{f:FuncId}{args:Array Operand}{ats:Array TypeId}{vs:Lv_}{seg:Seg}{R:Value->LH->Seg->Prop}(j:Nat)(aI:∀x,D x=true->∃(O:Nat) (o:Obj),(S.set j [])[O]? =some [(x,o)])(aJ:AO J f vs E seg R)(aK:Region.ready .any ops listed= [i])
  (aL:ops[i]? =some ⟨d,.call ⟨.value (.func f),args,ats⟩,ty,p,af,g⟩) (aM:Bd n d=true) (hw:AJ L ops ⟨d,.call ⟨.value (.func f),args,ats⟩,ty,p,af,g⟩=some true) (hb:Dv P f=true) (aN:evs L args.toList=some vs) (Z:Aq E H S) (ac:S[j]? =some seg)
  (aO:∀v E' seg',Le E E'->R v E' seg'->Aq E' H (S.set j seg')->AH J Q b n ds ops k cs m D fuel (A4 listed i) (As L d v) (Aj E' H (S.set j seg'))):
  AH J Q b n ds ops k cs m D (fuel+1) listed L (Aj E H S):=by
 have al:S.flatten.Perm (seg++(S.set j []).flatten):=(Ec (seg':=seg) ac).1.trans List.perm_append_comm;have am:Nd E H (seg++(S.set j []).flatten):=Nd.perm Z al;have aP:Aj E H S=mk E (A9 (S.set j []).flatten H) seg:=by
  rw [show Aj E H S=mk E H S.flatten from rfl,EY Z al];unfold mk;rw [FP]
 have ap:=EB.Lb (aJ (A9 (S.set j []).flatten H) (Nd.front am)) (by rintro v s' ⟨E',B',_,_,_,rfl⟩;rfl);rw [← aP] at ap;refine AH.call rfl aK aL aM hw hb aN ap ?_;rintro v aY ⟨⟨E',B',hle,aQ,aR,rfl⟩,w,aS⟩;have e2:mk E' (A9 (S.set j []).flatten H) B'=mk E' H (B'++(S.set j []).flatten):=by unfold mk;rw [FP]
 have aT:Nd E H (S.set j []).flatten:=by
  have:=am;rw [Nd.iff] at this ⊢;rw [List.map_append,List.nodup_append] at this;exact⟨this.1.2.1,λq aU=>this.2 q (List.mem_append_right _ aU)⟩
 have aV:Nd E' H (S.set j []).flatten:=aT.grow λx U=>by
  have aW:=aS.d x U;have ag:A9 B' (A9 (S.set j []).flatten H) x=none:=aW;exact(HW ag).1
 have aq:Nd E' H (B'++(S.set j []).flatten):=Nd.glue aR aV;have av:(B'++(S.set j []).flatten).Perm (S.set j B').flatten:=List.perm_append_comm.trans (Ec ac).2.symm;have aw:Aq E' H (S.set j B'):=Nd.perm aq av;rw [e2,EY aq av];refine⟨rfl,λx o U=>?_,aO v E' B' hle aQ aw⟩;by_cases hd:D x=true
 ·obtain⟨O,o',Y⟩:=aI x hd;have ay:j≠O:=λh=>by
   subst h;rw [List.getElem?_set_self (List.getElem?_eq_some_iff.1 ac).1] at Y;cases Y
  have az:S[O]? =some [(x,o')]:=by rw [List.getElem?_set_ne ay] at Y;exact Y
  have ag:(Aj E H S).get x=some o':=DF (i:=0) Z az rfl;have aX:(Aj E' H (S.set j B')).get x=some o':=DF (i:=0) aw (by rw [List.getElem?_set_ne ay];exact az) rfl;have K:(if D x then(Aj E H S).get x else E x)=some o:=U
  show(if D x then(Aj E' H (S.set j B')).get x else E' x)=some o
  rw [if_pos hd] at K ⊢;rw [aX,← ag];exact K
 ·have K:(if D x then(Aj E H S).get x else E x)=some o:=U
  show(if D x then(Aj E' H (S.set j B')).get x else E' x)=some o
  rw [if_neg hd] at K ⊢;exact hle _ _ K
theorem AH.perm{S':List Seg}(K:S.flatten.Perm S'.flatten)(O:Aq E H S)(h:Aq E H S'->AH J Q b n ds ops k cs m D fuel listed L (Aj E H S')):AH J Q b n ds ops k cs m D fuel listed L (Aj E H S):=by
 have e:Aj E H S=Aj E H S':=EY O K;rw [e];exact h (Nd.perm O K)
theorem JA.ghost:∀(fuel:Nat) {listed:Array Bool} {T:Av_} {s s₀:St},Ca s s₀->JA J Q b ds ops k cs m Dc fuel listed T s₀->JA J Q b ds ops k cs m Dc fuel listed T s
 | 0,listed,T,s,s₀,g,h=>⟨h.1,J.ghost g h.2⟩
 | fuel+1,listed,T,s,s₀,g,h=>by
  rcases h with⟨O,U⟩ | ⟨O,U,ac⟩
  ·exact .inl ⟨O,λt=>J.ghost g (U t)⟩
  ·refine .inr ⟨O,by rw [← g.q];exact U,λi hi o ag=>?_⟩;obtain⟨a1,al,am⟩:=ac i hi o ag;refine⟨a1,λe=>JA.ghost fuel g (al e),λe=>?_⟩;have ap:=WQ _ (s:=Br Dc s) (s₀:=Br Dc s₀) g (am e);refine Ee _ ap ?_ (λ_ s' ⟨_,_,h⟩=>h);intro aq s' K;obtain⟨Y,Z,K⟩:=K;cases aq with
   | value v=>exact JA.ghost fuel (s:=s') (s₀:=Y) Z K
   | skip=>exact JA.ghost fuel (s:=s') (s₀:=Y) Z K
   | enter f args=>
    obtain⟨R,av,aw⟩:=K;refine⟨R,λQ c cs ay=>J.ghost (s:=s') (s₀:=Y) Z (av Q c cs ay),λv az aI=>?_⟩;obtain⟨aJ,aK,aL⟩:=aw v az aI;exact⟨aJ,λx o K=>aK x o (g.ext x o K),aL⟩
   | _=>exact K.elim
theorem F7{α:Type}{pp:Rp α}{a:Option Addr}{c:Nat}{seg:Seg}{xs:List α}(j:Nat)(K:OL e pp E a c seg xs)(O:Aq E H S)(U:S[j]? =some seg)
  (h:∀E',Le E E'->Am pp E' a c xs->Aq E' H (S.set j [])->AH J Q b n ds ops k cs m Dc fuel listed L (Aj E' H (S.set j []))):AH J Q b n ds ops k cs m Dc fuel listed L (Aj E H S):=λT Y=>by
 obtain⟨E',Z,ac,ag,al⟩:=T9 j K O U
 exact JA.ghost _ al (h E' Z ac ag T Y)
end
end Pal
namespace Pal
open Go Go.Conc
theorem oi{α:Type}{a b:α}(h:some a=some b):a=b:=Option.some.inj h
theorem bs{α β:Type}{o:Option α}{f:α->Option β}{r:β}(h:o.bind f=some r):∃x,o=some x/\f x=some r:=bind_some h
def Ic(L:Env):Env->List (Option Value)
 | []=> []
 | (t,_)::L'=>look L t::Ic L L'
def Ik:Env->List (Option Value)
 | []=> []
 | (_,v)::L'=>some v::Ik L'
theorem No{L:Env}:∀{L':Env},Ic L L'=Ik L'->Sub L' L
 | [],_=>trivial
 | (t,v)::L',h=>by
  simp only [Ic,Ik,List.cons.injEq] at h
  exact⟨h.1,No h.2⟩
section
variable {P:Program}{J:Judge P}{Q:Gs_}{b:Frame}{n:Nat}{L L':Env}{ds:Ld_}{k k':Li_}{cs:Lf_}{s:St}{ops:Ao_}{i:Nat}{rest:List Nat}{v:Value}
variable {d:Option Tmp}{op:Op}{ty:TypeId}{p:String}{af:Ae_}{g:On_}
theorem Ep(L':Env)(h:Ic L L'=Ik L')(k':JL J Q b n L' ds k cs s):JL J Q b n L ds k cs s:=EX (No h) k'
theorem AB(k':JL J Q b n L' ds k cs s)(h:Ic L L'=Ik L'):JL J Q b n L ds k cs s:=EX (No h) k'
def Fu(b:Frame)(n:Nat)(L:Env)(ops:Ao_)(i:Nat):Option Oper:=
 match Jd ops.toList i with
 | some ⟨d,op,ty,p,af,g⟩=>match AJ L ops ⟨d,op,ty,p,af,g⟩ with
  | some true=>match BH b n ⟨d,op,ty,p,af,g⟩ with
   | true=>some ⟨d,op,ty,p,af,g⟩
   | false=>none
  | _=>none
 | none=>none
theorem Kc{o:Oper}(h:Fu b n L ops i=some o):ops[i]? =some o/\AJ L ops o=some true/\BH b n o=true:=by
 unfold Fu at h;split at h
 ·rename_i K;rw [KT,Array.getElem?_toList] at K;split at h
  ·rename_i hw;split at h
   ·rename_i O;cases h;exact⟨K,hw,O⟩
   ·cases h
  ·cases h
 ·cases h
theorem Al(K:Fu b n L ops i=some ⟨d,op,ty,p,af,g⟩)(h:∀ρ,EL L ρ->Yl P ⟨d,op,ty,p,af,g⟩ ρ s v)(O:JL J Q b n (As L d v) ds (.inRegion ops rest::k) cs s):
  JL J Q b n L ds (.inRegion ops (i::rest)::k) cs s:=
 let ⟨U,Y,Z⟩:=Kc K
 AY U Y Z h O
theorem Po{f:FuncId}{fn:Func}{c:Code}{E:LH}{vs:Lv_}{B:Seg}{R:Value->LH->Seg->Prop}(O:P.funcs[f]? =some fn)(hb:fn.body=some c)(U:Nat.ble vs.length fn.ntmps=true)
  (h:∀(Q:Gs_) (K:Frame) (cs:Lf_) (H:LH),Aq E H [B]->(∀v E' S' B',Le E E'->S'.flatten=B'->R v E' B'->Aq E' H S'->J.ok Q (G (K.finish v) cs) (Aj E' H S'))->JL J Q (base f) fn.ntmps (Ga 0 vs) [] [.code c] (K::cs) (Aj E H [B])):AO J f vs E B R:=
 AO.enter O hb (Nat.le_of_ble_eq_true U) h
def NU(n:Nat)(L:Env)(ops:Ao_)(i:Nat):Option Env:=
 match Jd ops.toList i with
 | some ⟨d,op,ty,p,af,g⟩=>match AJ L ops ⟨d,op,ty,p,af,g⟩ with
  | some true=>match Bd n d with
   | true=>match Ko L op with
    | some v=>match d with
     | some d=>some ((d,v)::L)
     | none=>some L
    | none=>none
   | false=>none
  | some false=>match Bd n d with
   | true=>match d with
    | some d=>some ((d,undef)::L)
    | none=>some L
   | false=>none
  | none=>none
 | none=>none
def GL(n:Nat)(L:Env)(ops:Ao_)(i:Nat):Option Oper:=
 match Jd ops.toList i with
 | some ⟨d,op,ty,p,af,g⟩=>match AJ L ops ⟨d,op,ty,p,af,g⟩ with
  | some true=>match Bd n d with
   | true=>some ⟨d,op,ty,p,af,g⟩
   | false=>none
  | _=>none
 | none=>none
theorem Ox{o:Oper}(h:GL n L ops i=some o):ops[i]? =some o/\AJ L ops o=some true/\Bd n o.dst=true:=by
 unfold GL at h;split at h
 ·rename_i K;rw [KT,Array.getElem?_toList] at K;split at h
  ·rename_i hw;split at h
   ·rename_i O;cases h;exact⟨K,hw,O⟩
   ·cases h
  ·cases h
 ·cases h
theorem V6(h:NU n L ops i=some L'):∃o,ops[i]? =some o/\Bd n o.dst=true/\((∃v,AJ L ops o=some true/\Ko L o.op=some v/\L'=As L o.dst v)∨(AJ L ops o=some false/\L'=As L o.dst undef)):=by
 unfold NU at h;split at h
 ·rename_i d op ty p af g O;rw [KT,Array.getElem?_toList] at O;refine⟨_,O,?_⟩;split at h
  ·rename_i hw;split at h
   ·rename_i K;refine⟨K,.inl ?_⟩;split at h
    ·rename_i v U;refine⟨v,hw,U,?_⟩;cases d with
     | none=>cases h;rfl
     | some d=>cases h;rfl
    ·cases h
   ·cases h
  ·rename_i hw;split at h
   ·rename_i K;refine⟨K,.inr ⟨hw,?_⟩⟩;cases d with
    | none=>cases h;rfl
    | some d=>cases h;rfl
   ·cases h
  ·cases h
 ·cases h
variable {m:Nat}{D:Nat->Bool}{fuel:Nat}{listed:Array Bool}
theorem Dw(i:Nat)(K:DC ops m=true)(O:s.q=false)(h:NU n L ops i=some L')
  (U:AH J Q b n ds ops k cs m D fuel (A4 listed i) L' s) (Y:Gc ops listed m i=true:=by decide+kernel):AH J Q b n ds ops k cs m D (fuel+1) listed L s:=by
 obtain⟨o,Z,ac,⟨v,hw,ag,rfl⟩ | ⟨hw,rfl⟩⟩:=V6 h
 ·exact JG.val i Z K Y O hw ac (λρ al s' _=>ML al ag) U
 ·exact ZV i Z K Y O hw ac U
theorem AN(i:Nat)(K:DC ops m=true)(O:s.q=false)(U:GL n L ops i=some ⟨d,op,ty,p,af,g⟩)
  (Y:∀ρ,EL L ρ->∀s':St,(∀x o,(Br D s).E x=some o->s'.E x=some o)->Yl P ⟨d,op,ty,p,af,g⟩ ρ s' v)
  (Z:AH J Q b n ds ops k cs m D fuel (A4 listed i) (As L d v) s) (ac:Gc ops listed m i=true:=by decide+kernel):AH J Q b n ds ops k cs m D (fuel+1) listed L s:=by
 obtain⟨ag,al,am⟩:=Ox U;exact JG.val i ag K ac O al am Y Z
end
end Pal
namespace Pal
open Go Go.Conc
abbrev Jn(E H E':LH)(S:List Seg)(K L:Env)(s:St)(R:Prop):Prop:=L=K/\s=Aj E' H S/\Le E E'/\Aq E' H S/\R
abbrev Jm(E H E':LH)(S:List Seg)(K L:Env)(s:St):Prop:=L=K/\s=Aj E' H S/\Le E E'/\Aq E' H S
def NQ(L:Env):List ResultVar->Option (Lv_)
 | []=>some []
 | .tmp t::rs=>match look L t with
  | some v=>match NQ L rs with
   | some vs=>some (v::vs)
   | none=>none
  | none=>none
 | _=>none
theorem Si{P:Program}{L:Env}{s:St}:∀{rs:List ResultVar} {vs:Lv_},NQ L rs=some vs->RV P L s rs vs
 | [],vs,h=>by cases h;trivial
 | .tmp t::rs,vs,h=>by
  unfold NQ at h
  split at h
  ·rename_i v K
   split at h
   ·rename_i ws hw;cases h;exact⟨K,Si hw⟩
   ·cases h
  ·cases h
 | .cell _ _::_,_,h=>by cases h
section
variable {P:Program}{J:Judge P}{Q:Gs_}{b:Frame}{n:Nat}{L L':Env}{ds:Ld_}{k k':Li_}{cs:Lf_}{s:St}{ops:Ao_}{i:Nat}{rest:List Nat}{v:Value}{E H:LH}{S:List Seg}
variable {d:Option Tmp}{op:Op}{x y:Operand}{t ft ty e:TypeId}{p:String}{af:Ae_}{g:On_}
theorem A2{c:Frame}{fn:Func}{vs:Lv_}(O:P.funcs[b.fn]? =some fn)(K:(b.kind== .normal&&b.roundOf.isNone)=true)(U:NQ L fn.results.toList=some vs)(h:J.ok Q (G (c.finish (MY vs)) cs) s):JL J Q b n L [] (.code .ret::k) (c::cs) s:=by
 simp only [Bool.and_eq_true,beq_iff_eq,Option.isNone_iff_eq_none] at K;exact JL.ret K.1 K.2 (Bx.list O rfl (Si U)) h
theorem BX{f:FuncId}{args:Array Operand}{ats:Array TypeId}{vs:Lv_}{R:Value->LH->Seg->Prop}
  (O:AO J f vs E [] R) (U:Fu b n L ops i=some ⟨d,.call ⟨.value (.func f),args,ats⟩,ty,p,af,g⟩) (Y:evs L args.toList=some vs) (hb:Dv P f=true)
  (Z:Aq E H S) (ac:∀v E' seg',Le E E'->R v E' seg'->Aq E' H (S++ [seg'])->JL J Q b n (As L d v) ds (.inRegion ops rest::k) cs (Aj E' H (S++ [seg']))):
  JL J Q b n L ds (.inRegion ops (i::rest)::k) cs (Aj E H S):=by
 obtain⟨ag,al,K⟩:=Kc U;refine JS.call O ag al ?_ hb Y Z ac;simp only [BH,Bool.and_eq_true] at K ⊢;exact⟨K.1,K.2.1⟩
theorem CU{f:FuncId}{args:Array Operand}{ats:Array TypeId}{vs:Lv_}{v:Value}
  (O:AO J f vs E [] (λw E' B'=>w=v/\B'= [])) (U:Fu b n L ops i=some ⟨d,.call ⟨.value (.func f),args,ats⟩,ty,p,af,g⟩) (Y:evs L args.toList=some vs) (hb:Dv P f=true)
  (K:Aq E H S) (Z:∀E',Le E E'->Aq E' H (S++ [[]])->JL J Q b n (As L d v) ds (.inRegion ops rest::k) cs (Aj E' H (S++ [[]]))):
  JL J Q b n L ds (.inRegion ops (i::rest)::k) cs (Aj E H S):=BX O U Y hb K (by rintro _ E' _ hle ⟨rfl,rfl⟩ K;exact Z E' hle K)
theorem Cn{f:FuncId}{args:Array Operand}{ats:Array TypeId}{vs:Lv_}{seg:Seg}{R:Value->LH->Seg->Prop}(j:Nat)
  (O:AO J f vs E seg R) (U:Fu b n L ops i=some ⟨d,.call ⟨.value (.func f),args,ats⟩,ty,p,af,g⟩) (Y:evs L args.toList=some vs) (hb:Dv P f=true)
  (Z:Aq E H S) (ac:S[j]? =some seg) (ag:∀v E' seg',Le E E'->R v E' seg'->Aq E' H (S.set j seg')->JL J Q b n (As L d v) ds (.inRegion ops rest::k) cs (Aj E' H (S.set j seg'))):
  JL J Q b n L ds (.inRegion ops (i::rest)::k) cs (Aj E H S):=by
 obtain⟨al,am,K⟩:=Kc U;refine Rh j O al am ?_ hb Y Z ac ag;simp only [BH,Bool.and_eq_true] at K ⊢;exact⟨K.1,K.2.1⟩
def LK(K:Array Field)(i:Nat):Option (Nat×TypeId):=match K[i]? with
 | some f=>some (f.offset,f.type)
 | none=>none
theorem Bq{r m m':Int}{u:TypeId}(h:Aw (m+m')=some r)(K:Fu b n L ops i=some ⟨d,.binOp .add t x y u,ty,p,af,g⟩)(O:ev L x=some (iV m))(U:ev L y=some (iV m'))
  (Y:JL J Q b n (As L d (iV r)) ds (.inRegion ops rest::k) cs s):JL J Q b n L ds (.inRegion ops (i::rest)::k) cs s:=Al K (λ_ q=>FR (q _ _ O) (q _ _ U) h) Y
theorem Ch{r m m':Int}{u:TypeId}(h:Aw (m - m')=some r)(K:Fu b n L ops i=some ⟨d,.binOp .sub t x y u,ty,p,af,g⟩)(O:ev L x=some (iV m))(U:ev L y=some (iV m'))
  (Y:JL J Q b n (As L d (iV r)) ds (.inRegion ops rest::k) cs s):JL J Q b n L ds (.inRegion ops (i::rest)::k) cs s:=Al K (λ_ q=>Ed (q _ _ O) (q _ _ U) h) Y
theorem JL.ln{a:Option Addr}{e:TypeId}{l c:Nat}{ats:Array TypeId}(K:P.underlying t=some (.slice e))(O:Fu b n L ops i=some ⟨d,.call ⟨.builtin .len,#[x],ats⟩,ty,p,af,g⟩)(U:ats[0]? =some t)(Y:ev L x=some (.slice a l c))
  (Z:JL J Q b n (As L d (.int .i64 l)) ds (.inRegion ops rest::k) cs s):JL J Q b n L ds (.inRegion ops (i::rest)::k) cs s:=Al O (λ_ q=>Yl.len U K (q _ _ Y)) Z
theorem JL.fd{bk o O off:Nat}{U:Array Field}{Y:Nat}(Z:P.underlying t=some (.struct U))(ac:Bh P ft=some (O+1))(ag:Fu b n L ops i=some ⟨d,.fieldAddr t x Y,ty,p,af,g⟩)(al:ev L x=some (.pointer (some ⟨bk,o,none⟩)))(K:LK U Y=some (off,ft))
  (am:JL J Q b n (As L d (.pointer (some ⟨bk,o+off,none⟩))) ds (.inRegion ops rest::k) cs s):
  JL J Q b n L ds (.inRegion ops (i::rest)::k) cs s:=by
 unfold LK at K;split at K
 ·rename_i f ap;cases K;refine Al ag (λρ h=>Cp (a:=⟨bk,o,none⟩) O f.offset Z ac ap rfl rfl (h _ _ al)) ?_;rw [Dz rfl];exact am
 ·cases K
theorem C4{bk o:Nat}{ws:Lv_}(j:Nat)(K:At E bk o ws)(O:Dd P t=some false)(U:Fu b n L ops i=some ⟨d,.load t x,ty,p,af,g⟩)(Y:ev L x=some (.pointer (some ⟨bk,o+j,none⟩)))(Z:ws[j]? =some v)
  (ac:JL J Q b n (As L d v) ds (.inRegion ops rest::k) cs (Aj E H S)):
  JL J Q b n L ds (.inRegion ops (i::rest)::k) cs (Aj E H S):=
 Al U (λ_ h=>Yl.load O (h _ _ Y) (At.K7 K Z)) ac
theorem ah{bk off:Nat}{c:Av_}(j:Nat)(K:Aq E H S)(O:Bh P t=some v.cells.size)(U:Fu b n L ops i=some ⟨d,.store t x y,ty,p,af,g⟩)
  (Y:ev L x=some (.pointer (some ⟨bk,off,none⟩))) (Z:ev L y=some v) (ac:S[j]? =some [(bk,.cells c e (0,0))])
  (h:Aq E H (S.set j [(bk,.cells (A8 c off v.cells.toList) e (0,0))])->JL J Q b n (As L d undef) ds (.inRegion ops rest::k) cs (Aj E H (S.set j [(bk,.cells (A8 c off v.cells.toList) e (0,0))])))
  (hle:off+v.cells.size<=c.size:=by exact Nat.le_of_ble_eq_true rfl) (ag:∀u∈v.cells.toList,CW u=true:=by simp [Value.cells,CW]):
  JL J Q b n L ds (.inRegion ops (i::rest)::k) cs (Aj E H S):=by
 obtain⟨al,am,ap⟩:=Kc U;exact JS.store j al am ap K Y Z O ag ac hle h
theorem CL{bk o:Nat}{ws:Lv_}(K:At E bk o ws)(O:Dd P t=some true)(U:Bh P t=some ws.length)(Y:Fu b n L ops i=some ⟨d,.load t x,ty,p,af,g⟩)(Z:ev L x=some (.pointer (some ⟨bk,o,none⟩)))
  (ac:JL J Q b n (As L d (.agg ws.toArray)) ds (.inRegion ops rest::k) cs (Aj E H S)):
  JL J Q b n L ds (.inRegion ops (i::rest)::k) cs (Aj E H S):=
 Al Y (λ_ h=>H3 O U (h _ _ Z) (At.Ps K)) ac
variable {m:Nat}{D:Nat->Bool}{fuel:Nat}{listed:Array Bool}
theorem JG.fd{bk o O off:Nat}{U:Array Field}{Y:Nat}(i:Nat)(Z:DC ops m=true)(ac:P.underlying t=some (.struct U))(ag:Bh P ft=some (O+1))(al:s.q=false)(am:GL n L ops i=some ⟨d,.fieldAddr t x Y,ty,p,af,g⟩)(ap:ev L x=some (.pointer (some ⟨bk,o,none⟩)))(K:LK U Y=some (off,ft))
  (aq:AH J Q b n ds ops k cs m D fuel (A4 listed i) (As L d (.pointer (some ⟨bk,o+off,none⟩))) s) (av:Gc ops listed m i=true:=by decide+kernel):AH J Q b n ds ops k cs m D (fuel+1) listed L s:=by
 unfold LK at K;split at K
 ·rename_i f aw;cases K;refine AN i Z al am (λρ h _ _=>Cp (a:=⟨bk,o,none⟩) O f.offset ac ag aw rfl rfl (h _ _ ap)) ?_ av;rw [Dz rfl];exact aq
 ·cases K
theorem Db{bk o:Nat}{ws:Lv_}(i:Nat)(K:DC ops m=true)(j:Nat)(O:At (Br D s).E bk o ws)(U:Dd P t=some false)(Y:s.q=false)(Z:GL n L ops i=some ⟨d,.load t x,ty,p,af,g⟩)(ac:ev L x=some (.pointer (some ⟨bk,o+j,none⟩)))(ag:ws[j]? =some v)
  (al:AH J Q b n ds ops k cs m D fuel (A4 listed i) (As L d v) s) (am:Gc ops listed m i=true:=by decide+kernel):AH J Q b n ds ops k cs m D (fuel+1) listed L s:=
 AN i K Y Z (λ_ h _ ap=>Yl.load U (h _ _ ac) (At.PG O ap ag)) al am
theorem Jy{bk o:Nat}{ws:Lv_}(i:Nat)(K:DC ops m=true)(O:At (Br D s).E bk o ws)(U:Dd P t=some true)(Y:Bh P t=some ws.length)(Z:s.q=false)(ac:GL n L ops i=some ⟨d,.load t x,ty,p,af,g⟩)(ag:ev L x=some (.pointer (some ⟨bk,o,none⟩)))
  (al:AH J Q b n ds ops k cs m D fuel (A4 listed i) (As L d (.agg ws.toArray)) s) (am:Gc ops listed m i=true:=by decide+kernel):AH J Q b n ds ops k cs m D (fuel+1) listed L s:=
 AN i K Z ac (λ_ h _ ap=>H3 U Y (h _ _ ag) (At.Zk O ap)) al am
end
end Pal
namespace Pal
open Go Go.Conc
abbrev P3:=Int×List Int×Nat
abbrev AA:=List (Int×Int)
abbrev CM:=List Int×Int×Nat
abbrev Ao:=Option Addr
abbrev DX:Rp (Int×Int):=rP rI rI
theorem ip{α:Type}{p:Prop} [Decidable p] {A B:Option α}{r:α}(h:(if p then A else B)=some r)(c:p):A=some r:=by rwa [if_pos c] at h
theorem im{α:Type}{p:Prop} [Decidable p] {A B:Option α}{r:α}(h:(if p then A else B)=some r)(c:¬p):B=some r:=by rwa [if_neg c] at h
theorem ib{α:Type}{c:Bool}{A B:Option α}{r:α}(h:(if c=true then A else B)=some r)(K:c=false):B=some r:=by subst K;simpa using h
def PW(n:Nat)(ops:Ao_):List Nat->Nat->Env->Option (Nat×Env)
 | [],f,L=>some (f,L)
 | i::l,f+1,L=>match NU n L ops i with
  | some L'=>PW n ops l f L'
  | none=>none
 | _::_,0,_=>none
def PD(ops:Ao_)(m:Nat):Array Bool->List Nat->Bool
 | _,[]=>true
 | listed,i::l=>Gc ops listed m i&&PD ops m (A4 listed i) l
def TE:Array Bool->List Nat->Array Bool
 | listed,[]=>listed
 | listed,i::l=>TE (A4 listed i) l
theorem A3{P:Program}{J:Judge P}{Q:Gs_}{b:Frame}{n:Nat}{ds:Ld_}{k:Li_}{cs:Lf_}{s:St}{ops:Ao_}{m:Nat}{D:Nat->Bool}{L':Env}{U:Nat}(Y:DC ops m=true)(Z:s.q=false):
  ∀(l:List Nat) {fuel:Nat} {listed:Array Bool} {L:Env},PW n ops l fuel L=some (U,L')->AH J Q b n ds ops k cs m D U (TE listed l) L' s->(K:PD ops m listed l=true:=by decide+kernel)->AH J Q b n ds ops k cs m D fuel listed L s
 | [],fuel,listed,L,h,O,_=>by cases h;exact O
 | i::l,fuel,listed,L,h,O,K=>by
  cases fuel with
  | zero=>cases h
  | succ fuel=>
   unfold PD at K;rw [Bool.and_eq_true] at K;unfold PW at h;split at h
   ·rename_i ac e;exact Dw i Y Z e (A3 Y Z l h O K.2) K.1
   ·cases h
theorem zg{P:Program}{J:Judge P}{Q:Gs_}{b:Frame}{n:Nat}{L L':Env}{ds:Ld_}{k k':Li_}{cs:Lf_}{s:St}(m:Nat)(h:Nh b n m k L=some (k',L'))(K:JL J Q b n L' ds k' cs s):JL J Q b n L ds k cs s:=JL.go m h K
abbrev bX(r:Nat)(c:Av_)(t:TypeId):Seg:= [(r,.cells c t (0,0))]
end Pal
namespace Pal
open Go Go.Conc
section
variable {P:Program}{J:Judge P}{Q:Gs_}{b:Frame}{n:Nat}{L L':Env}{ds:Ld_}{k:Li_}{cs:Lf_}{s:St}{ops:Ao_}{E H:LH}{S:List Seg}
variable {α:Type}{A B:Option α}{r:α}
theorem A0{c:Operand}{x y:Code}{p:Prop} [Decidable p] (K:(if p then A else B)=some r)(O:p->A=some r->JL J Q b n L ds (.code x::k) cs s)(U:¬p->B=some r->JL J Q b n L ds (.code y::k) cs s)
  (Y:ev L c=some (.bool (decide p)):=by exact rfl):JL J Q b n L ds (.code (.cond c x y)::k) cs s:=F8 Y (λh=>O h (ip K h)) λh=>U h (im K h)
theorem Cz{c:Operand}{x y:Code}{t:Bool}(K:(if t=true then A else B)=some r)(O:t=true->A=some r->JL J Q b n L ds (.code x::k) cs s)(U:t=false->B=some r->JL J Q b n L ds (.code y::k) cs s)
  (Y:ev L c=some (.bool t):=by exact rfl):JL J Q b n L ds (.code (.cond c x y)::k) cs s:=OH Y (λh=>O h (ip K h)) λh=>U h (ib K h)
theorem Ja{q:Prop} [Decidable q] (i:Nat)(K:(if q then A else B)=some r)(O:q->A=some r->JL J Q b n (As L (some i) (.bool true)) ds k cs s)(U:¬q->B=some r->JL J Q b n (As L (some i) (.bool false)) ds k cs s)
  (Y:look L i=some (.bool (decide q)):=by exact rfl):JL J Q b n L ds k cs s:=Lw Y (λh=>O h (ip K h)) λh=>U h (im K h)
theorem EI{t:Bool}(i:Nat)(K:(if t=true then A else B)=some r)(O:t=true->A=some r->JL J Q b n (As L (some i) (.bool true)) ds k cs s)(U:t=false->B=some r->JL J Q b n (As L (some i) (.bool false)) ds k cs s)
  (Y:look L i=some (.bool t):=by exact rfl):JL J Q b n L ds k cs s:=Kb Y (λh=>O h (ip K h)) λh=>U h (ib K h)
theorem CP{K O:Type}{c:Code}{body:K->Option (Bn K O)}{f:Nat}{U:K}{a:O}(Z:iter body f U=some a)(I:Env->St->K->Prop)(ac:I L' s U)
  (round:∀L s x,I L s x->(∀Y,body x=some (.done Y)->Y=a)->(∃st,body x=some st)->(∀L' s' x',I L' s' x'->body x=some (.more x')->JL J Q b n L' ds (.inLoop c::k) cs s')->JL J Q b n L ds (.code c:: .inLoop c::k) cs s)
  (ag:Ic L L'=Ik L':=by exact rfl):JL J Q b n L ds (.code (.loop c)::k) cs s:=Ep L' ag (Q7 Z I ac round)
variable {m:Nat}{D:Nat->Bool}{fuel:Nat}{listed:Array Bool}
def NF(ops:Ao_):Array Bool->List Nat->Bool
 | _,[]=>true
 | l,i::t=>Region.ready .any ops l== [i]&&NF ops (A4 l i) t
theorem So:∀{t:List Nat} {l:Array Bool},NF ops l t=true->∀u,Region.linearise.go .any ops t.length u l []=t
 | [],_,_,_=>rfl
 | i::t,l,h,u=>by
  unfold NF at h
  rw [Bool.and_eq_true,beq_iff_eq] at h
  exact YO h.1 (So h.2) u
theorem Dp(t:List Nat)(O:JL J Q b n L ds (.inRegion ops t::k) cs s)(K:(PH m listed&&NF ops listed t&&(fuel+1==t.length))=true:=by decide+kernel):AH J Q b n ds ops k cs m D (fuel+1) listed L s:=by
 rw [Bool.and_eq_true,Bool.and_eq_true,beq_iff_eq] at K;exact AH.leaf K.1.1 (by rw [K.2];exact So K.1.2) O
theorem EK(m:Nat){id:Nat}(h:DC ops m=true->AH J Q b n ds ops k cs m Dc ops.size (Array.replicate ops.size false) L (Aj E H S))(hm:P.follows .mixedOrders=true:=by exact rfl)(K:(b.kind != .early)=true:=by exact rfl)(O:DC ops m=true:=by decide+kernel):
  JL J Q b n L ds (.code (.region id ops true)::k) cs (Aj E H S):=Wg m hm K O h
theorem Fj(m:Nat)(bks:List Nat){id:Nat}(K:HD S bks)(O:Aq E H S)(h:DC ops m=true->AH J Q b n ds ops k cs m (AV bks) ops.size (Array.replicate ops.size false) L (Aj E H S))(hm:P.follows .mixedOrders=true:=by exact rfl)(U:(b.kind != .early)=true:=by exact rfl)(Y:DC ops m=true:=by decide+kernel):
  JL J Q b n L ds (.code (.region id ops true)::k) cs (Aj E H S):=Wx m bks K O hm U Y h
theorem Ei{α:Type}{pp:Rp α}{a:Option Addr}{c:Nat}{xs:List α}{xv:α}{K:Int}{d:Option Tmp}{x y:Operand}{t ty e:TypeId}{p:String}{af:Ae_}{g:On_}{kd:IntKind}(i:Nat)(O:Am pp E a c xs)(U:ix xs K=some xv)(Y:DC ops m=true)(Z:P.underlying t=some (.slice e))(ac:Bh P e=some pp.n)
  (h:∀bk o ws,pp.r E ws xv->At E bk o ws->AH J Q b n ds ops k cs m D fuel (A4 listed i) (As L d (.pointer (some ⟨bk,o,none⟩))) s)
  (ag:ops[i]? =some ⟨d,.indexAddr t x y,ty,p,af,g⟩:=by exact rfl) (al:Gc ops listed m i=true:=by decide+kernel) (am:s.q=false:=by exact rfl)
  (hw:AJ L ops ⟨d,.indexAddr t x y,ty,p,af,g⟩=some true:=by exact rfl) (ap:Bd n d=true:=by exact rfl)
  (aq:ev L x=some (.slice a xs.length c):=by exact rfl) (av:ev L y=some (.int kd K):=by exact rfl):
  AH J Q b n ds ops k cs m D (fuel+1) listed L s:=Zm i O U ag Y al am hw ap aq av Z ac h
end
end Pal
namespace Pal
open Go Go.Conc
theorem En{P:Program}{J:Judge P}{Q:Gs_}{b:Frame}{n:Nat}{ds:Ld_}{ops:Ao_}{k:Li_}{cs:Lf_}{m fuel:Nat}{D:Nat->Bool}{listed:Array Bool}{L L':Env}{s:St}(k':AH J Q b n ds ops k cs m D fuel listed L' s)(h:Ic L L'=Ik L'):AH J Q b n ds ops k cs m D fuel listed L s:=Di (No h) k'
instance {α:Type} [DecidableEq α] (xs:List α):Decidable (xs= []):=inferInstance
section
variable {P:Program}{J:Judge P}{Q:Gs_}{b:Frame}{n:Nat}{L L':Env}{ds:Ld_}{k:Li_}{cs:Lf_}{s:St}{ops:Ao_}{E H:LH}{S:List Seg}{i:Nat}{rest:List Nat}
variable {d:Option Tmp}{x y:Operand}{t u ty e:TypeId}{p:String}{af:Ae_}{g:On_}{v w:Value}
end
section
variable {P:Program}{J:Judge P}{Q:Gs_}{b:Frame}{n:Nat}{ds:Ld_}{ops:Ao_}{k:Li_}{cs:Lf_}{m fuel:Nat}{listed:Array Bool}{L:Env}{E H:LH}{S:List Seg}
variable {d:Option Tmp}{x y:Operand}{t ty e:TypeId}{p:String}{af:Ae_}{g:On_}{v:Value}{i:Nat}
theorem MI{s:St}{D:Nat->Bool}{i j l:Nat}(K:s.q=false)(O:Region.ready .any ops listed= [i,j,l])(hi:Take J Q b n ds ops k cs m D fuel listed L s i)(U:Take J Q b n ds ops k cs m D fuel listed L s j)(Y:Take J Q b n ds ops k cs m D fuel listed L s l):AH J Q b n ds ops k cs m D (fuel+1) listed L s:=
 Om K O (by simp) (by intro q K;simp at K;rcases K with rfl | rfl | rfl <;> assumption)
end
theorem Am.cut{α:Type}{pp:Rp α}{E:LH}{a:Option Addr}{c:Nat}{xs ys:List α}{lo hi:Int}(Y:Am pp E a c xs)(hC:Ha xs lo hi=some ys):
  ∃Z ac,Am pp E Z ac ys/\∀{P:Program} {ρ:Operand->Value} {s:St} {d:Option Tmp} {x:Operand} {t ty e:TypeId} {p:String} {af:Ae_} {g:On_} {olo ohi:Option Operand},P.underlying t=some (.slice e)->Bh P e=some pp.n->ρ x= .slice a xs.length c->
   (match ohi with | some w=>ρ w=iV hi | none=>hi=xs.length)->(match olo with | some w=>ρ w=iV lo | none=>lo=0)->Yl P ⟨d,.slice t x olo ohi none,ty,p,af,g⟩ ρ s (.slice Z ys.length ac):=by
 unfold Ha at hC;split at hC
 rotate_left
 ·cases hC
 rename_i hb;obtain⟨aJ,aK,ap⟩:=hb;cases hC;obtain⟨lo,rfl⟩:∃l:Nat,lo=l:=⟨lo.toNat,by omega⟩;obtain⟨hi,rfl⟩:∃l:Nat,hi=l:=⟨hi.toNat,by omega⟩;simp only [Int.toNat_natCast] at*;have aL:=Y.1;have hlen:((xs.take hi).drop lo).length=hi - lo:=by simp;omega
 have ag:∀ad:Addr,a=some ad->ad.spot=none∨c=0:=λad K=>by
  rcases Y.2 with⟨_,h⟩ | ⟨bk,off,h,_⟩
  ·exact h ad K
  ·rw [h] at K;cases K;exact .inl rfl
 refine⟨if c=lo then a else a.map (·.add (lo*pp.n)),c - lo,⟨by rw [hlen];omega,?_⟩,?_⟩
 ·by_cases aq:hi - lo=0
  ·left;refine⟨List.eq_nil_of_length_eq_zero (by rw [hlen];exact aq),λad K=>?_⟩;split at K
   ·exact(ag ad K).imp id λh=>by omega
   ·cases a with
    | none=>cases K
    | some av=>
     simp only [Option.map_some,Option.some.injEq] at K;subst K;exact .inl (by rw [Dz ((ag av rfl).resolve_right (by omega))])
  ·right;rcases Y.2 with⟨h,_⟩ | ⟨bk,off,rfl,O⟩
   ·subst h;simp at ap;omega
   ·refine⟨bk,off+lo*pp.n,?_,λq z U=>?_⟩
    ·rw [if_neg (by omega),Option.map_some,Dz rfl]
    ·rw [List.getElem?_drop,List.getElem?_take] at U;split at U
     ·obtain⟨ws,aw,al⟩:=O _ z U;refine⟨ws,aw,?_⟩;rw [Nat.add_mul] at al;rw [Nat.add_assoc];exact al
     ·cases U
 ·intro P ρ s d x t ty e p af g olo ohi ay az aI O am;rw [hlen];refine Yl.slice (mx:=c) (hi:=hi) (lo:=lo) ay az aI rfl ?_ ?_ (Nat.le_refl _) (by omega) (by omega)
  ·cases ohi with
   | none=>exact⟨by simp only at O;omega,rfl⟩
   | some w=>exact O
  ·cases olo with
   | none=>simp only at am;show lo=0;omega
   | some w=>exact am
end Pal
namespace Pal
open Go Go.Conc
section
variable {P:Program}{J:Judge P}{Q:Gs_}{b:Frame}{n:Nat}{ds:Ld_}{ops:Ao_}{k:Li_}{cs:Lf_}{m fuel:Nat}{D:Nat->Bool}{listed:Array Bool}{L:Env}{E H:LH}{S:List Seg}
theorem Hp{S1 S':List Seg}(K:S=S1)(O:S1.Perm S')(U:Aq E H S)(h:Aq E H S'->AH J Q b n ds ops k cs m D fuel listed L (Aj E H S')):AH J Q b n ds ops k cs m D fuel listed L (Aj E H S):=by
 subst K;exact AH.perm O.flatten U h
end
end Pal
namespace Pal
open Go Go.Conc
section
variable {P:Program}{J:Judge P}{Q:Gs_}{b:Frame}{n:Nat}{L L':Env}{ds:Ld_}{k:Li_}{cs:Lf_}{s:St}{ops:Ao_}{E H:LH}{S:List Seg}{i:Nat}{rest:List Nat}
variable {d:Option Tmp}{x y:Operand}{t u ty e e2:TypeId}{p:String}{af:Ae_}{g:On_}{v w:Value}
def JR(E:LH):Nat->Bool:=λx=>(E x).isNone
theorem YQ(x:Nat):(Br (JR E) (Aj E H S)).E x=(Aj E H S).get x:=by
 show(if JR E x then(Aj E H S).get x else E x)=_
 unfold JR;cases h:E x with
 | none=>simp
 | some o=>
  rw [if_neg (by simp)];unfold St.get;rw [show(Aj E H S).E x=some o from h]
theorem PT{s':St}(K:∀x o,(Br (JR E) (Aj E H S)).E x=some o->s'.E x=some o){x:Nat}{o:Obj}(h:(Aj E H S).get x=some o):s'.get x=some o:=by
 have:=K x o (by rw [YQ];exact h);unfold St.get;rw [this]
theorem LV{s':St}(K:∀x o,(Br (JR E) (Aj E H S)).E x=some o->s'.E x=some o){a:Addr}{v:Value}(h:(Aj E H S).cell? a=some v):s'.cell? a=some v:=by
 obtain⟨o,O,U⟩:=Option.bind_eq_some_iff.1 h;unfold St.cell?;rw [PT K O];exact U
theorem Tp{s':St}(K:∀x o,(Br (JR E) (Aj E H S)).E x=some o->s'.E x=some o){a:Addr}{vs:Lv_}(h:∀(i:Nat) v,vs[i]? =some v->(Aj E H S).cell? (Addr.add a i)=some v):∀(i:Nat) v,vs[i]? =some v->s'.cell? (Addr.add a i)=some v:=λi v O=>LV K (h i v O)
theorem PO(m:Nat){id:Nat}(h:DC ops m=true->AH J Q b n ds ops k cs m (JR E) ops.size (Array.replicate ops.size false) L (Aj E H S))(hm:P.follows .mixedOrders=true:=by exact rfl)(K:(b.kind != .early)=true:=by exact rfl)(O:DC ops m=true:=by decide+kernel):
  JL J Q b n L ds (.code (.region id ops true)::k) cs (Aj E H S):=OJ m (JR E) rfl hm K (h O)
abbrev rs(q:Nat×Obj)(K:Seg)(p:Nat×Obj)(g2:Seg):Seg:=q::(K++ [p]++g2)
end
end Pal
namespace Pal
open Go Go.Conc
section
variable {κ ν:Type} [DecidableEq κ]
def KN(xs:List (κ×ν)):Prop:=(xs.map (·.1)).Nodup
theorem KN.perm{xs ys:List (κ×ν)}(h:KN xs)(p:ys.Perm xs):KN ys:=((p.map (λq:κ×ν=>q.1)).nodup_iff).2 h
theorem RA{xs:List (κ×ν)}(h:KN xs){x:κ}{v:ν}:BA xs x=some v↔(x,v)∈xs:=by
 induction xs with
 | nil=>simp [BA]
 | cons y ys U=>
  have O:y.1 ∉ ys.map (·.1)/\KN ys:=by simpa [KN] using h
  by_cases e:x=y.1
  ·subst e;have K:BA (y::ys) y.1=some y.2:=by simp [BA]
   rw [K];constructor
   ·intro q;cases q;simp
   ·intro q;rcases List.mem_cons.1 q with q | q
    ·rw [← q]
    ·exact absurd (List.mem_map.2 ⟨_,q,rfl⟩) O.1
  ·have K:BA (y::ys) x=BA ys x:=by simp [BA,e]
   rw [K,U O.2];constructor
   ·intro q;exact List.mem_cons_of_mem _ q
   ·intro q;rcases List.mem_cons.1 q with q | q
    ·exact absurd (by rw [← q]) e
    ·exact q
theorem QX{xs ys:List (κ×ν)}(h:KN xs)(p:ys.Perm xs)(x:κ):BA ys x=BA xs x:=by
 apply Option.ext;intro v;rw [RA h,RA (h.perm p),p.mem_iff]
def DU(xs:List (κ×ν))(x:κ):List (κ×ν):=xs.filter λy=>decide (x≠y.1)
theorem QP{xs:List (κ×ν)}{x:κ}(h:∀y∈xs,x≠y.1):DU xs x=xs:=List.filter_eq_self.2 λy K=>by simpa using h y K
theorem My{x:κ}{v:ν}:∀{xs:List (κ×ν)},KN xs->(Df xs x v).Perm ((x,v)::DU xs x)
 | [],_=> .refl _
 | y::ys,h=>by
  have K:y.1 ∉ ys.map (·.1)/\KN ys:=by simpa [KN] using h
  unfold Df;by_cases e:x=y.1
  ·rw [if_pos e];have e2:DU (y::ys) x=ys:=by
    have:DU (y::ys) x=DU ys x:=by simp [DU,e]
    rw [this];exact QP λz O q=>K.1 (List.mem_map.2 ⟨z,O,by rw [← q,e]⟩)
   rw [e2]
  ·rw [if_neg e];have e2:DU (y::ys) x=y::DU ys x:=by simp [DU,e]
   rw [e2];exact((My K.2).cons y).trans (List.Perm.swap _ _ _)
theorem Oy{xs ys:List (κ×ν)}(p:ys.Perm xs)(x:κ):(DU ys x).Perm (DU xs x):=p.filter _
theorem UH{xs ys:List (κ×ν)}(h:KN xs)(p:ys.Perm xs)(x:κ)(v:ν):(Df ys x v).Perm (Df xs x v):=
 (My (h.perm p)).trans (((Oy p x).cons _).trans (My h).symm)
theorem KN.del{xs:List (κ×ν)}(h:KN xs)(x:κ):KN (DU xs x):=by
 unfold KN DU;exact List.Nodup.sublist (List.Sublist.map _ List.filter_sublist) h
theorem KN.put{xs:List (κ×ν)}(h:KN xs)(x:κ)(v:ν):KN (Df xs x v):=by
 refine KN.perm ?_ (My h);unfold KN;simp only [List.map_cons,List.nodup_cons];refine⟨λq=>?_,h.del x⟩;obtain⟨z,K,e⟩:=List.mem_map.1 q;have:=(List.mem_filter.1 K).2;simp at this;exact this e.symm
variable {pk:Rp κ}{pv:Rp ν}{ka va:Bool}{E E' H:LH}
def Bz(pk:Rp κ)(ka:Bool)(pv:Rp ν)(va:Bool)(E:LH)(o:Obj)(xs:List (κ×ν)):Prop:=KN xs/\∃ys,ys.Perm xs/\Ks pk ka pv va E o ys
theorem Bz.Ah{o:Obj}{xs:List (κ×ν)}(h:Bz pk ka pv va E o xs)(hle:Le E E'):Bz pk ka pv va E' o xs:=
 let ⟨K,ys,O,U⟩:=h;⟨K,ys,O,U.Ah hle⟩
theorem Bz.perm{o:Obj}{xs ys:List (κ×ν)}(h:Bz pk ka pv va E o xs)(p:ys.Perm xs):Bz pk ka pv va E o ys:=
 let ⟨K,O,U,Y⟩:=h;⟨K.perm p,O,U.trans p.symm,Y⟩
theorem Bz.nil:Bz pk ka pv va E (.map #[] 0) []:=⟨List.nodup_nil,[],.refl _,⟨#[],0,rfl,trivial,.nil,by simp⟩⟩
def rM(pk:Rp κ)(ka:Bool)(pv:Rp ν)(va:Bool):Rp (List (κ×ν)):=⟨1,λE ws xs=>∃bk o,ws= [.map (some bk)]/\E bk=some o/\Bz pk ka pv va E o xs,
 λhle ⟨bk,o,h,K,O⟩=>⟨bk,o,h,hle _ _ K,O.Ah hle⟩,λ⟨bk,o,h,_,_⟩=>by subst h;rfl,λ⟨bk,o,h,_,_⟩ w hw=>by subst h;simp at hw;subst hw;rfl⟩
section
variable {P:Program}{s:St}{t tm te:TypeId}{X:Halt->St->Prop}{bk:Nat}{o:Obj}{xs:List (κ×ν)}{k w:Value}{x:κ}{v0:ν}
theorem UK(K:Gu P t pk ka)(hm:P.underlying tm=some (.map t te)){z:Value}{z0:ν}(O:zeroOf P te=some z)(U:Vr pv va E z z0)(Y:s.get bk=some o)(Z:Bz pk ka pv va E o xs)(ac:Vr pk ka E k x)(ok:Bool){Q:Value->St->Prop}
  (h:∀w,Vr pv va E w ((BA xs x).getD z0)->Q (if ok then .tuple #[w,.bool (BA xs x).isSome] else w) s):lp P (Instr.lookup tm (.map (some bk)) k ok) s Q X:=by
 obtain⟨ag,ys,al,am⟩:=Z;refine Vh K hm O U Y am ac ok ?_;rw [QX ag al];exact h
theorem Ua(O:Gu P t pk ka)(hm:P.underlying tm=some (.map t te))(U:s.get bk=some o)(Y:s.H bk=some o)(Z:Bz pk ka pv va E o xs)(ac:Vr pk ka E k x)(hw:Vr pv va E w v0){Q:Unit->St->Prop}
  (h:∀o',Bz pk ka pv va E o' (Df xs x v0)->Q () (s.upd bk o')):lp P (Instr.mapUpdate tm (.map (some bk)) k w) s Q X:=by
 obtain⟨K,ys,ag,al⟩:=Z;exact Uc O hm U Y al ac hw λo' am=>h o' ⟨K.put _ _,_,UH K ag _ _,am⟩
theorem Dx.erase(Y:Vr pk ka E k x):∀{es:List MapEntry} {ys:List (κ×ν)} {i:Nat},Dx pk ka pv va E es ys->KN ys->
  (Gj x es ys i=none/\DU ys x=ys)∨∃j u,Gj x es ys i=some (i+j,u)/\Dx pk ka pv va E (es.eraseIdx j) (DU ys x)
 | [],[],i,_,_=> .inl ⟨rfl,rfl⟩
 | e::es,y::ys,i,h,Z=>by
  have U:y.1 ∉ ys.map (·.1)/\KN ys:=by simpa [KN] using Z
  unfold Gj;by_cases K:x=y.1
  ·refine .inr ⟨0,e.val,by rw [if_pos K];rfl,?_⟩;have e2:DU (y::ys) x=ys:=by
    have:DU (y::ys) x=DU ys x:=by simp [DU,K]
    rw [this];exact QP λz ac q=>U.1 (List.mem_map.2 ⟨z,ac,by rw [← q,K]⟩)
   rw [e2];exact h.2.2
  ·have e2:DU (y::ys) x=y::DU ys x:=by simp [DU,K]
   rcases Dx.erase Y (i:=i+1) h.2.2 U.2 with⟨a1,O⟩ | ⟨j,u,a1,O⟩
   ·exact .inl ⟨by rw [if_neg K];exact a1,by rw [e2,O]⟩
   ·refine .inr ⟨j+1,u,by rw [if_neg K,a1];congr 2;omega,?_⟩;rw [e2];exact⟨h.1,h.2.1,O⟩
 | [],_::_,_,h,_=>h.elim
 | _::_,[],_,h,_=>h.elim
theorem UC(ag:Gu P t pk ka)(hm:P.underlying tm=some (.map t te))(av:s.get bk=some o)(al:s.H bk=some o)(aw:Bz pk ka pv va E o xs)(K:Vr pk ka E k x){u:TypeId}{Q:Value->St->Prop}
  (h:∀o',Bz pk ka pv va E o' (DU xs x)->Q (.tuple #[]) (s.upd bk o')):lp P (Builtin.delete_ #[tm,t] u #[.map (some bk),k]) s Q X:=by
 obtain⟨O,ys,U,es,c,rfl,Y,am,ap⟩:=aw;unfold Builtin.delete_;simp only [List.getElem?_toArray,List.getElem?_cons_zero,List.getElem?_cons_succ];refine Au _ _ (Cg hm ?_)
 dsimp only;refine Au _ _ ?_;unfold getObj;simp only [bind,Sem.bind,lp];refine⟨_,av,rfl,?_⟩;refine Au (x:=Instr.checkKey _ 10000 t k) _ (ag.BH K ?_);refine Au (x:=Instr.findKey t k es.toList) _ (Oj ag K Y ?_);rcases Dx.erase K (i:=0) Y (O.perm U) with⟨Z,e2⟩ | ⟨j,u,Z,e2⟩
 ·rw [Z];simp only [setObj,lp,pure];refine⟨⟨_,al,rfl⟩,rfl,h _ ⟨O.del _,_,Oy U x,es,c,rfl,by rw [e2];exact Y,am,ap⟩⟩
 ·rw [Z];simp only [setObj,lp,pure];have aq:(es.toList.eraseIdx j).Sublist es.toList:=List.eraseIdx_sublist _ _;have ac:(es.eraseIdxIfInBounds (0+j)).toList=es.toList.eraseIdx j:=by rw [Nat.zero_add];simp
  refine⟨⟨_,al,rfl⟩,rfl,h _ ⟨O.del _,_,Oy U x,_,c,rfl,by rw [ac];exact e2,?_,?_⟩⟩
  ·rw [ac];exact am.sublist (aq.map _)
  ·rw [ac];exact λe he=>ap e (aq.subset he)
end
section
variable {P:Program}{J:Judge P}{Q:Gs_}{b:Frame}{n:Nat}{ds:Ld_}{ops:Ao_}{kk:Li_}{cs:Lf_}{L:Env}{s:St}{S:List Seg}
variable {d:Option Tmp}{x y z:Operand}{t u ty e tm te:TypeId}{p:String}{af:Ae_}{g:On_}{i:Nat}{rest:List Nat}{bk:Nat}{o:Obj}{xs:List (κ×ν)}{k w:Value}{x0:κ}{v0:ν}{ρ:Operand->Value}
theorem Yl.lookup{K v:Value}{z0:ν}{ok:Bool}(O:Gu P t pk ka)(hm:P.underlying tm=some (.map t te))(U:zeroOf P te=some K)(Y:Vr pv va E K z0)(Z:Bz pk ka pv va E o xs)(ac:Vr pk ka E k x0)
  (ag:∀w,Vr pv va E w ((BA xs x0).getD z0)->(if ok then .tuple #[w,.bool (BA xs x0).isSome] else w)=v) (al:ρ x= .map (some bk)) (am:ρ y=k) (ap:s.get bk=some o):Yl P ⟨d,.lookup tm x y ok,ty,p,af,g⟩ ρ s v:=by
 refine FO (sm:=Instr.lookup tm (ρ x) (ρ y) ok) rfl ?_;rw [al,am];exact UK O hm U Y ap Z ac ok λw hw=>⟨ag w hw,rfl⟩
theorem JS.makeMap(K:ops[i]? =some ⟨d,.makeMap t none,ty,p,af,g⟩)(hw:AJ L ops ⟨d,.makeMap t none,ty,p,af,g⟩=some true)(O:BH b n ⟨d,.makeMap t none,ty,p,af,g⟩=true)(U:Aq E H S)
  (h:∀r,Aq E H (S++ [[(r,.map #[] 0)]])->JL J Q b n (As L d (.map (some r))) ds (.inRegion ops rest::kk) cs (Aj E H (S++ [[(r,.map #[] 0)]]))):
  JL J Q b n L ds (.inRegion ops (i::rest)::kk) cs (Aj E H S):=
 JL.op K hw O λρ ap=>by
  show lp P (do pure (Next.value (← Instr.makeMap t none))) _ _ _
  refine Au _ _ ?_
  unfold Instr.makeMap
  simp only [newObj,bind,Sem.bind,pure,lp]
  refine⟨rfl,λr Y Z=>?_⟩
  obtain⟨ac,ag⟩:=Kd Y Z (.map #[] 0) U
  obtain⟨al,p2⟩:=Fz ac
  have am:(Aj E H S).upd r (.map #[] 0)=Aj E H (S++ [[(r,.map #[] 0)]]):=by rw [← al,← ag];rfl
  show JL J Q b n (As L d (.map (some r))) ds (.inRegion ops rest::kk) cs ((Aj E H S).upd r (.map #[] 0));rw [am];exact h r p2
theorem JS.mapUpdate(j:Nat)(Y:Gu P t pk ka)(hm:P.underlying tm=some (.map t te))(Z:Bz pk ka pv va E o xs)(ac:Vr pk ka E k x0)(ag:Vr pv va E w v0)(K:Aq E H S)(O:S[j]? =some [(bk,o)])
  (al:ops[i]? =some ⟨d,.mapUpdate tm x y z,ty,p,af,g⟩) (hw:AJ L ops ⟨d,.mapUpdate tm x y z,ty,p,af,g⟩=some true) (am:BH b n ⟨d,.mapUpdate tm x y z,ty,p,af,g⟩=true) (ap:ev L x=some (.map (some bk))) (aq:ev L y=some k) (av:ev L z=some w)
  (h:∀o',Bz pk ka pv va E o' (Df xs x0 v0)->Aq E H (S.set j [(bk,o')])->JL J Q b n (As L d undef) ds (.inRegion ops rest::kk) cs (Aj E H (S.set j [(bk,o')]))):
  JL J Q b n L ds (.inRegion ops (i::rest)::kk) cs (Aj E H S):=
 JL.op al hw am λρ U=>by
  show lp P (do Instr.mapUpdate tm (ρ x) (ρ y) (ρ z);pure Next.skip) _ _ _
  rw [U _ _ ap,U _ _ aq,U _ _ av]
  refine Au _ _ (Ua Y hm (DF (i:=0) K O rfl) (JK K O) Z ac ag λo' aw=>?_)
  obtain⟨ay,az⟩:=Kf K O o'
  rw [ay]
  exact h o' aw az
theorem Ud{at1:TypeId}(j:Nat)(Y:Gu P t pk ka)(hm:P.underlying tm=some (.map t te))(Z:Bz pk ka pv va E o xs)(ac:Vr pk ka E k x0)(K:Aq E H S)(O:S[j]? =some [(bk,o)])
  (ag:ops[i]? =some ⟨d,.call ⟨.builtin .delete,#[x,y],#[tm,t]⟩,ty,p,af,g⟩) (hw:AJ L ops ⟨d,.call ⟨.builtin .delete,#[x,y],#[tm,t]⟩,ty,p,af,g⟩=some true) (al:BH b n ⟨d,.call ⟨.builtin .delete,#[x,y],#[tm,t]⟩,ty,p,af,g⟩=true) (am:ev L x=some (.map (some bk))) (ap:ev L y=some k)
  (h:∀o',Bz pk ka pv va E o' (DU xs x0)->Aq E H (S.set j [(bk,o')])->JL J Q b n (As L d (.tuple #[])) ds (.inRegion ops rest::kk) cs (Aj E H (S.set j [(bk,o')]))):
  JL J Q b n L ds (.inRegion ops (i::rest)::kk) cs (Aj E H S):=
 JL.op ag hw al λρ U=>by
  have aq:execOp ρ ⟨d,.call ⟨.builtin .delete,#[x,y],#[tm,t]⟩,ty,p,af,g⟩=(do pure (Next.value (← Builtin.delete_ #[tm,t] ty #[ρ x,ρ y]))):=by
   simp [execOp,resolve,Deferred.ofValue,invoke,bind,Sem.bind,pure,Go.builtin]
  rw [aq,U _ _ am,U _ _ ap];refine Au _ _ (UC Y hm (DF (i:=0) K O rfl) (JK K O) Z ac λo' av=>?_);obtain⟨aw,ay⟩:=Kf K O o';rw [aw];exact h o' av ay
theorem Oo{todo:Li_}(j:Nat)(O:Aq E H S)(U:S[j]? =some [(bk,o)])
  (h:∀E',Le E E'->E' bk=some o->Aq E' H (S.set j [])->JL J Q b n L ds todo cs (Aj E' H (S.set j []))):JL J Q b n L ds todo cs (Aj E H S):=by
 obtain⟨Y,Z⟩:=G4 O U;rw [Y];have ac:((S.set j []).flatten++ [(bk,o)])[(S.set j []).flatten.length]? =some (bk,o):=by simp
 refine JL.freeze (S.set j []).flatten.length Z ac λE' hle ag K=>?_;have al:((S.set j []).flatten++ [(bk,o)]).eraseIdx (S.set j []).flatten.length=(S.set j []).flatten:=by rw [List.eraseIdx_append_of_length_le (Nat.le_refl _)];simp
 rw [al] at K ⊢;exact h E' hle ag K
theorem QO{α:Type}{m:Nat}{f:Nat->Sem α}{s:St}{Q:α->St->Prop}{X:Halt->St->Prop}(hm:0<m)(K:s.q=false)(h:∀i,i<m->lp P (f i) s Q X):lp P ((choose (.mapNext m)).bind f) s Q X:=by
 simp only [choose,Sem.bind,lp];split
 ·exact h 0 hm
 ·exact⟨K,λt=>h _ (Nat.mod_lt _ hm)⟩
theorem JS.range{es:Array MapEntry}{c:Nat}(hm:P.underlying tm=some (.map t te))(K:(Aj E H S).get bk=some (.map es c))(O:ops[i]? =some ⟨d,.range tm x,ty,p,af,g⟩)(hw:AJ L ops ⟨d,.range tm x,ty,p,af,g⟩=some true)(U:BH b n ⟨d,.range tm x,ty,p,af,g⟩=true)(Y:Aq E H S)
  (Z:ev L x=some (.map (some bk)))
  (h:∀r,Aq E H (S++ [[(r,.mapIter (some bk) c #[] c)]])->JL J Q b n (As L d (.pointer (some ⟨r,0,none⟩))) ds (.inRegion ops rest::kk) cs (Aj E H (S++ [[(r,.mapIter (some bk) c #[] c)]]))):
  JL J Q b n L ds (.inRegion ops (i::rest)::kk) cs (Aj E H S):=
 JL.op O hw U λρ ac=>by
  show lp P (do pure (Next.value (← Instr.range tm (ρ x)))) _ _ _
  rw [ac _ _ Z]
  refine Au _ _ ?_
  unfold Instr.range
  refine Au _ _ (Cg hm ?_)
  simp only [getObj,newObj,bind,Sem.bind,pure,lp]
  refine⟨_,K,rfl,rfl,λr ag al=>?_⟩
  obtain⟨am,ap⟩:=Kd ag al (.mapIter (some bk) c #[] c) Y
  obtain⟨aq,p2⟩:=Fz am
  have av:(Aj E H S).upd r (.mapIter (some bk) c #[] c)=Aj E H (S++ [[(r,.mapIter (some bk) c #[] c)]]):=by rw [← aq,← ap];rfl
  show JL J Q b n (As L d (.pointer (some ⟨r,0,none⟩))) ds (.inRegion ops rest::kk) cs ((Aj E H S).upd r (.mapIter (some bk) c #[] c));rw [av];exact h r p2
theorem JS.next{es:Array MapEntry}{c r:Nat}{seen:Array Nat}(j:Nat)(am:(Aj E H S).get bk=some (.map es c))(hb:∀e∈es.toList,e.born<c)(K:Aq E H S)(O:S[j]? =some [(r,.mapIter (some bk) c seen c)])
  (ap:ops[i]? =some ⟨d,.next x false,ty,p,af,g⟩) (hw:AJ L ops ⟨d,.next x false,ty,p,af,g⟩=some true) (aq:BH b n ⟨d,.next x false,ty,p,af,g⟩=true) (U:ev L x=some (.pointer (some ⟨r,0,none⟩)))
  (av:∀e∈es.toList,e.born ∉ seen->Aq E H (S.set j [(r,.mapIter (some bk) c (seen.push e.born) c)])->JL J Q b n (As L d (.tuple #[.bool true,e.key,e.val])) ds (.inRegion ops rest::kk) cs (Aj E H (S.set j [(r,.mapIter (some bk) c (seen.push e.born) c)])))
  (aw:(∀e∈es.toList,e.born∈seen)->JL J Q b n (As L d (.tuple #[.bool false])) ds (.inRegion ops rest::kk) cs (Aj E H S)):
  JL J Q b n L ds (.inRegion ops (i::rest)::kk) cs (Aj E H S):=
 JL.op ap hw aq λρ ay=>by
  show lp P (do pure (Next.value (← Instr.next (ρ x) false ty))) _ _ _
  rw [ay _ _ U]
  refine Au _ _ ?_
  unfold Instr.next
  simp only [getObj,setObj,bind,Sem.bind,pure,lp]
  refine⟨_,DF (i:=0) K O rfl,rfl,?_⟩
  simp only [lp]
  refine⟨_,am,rfl,?_⟩
  have az:(!seen.isEmpty&& !es.isEmpty&&es.all (λe=>decide (e.born>=c)))=false:=by
   by_cases he:es.toList= []
   ·have:es.isEmpty=true:=by simpa [Array.isEmpty_iff] using he
    simp [this]
   ·obtain⟨e,ag⟩:=List.exists_mem_of_ne_nil _ he;have aU:=hb e ag;have:es.all (λe=>decide (e.born>=c))=false:=by
     cases U:es.all (λe=>decide (e.born>=c)) with
     | false=>rfl
     | true=>
      have:=Array.all_eq_true'.1 U e (Array.mem_toList_iff.1 ag);simp at this;omega
    simp [this]
  have aI:Array.filter (λx:MapEntry=>decide (x.born<c)) (Array.filter (λe=> !seen.contains e.born) es)=Array.filter (λe=> !seen.contains e.born) es:=by
   apply Array.toList_inj.1;rw [Array.toList_filter,List.filter_eq_self];intro e he;rw [Array.toList_filter] at he;simpa using hb e (List.mem_filter.1 he).1
  have e2:Array.filter (λx:MapEntry=>decide (x.born>=c)) (Array.filter (λe=> !seen.contains e.born) es)= #[]:=by
   apply Array.toList_inj.1;rw [Array.toList_filter,List.filter_eq_nil_iff];intro e he;rw [Array.toList_filter] at he;have:=hb e (List.mem_filter.1 he).1;simp;omega
  dsimp only;rw [if_neg (by rw [az];exact Bool.false_ne_true),aI,e2];have Y:∀e,e∈(Array.filter (λe=> !seen.contains e.born) es).toList↔e∈es.toList/\e.born ∉ seen:=by
   intro e;rw [Array.toList_filter,List.mem_filter];simp
  generalize Array.filter (λe:MapEntry=> !seen.contains e.born) es=left at Y ⊢;by_cases Z:left.toList= []
  ·have aJ:left= #[]:=Array.toList_inj.1 Z;subst aJ;refine QO (by simp) rfl λi hi=>?_;obtain rfl:i=0:=by simp at hi;exact hi
   have aK:((if(#[]:Array MapEntry).isEmpty=true then #[none] else #[])++Array.map some ((#[]:Array MapEntry)++ #[]))[0]? =some none:=by simp
   rw [aK];refine aw λe he=>?_;by_cases al:e.born∈seen
   ·exact al
   ·have:=(Y e).2 ⟨he,al⟩;simp at this
  ·have aL:left.isEmpty=false:=by
    cases aM:left.isEmpty with
    | false=>rfl
    | true=>exact absurd (by simpa [Array.isEmpty_iff] using aM) Z
   rw [aL];simp only [Bool.false_eq_true,if_false,Array.append_empty,Array.empty_append];have aN:0<left.size:=by
    rcases Nat.eq_zero_or_pos left.size with ac | ac
    ·exact absurd (by simpa using Array.eq_empty_of_size_eq_zero ac) Z
    ·exact ac
   refine QO (by simpa using aN) rfl λi hi=>?_;have aO:i<left.size:=by simpa using hi
   have aP:(Array.map some left)[i]? =some (some left[i]):=by simp [aO]
   rw [aP];simp only [lp];obtain⟨aQ,aR⟩:=(Y left[i]).1 (Array.getElem_mem_toList _);refine⟨⟨_,JK K O,rfl⟩,rfl,?_⟩;obtain⟨aS,aT⟩:=Kf K O (.mapIter (some bk) c (seen.push left[i].born) c);rw [aS];exact av _ aQ aR aT
theorem JS.entry{es:Array MapEntry}{c r:Nat}{seen:Array Nat}{e:MapEntry}(j:Nat)(U:(Aj E H S).get bk=some (.map es c))(he:e∈es.toList)(hb:(es.toList.map (·.born)).Pairwise (·<·))(Y:Aq E H S)(Z:S[j]? =some [(r,.mapIter (some bk) c (seen.push e.born) c)])
  (ac:ops[i]? =some ⟨d,.entry x,ty,p,af,g⟩) (hw:AJ L ops ⟨d,.entry x,ty,p,af,g⟩=some true) (ag:BH b n ⟨d,.entry x,ty,p,af,g⟩=true) (al:ev L x=some (.pointer (some ⟨r,0,none⟩)))
  (h:JL J Q b n (As L d (.tuple #[e.key,e.val])) ds (.inRegion ops rest::kk) cs (Aj E H S)):
  JL J Q b n L ds (.inRegion ops (i::rest)::kk) cs (Aj E H S):=
 JL.op ac hw ag λρ am=>by
  show lp P (do pure (Next.value (← Instr.entry (ρ x)))) _ _ _
  rw [am _ _ al]
  refine Au _ _ ?_
  unfold Instr.entry
  simp only [getObj,bind,Sem.bind,pure,lp]
  refine⟨_,DF (i:=0) Y Z rfl,rfl,?_⟩
  simp only [Array.back?_push,bne_self_eq_false,lp]
  refine⟨_,U,rfl,?_⟩
  have ap:es.find? (λx=>x.born==e.born)=some e:=by
   rw [← Array.find?_toList];have key:∀(l:List MapEntry),e∈l->(l.map (·.born)).Pairwise (·<·)->l.find? (λx=>x.born==e.born)=some e:=by
    intro l
    induction l with
    | nil=>intro h;cases h
    | cons y l aq=>
     intro hm K;rw [List.map_cons,List.pairwise_cons] at K;by_cases O:y.born=e.born
     ·rcases List.mem_cons.1 hm with rfl | hm
      ·simp
      ·have:=K.1 e.born (List.mem_map.2 ⟨e,hm,rfl⟩);omega
     ·rw [List.find?_cons_of_neg (by simpa using O)];rcases List.mem_cons.1 hm with rfl | hm
      ·exact absurd rfl O
      ·exact aq hm K.2
   exact key _ he hb
  simp only [bne_self_eq_false,Bool.false_eq_true,if_false,ap,lp];exact h
end
end
end Pal
namespace Pal
open Go Go.Conc
theorem J5{E H:LH}{S:List Seg}{bk:Nat}{o:Obj}(h:E bk=some o):(Aj E H S).get bk=some o:=by
 show(match E bk with | some o=>some o | none=>_)=some o
 rw [h]
theorem Qj{α β:Type}(f:α->β){l:List α}(h:(l.map f).Nodup):l.Nodup:=by
 unfold List.Nodup at h ⊢;rw [List.pairwise_map] at h;exact h.imp λh e=>h (by rw [e])
theorem Rm{α:Type}:∀{l l':List α},l.Nodup->(∀x∈l,x∈l')->l.length<=l'.length
 | [],_,_,_=>Nat.zero_le _
 | x::l,l',h,O=>by
  obtain⟨a,b,rfl⟩:=List.append_of_mem (O x (by simp))
  have U:=List.nodup_cons.1 h
  have:=Rm (l:=l) (l':=a++b) U.2 (λy Y=>by
   have K:=O y (List.mem_cons_of_mem _ Y)
   have Z:y≠x:=λe=>U.1 (e▸Y)
   simp at K ⊢
   rcases K with K | K | K
   ·exact .inl K
   ·exact absurd K Z
   ·exact .inr K)
  simp at this ⊢;omega
section
variable {κ ν:Type} [DecidableEq κ] {pk:Rp κ}{pv:Rp ν}{ka va:Bool}{E E' H:LH}
def II(es:Array MapEntry)(ys:List (κ×ν))(seen:Array Nat)(done:List (κ×ν)):Prop:=
 ∃K:List (MapEntry×(κ×ν)),done=K.map (·.2)/\seen.toList=K.map (·.1.born)/\K.Nodup/\∀q∈K,q∈es.toList.zip ys
theorem II.nil{es:Array MapEntry}{ys:List (κ×ν)}:II es ys #[] []:=⟨[],rfl,rfl,.nil,by simp⟩
theorem Rt:∀{es:List MapEntry} {ys:List (κ×ν)},(es.map (·.born)).Pairwise (·<·)->∀{p q:MapEntry×(κ×ν)},p∈es.zip ys->q∈es.zip ys->p.1.born=q.1.born->p=q
 | [],_,_,_,_,h,_,_=>by simp at h
 | _::_,[],_,_,_,h,_,_=>by simp at h
 | e::es,y::ys,U,p,q,K,O,hb=>by
  rw [List.map_cons,List.pairwise_cons] at U
  rw [List.zip_cons_cons] at K O
  have Y:∀{z:MapEntry×(κ×ν)},z∈es.zip ys->z.1.born∈es.map (·.born):=λ{z} Z=>by
   have:=(List.of_mem_zip Z).1
   exact List.mem_map.2 ⟨z.1,this,rfl⟩
  rcases List.mem_cons.1 K with rfl | K <;> rcases List.mem_cons.1 O with rfl | O
  ·rfl
  ·have:=U.1 _ (Y O);simp at hb;omega
  ·have:=U.1 _ (Y K);simp at hb;omega
  ·exact Rt U.2 K O hb
theorem Dx.zip:∀{es:List MapEntry} {ys:List (κ×ν)},Dx pk ka pv va E es ys->∀{q:MapEntry×(κ×ν)},q∈es.zip ys->Vr pk ka E q.1.key q.2.1/\Vr pv va E q.1.val q.2.2
 | [],[],_,_,h=>by simp at h
 | e::es,y::ys,h,q,K=>by
  rw [List.zip_cons_cons] at K
  rcases List.mem_cons.1 K with rfl | K
  ·exact⟨h.1,h.2.1⟩
  ·exact Dx.zip h.2.2 K
 | [],_::_,h,_,_=>h.elim
 | _::_,[],h,_,_=>h.elim
theorem Q8:∀{es:List MapEntry} {ys:List (κ×ν)},KN ys->(es.map (·.born)).Pairwise (·<·)->∀{p q:MapEntry×(κ×ν)},p∈es.zip ys->q∈es.zip ys->p.2.1=q.2.1->p=q
 | [],_,_,_,_,_,h,_,_=>by simp at h
 | _::_,[],_,_,_,_,h,_,_=>by simp at h
 | e::es,y::ys,ac,Y,p,q,K,O,hb=>by
  have U:y.1 ∉ ys.map (·.1)/\KN ys:=by simpa [KN] using ac
  rw [List.map_cons,List.pairwise_cons] at Y;rw [List.zip_cons_cons] at K O;have Z:∀{z:MapEntry×(κ×ν)},z∈es.zip ys->z.2.1∈ys.map (·.1):=λ{z} ag=>List.mem_map.2 ⟨z.2,(List.of_mem_zip ag).2,rfl⟩;rcases List.mem_cons.1 K with rfl | K <;> rcases List.mem_cons.1 O with rfl | O
  ·rfl
  ·have:=Z O;simp only at hb;rw [← hb] at this;exact absurd this U.1
  ·have:=Z K;simp only at hb;rw [hb] at this;exact absurd this U.1
  ·exact Q8 U.2 Y.2 K O hb
theorem II.len{es:Array MapEntry}{ys:List (κ×ν)}{seen:Array Nat}{done:List (κ×ν)}(h:II es ys seen done):done.length<=ys.length:=by
 obtain⟨Y,rfl,Z,K,O⟩:=h;rw [List.length_map];have U:=Rm K O;exact Nat.le_trans U (by rw [List.length_zip];exact Nat.min_le_right _ _)
section
variable {P:Program}{J:Judge P}{Q:Gs_}{b:Frame}{n:Nat}{ds:Ld_}{ops:Ao_}{kk:Li_}{cs:Lf_}{L:Env}{s:St}{S:List Seg}
variable {d:Option Tmp}{x y z:Operand}{t u ty e tm te:TypeId}{p:String}{af:Ae_}{g:On_}{i:Nat}{rest:List Nat}{bk:Nat}{o:Obj}{xs ys:List (κ×ν)}
theorem Ri{es:Array MapEntry}{c r:Nat}{seen:Array Nat}{done:List (κ×ν)}(j:Nat)(ag:Dx pk ka pv va E es.toList ys)(Z:(es.toList.map (·.born)).Pairwise (·<·))(hb:∀e∈es.toList,e.born<c)(av:KN ys)(aw:II es ys seen done)(ay:(Aj E' H S).get bk=some (.map es c))(az:Aq E' H S)(aI:S[j]? =some [(r,.mapIter (some bk) c seen c)])
  (aJ:ops[i]? =some ⟨d,.next x false,ty,p,af,g⟩) (hw:AJ L ops ⟨d,.next x false,ty,p,af,g⟩=some true) (aK:BH b n ⟨d,.next x false,ty,p,af,g⟩=true) (aL:ev L x=some (.pointer (some ⟨r,0,none⟩)))
  (aM:∀e O,Vr pk ka E e.key O.1->Vr pv va E e.val O.2->O∈ys->O.1 ∉ done.map (·.1)->e∈es.toList->II es ys (seen.push e.born) (done++ [O])->Aq E' H (S.set j [(r,.mapIter (some bk) c (seen.push e.born) c)])->
   JL J Q b n (As L d (.tuple #[.bool true,e.key,e.val])) ds (.inRegion ops rest::kk) cs (Aj E' H (S.set j [(r,.mapIter (some bk) c (seen.push e.born) c)])))
  (aN:done.Perm ys->JL J Q b n (As L d (.tuple #[.bool false])) ds (.inRegion ops rest::kk) cs (Aj E' H S)):
  JL J Q b n L ds (.inRegion ops (i::rest)::kk) cs (Aj E' H S):=by
 obtain⟨ac,rfl,a1,al,Y⟩:=aw;have hlen:=ag.len;refine JS.next j ay hb az aI aJ hw aK aL (λe he aO aP=>?_) (λaQ=>?_)
 ·obtain⟨m,hm,aR⟩:=List.mem_iff_getElem.1 he;have U:(e,ys[m]'(by omega))∈es.toList.zip ys:=by
   rw [← aR];have:(es.toList.zip ys)[m]'(by rw [List.length_zip];omega)=(es.toList[m],ys[m]'(by omega)):=List.getElem_zip;rw [← this];exact List.getElem_mem _
  obtain⟨k1,aS⟩:=ag.zip U;have am:(e,ys[m]'(by omega)) ∉ ac:=λq=>aO (by
   rw [← Array.mem_toList_iff,a1]
   exact List.mem_map.2 ⟨_,q,rfl⟩)
  refine aM e _ k1 aS (List.getElem_mem _) (λq=>?_) he ⟨ac++ [(e,ys[m]'(by omega))],by simp,by simp [a1],?_,λq K=>?_⟩ aP
  ·obtain⟨O,aT,aU⟩:=List.mem_map.1 q;obtain⟨z,ap,rfl⟩:=List.mem_map.1 aT;have:=Q8 av Z (Y z ap) U aU;exact am (this▸ap)
  ·rw [List.nodup_append];exact⟨al,by simp,by intro q K z aq aV;simp at aq;subst aq aV;exact am K⟩
  ·rcases List.mem_append.1 K with K | K
   ·exact Y q K
   ·simp at K;subst K;exact U
 ·refine aN ?_;have aW:ac.Perm (es.toList.zip ys):=by
   have aX:(es.toList.zip ys).Nodup:=by
    have:((es.toList.zip ys).map (·.1)).Nodup:=by
     rw [List.map_fst_zip (by omega)];exact Qj (λe:MapEntry=>e.born) (Z.imp (λh=>Nat.ne_of_lt h))
    exact Qj _ this
   refine(List.perm_ext_iff_of_nodup al aX).2 λq=>⟨λK=>Y q K,λK=>?_⟩;have:=aQ q.1 (List.of_mem_zip K).1;rw [← Array.mem_toList_iff,a1] at this;obtain⟨z,U,aY⟩:=List.mem_map.1 this;have:=Rt Z (Y z U) K aY;exact this▸U
  have:=aW.map (·.2)
  rwa [List.map_snd_zip (by omega)] at this
end
end
end Pal
namespace Pal
open Go Go.Conc
section
variable {P:Program}{J:Judge P}{Q:Gs_}{b:Frame}{n:Nat}{ds:Ld_}{ops:Ao_}{k:Li_}{cs:Lf_}{fuel:Nat}{D:Nat->Bool}{listed:Array Bool}{L L':Env}{s:St}{xl:List Nat}
variable {d:Option Tmp}{op:Op}{ty:TypeId}{p:String}{af:Ae_}{g:On_}{v:Value}
theorem HG(i:Nat)(pure:Bool)(K:s.q=false)(O:GL n L ops i=some ⟨d,op,ty,p,af,g⟩)
  (U:∀ρ,EL L ρ->∀s':St,(pure=false->∀x o,(Br D s).E x=some o->s'.E x=some o)->Yl P ⟨d,op,ty,p,af,g⟩ ρ s' v)
  (Y:Gi J Q b n ds ops k cs (AV xl) D fuel (A4 listed i) (As L d v) s) (Z:Lh ops listed xl pure i=true:=by decide+kernel):Gi J Q b n ds ops k cs (AV xl) D (fuel+1) listed L s:=by
 obtain⟨ac,ag,al⟩:=Ox O;exact JB.val i pure ac Z K ag al U Y
def P2(n:Nat)(L:Env)(ops:Ao_)(i:Nat):Option Env:=
 match Jd ops.toList i with
 | some ⟨d,op,ty,p,af,g⟩=>match AJ L ops ⟨d,op,ty,p,af,g⟩ with
  | some true=>match Bd n d with
   | true=>match Ko L op with
    | some v=>match d with
     | some d=>some ((d,v)::L)
     | none=>some L
    | none=>none
   | false=>none
  | _=>none
 | none=>none
theorem Wy{i:Nat}(h:P2 n L ops i=some L'):∃o v,ops[i]? =some o/\Bd n o.dst=true/\AJ L ops o=some true/\Ko L o.op=some v/\L'=As L o.dst v:=by
 unfold P2 at h;split at h
 ·rename_i d op ty p af g K;rw [KT,Array.getElem?_toList] at K;split at h
  ·rename_i hw;split at h
   ·rename_i O;split at h
    ·rename_i v U;refine⟨_,v,K,O,hw,U,?_⟩;cases d with
     | none=>cases h;rfl
     | some d=>cases h;rfl
    ·cases h
   ·cases h
  ·cases h
 ·cases h
theorem Bl(i:Nat)(K:s.q=false)(h:P2 n L ops i=some L')
  (O:Gi J Q b n ds ops k cs (AV xl) D fuel (A4 listed i) L' s) (U:Lh ops listed xl true i=true:=by decide+kernel):Gi J Q b n ds ops k cs (AV xl) D (fuel+1) listed L s:=by
 obtain⟨o,v,Y,Z,hw,ac,rfl⟩:=Wy h;exact JB.val i true Y U K hw Z (λρ ag s' _=>ML ag ac) O
end
end Pal
namespace Pal
open Go Go.Conc
section
variable {P:Program}{J:Judge P}{Q:Gs_}{b:Frame}{n:Nat}{L L':Env}{ds:Ld_}{k:Li_}{cs:Lf_}{s:St}{ops:Ao_}{E H:LH}{S:List Seg}{i i2:Nat}{rest:List Nat}
variable {d d2:Option Tmp}{x y x2:Operand}{t t2 ft u ty ty2 e:TypeId}{p p2:String}{af af2:Ae_}{g g2:On_}{v w:Value}
theorem DD(O:Aq E H S)(h:∀r E',Le E E'->At E' r 0 v.cells.toList->Aq E' H (S++ [[]])->JL J Q b n (As L d (.pointer (some ⟨r,0,none⟩))) ds (.inRegion ops rest::k) cs (Aj E' H (S++ [[]])))
  (U:Fu b n L ops i=some ⟨d,.box e x,ty,p,af,g⟩:=by exact rfl) (Y:ev L x=some v:=by exact rfl):JL J Q b n L ds (.inRegion ops (i::rest)::k) cs (Aj E H S):=by
 obtain⟨Z,ac,ag⟩:=Kc U;refine JS.box Z ac ag O Y λr al=>DJ (bk:=r) (c:=v.cells) (e:=e) (f:=(0,0)) S.length al (by simp) λE' hle am K=>?_;have ap:(S++ [[(r,Obj.cells v.cells e (0,0))]]).set S.length []=S++ [[]]:=by simp
 rw [ap] at K ⊢;exact h r E' hle am K
theorem BT{z:Value}(K:Aq E H S)(O:zeroOf P e=some z)(h:∀r,Aq E H (S++ [[(r,.cells z.cells e (0,0))]])->JL J Q b n (As L d (.pointer (some ⟨r,0,none⟩))) ds (.inRegion ops rest::k) cs (Aj E H (S++ [[(r,.cells z.cells e (0,0))]])))
  (U:Fu b n L ops i=some ⟨d,.alloc e,ty,p,af,g⟩:=by exact rfl):JL J Q b n L ds (.inRegion ops (i::rest)::k) cs (Aj E H S):=by
 obtain⟨Y,Z,ac⟩:=Kc U;exact JS.alloc Y Z ac K O h
theorem BF{bk off K:Nat}{c:Av_}(j:Nat)(O:Aq E H S)(U:Bh P t=some K)
  (h:Aq E H (S.set j [(bk,.cells (A8 c off v.cells.toList) e (0,0))])->JL J Q b n (As L d undef) ds (.inRegion ops rest::k) cs (Aj E H (S.set j [(bk,.cells (A8 c off v.cells.toList) e (0,0))])))
  (Y:Fu b n L ops i=some ⟨d,.store t x y,ty,p,af,g⟩:=by exact rfl) (Z:ev L x=some (.pointer (some ⟨bk,off,none⟩)):=by exact rfl) (ac:ev L y=some v:=by exact rfl) (ag:S[j]? =some [(bk,.cells c e (0,0))]:=by exact rfl)
  (al:K=v.cells.size:=by exact rfl) (hle:off+v.cells.size<=c.size:=by exact Nat.le_of_ble_eq_true rfl) (am:v.cells.toList.all CW=true:=by first | exact rfl | simp [Value.cells,CW]):
  JL J Q b n L ds (.inRegion ops (i::rest)::k) cs (Aj E H S):=ah j O (by rw [← al];exact U) Y Z ac ag h hle (List.all_eq_true.1 am)
theorem Cc{bk o K Y off:Nat}{O:Array Field}{U:Nat}{ws:Lv_}(j:Nat)(Z:At E bk o ws)(ac:P.underlying t=some (.struct O))(ag:Bh P ft=some (Y+1))(al:Dd P t2=some false)
  (am:JL J Q b n (As (As L d (.pointer (some ⟨bk,K+off,none⟩))) d2 v) ds (.inRegion ops rest::k) cs (Aj E H S))
  (ap:Fu b n L ops i=some ⟨d,.fieldAddr t x U,ty,p,af,g⟩:=by exact rfl) (aq:ev L x=some (.pointer (some ⟨bk,K,none⟩)):=by exact rfl) (av:LK O U=some (off,ft):=by exact rfl)
  (aw:Fu b n (As L d (.pointer (some ⟨bk,K+off,none⟩))) ops i2=some ⟨d2,.load t2 x2,ty2,p2,af2,g2⟩:=by exact rfl) (ay:ev (As L d (.pointer (some ⟨bk,K+off,none⟩))) x2=some (.pointer (some ⟨bk,o+j,none⟩)):=by exact rfl) (az:ws[j]? =some v:=by exact rfl):
  JL J Q b n L ds (.inRegion ops (i::i2::rest)::k) cs (Aj E H S):=JL.fd ac ag ap aq av (C4 j Z al aw ay az am)
theorem JS.ix{α:Type}{pp:Rp α}{a:Option Addr}{c:Nat}{xs:List α}{xv:α}{m:Int}{kd:IntKind}(K:Am pp E a c xs)(hm:ix xs m=some xv)(O:P.underlying t=some (.slice e))(U:Bh P e=some pp.n)
  (h:∀bk o ws,pp.r E ws xv->At E bk o ws->JL J Q b n (As L d (.pointer (some ⟨bk,o,none⟩))) ds (.inRegion ops rest::k) cs (Aj E H S))
  (Y:Fu b n L ops i=some ⟨d,.indexAddr t x y,ty,p,af,g⟩:=by exact rfl) (Z:ev L x=some (.slice a xs.length c):=by exact rfl) (ac:ev L y=some (.int kd m):=by exact rfl):
  JL J Q b n L ds (.inRegion ops (i::rest)::k) cs (Aj E H S):=by
 obtain⟨ag,al,am⟩:=Kc Y;exact Sa K hm ag al am Z ac O U h
theorem EN(K:List Seg)(O:Env){todo:Li_}{c:Code}(U:∀E',Le E E'->Aq E' H K->JL J Q b n O ds todo cs (Aj E' H K))
  (h:(∀{E':LH} {L:Env},Le E E'->Aq E' H K->Ic L O=Ik O->JL J Q b n L ds todo cs (Aj E' H K))->JL J Q b n L ds (.code c::todo) cs (Aj E H S)):JL J Q b n L ds (.code c::todo) cs (Aj E H S):=
 h λY Z ac=>AB (U _ Y Z) ac
theorem Fi{U:List Nat}(Y Z:Nat)(K:List Seg)(O:Env){todo:Li_}(ac:∀E',Le E E'->Aq E' H K->JL J Q b n O ds (.inRegion ops (List.range' Y Z)::todo) cs (Aj E' H K))
  (h:(∀{E':LH} {L:Env},Le E E'->Aq E' H K->Ic L O=Ik O->JL J Q b n L ds (.inRegion ops (List.range' Y Z)::todo) cs (Aj E' H K))->JL J Q b n L ds (.inRegion ops U::todo) cs (Aj E H S)):JL J Q b n L ds (.inRegion ops U::todo) cs (Aj E H S):=
 h λag al am=>AB (ac _ ag al) am
theorem DO{O ag:Type}{c:Code}{body:O->Option (Bn O ag)}{f:Nat}{Y:O}{a:ag}{Z:LH}{k:Li_}(am:iter body f Y=some a)(K:O->List Seg)(U:O->Env)(hle:Le Z E)(ap:Aq E H (K Y))
  (round:∀x E',Le Z E'->Aq E' H (K x)->(∀al,body x=some (.done al)->al=a)->(∃st,body x=some st)->(∀{L':Env} {ac:LH} (x':O),Le Z ac->Aq ac H (K x')->Ic L' (U x')=Ik (U x')->body x=some (.more x')->JL J Q b n L' ds (.inLoop c::k) cs (Aj ac H (K x')))->JL J Q b n (U x) ds (.code c:: .inLoop c::k) cs (Aj E' H (K x)))
  (aq:Ic L (U Y)=Ik (U Y):=by exact rfl) (av:Aj E H S=Aj E H (K Y):=by exact rfl):JL J Q b n L ds (.code (.loop c)::k) cs (Aj E H S):=by
 rw [av];refine Ep _ aq (Q7 am (λL s x=>∃E',Jm Z H E' (K x) (U x) L s) ⟨E,rfl,rfl,hle,ap⟩ ?_);rintro _ _ x ⟨E',rfl,rfl,aw,ay⟩ hd hb az;exact round x E' aw ay hd hb λx' aI g2 aJ aK=>AB (az _ _ x' ⟨_,rfl,rfl,aI,g2⟩ aK) aJ
theorem Bj{f:FuncId}{fn:Func}{c:Code}{E:LH}{vs:Lv_}{B:Seg}{R:Value->LH->Seg->Prop}(O:P.funcs[f]? =some fn)
  (h:∀(Q:Gs_) (K:Frame) (cs:Lf_) (H:LH),Aq E H [B]->(∀{v:Value} {E':LH} {S':List Seg} {B':Seg},Le E E'->S'.flatten=B'->R v E' B'->Aq E' H S'->J.ok Q (G (K.finish v) cs) (Aj E' H S'))->JL J Q (base f) fn.ntmps (Ga 0 vs) [] [.code c] (K::cs) (Aj E H [B]))
  (hb:fn.body=some c:=by exact rfl) (U:Nat.ble vs.length fn.ntmps=true:=by exact rfl):AO J f vs E B R:=
 Po O hb U λQ K cs H Y Z=>h Q K cs H Y λac ag al am=>Z _ _ _ _ ac ag al am
variable {m:Nat}{fuel:Nat}{listed:Array Bool}{bks xl:List Nat}
theorem Kg{bk:Nat}{c:Av_}{f:Nat×Nat}(i:Nat)(K:DC ops m=true)(o:Nat)(j:Nat)(O:Aq E H S)(U:Dd P t=some false)
  (Y:AH J Q b n ds ops k cs m (AV bks) fuel (A4 listed i) (As L d w) (Aj E H S)) (Z:GL n L ops i=some ⟨d,.load t x,ty,p,af,g⟩:=by exact rfl) (ac:ev L x=some (.pointer (some ⟨bk,o,none⟩)):=by exact rfl)
  (ag:S[j]? =some [(bk,.cells c e f)]:=by exact rfl) (hw:c[o]? =some w:=by exact rfl) (al:AV bks bk=true:=by simp [AV]) (am:Gc ops listed m i=true:=by decide+kernel):AH J Q b n ds ops k cs m (AV bks) (fuel+1) listed L (Aj E H S):=
 AN i K rfl Z (λρ h s' ap=>Yl.load U (h _ _ ac) (Cb (o:=o) j O ag al ap hw)) Y am
theorem JG.lp{bk o:Nat}{ws:Lv_}(i:Nat)(K:DC ops m=true)(j:Nat)(O:At E bk o ws)(U:Aq E H S)(Y:HD S bks)(Z:Dd P t=some false)
  (ac:AH J Q b n ds ops k cs m (AV bks) fuel (A4 listed i) (As L d w) (Aj E H S)) (ag:GL n L ops i=some ⟨d,.load t x,ty,p,af,g⟩:=by exact rfl) (al:ev L x=some (.pointer (some ⟨bk,o+j,none⟩)):=by exact rfl)
  (hw:ws[j]? =some w:=by exact rfl) (am:Gc ops listed m i=true:=by decide+kernel):AH J Q b n ds ops k cs m (AV bks) (fuel+1) listed L (Aj E H S):=
 AN i K rfl ag (λρ h s' ap=>Yl.load Z (h _ _ al) (At.PG (j:=j) O (ae U ap Y) hw)) ac am
theorem Tv{bk o K:Nat}{c:Av_}{f:Nat×Nat}(i:Nat)(O:DC ops m=true)(vs:Lv_)(j:Nat)(U:Aq E H S)(hw:∀(q:Nat) w,vs[q]? =some w->c[o+q]? =some w)(Y:Dd P t=some true)(Z:Bh P t=some K)
  (ac:AH J Q b n ds ops k cs m (AV bks) fuel (A4 listed i) (As L d (.agg vs.toArray)) (Aj E H S)) (ag:GL n L ops i=some ⟨d,.load t x,ty,p,af,g⟩:=by exact rfl) (al:ev L x=some (.pointer (some ⟨bk,o,none⟩)):=by exact rfl)
  (am:S[j]? =some [(bk,.cells c e f)]:=by exact rfl) (ap:K=vs.length:=by exact rfl) (aq:AV bks bk=true:=by simp [AV]) (av:Gc ops listed m i=true:=by decide+kernel):AH J Q b n ds ops k cs m (AV bks) (fuel+1) listed L (Aj E H S):=
 AN i O rfl ag (λρ h s' aw=>H3 (vs:=vs) Y (by rw [← ap];exact Z) (h _ _ al) (λq w ay=>by rw [Dz rfl];exact Cb j U am aq aw (hw q w ay))) ac av
theorem JG.ix{D:Nat->Bool}{α:Type}{xs:List α}{xv:α}{K:Int}{bk c O U:Nat}{kd:IntKind}(i:Nat)(Y:DC ops m=true)(Z:xs.length=U)(hm:ix xs K=some xv)(ac:P.underlying t=some (.slice e))(ag:Bh P e=some O)
  (al:AH J Q b n ds ops k cs m D fuel (A4 listed i) (As L d (.pointer (some ⟨bk,K.toNat*O,none⟩))) s) (am:s.q=false:=by exact rfl) (ap:GL n L ops i=some ⟨d,.indexAddr t x y,ty,p,af,g⟩:=by exact rfl)
  (aq:ev L x=some (.slice (some ⟨bk,0,none⟩) U c):=by exact rfl) (av:ev L y=some (.int kd K):=by exact rfl) (aw:Gc ops listed m i=true:=by decide+kernel):AH J Q b n ds ops k cs m D (fuel+1) listed L s:=
 AN i Y am ap (λρ h s' ay=>Fh Z hm ac ag (h _ _ aq) (h _ _ av)) al aw
theorem JB.ix{D:Nat->Bool}{α:Type}{xs:List α}{xv:α}{K:Int}{bk c O U:Nat}{kd:IntKind}(i:Nat)(Y:xs.length=U)(hm:ix xs K=some xv)(Z:P.underlying t=some (.slice e))(ac:Bh P e=some O)
  (ag:Gi J Q b n ds ops k cs (AV xl) D fuel (A4 listed i) (As L d (.pointer (some ⟨bk,K.toNat*O,none⟩))) s) (al:s.q=false:=by exact rfl) (am:GL n L ops i=some ⟨d,.indexAddr t x y,ty,p,af,g⟩:=by exact rfl)
  (ap:ev L x=some (.slice (some ⟨bk,0,none⟩) U c):=by exact rfl) (aq:ev L y=some (.int kd K):=by exact rfl) (av:Lh ops listed xl true i=true:=by decide+kernel):Gi J Q b n ds ops k cs (AV xl) D (fuel+1) listed L s:=
 HG i true al am (λρ h s' aw=>Fh Y hm Z ac (h _ _ ap) (h _ _ aq)) ag av
theorem TA{bk o K:Nat}{c:Av_}{f:Nat×Nat}(i:Nat)(vs:Lv_)(j:Nat)(O:Aq E H S)(hw:∀(q:Nat) w,vs[q]? =some w->c[o+q]? =some w)(U:Dd P t=some true)(Y:Bh P t=some K)
  (Z:Gi J Q b n ds ops k cs (AV xl) (AV bks) fuel (A4 listed i) (As L d (.agg vs.toArray)) (Aj E H S)) (ac:GL n L ops i=some ⟨d,.load t x,ty,p,af,g⟩:=by exact rfl) (ag:ev L x=some (.pointer (some ⟨bk,o,none⟩)):=by exact rfl)
  (al:S[j]? =some [(bk,.cells c e f)]:=by exact rfl) (am:K=vs.length:=by exact rfl) (ap:AV bks bk=true:=by simp [AV]) (aq:Lh ops listed xl false i=true:=by decide+kernel):Gi J Q b n ds ops k cs (AV xl) (AV bks) (fuel+1) listed L (Aj E H S):=
 HG i false rfl ac (λρ h s' av=>H3 (vs:=vs) U (by rw [← am];exact Y) (h _ _ ag) (λq w aw=>by rw [Dz rfl];exact Cb j O al ap (av rfl) (hw q w aw))) Z aq
theorem EZ{bk off K:Nat}{c:Av_}{D:Nat->Bool}(i j:Nat)(O:Aq E H S)(U:Bh P t=some K)(hle:off+K<=c.size)
  (h:Aq E H (S.set j [(bk,.cells (A8 c off v.cells.toList) e (0,0))])->Gi J Q b n ds ops k cs (AV xl) D fuel (A4 listed i) (As L d undef) (Aj E H (S.set j [(bk,.cells (A8 c off v.cells.toList) e (0,0))])))
  (Y:GL n L ops i=some ⟨d,.store t x y,ty,p,af,g⟩:=by exact rfl) (Z:ev L x=some (.pointer (some ⟨bk,off,none⟩)):=by exact rfl) (ac:ev L y=some v:=by exact rfl) (ag:S[j]? =some [(bk,.cells c e (0,0))]:=by exact rfl)
  (al:K=v.cells.size:=by exact rfl) (am:v.cells.toList.all CW=true:=by first | exact rfl | simp [Value.cells,CW]) (ap:Region.ready .any ops listed= [i]:=by decide+kernel) (aq:AV xl i=true:=by decide+kernel):
  Gi J Q b n ds ops k cs (AV xl) D (fuel+1) listed L (Aj E H S):=by
 obtain⟨av,aw,ay⟩:=Ox Y;subst al;exact JB.store i j ap aq av aw ay O Z ac U (List.all_eq_true.1 am) ag hle h
end
end Pal
namespace Pal
open Go Go.Conc
abbrev s8(s:Nat):Value:= .int .u8 (s:Int)
def NI(a:Nat)(n:Int):Option Nat:=if 0<=n/\n<=8 then some (a>>>n.toNat) else none
def Li(a b:Nat):Option Nat:=if a<256/\b<256 then some (a ||| b) else none
def Ns(a b:Nat):Option Nat:=if a<256/\b<256 then some (a&&& b) else none
section
variable {P:Program}{s:St}{ρ:Operand->Value}{d:Option Tmp}{t u ty:TypeId}{x y:Operand}{p:String}{af:Ae_}{g:On_}{a b c r:Nat}{m:Int}
theorem Tx{m:Nat}(h:m<256):IntKind.u8.wrap (m:Int)=m:=by
 simp only [IntKind.wrap,IntKind.bits,IntKind.signed];simp;omega
theorem NW{m:Nat}(h:m<256):(BitVec.ofInt IntKind.u8.bits (m:Int)).toNat=m:=by
 simp [IntKind.bits,BitVec.toNat_ofInt];omega
theorem Z7{k:Nat}(a c:Nat)(K:c<=k):((a:Int).fdiv (2 ^ (min c k)))=((a>>>c:Nat):Int):=by
 rw [Nat.min_eq_left K,Nat.shiftRight_eq_div_pow,Int.fdiv_eq_ediv_of_nonneg _ (Int.pow_nonneg (by decide)),Int.natCast_ediv]
 rfl
theorem Rd(K:ρ x=s8 a)(O:ρ y=iV m)(h:NI a m=some r):Yl P ⟨d,.binOp .shr t x y u,ty,p,af,g⟩ ρ s (s8 r):=by
 unfold NI at h;split at h
 ·rename_i U;cases h;have h:=Yl.shr (P:=P) (s:=s) (d:=d) (t:=t) (u:=u) (ty:=ty) (p:=p) (af:=af) (g:=g) K O U.1;rw [show IntKind.u8.bits=8 from rfl,Z7 a m.toNat (by omega)] at h;exact h
 ·cases h
theorem M6(O:ρ x=s8 a)(U:ρ y=s8 b)(h:Li a b=some r):Yl P ⟨d,.binOp .or t x y u,ty,p,af,g⟩ ρ s (s8 r):=by
 unfold Li at h;split at h
 ·rename_i K;cases h;have h:=Yl.or (P:=P) (s:=s) (d:=d) (t:=t) (u:=u) (ty:=ty) (p:=p) (af:=af) (g:=g) O U;rw [BitVec.toNat_or,NW K.1,NW K.2,Tx (Nat.or_lt_two_pow (n:=8) K.1 K.2)] at h;exact h
 ·cases h
theorem RE(O:ρ x=s8 a)(U:ρ y=s8 b)(h:Ns a b=some r):Yl P ⟨d,.binOp .and t x y u,ty,p,af,g⟩ ρ s (s8 r):=by
 unfold Ns at h;split at h
 ·rename_i K;cases h;have h:=Yl.and (P:=P) (s:=s) (d:=d) (t:=t) (u:=u) (ty:=ty) (p:=p) (af:=af) (g:=g) O U;rw [BitVec.toNat_and,NW K.1,NW K.2,Tx (Nat.lt_of_le_of_lt Nat.and_le_left K.1)] at h;exact h
 ·cases h
end
end Pal
namespace Pal
open Go Go.Conc
def Pq(a b:Nat):Option Nat:=if a<4294967296/\b<4294967296 then some (a&&& b) else none
def Pf(a:Nat)(n:Int):Option Nat:=if 0<=n/\n<=32/\a*2 ^ n.toNat<4294967296 then some (a*2 ^ n.toNat) else none
def Kl(n:Int):Option Nat:=if 0<=n/\n<=8 then some ((1<<<n.toNat) % 256) else none
section
variable {P:Program}{s:St}{ρ:Operand->Value}{d:Option Tmp}{t u ty e:TypeId}{x y:Operand}{p:String}{af:Ae_}{g:On_}{a b c r:Nat}{m:Int}
theorem wrap32{m:Nat}(h:m<4294967296):IntKind.u32.wrap (m:Int)=m:=by
 simp only [IntKind.wrap,IntKind.bits,IntKind.signed];simp;omega
theorem TR{m:Nat}(h:m<4294967296):(BitVec.ofInt IntKind.u32.bits (m:Int)).toNat=m:=by
 simp [IntKind.bits,BitVec.toNat_ofInt];omega
theorem U0(O:ρ x= .int .u32 (a:Int))(U:ρ y= .int .u32 (b:Int))(h:Pq a b=some r):Yl P ⟨d,.binOp .and t x y u,ty,p,af,g⟩ ρ s (.int .u32 (r:Int)):=by
 unfold Pq at h;split at h
 ·rename_i K;cases h;have h:=Yl.and (P:=P) (s:=s) (d:=d) (t:=t) (u:=u) (ty:=ty) (p:=p) (af:=af) (g:=g) O U;rw [BitVec.toNat_and,TR K.1,TR K.2,wrap32 (Nat.lt_of_le_of_lt Nat.and_le_left K.1)] at h;exact h
 ·cases h
theorem VC(O:ρ x= .int .u32 (a:Int))(U:ρ y=iV m)(h:Pf a m=some r):Yl P ⟨d,.binOp .shl t x y u,ty,p,af,g⟩ ρ s (.int .u32 (r:Int)):=by
 unfold Pf at h;split at h
 ·rename_i K;cases h;have h:=Yl.shl (P:=P) (s:=s) (d:=d) (t:=t) (u:=u) (ty:=ty) (p:=p) (af:=af) (g:=g) O U K.1;have e:IntKind.u32.wrap ((a:Int)*2 ^ (min m.toNat IntKind.u32.bits))=((a*2 ^ m.toNat:Nat):Int):=by
   have Y:min m.toNat IntKind.u32.bits=m.toNat:=by simp [IntKind.bits];omega
   rw [Y,← wrap32 K.2.2];simp
  rw [e] at h;exact h
 ·cases h
theorem Lx(K:ρ x=s8 1)(O:ρ y=iV m)(h:Kl m=some r):Yl P ⟨d,.binOp .shl t x y u,ty,p,af,g⟩ ρ s (s8 r):=by
 unfold Kl at h;split at h
 ·rename_i U;cases h;have h:=Yl.shl (P:=P) (s:=s) (d:=d) (t:=t) (u:=u) (ty:=ty) (p:=p) (af:=af) (g:=g) K O U.1;have e:IntKind.u8.wrap (((1:Nat):Int)*2 ^ (min m.toNat IntKind.u8.bits))=(((1<<<m.toNat) % 256:Nat):Int):=
   (by decide:∀k:Fin 9,IntKind.u8.wrap (((1:Nat):Int)*2 ^ (min k.1 IntKind.u8.bits))=(((1<<<k.1) % 256:Nat):Int)) ⟨m.toNat,by omega⟩
  rw [e] at h;exact h
 ·cases h
theorem Wj(K:ρ x=s8 a)(O:ρ y=s8 b)(hb:b<=256):Yl P ⟨d,.binOp .sub t x y u,ty,p,af,g⟩ ρ s (s8 ((a+(256 - b)) % 256)):=by
 have h:=Yl.sub (P:=P) (s:=s) (d:=d) (t:=t) (u:=u) (ty:=ty) (p:=p) (af:=af) (g:=g) K O;have e:IntKind.u8.wrap ((a:Int) - (b:Int))=(((a+(256 - b)) % 256:Nat):Int):=by
  simp only [IntKind.wrap,IntKind.bits,IntKind.signed];simp;omega
 rw [e] at h;exact h
theorem W4{kd:IntKind}{E:LH}(xs:List Nat):(rA xs.length (rN kd)).r E (xs.map λx=>Value.int kd ((x:Nat):Int)) xs:=by
 refine⟨rfl,xs.map λx=> [Value.int kd ((x:Nat):Int)],?_,by simp,λi x us K hu=>?_⟩
 ·induction xs with
  | nil=>rfl
  | cons x xs O=>simp [← O]
 ·rw [List.getElem?_map,K] at hu;exact(Option.some.inj hu).symm
theorem MW{α:Type}{kk:Nat}{pp:Rp α}{E:LH}{us:Lv_}{x:α}(h:pp.r E us x):(rA kk pp).r E (List.replicate kk us).flatten (List.replicate kk x):=
 ⟨by simp,List.replicate kk us,rfl,by simp,λi y ws K hw=>by
  rw [List.getElem?_replicate] at K hw
  split at K
  ·rename_i O
   rw [if_pos O] at hw
   cases K;cases hw
   exact h
  ·cases K⟩
theorem Wi{k K:Nat}{z v:Value}(O:P.underlying t=some (.array k e))(U:zeroOf P t=some z)(Y:Bh P e=some K)(Z: .agg z.cells=v):Yl P ⟨d,.build t #[],ty,p,af,g⟩ ρ s v:=by
 refine FO Ot ?_;unfold Instr.build;refine Au (x:=zeroValue t) _ (Ho U ?_);refine Au _ _ (Cg O ?_);refine Au (x:=Go.sizeOf e) _ (EH Y ?_);subst Z;simp [Instr.fill,lp,pure]
theorem Xt{k K:Nat}{z v:Value}{L:Env}{U:Array (Nat×Operand)}{vs:List (Nat×Value)}(h:EL L ρ)(Z:P.underlying t=some (.array k e))(ac:zeroOf P t=some z)(ag:Bh P e=some K)(al:U.toList.mapM (λq=>(ev L q.2).map λv=>(q.1,v))=some vs)(O:(Instr.fill (λi=>some (i*K,K)) z.cells vs).map Value.agg=some v):Yl P ⟨d,.build t U,ty,p,af,g⟩ ρ s v:=by
 refine FO Ot ?_;unfold Instr.build;refine Au (x:=zeroValue t) _ (Ho ac ?_);refine Au _ _ (Cg Z ?_);refine Au (x:=Go.sizeOf e) _ (EH ag ?_);have am:=Ow h al;have ap:(U.map λ(j,x)=>(j,ρ x)).toList=vs:=by rw [← am,Array.toList_map]
 rw [ap];cases Y:Instr.fill (λi=>some (i*K,K)) z.cells vs with
 | none=>rw [Y] at O;cases O
 | some cells=>rw [Y] at O;cases O;exact⟨rfl,rfl⟩
end
end Pal
namespace Pal
open Go Go.Conc
section
variable {P:Program}{E H:LH}{S:List Seg}{t e:TypeId}
end
section
variable {P:Program}{J:Judge P}{Q:Gs_}{b:Frame}{n:Nat}{ds:Ld_}{ops:Ao_}{k:Li_}{cs:Lf_}{m fuel:Nat}{D:Nat->Bool}{listed:Array Bool}{L:Env}{s:St}{E E' H:LH}{S:List Seg}
variable {d:Option Tmp}{x y:Operand}{t u ty e e2:TypeId}{p:String}{af:Ae_}{g:On_}{v:Value}{i:Nat}{kd:IntKind}
end
end Pal
namespace Pal
open Go Go.Conc
def GX(b:Frame)(T:Av_)(ds:Ld_)(todo:Li_)(ch:List PanicEntry):Frame:={b with tmps:=T,todo:=todo,defers:=ds,mode:= .panicking ch}
def raised(v:Value):List PanicEntry:= [{v,recovered:=false}]
def taken(v:Value):List PanicEntry:= [{v,recovered:=true}]
section
variable {P:Program}(J:Judge P)(Q:Gs_)
def JP(b:Frame)(n:Nat)(L:Env)(ds:Ld_)(cs:Lf_)(ch:List PanicEntry)(s:St):Prop:=
 ∀T,Has n L T->∀todo,J.ok Q (G (GX b T ds todo ch) cs) s
end
section
variable {P:Program}{J:Judge P}{Q:Gs_}{b bc:Frame}{n:Nat}{L L':Env}{ds dsc:Ld_}{k:Li_}{cs:Lf_}{s:St}{ch:List PanicEntry}{T Tc:Av_}{todoc:Li_}
variable {ops:Ao_}{i:Nat}{rest:List Nat}{d:Option Tmp}{x:Operand}{ty:TypeId}{p:String}{af:Ae_}{g:On_}{v:Value}
theorem JL.panic{t:TypeId}(O:ops[i]? =some ⟨d,.panic x,ty,p,af,g⟩)(U:b.roundOf=none)(hw:AJ L ops ⟨d,.panic x,ty,p,af,g⟩=some true)(Y:ev L x=some (.iface t v))
  (h:JP J Q b n L ds cs (raised (.iface t v)) s):JL J Q b n L ds (.inRegion ops (i::rest)::k) cs s:=λT K=>
 Judge.CZ rfl (λw=>by
  have he:execOp (Bs T) ⟨d,.panic x,ty,p,af,g⟩= .halt (.panic (.iface t v)):=by
   simp [execOp,Instr.panic,K.ev Y,goPanic,bind,Sem.bind]
  rw [stepG_op O (B3 K hw)]
  simp [U,stepG.apply,he,Sem.run,Sem.runT,Sem.events,GStep.after,fr,GX,Frame.raise,G,raised,seen_none]) (h T K (.inRegion ops (i::rest)::k))
theorem JP.pop{fn:Func}(K:P.funcs[b.fn]? =some fn)(h:J.ok Q (G (GX bc Tc dsc todoc ch) cs) s):JP J Q b n L [] (fr bc Tc dsc todoc::cs) ch s:=λT O todo=>
 Judge.CZ rfl (λw=>by simp [G,stepG,unwind,GX,fr,Frame.raise,Frame.catches,K]) h
theorem JP.Pb{f:FuncId}{fn:Func}{c:Code}{vs caps:Lv_}(ap:b.roundOf=none)(O:P.funcs[f]? =some fn)(Y:(fn.name== "runtime.NumGoroutine")=false)(hb:fn.body=some c)(Z:(vs++caps).length<=fn.ntmps)
  (h:∀T,Has n L T->∀todo,JL J Q (baseD f) fn.ntmps (Ga 0 (vs++caps)) [] [.code c] (GX b T ds todo ch::cs) s):JP J Q b n L (Kp f vs.toArray caps.toArray::ds) cs ch s:=λT ac todo=>by
 have ag:¬fn.name= "runtime.NumGoroutine" :=by simpa using Y
 refine Judge.CZ rfl (λw=>?_) (h T ac todo ((vs++caps).toArray++Array.replicate (fn.ntmps - (vs++caps).length) undef) ⟨by simp;simp at Z;omega,λt v al=>?_⟩)
 ·rw [BC (b:=baseD f) rfl];have:=enter_atD (P:=P) (vs++caps).toArray O hb;simp only [List.size_toArray] at this;rw [← this];simp [G,stepG,unwind,callDeferred,GX,Kp,invoke,callFunc,O,ag,hb,GStep.after,seen_none]
 ·obtain⟨_,K⟩:=Jo al;have am:t<(vs++caps).length:=by
   rcases Nat.lt_or_ge t (vs++caps).length with U | U
   ·exact U
   ·simp only [Nat.sub_zero] at K;have:=(List.getElem?_eq_some_iff.1 K).1;omega
  rw [Array.getD_eq_getD_getElem?,Array.getElem?_append_left (by simpa using am)];simp only [Nat.sub_zero] at K;rw [List.getElem?_toArray,K];rfl
theorem Uo{ats:Array TypeId}{K:List PanicEntry}(O:ops[i]? =some ⟨d,.call ⟨.builtin .recover,#[],ats⟩,ty,p,af,g⟩)(U:b.roundOf=none)(Y:b.kind= .deferred)(ag:Bd n d=true)(hw:AJ L ops ⟨d,.call ⟨.builtin .recover,#[],ats⟩,ty,p,af,g⟩=some true)
  (h:JL J Q b n (As L d v) ds (.inRegion ops rest::k) (GX bc Tc dsc todoc ({v,recovered:=true}::K)::cs) s):
  JL J Q b n L ds (.inRegion ops (i::rest)::k) (GX bc Tc dsc todoc ({v,recovered:=false}::K)::cs) s:=λT Z=>
 Judge.CZ rfl (λw=>by
  have he:execOp (Bs T) ⟨d,.call ⟨.builtin .recover,#[],ats⟩,ty,p,af,g⟩= .pure .recover:=by
   simp [execOp,resolve,Deferred.ofValue,invoke,bind,Sem.bind,pure,Go.builtin]
  have ac:=Gq (b:=b) (ds:=ds) (k:=k) T ops i rest v _ O
  simp only [fr,U,Y] at ac
  rw [stepG_op O (B3 Z hw)]
  simp [U,Y,stepG.apply,he,Sem.run,Sem.runT,Sem.events,GStep.after,fr,GX,tryRecover,G,seen_none,ac]) (h _ (Z.put ag _))
theorem Ut{ats:Array TypeId}(K:ops[i]? =some ⟨d,.call ⟨.builtin .recover,#[],ats⟩,ty,p,af,g⟩)(O:b.roundOf=none)(U:b.kind= .deferred)(ac:Bd n d=true)(hw:AJ L ops ⟨d,.call ⟨.builtin .recover,#[],ats⟩,ty,p,af,g⟩=some true)
  (h:JL J Q b n (As L d .nilIface) ds (.inRegion ops rest::k) (Eg bc Tc dsc todoc::cs) s):
  JL J Q b n L ds (.inRegion ops (i::rest)::k) (Eg bc Tc dsc todoc::cs) s:=λT Y=>
 Judge.CZ rfl (λw=>by
  have he:execOp (Bs T) ⟨d,.call ⟨.builtin .recover,#[],ats⟩,ty,p,af,g⟩= .pure .recover:=by
   simp [execOp,resolve,Deferred.ofValue,invoke,bind,Sem.bind,pure,Go.builtin]
  have Z:=Gq (b:=b) (ds:=ds) (k:=k) T ops i rest .nilIface _ K
  simp only [fr,O,U] at Z
  rw [stepG_op K (B3 Y hw)]
  simp [O,U,stepG.apply,he,Sem.run,Sem.runT,Sem.events,GStep.after,fr,Eg,tryRecover,G,seen_none,Z]) (h _ (Y.put ac _))
theorem JO.Zp{fn:Func}(O:b.kind= .deferred)(U:P.funcs[b.fn]? =some fn)(K:fn.results= #[])(h:J.ok Q (G (Eg bc Tc dsc todoc) cs) s):JO J Q b n L [] (GX bc Tc dsc todoc (taken v)::cs) s:=λT Z todo=>by
 refine Judge.CZ rfl (λw=>?_) h
 have Y:=results_none K T P w
 have e2:=λ(x:Array Event)=>events_results_none (P:=P) (w:=w) K T x
 simp [G,stepG,unwind,Eg,GX,U,Y,e2,doReturn,O,GStep.after,seen_none,taken]
end
end Pal
namespace Pal
open Go Go.Conc Go.Proofs
abbrev Dq:=Int×Int×Int
abbrev Ax:=List Dq
abbrev AS:=List Ax
abbrev Bc:=List (List Int)
abbrev A6:=Bc×Ax
abbrev Ay:=rP rI DX
open Go.Proofs.Tryz
def AG:=AQ Tryz.type3
def Bf:=AQ Tryz.type27
def FM:=AQ Tryz.type101
def IW:=AQ Tryz.type105
def Mm:=AQ Tryz.type227
def Ba:=CO Tryz.underlying3
def Ll:=A7 Tryz.func91 rfl
def FN:=AQ Tryz.type22
def F2:=CO Tryz.underlying22
def F4:=AQ Tryz.type23
def IB:=CO Tryz.underlying23
def El:=CO Tryz.underlying27
def BK:=Dh Tryz.type27
def Fy:=AQ Tryz.type28
def Jj:=CO Tryz.underlying28
def Ky:=Dh Tryz.type105
def CJ:=AQ Tryz.type25
def IA:=CO Tryz.underlying105
def IV:=Dh Tryz.type101
def HV:=Dh Tryz.type77
def EV:=CO Tryz.underlying25
def DI:=AQ Tryz.type77
def F3:=CO Tryz.underlying77
def CI:=Dh Tryz.type3
def Kx:=A7 Tryz.func70 rfl
def N9:=A7 Tryz.func84 rfl
def HT:=A7 Tryz.func74 rfl
def Ln:=AQ Tryz.type4
def NZ:=CO Tryz.underlying4
def Bb:=AQ Tryz.type80
def By:=CO Tryz.underlying80
def Hn:=AQ Tryz.type197
def Hm:=A7 Tryz.func85 rfl
def KB:=Dh Tryz.type28
def Lm:=Dh Tryz.type4
def Mf:=A7 Tryz.func115 rfl
def Kz:=Dh Tryz.type209
def HS:=A7 Tryz.func204 rfl
def Ob:=Dh Tryz.type80
def Mc:=CO Tryz.underlying167
def NY:=CO Tryz.underlying83
def N8:=A7 Tryz.func71 rfl
def N1:=A7 Tryz.func205 rfl
def N2:=A7 Tryz.func179 rfl
def N4:=A7 Tryz.func137 rfl
def Mg:=A7 Tryz.func114 rfl
def J2:=CO Tryz.underlying197
def N5:=Dh Tryz.type227
def Md:=CO Tryz.underlying227
def Jk:=AQ Tryz.type156
def Mh:=Dh Tryz.type156
def Mb:=CO Tryz.underlying156
def Dg:=AQ Tryz.type21
def GZ:=CO Tryz.underlying21
def Mn:=AQ Tryz.type85
def HU:=Dh Tryz.type25
def Mi:=A7 Tryz.func67 rfl
def N3:=A7 Tryz.func110 rfl
def Mj:=A7 Tryz.func63 rfl
def Oa:=A7 Tryz.func22 rfl
def N7:=A7 Tryz.func24 rfl
def Mk:=A7 Tryz.func29 rfl
def Jl:=AQ Tryz.type72
def Me:=CO Tryz.underlying72
def KA:=A7 Tryz.func36 rfl
def N6:=A7 Tryz.func37 rfl
theorem mixed:Tryz.prog.follows .mixedOrders=true:=rfl
theorem ZU:BZ Tryz.prog 27 (rP rI (rP rI rI)) true 2:=BZ.three underlying27 (BZ.int underlying3 AG) (BZ.int underlying3 AG) (BZ.int underlying3 AG) (by decide+kernel) (by decide) (by decide) (by decide) rfl rfl rfl Bf
theorem Zn:BZ Tryz.prog 101 (rP rI rI) true 2:=BZ.two underlying101 (BZ.int underlying3 AG) (BZ.int underlying3 AG) (by decide+kernel) (by decide) (by decide) rfl rfl FM
theorem XV:BZ Tryz.prog 105 (rA 5 rI) true 2:=BZ.arr (kk:=5) (BZ.int underlying3 AG) underlying105 IW
theorem Ym:BZ Tryz.prog 225 (rA 10 rI) true 2:=BZ.arr (kk:=10) (BZ.int underlying3 AG) underlying225 (AQ type225)
theorem Tj:BZ Tryz.prog 227 (rA 5 (rA 10 rI)) true 3:=BZ.arr (kk:=5) Ym underlying227 Mm
theorem YD:BZ Tryz.prog 249 (rP (rN .u8) (rA 5 (rA 10 rI))) true 4:=BZ.two underlying249 ((BZ.nat underlying5 (AQ type5)).up (by decide)) Tj (by decide+kernel) (by decide) (by decide) rfl rfl (AQ type249)
theorem IN:Gu Tryz.prog 3 rI false:=(BZ.int underlying3 AG).key (by decide)
theorem O5:Gu Tryz.prog 101 (rP rI rI) true:=Zn.key (by decide)
theorem Td:Gu Tryz.prog 227 (rA 5 (rA 10 rI)) true:=Tj.key (by decide)
theorem SL:Gu Tryz.prog 249 (rP (rN .u8) (rA 5 (rA 10 rI))) true:=YD.key (by decide)
end Pal
namespace Pal
open Go Go.Conc Go.Proofs
open Go.Proofs.Tryz
variable {J:Judge Tryz.prog}{E:LH}
def f91(fu_:Nat)(p0:Int)(K:Int)(p2:Int):Option Bool:= Option.bind (if K<=p0 then(some (decide (p0<=p2))) else(some false)) λO=> some O
theorem LR{p0:Int}{K:Int}{p2:Int}{fu_:Nat}{r:Bool}(O:f91 fu_ p0 K p2=some r):AO J 91 [iV p0,iV K,iV p2] E [] (λw E' B'=>w= .bool r/\B'= []):=by
 refine Bj func91 λQ ay cs H U Z=>?_;unfold f91 at O;obtain⟨ac,ag,al⟩:=bs O;refine zg 10 rfl (Fi 8 1 [] [(14,.bool ac)] (λaz am ap=>?_) (λY=>?_))
 ·refine zg 2 rfl ?_;obtain rfl:=oi al;exact A2 func91 rfl rfl (Z am rfl ⟨rfl,rfl⟩ ap)
 ·refine Ja 10 ag (λaq av=>?_) (λaq aw=>?_)
  ·refine zg 4 rfl ?_;obtain rfl:=oi av;exact Y Az U rfl
  ·refine zg 4 rfl ?_;obtain rfl:=oi aw;exact Y Az U rfl
def f86(fu_:Nat)(p0:Int×Int×Int)(K:Int)(p2:Int):Option Int:= (Aw (K - 1)).bind λO=> (f91 fu_ p0.1 0 O).bind λU=> Option.bind (if(!U)=true then(some true) else((Aw (K - 1)).bind λY=> (f91 fu_ p0.2.1 0 Y).bind λZ=> some (!Z))) λac=> if ac=true then(some 3) else(if p0.1=p0.2.1 then(some 8) else((f91 fu_ p0.2.2 1 p2).bind λag=> if(!ag)=true then(some 1) else(some 0)))
theorem Z5{p0:Int×Int×Int}{ag:Int}{p2:Int}{fu_:Nat}{r:Int}(al:f86 fu_ p0 ag p2=some r):AO J 86 [.agg #[iV p0.1,iV p0.2.1,iV p0.2.2],iV ag,iV p2] E [] (λw E' B'=>w=iV r/\B'= []):=by
 refine Bj func86 λQ bb cs H aw Y=>?_;unfold f86 at al;refine zg 2 rfl (DD aw λr2 be Z U ay=>?_);refine zg 6 rfl (Cc 0 U underlying27 AG Ba ?_);obtain⟨bf,az,aI⟩:=bs al;refine zg 1 rfl (Ch az rfl rfl rfl ?_);obtain⟨aJ,aK,aL⟩:=bs aI;refine CU (LR aK) rfl rfl Ll ay λbg K am=>Al (v:= .bool (!aJ)) rfl (λρ h=>Yl.not (h _ _ rfl)) ?_;obtain⟨aM,aN,aO⟩:=bs aL;refine zg 1 rfl (Fi 14 1 [] [(2,iV p2),(3,Ak r2 0),(21,.bool aM)] (λbh O ac=>?_) (λap=>?_))
 ·refine zg 2 rfl (Cz aO (λaP aQ=>?_) (λaP aR=>?_))
  ·refine zg 4 rfl ?_;obtain rfl:=oi aQ;exact A2 func86 rfl rfl (Y ((Z.Ad K).Ad O) rfl ⟨rfl,rfl⟩ ac)
  ·refine zg 2 rfl (Cc 0 (U.Ah (K.Ad O)) underlying27 AG Ba ?_);refine Cc 1 (U.Ah (K.Ad O)) underlying27 AG Ba ?_;refine zg 3 rfl (A0 aR (λaS aT=>?_) (λaS aU=>?_))
   ·refine zg 4 rfl ?_;obtain rfl:=oi aT;exact A2 func86 rfl rfl (Y ((Z.Ad K).Ad O) rfl ⟨rfl,rfl⟩ ac)
   ·refine zg 2 rfl (Cc 2 (U.Ah (K.Ad O)) underlying27 AG Ba ?_);obtain⟨aV,aW,aX⟩:=bs aU;refine zg 1 rfl (CU (LR aW) rfl rfl Ll ac λbi aq av=>?_);refine Al (v:= .bool (!aV)) rfl (λρ h=>Yl.not (h _ _ rfl)) (zg 2 rfl ?_);refine Cz aX (λaY aZ=>?_) (λaY a0=>?_)
    ·refine zg 4 rfl ?_;obtain rfl:=oi aZ;exact A2 func86 rfl rfl (Y (((Z.Ad K).Ad O).Ad aq) rfl ⟨rfl,rfl⟩ av)
    ·refine zg 6 rfl ?_;obtain rfl:=oi a0;exact A2 func86 rfl rfl (Y (((Z.Ad K).Ad O).Ad aq) rfl ⟨rfl,rfl⟩ av)
 ·refine EI 14 aN (λa1 a2=>?_) (λa1 a3=>?_)
  ·refine zg 7 rfl ?_;obtain rfl:=oi a2;exact ap Az am rfl
  ·refine Cc 1 (U.Ah K) underlying27 AG Ba ?_;obtain⟨bj,a4,a5⟩:=bs a3;refine zg 1 rfl (Ch a4 rfl rfl rfl ?_);obtain⟨a6,a7,a8⟩:=bs a5;refine CU (LR a7) rfl rfl Ll am λbl a9 ba=>Al (v:= .bool (!a6)) rfl (λρ h=>Yl.not (h _ _ rfl)) (zg 1 rfl ?_);obtain rfl:=oi a8;exact ap a9 ba rfl
def Np(fu_:Nat)(O:List Int)(K:Int):Option (Bn Int ((Int)⊕(Unit))):= if K<(O.length:Int) then((ix O K).bind λU=> (f91 fu_ U 1 9).bind λY=> if(!Y)=true then(some (.done (Sum.inl 1))) else((Aw (K+1)).bind λZ=> some (.more Z))) else(some (.done (Sum.inr ())))
def M8(fu_:Nat)(p0:A6)(K:Int):Option (Bn Int ((Int)⊕(Unit))):= if K<(p0.1.length:Int) then((ix p0.1 K).bind λO=> if 3<(O.length:Int) then(some (.done (Sum.inl 6))) else(Option.bind (iter (Np fu_ O) fu_ 0) λU=> Sum.elim (λr=>some (.done (Sum.inl r))) (λZ=> (Aw (K+1)).bind λY=> some (.more Y)) U)) else(some (.done (Sum.inr ())))
def SX(fu_:Nat)(p0:A6)(K:Int):Option (Bn Int ((Int)⊕(Unit))):= if K<(p0.2.length:Int) then((ix p0.2 K).bind λU=> (f86 fu_ U (p0.1.length:Int) 9).bind λO=> if O≠0 then(some (.done (Sum.inl O))) else((Aw (K+1)).bind λY=> some (.more Y))) else(some (.done (Sum.inr ())))
def f47(fu_:Nat)(p0:A6):Option Int:= if(p0.1.length:Int)<2 then(some 7) else(if 5<(p0.1.length:Int) then(some 6) else(Option.bind (iter (M8 fu_ p0) fu_ 0) λK=> Sum.elim (λr=>some r) (λU=> if 8<(p0.2.length:Int) then(some 6) else(Option.bind (iter (SX fu_ p0) fu_ 0) λO=> Sum.elim (λr=>some r) (λY=> some 0) O)) K))
theorem ZH{a1:Ao}{c2:Nat}{aw:Ao}{ay:Nat}{p0:A6}(bh:Am (rL rI) E a1 c2 p0.1)(bi:Am Ay E aw ay p0.2){fu_:Nat}{r:Int}(aP:f47 fu_ p0=some r):AO J 47 [.agg #[sV a1 p0.1 c2,sV aw p0.2 ay]] E [] (λw E' B'=>w=iV r/\B'= []):=by
 refine Bj func47 λQ cQ cs H bj O=>?_;unfold f47 at aP;refine zg 2 rfl (DD bj λY bl K Z az=>?_);refine zg 5 rfl (Cc 0 Z underlying25 FN F2 ?_);refine JL.ln underlying22 rfl rfl rfl (zg 9 rfl ?_);refine A0 aP (λbm bn=>?_) (λbm bo=>?_)
 ·refine zg 4 rfl ?_;obtain rfl:=oi bn;exact A2 func47 rfl rfl (O K rfl ⟨rfl,rfl⟩ az)
 ·refine zg 6 rfl (A0 bo (λbp bq=>?_) (λbp br=>?_))
  ·refine zg 4 rfl ?_;obtain rfl:=oi bq;exact A2 func47 rfl rfl (O K rfl ⟨rfl,rfl⟩ az)
  ·refine zg 5 rfl (Cc 0 Z underlying25 FN F2 ?_);refine JL.ln underlying22 rfl rfl rfl ?_;obtain⟨aQ,bu,aI⟩:=bs br;refine zg 2 rfl (Bu (λL s=>∃(aR:Unit) (aJ:LH),aQ=Sum.inr aR/\Jm bl H aJ [] [(1,Ak Y 0)] L s) ?_ ?_)
   ·rintro _ _ ⟨aR,aJ,rfl,rfl,rfl,U,aS⟩;have bv:=elim_inr aI;refine zg 3 rfl (Cc 1 (Z.Ah U) underlying25 F4 IB ?_);refine JL.ln underlying23 rfl rfl rfl (zg 2 rfl ?_);refine A0 bv (λbw bx=>?_) (λbw bz=>?_)
    ·refine zg 4 rfl ?_;obtain rfl:=oi bx;exact A2 func47 rfl rfl (O (K.Ad U) rfl ⟨rfl,rfl⟩ aS)
    ·refine zg 4 rfl (Cc 1 (Z.Ah U) underlying25 F4 IB ?_);refine JL.ln underlying23 rfl rfl rfl ?_;obtain⟨aT,bA,aU⟩:=bs bz;refine zg 2 rfl (Bu (λL s=>∃(aV:Unit) (aW:LH),aT=Sum.inr aV/\Jm aJ H aW [] [] L s) ?_ ?_)
     ·rintro _ _ ⟨aV,aW,rfl,rfl,rfl,bB,bC⟩;have bD:=elim_inr aU;refine zg 4 rfl ?_;obtain rfl:=oi bD;exact A2 func47 rfl rfl (O ((K.Ad U).Ad bB) rfl ⟨rfl,rfl⟩ bC)
     ·intro bE;refine JL.block (DO bA (λaK=> []) (λaK=> [(1,Ak Y 0),(46,sV aw p0.2 ay),(47,iV (p0.2.length:Int)),(48,iV aK)]) Az aS ?_);rintro aK bF ac aX aY ⟨cR,ap⟩ bG;have aZ:=ap;unfold SX at aZ;refine zg 5 rfl (A0 aZ (λbH bI=>?_) (λbH bJ=>?_))
      ·obtain⟨cT,bK,bL⟩:=bs bI;refine zg 5 rfl (JS.ix (bi.Ah ((K.Ad U).Ad ac)) bK underlying23 Bf ?_);rintro cV cW _ ⟨_,_,rfl,rfl,⟨_,_,rfl,rfl,rfl⟩⟩ bM;refine CL bM El Bf rfl rfl (BT aX BK λcX bN=>?_);refine BF 0 bN Bf λbO=>?_;refine DJ 0 bO rfl λcY aL bP bQ=>zg 3 rfl (CL bP El Bf rfl rfl ?_);refine Cc 0 (Z.Ah ((U.Ad ac).Ad aL)) underlying25 FN F2 ?_;refine JL.ln underlying22 rfl rfl rfl ?_;obtain⟨cZ,bR,bS⟩:=bs bL;refine CU (Z5 bR) rfl rfl (A7 func86 rfl) bQ λc0 a0 a2=>zg 7 rfl (A0 bS (λbT bU=>?_) (λbT bV=>?_))
       ·refine zg 5 rfl ?_;obtain rfl:=oi bU;obtain rfl:=aY _ ap;have bW:=elim_inl aU;obtain rfl:=oi bW;exact A2 func47 rfl rfl (O ((((K.Ad U).Ad ac).Ad aL).Ad a0) rfl ⟨rfl,rfl⟩ a2)
       ·obtain⟨bY,bZ,b0⟩:=bs bV;refine zg 3 rfl (Bq bZ rfl rfl rfl ?_);refine zg 2 rfl ?_;obtain rfl:=oi b0;exact bG bY ((ac.Ad aL).Ad a0) a2 rfl ap
      ·refine JL.exit rfl ?_;obtain rfl:=oi bJ;have b1:aT=(Sum.inr ()):=(aY _ ap).symm;exact AB (bE _ _ ⟨(),bF,b1,rfl,rfl,ac,aX⟩) rfl
   ·intro b2;refine JL.block (DO bu (λag=> []) (λag=> [(1,Ak Y 0),(21,sV a1 p0.1 c2),(22,iV (p0.1.length:Int)),(23,iV ag)]) Az az ?_);rintro ag a3 al aM aN ⟨c1,am⟩ b3;have a4:=am;unfold M8 at a4;refine zg 5 rfl (A0 a4 (λb4 b5=>?_) (λb4 b6=>?_))
    ·obtain⟨a5,b7,b8⟩:=bs b5;refine zg 5 rfl (JS.ix (bh.Ah (K.Ad al)) b7 underlying22 Fy ?_);rintro c3 c4 _ ⟨b9,ca,rfl,cb⟩ cc;refine C4 0 cc Jj rfl rfl rfl (zg 6 rfl ?_);refine JL.ln underlying28 rfl rfl rfl (zg 2 rfl ?_);refine A0 b8 (λcd ce=>?_) (λcd cf=>?_)
     ·refine zg 4 rfl ?_;obtain rfl:=oi ce;obtain rfl:=aN _ am;have cg:=elim_inl aI;obtain rfl:=oi cg;exact A2 func47 rfl rfl (O (K.Ad al) rfl ⟨rfl,rfl⟩ aM)
     ·refine zg 4 rfl (JL.ln underlying28 rfl rfl rfl ?_);obtain⟨a6,ci,a7⟩:=bs cf;refine zg 2 rfl (Bu (λL s=>∃(a8:Unit) (a9:LH),a6=Sum.inr a8/\Jm a3 H a9 [] [(1,Ak Y 0),(21,sV a1 p0.1 c2),(22,iV (p0.1.length:Int)),(23,iV ag)] L s) ?_ ?_)
      ·rintro _ _ ⟨a8,a9,rfl,rfl,rfl,ck,cm⟩;have cn:=elim_inr a7;obtain⟨co,cp,cq⟩:=bs cn;refine zg 2 rfl (Bq cp rfl rfl rfl ?_);refine zg 2 rfl ?_;obtain rfl:=oi cq;exact b3 co (al.Ad ck) cm rfl am
      ·intro cr;refine JL.block (DO ci (λaO=> []) (λaO=> [(1,Ak Y 0),(21,sV a1 p0.1 c2),(22,iV (p0.1.length:Int)),(23,iV ag),(30,sV b9 a5 ca),(31,iV (a5.length:Int)),(32,iV aO)]) Az aM ?_);rintro aO ct aq ba bb ⟨c5,av⟩ cu;have be:=av;unfold Np at be;refine zg 5 rfl (A0 be (λcv cw=>?_) (λcv cy=>?_))
       ·obtain⟨c6,cz,cA⟩:=bs cw;refine zg 5 rfl (JS.ix (cb.Ah aq) cz underlying28 AG ?_);rintro c7 c8 _ rfl cB;refine C4 0 cB Ba rfl rfl rfl ?_;obtain⟨cC,cD,cE⟩:=bs cA;refine zg 5 rfl (CU (LR cD) rfl rfl Ll ba λc9 bf bg=>?_);refine Al (v:= .bool (!cC)) rfl (λρ h=>Yl.not (h _ _ rfl)) (JL.done ?_);refine Cz cE (λcF cG=>?_) (λcF cH=>?_)
        ·refine zg 4 rfl ?_;obtain rfl:=oi cG;obtain rfl:=bb _ av;have cI:=elim_inl a7;obtain rfl:=oi cI;obtain rfl:=aN _ am;have cJ:=elim_inl aI;obtain rfl:=oi cJ;exact A2 func47 rfl rfl (O (((K.Ad al).Ad aq).Ad bf) rfl ⟨rfl,rfl⟩ bg)
        ·obtain⟨cK,cM,cN⟩:=bs cH;refine zg 3 rfl (Bq cM rfl rfl rfl ?_);refine zg 2 rfl ?_;obtain rfl:=oi cN;exact cu cK (aq.Ad bf) bg rfl av
       ·refine JL.exit rfl ?_;obtain rfl:=oi cy;have cO:a6=(Sum.inr ()):=(bb _ av).symm;exact AB (cr _ _ ⟨(),ct,cO,rfl,rfl,aq,ba⟩) rfl
    ·refine JL.exit rfl ?_;obtain rfl:=oi b6;have cP:aQ=(Sum.inr ()):=(aN _ am).symm;exact AB (b2 _ _ ⟨(),a3,cP,rfl,rfl,al,aM⟩) rfl
def Nq(fu_:Nat)(p0:A6)(O:(List Int)×Int):Option (Bn ((List Int)×Int) ((List Int))):= if O.2<(p0.2.length:Int) then((ix p0.2 O.2).bind λK=> (ix O.1 K.2.1).bind λY=> (Aw (Y+K.2.2)).bind λU=> (ix O.1 K.2.1).bind λal=> (ix (O.1.set (Int.toNat K.2.1) U) K.1).bind λZ=> (Aw (Z - K.2.2)).bind λac=> (ix (O.1.set (Int.toNat K.2.1) U) K.1).bind λam=> (Aw (O.2+1)).bind λag=> some (.more (((O.1.set (Int.toNat K.2.1) U).set (Int.toNat K.1) ac),ag))) else(some (.done O.1))
def f84(fu_:Nat)(p0:A6):Option ((List Int)):= Option.bind (iter (Nq fu_ p0) fu_ ((List.replicate 5 (0:Int)),0)) λK=> some K
theorem PK{a1:Ao}{c2:Nat}{aP:Ao}{aQ:Nat}{p0:A6}(bV:Am (rL rI) E a1 c2 p0.1)(ba:Am Ay E aP aQ p0.2){fu_:Nat}{r:(List Int)}(aX:f84 fu_ p0=some r):AO J 84 [.agg #[sV a1 p0.1 c2,sV aP p0.2 aQ]] E [] (λw E' B'=>∃(aY:Lv_),w= .agg aY.toArray/\B'= []/\(rA 5 rI).r E' aY r):=by
 refine Bj func84 λQ bW cs H bb be=>?_;unfold f84 at aX;refine zg 2 rfl (DD bb λbY aJ aZ bf bg=>?_);refine BT bg Ky λaK bh=>?_;refine zg 3 rfl (BT bh Ky λU bi=>?_);refine zg 4 rfl (JL.fd underlying77 CJ rfl rfl rfl ?_);refine Cc 1 bf underlying25 F4 IB ?_;refine JL.ln underlying23 rfl rfl rfl ?_;obtain⟨bj,bl,bm⟩:=bs aX;refine zg 2 rfl (Bu (λL s=>∃(aw:LH) (Y:Lv_),Jn aJ H aw [bX aK (([]:Lv_)++(List.replicate 5 (iV 0):Lv_)).toArray 105,bX U (([]:Lv_)++Y).toArray 105] [(2,Ak aK 0),(3,Ak U 0)] L s ((rA 5 rI).r aw Y bj)) ?_ ?_)
 ·rintro _ _ ⟨aw,Y,rfl,rfl,bn,a0,ac⟩;refine zg 2 rfl (Al (v:= .agg Y.toArray) rfl (λρ h=>H4 (kk:=5) (pp:=rI) ac IA IW (h _ _ rfl) (GF (l:= []) 1 a0 rfl)) ?_);refine Hq (v:= .agg Y.toArray) (l:= []) (ws:=(List.replicate 5 (iV 0):Lv_)) (us:=Y) (o:=0) 0 rfl rfl rfl a0 rfl rfl rfl (by rw [B9 (kk:=5) (pp:=rI) ac];exact AQ type105) ((rA 5 rI).one ac) rfl (by rw [B9 (kk:=5) (pp:=rI) ac,B9 (kk:=5) (pp:=rI) (GI (E:=aw) (pp:=rI) rfl)];omega) λa2=>?_;rw [Js (by rw [B9 (kk:=5) (pp:=rI) ac,B9 (kk:=5) (pp:=rI) (GI (E:=aw) (pp:=rI) rfl)])] at a2 ⊢;refine JL.done (JS.drop 1 a2 rfl λa3=>?_);obtain rfl:=oi bm;refine JL.ret (v:= .agg Y.toArray) rfl rfl (Bx.list func84 rfl (vs:= [.agg Y.toArray]) ⟨⟨_,rfl,Ld.many (vs:=Y) IA (by rw [B9 (kk:=5) (pp:=rI) ac];exact AQ type105) (GF (l:= []) 0 a3 rfl)⟩,trivial⟩) (Ef 0 a3 rfl λbo=>?_);exact be (aZ.Ad bn) rfl ⟨Y,rfl,rfl,ac⟩ bo
 ·intro bp;refine JL.block (CP bl (λL s al=>∃(aL:LH) (am:Lv_),Jn aJ H aL [bX aK (([]:Lv_)++(List.replicate 5 (iV 0):Lv_)).toArray 105,bX U (([]:Lv_)++am).toArray 105] [(2,Ak aK 0),(3,Ak U 0),(8,sV aP p0.2 aQ),(9,iV (p0.2.length:Int)),(10,iV al.2)] L s ((rA 5 rI).r aL am al.1)) ⟨aJ,(List.replicate 5 (iV 0):Lv_),rfl,rfl,Az,bi,(GI (E:=aJ) (pp:=rI) rfl)⟩ ?_);rintro _ _ al ⟨aL,am,rfl,rfl,aR,a4,ap⟩ bq ⟨bZ,aS⟩ br;have a5:=aS;unfold Nq at a5;refine zg 5 rfl (A0 a5 (λbu bv=>?_) (λbu bw=>?_))
  ·obtain⟨K,bx,bz⟩:=bs bv;refine zg 5 rfl (JS.ix (ba.Ah (aZ.Ad aR)) bx underlying23 Bf ?_);rintro b0 b1 _ ⟨_,_,rfl,rfl,⟨_,_,rfl,rfl,rfl⟩⟩ bA;refine CL bA El Bf rfl rfl (BT a4 BK λb2 bB=>?_);refine BF 2 bB Bf λbC=>?_;refine DJ 2 bC rfl λaT aq aM ay=>zg 2 rfl (Fj 6 [U] ⟨⟨1,_,rfl⟩,trivial⟩ ay λO=>?_);refine JG.fd 0 O underlying27 AG rfl rfl rfl rfl (JG.lp 1 O 1 aM ay ⟨⟨1,_,rfl⟩,trivial⟩ Ba ?_);obtain⟨bD,a6,bE⟩:=bs bz;obtain⟨_,rfl,_,_,bF⟩:=Hr (kk:=5) (pp:=rI) (Rp.Ah _ aq ap) a6;refine AN (v:= .pointer (some ⟨U,0+Int.toNat (K.2.1)*1,none⟩)) 2 O rfl rfl (λρ h s' az=>I3 (kk:=5) (pp:=rI) (Rp.Ah _ aq ap) a6 underlying105 AG (h _ _ rfl) (h _ _ rfl)) (AN (v:=iV bD) 3 O rfl rfl (λρ h s' az=>Yl.load Ba (h _ _ rfl) (Mz (l:= []) 1 ay rfl (by simp [AV]) az (bF 0 _ rfl))) ?_);refine JG.fd 4 O underlying27 AG rfl rfl rfl rfl (JG.lp 5 O 2 aM ay ⟨⟨1,_,rfl⟩,trivial⟩ Ba ?_);refine Dp [6,7,8] ?_;obtain⟨Z,bG,bH⟩:=bs bE;refine Bq bG rfl rfl rfl ?_;obtain⟨b3,aU,bI⟩:=bs bH;obtain⟨_,rfl,_,_,b4⟩:=Hr (kk:=5) (pp:=rI) (Rp.Ah _ aq ap) aU;refine Al (v:= .pointer (some ⟨U,0+Int.toNat (K.2.1)*1,none⟩)) rfl (λρ h=>I3 (kk:=5) (pp:=rI) (Rp.Ah _ aq ap) aU underlying105 AG (h _ _ rfl) (h _ _ rfl)) ?_;have aN:=Nr (us:= [iV Z]) (y:=Z) (Rp.Ah _ aq ap) aU rfl;refine Hq (v:=iV Z) (l:= []) (ws:=am) (us:= [iV Z]) (o:=Int.toNat (K.2.1)*1) 1 rfl rfl rfl ay rfl rfl rfl AG (by simp [Value.cells,CW]) rfl aN.2 λav=>?_;replace aN:=aN.1;generalize bJ:Ir am (Int.toNat (K.2.1)*1) [iV Z]=aV at av ⊢;have aI:(rA 5 rI).r aT aV (al.1.set (Int.toNat K.2.1) Z):=by rw [← bJ];exact aN
   refine JL.done (Fj 6 [U] ⟨⟨1,_,rfl⟩,trivial⟩ av λO=>?_);refine JG.fd 0 O underlying27 AG rfl rfl rfl rfl (JG.lp 1 O 0 aM av ⟨⟨1,_,rfl⟩,trivial⟩ Ba ?_);obtain⟨bK,a7,bL⟩:=bs bI;obtain⟨_,rfl,_,_,bM⟩:=Hr (kk:=5) (pp:=rI) aI a7;refine AN (v:= .pointer (some ⟨U,0+Int.toNat (K.1)*1,none⟩)) 2 O rfl rfl (λρ h s' az=>I3 (kk:=5) (pp:=rI) aI a7 underlying105 AG (h _ _ rfl) (h _ _ rfl)) (AN (v:=iV bK) 3 O rfl rfl (λρ h s' az=>Yl.load Ba (h _ _ rfl) (Mz (l:= []) 1 av rfl (by simp [AV]) az (bM 0 _ rfl))) ?_);refine JG.fd 4 O underlying27 AG rfl rfl rfl rfl (JG.lp 5 O 2 aM av ⟨⟨1,_,rfl⟩,trivial⟩ Ba ?_);refine Dp [6,7,8] ?_;obtain⟨ag,bN,bO⟩:=bs bL;refine Ch bN rfl rfl rfl ?_;obtain⟨b5,aW,bP⟩:=bs bO;obtain⟨_,rfl,_,_,b6⟩:=Hr (kk:=5) (pp:=rI) aI aW;refine Al (v:= .pointer (some ⟨U,0+Int.toNat (K.1)*1,none⟩)) rfl (λρ h=>I3 (kk:=5) (pp:=rI) aI aW underlying105 AG (h _ _ rfl) (h _ _ rfl)) ?_;have aO:=Nr (us:= [iV ag]) (y:=ag) aI aW rfl;refine Hq (v:=iV ag) (l:= []) (ws:=aV) (us:= [iV ag]) (o:=Int.toNat (K.1)*1) 1 rfl rfl rfl av rfl rfl rfl AG (by simp [Value.cells,CW]) rfl aO.2 λa8=>?_;replace aO:=aO.1;generalize bQ:Ir aV (Int.toNat (K.1)*1) [iV ag]=a9 at a8 ⊢;have bR:(rA 5 rI).r aT a9 ((al.1.set (Int.toNat K.2.1) Z).set (Int.toNat K.1) ag):=by rw [← bQ];exact aO
   obtain⟨bS,bT,bU⟩:=bs bP;refine zg 3 rfl (Bq bT rfl rfl rfl ?_);refine zg 2 rfl ?_;obtain rfl:=oi bU;exact AB (br _ _ (((al.1.set (Int.toNat K.2.1) Z).set (Int.toNat K.1) ag),bS) ⟨aT,a9,rfl,rfl,(aR.Ad aq),a8,bR⟩ aS) rfl
  ·refine JL.exit rfl ?_;obtain rfl:=oi bw;obtain rfl:=bq _ aS;exact AB (bp _ _ ⟨aL,am,rfl,rfl,aR,a4,ap⟩) rfl
def f204(fu_:Nat)(p0:List Int)(K:Int×Int×Int):Option ((List Int)):= (ix p0 K.1).bind λU=> (Aw (U+K.2.2)).bind λO=> (ix p0 K.1).bind λac=> (ix (p0.set (Int.toNat K.1) O) K.2.1).bind λY=> (Aw (Y - K.2.2)).bind λZ=> (ix (p0.set (Int.toNat K.1) O) K.2.1).bind λag=> some ((p0.set (Int.toNat K.1) O).set (Int.toNat K.2.1) Z)
theorem Ia{w1:Lv_}{p0:List Int}{K:Int×Int×Int}(am:(rA 5 rI).r E w1 p0){fu_:Nat}{r:(List Int)}(aN:f204 fu_ p0 K=some r):AO J 204 [.agg w1.toArray,.agg #[iV K.1,iV K.2.1,iV K.2.2]] E [] (λw E' B'=>∃(aO:Lv_),w= .agg aO.toArray/\B'= []/\(rA 5 rI).r E' aO r):=by
 refine Bj func204 λQ be cs H aT aU=>?_;unfold f204 at aN;refine zg 2 rfl (JS.box (v:= .agg w1.toArray) rfl rfl rfl aT rfl λr3 aV=>?_);refine DD aV λbf aw ac ay aW=>?_;refine BT aW Ky λbg ap=>?_;refine zg 2 rfl (Fj 6 [r3] ⟨⟨1,_,rfl⟩,trivial⟩ ap λO=>?_);refine JG.fd 0 O underlying27 AG rfl rfl rfl rfl (JG.lp 1 O 0 ay ap ⟨⟨1,_,rfl⟩,trivial⟩ Ba ?_);obtain⟨aX,aP,aY⟩:=bs aN;obtain⟨_,rfl,_,_,aZ⟩:=Hr (kk:=5) (pp:=rI) (Rp.Ah _ ac am) aP;refine AN (v:= .pointer (some ⟨r3,0+Int.toNat (K.1)*1,none⟩)) 2 O rfl rfl (λρ h s' aq=>I3 (kk:=5) (pp:=rI) (Rp.Ah _ ac am) aP underlying105 AG (h _ _ rfl) (h _ _ rfl)) (AN (v:=iV aX) 3 O rfl rfl (λρ h s' aq=>Yl.load Ba (h _ _ rfl) (Mz (l:= []) 1 ap rfl (by simp [AV]) aq (aZ 0 _ rfl))) ?_);refine JG.fd 4 O underlying27 AG rfl rfl rfl rfl (JG.lp 5 O 2 ay ap ⟨⟨1,_,rfl⟩,trivial⟩ Ba ?_);refine Dp [6,7,8] ?_;obtain⟨Y,a0,a1⟩:=bs aY;refine Bq a0 rfl rfl rfl ?_;obtain⟨bh,aJ,a2⟩:=bs a1;obtain⟨_,rfl,_,_,bi⟩:=Hr (kk:=5) (pp:=rI) (Rp.Ah _ ac am) aJ;refine Al (v:= .pointer (some ⟨r3,0+Int.toNat (K.1)*1,none⟩)) rfl (λρ h=>I3 (kk:=5) (pp:=rI) (Rp.Ah _ ac am) aJ underlying105 AG (h _ _ rfl) (h _ _ rfl)) ?_;have az:=Nr (us:= [iV Y]) (y:=Y) (Rp.Ah _ ac am) aJ rfl;refine Hq (v:=iV Y) (l:= []) (ws:=w1) (us:= [iV Y]) (o:=Int.toNat (K.1)*1) 1 rfl rfl rfl ap rfl rfl rfl AG (by simp [Value.cells,CW]) rfl az.2 λag=>?_;replace az:=az.1;generalize a3:Ir w1 (Int.toNat (K.1)*1) [iV Y]=aK at ag ⊢;have av:(rA 5 rI).r aw aK (p0.set (Int.toNat K.1) Y):=by rw [← a3];exact az
 refine zg 2 rfl (Fj 6 [r3] ⟨⟨1,_,rfl⟩,trivial⟩ ag λO=>?_);refine JG.fd 0 O underlying27 AG rfl rfl rfl rfl (JG.lp 1 O 1 ay ag ⟨⟨1,_,rfl⟩,trivial⟩ Ba ?_);obtain⟨a4,aQ,a5⟩:=bs a2;obtain⟨_,rfl,_,_,a6⟩:=Hr (kk:=5) (pp:=rI) av aQ;refine AN (v:= .pointer (some ⟨r3,0+Int.toNat (K.2.1)*1,none⟩)) 2 O rfl rfl (λρ h s' aq=>I3 (kk:=5) (pp:=rI) av aQ underlying105 AG (h _ _ rfl) (h _ _ rfl)) (AN (v:=iV a4) 3 O rfl rfl (λρ h s' aq=>Yl.load Ba (h _ _ rfl) (Mz (l:= []) 1 ag rfl (by simp [AV]) aq (a6 0 _ rfl))) ?_);refine JG.fd 4 O underlying27 AG rfl rfl rfl rfl (JG.lp 5 O 2 ay ag ⟨⟨1,_,rfl⟩,trivial⟩ Ba ?_);refine Dp [6,7,8] ?_;obtain⟨al,a7,a8⟩:=bs a5;refine Ch a7 rfl rfl rfl ?_;obtain⟨bj,aL,a9⟩:=bs a8;obtain⟨_,rfl,_,_,bl⟩:=Hr (kk:=5) (pp:=rI) av aL;refine Al (v:= .pointer (some ⟨r3,0+Int.toNat (K.2.1)*1,none⟩)) rfl (λρ h=>I3 (kk:=5) (pp:=rI) av aL underlying105 AG (h _ _ rfl) (h _ _ rfl)) ?_;have aI:=Nr (us:= [iV al]) (y:=al) av aL rfl;refine Hq (v:=iV al) (l:= []) (ws:=aK) (us:= [iV al]) (o:=Int.toNat (K.2.1)*1) 1 rfl rfl rfl ag rfl rfl rfl AG (by simp [Value.cells,CW]) rfl aI.2 λaM=>?_;replace aI:=aI.1;generalize ba:Ir aK (Int.toNat (K.2.1)*1) [iV al]=U at aM ⊢;have Z:(rA 5 rI).r aw U ((p0.set (Int.toNat K.1) Y).set (Int.toNat K.2.1) al):=by rw [← ba];exact aI
 refine zg 3 rfl (Al (v:= .agg U.toArray) rfl (λρ h=>H4 (kk:=5) (pp:=rI) Z IA IW (h _ _ rfl) (GF (l:= []) 1 aM rfl)) ?_);refine Hq (v:= .agg U.toArray) (l:= []) (ws:=(List.replicate 5 (iV 0):Lv_)) (us:=U) (o:=0) 3 rfl rfl rfl aM rfl rfl rfl (by rw [B9 (kk:=5) (pp:=rI) Z];exact AQ type105) ((rA 5 rI).one Z) rfl (by rw [B9 (kk:=5) (pp:=rI) Z,B9 (kk:=5) (pp:=rI) (GI (E:=aw) (pp:=rI) rfl)];omega) λaR=>?_;rw [Js (by rw [B9 (kk:=5) (pp:=rI) Z,B9 (kk:=5) (pp:=rI) (GI (E:=aw) (pp:=rI) rfl)])] at aR ⊢;refine JL.done (JS.drop 1 aR rfl λaS=>?_);obtain rfl:=oi a9;refine JL.ret (v:= .agg U.toArray) rfl rfl (Bx.list func204 rfl (vs:= [.agg U.toArray]) ⟨⟨_,rfl,Ld.many (vs:=U) IA (by rw [B9 (kk:=5) (pp:=rI) Z];exact AQ type105) (GF (l:= []) 3 aS rfl)⟩,trivial⟩) (Ef 3 aS rfl λbb=>?_);exact aU ac rfl ⟨U,rfl,rfl,Z⟩ bb
def f106(fu_:Nat)(p0:Int)(K:Int):Option Nat:= (Aw (max p0 K - 1)).bind λO=> (ix ([1,2,4,8]:List Nat) O).bind λU=> (Aw (4*(min p0 K))).bind λY=> (Pf U Y).bind λZ=> some Z
theorem Yf{p0:Int}{K:Int}{fu_:Nat}{r:Nat}(O:f106 fu_ p0 K=some r):AO J 106 [iV p0,iV K] E [] (λw E' B'=>w= .int .u32 ((r:Nat):Int)/\B'= []):=by
 refine Bj func106 λQ ay cs H U Y=>?_;unfold f106 at O;refine zg 8 rfl (Al (v:=iV (min p0 K)) rfl (λρ h=>Yl.min2 (h _ _ rfl) (h _ _ rfl)) ?_);refine zg 2 rfl (Al (v:=iV (max p0 K)) rfl (λρ h=>Yl.max2 (h _ _ rfl) (h _ _ rfl)) ?_);refine zg 5 rfl (Al (v:= .agg (([1,2,4,8]:List Nat).map λx=>Value.int .u32 ((x:Nat):Int)).toArray) rfl (λρ h=>Xt h underlying164 (Dh type164) (AQ type86) rfl rfl) ?_);obtain⟨az,Z,ac⟩:=bs O;refine zg 1 rfl (Ch Z rfl rfl rfl ?_);obtain⟨aI,ag,al⟩:=bs ac;refine SO (W4 (E:=E) ([1,2,4,8]:List Nat)) ag rfl rfl rfl rfl rfl underlying164 (AQ type86) (CO underlying86) ?_ (λ_=>rfl);rintro _ rfl;obtain⟨aJ,am,ap⟩:=bs al;refine zg 1 rfl (Al rfl (λρ h=>MJ (h _ _ rfl) (h _ _ rfl) am) ?_);obtain⟨aq,av,aw⟩:=bs ap;refine Al (v:= .int .u32 ((aq:Nat):Int)) rfl (λρ h=>VC (h _ _ rfl) (h _ _ rfl) av) (zg 2 rfl ?_);obtain rfl:=oi aw;exact A2 func106 rfl rfl (Y Az rfl ⟨rfl,rfl⟩ U)
def f136(fu_:Nat)(p0:Nat)(K:Int)(p2:Int):Option Bool:= (f106 fu_ K p2).bind λO=> (Pq p0 O).bind λU=> some (decide ((((U):Nat):Int)≠(((0):Nat):Int)))
theorem X2{p0:Nat}{K:Int}{p2:Int}{fu_:Nat}{r:Bool}(O:f136 fu_ p0 K p2=some r):AO J 136 [.int .u32 ((p0:Nat):Int),iV K,iV p2] E [] (λw E' B'=>w= .bool r/\B'= []):=by
 refine Bj func136 λQ av cs H U Y=>?_;unfold f136 at O;obtain⟨aw,Z,ac⟩:=bs O;refine zg 9 rfl (CU (Yf Z) rfl rfl (A7 func106 rfl) U λay ag al=>?_);obtain⟨am,ap,aq⟩:=bs ac;refine Al (v:= .int .u32 ((am:Nat):Int)) rfl (λρ h=>U0 (h _ _ rfl) (h _ _ rfl) ap) (zg 3 rfl ?_);obtain rfl:=oi aq;exact A2 func136 rfl rfl (Y ag rfl ⟨rfl,rfl⟩ al)
def M1(fu_:Nat)(O:(AA)×Int)(K:(AA)×Int):Option (Bn ((AA)×Int) ((AA))):= if K.2<O.2 then((room K.1 (K.2,O.2)).bind λU=> (Aw (K.2+1)).bind λY=> some (.more (U,Y))) else(some (.done K.1))
def MS(fu_:Nat)(p0:A6)(K:(AA)×Int):Option (Bn ((AA)×Int) ((AA))):= if K.2<(p0.1.length:Int) then(Option.bind (iter (M1 fu_ K) fu_ (K.1,0)) λO=> (Aw (K.2+1)).bind λU=> some (.more (O,U))) else(some (.done K.1))
def f133(fu_:Nat)(p0:A6):Option ((AA)):= Option.bind (iter (MS fu_ p0) fu_ ([],0)) λK=> some K
theorem Ys{a1:Ao}{c2:Nat}{aP:Ao}{aQ:Nat}{p0:A6}(bS:Am (rL rI) E a1 c2 p0.1)(bT:Am Ay E aP aQ p0.2){fu_:Nat}{r:(AA)}(aR:f133 fu_ p0=some r):AO J 133 [.agg #[sV a1 p0.1 c2,sV aP p0.2 aQ]] E [] (λw E' B'=>∃(aS:Ao) (aT:Nat),w= sV aS r aT/\B'= []/\Am DX E' aS aT r):=by
 refine Bj func133 λQ bU cs H a4 a5=>?_;unfold f133 at aR;refine zg 2 rfl (DD a4 λbV aJ a6 a7 a8=>?_);refine zg 9 rfl (JL.fd underlying77 CJ rfl rfl rfl ?_);refine Cc 0 a7 underlying25 FN F2 ?_;refine JL.ln underlying22 rfl rfl rfl ?_;obtain⟨aU,a9,ba⟩:=bs aR;refine zg 2 rfl (Bu (λL s=>∃(aK:LH) (ap:Ao) (aq:Nat) (aL:Seg),Jn aJ H aK [aL] [(3,sV ap aU aq)] L s (OL 101 DX aK ap aq aL aU)) ?_ ?_)
 ·rintro _ _ ⟨aK,ap,aq,aL,rfl,rfl,bb,be,bf⟩;refine zg 5 rfl (B8 0 bf be rfl λbW bg bh bi=>?_);obtain rfl:=oi ba;exact A2 func133 rfl rfl (a5 ((a6.Ad bb).Ad bg) rfl ⟨ap,aq,rfl,rfl,bh⟩ bi)
 ·intro bj;refine JL.block (CP a9 (λL s K=>∃(O:LH) (Y:Ao) (Z:Nat) (ac:Seg),Jn aJ H O [ac] [(3,sV Y K.1 Z),(9,iV (p0.1.length:Int)),(10,iV K.2)] L s (OL 101 DX O Y Z ac K.1)) ⟨aJ,none,0,[],rfl,rfl,Az,a8,OL.nil⟩ ?_);rintro _ _ K ⟨O,Y,Z,ac,rfl,rfl,aV,aW,aX⟩ bl ⟨bY,aM⟩ bm;have aY:=aM;unfold MS at aY;refine zg 5 rfl (A0 aY (λbn bo=>?_) (λbn bp=>?_))
  ·obtain⟨aN,bq,br⟩:=bs bo;refine zg 13 rfl (Bu (λL s=>∃(av:LH) (aw:Ao) (ay:Nat) (az:Seg),Jn O H av [az] [(3,sV aw aN ay),(9,iV (p0.1.length:Int)),(10,iV K.2)] L s (OL 101 DX av aw ay az aN)) ?_ ?_)
   ·rintro _ _ ⟨av,aw,ay,az,rfl,rfl,bu,bv,bw⟩;obtain⟨bx,bz,bA⟩:=bs br;refine zg 2 rfl (Bq bz rfl rfl rfl ?_);refine zg 2 rfl ?_;obtain rfl:=oi bA;exact AB (bm _ _ (aN,bx) ⟨av,aw,ay,az,rfl,rfl,(aV.Ad bu),bv,bw⟩ aM) rfl
   ·intro bB;refine JL.block (CP bq (λL s U=>∃(ag:LH) (al:Ao) (am:Nat) (aI:Seg),Jn O H ag [aI] [(3,sV al U.1 am),(4,iV K.2),(9,iV (p0.1.length:Int)),(10,iV K.2),(13,iV K.2),(14,iV U.2)] L s (OL 101 DX ag al am aI U.1)) ⟨O,Y,Z,ac,rfl,rfl,Az,aW,aX⟩ ?_);rintro _ _ U ⟨ag,al,am,aI,rfl,rfl,aZ,a0,a2⟩ bC ⟨bZ,aO⟩ bD;have a3:=aO;unfold M1 at a3;refine zg 5 rfl (A0 a3 (λbE bF=>?_) (λbE bG=>?_))
    ·refine zg 12 rfl (Al (v:= .agg #[iV U.2,iV K.2]) rfl (λρ h=>Da [(0,1),(1,1)] h IV underlying101 ⟨rfl,AQ type3,rfl,AQ type3,trivial⟩ rfl rfl) ?_);obtain⟨bH,bI,bJ⟩:=bs bF;refine JS.app (pp:=DX) (v:= .agg #[iV U.2,iV K.2]) (a:=al) (c:=am) 0 bI rfl rfl rfl rfl (λ_=>rfl) rfl (λ_=>rfl) rfl rfl rfl underlying167 underlying167 underlying167 FM (Dl type101) IV rfl (by decide) (by decide) (by decide) (by decide) a2 ⟨_,_,rfl,rfl,rfl⟩ a0 rfl λb0 bK bL bM bN bO=>?_;obtain⟨bP,bQ,bR⟩:=bs bJ;refine zg 4 rfl (Bq bQ rfl rfl rfl ?_);refine zg 2 rfl ?_;obtain rfl:=oi bR;exact AB (bD _ _ (bH,bP) ⟨ag,bK,bL,bM,rfl,rfl,aZ,bO,bN⟩ aO) rfl
    ·refine JL.exit rfl ?_;obtain rfl:=oi bG;obtain rfl:=bC _ aO;exact AB (bB _ _ ⟨ag,al,am,aI,rfl,rfl,aZ,a0,a2⟩) rfl
  ·refine JL.exit rfl ?_;obtain rfl:=oi bp;obtain rfl:=bl _ aM;exact AB (bj _ _ ⟨O,Y,Z,ac,rfl,rfl,aV,aW,aX⟩) rfl
def f113(fu_:Nat)(p0:Int×Int×Int)(K:Int×Int×Int):Option Int:= if p0.1≠K.1 then((Aw (p0.1 - K.1)).bind λO=> some O) else(if p0.2.1≠K.2.1 then((Aw (p0.2.1 - K.2.1)).bind λU=> some U) else((Aw (p0.2.2 - K.2.2)).bind λY=> some Y))
theorem Te{p0:Int×Int×Int}{Y:Int×Int×Int}{fu_:Nat}{r:Int}(al:f113 fu_ p0 Y=some r):AO J 113 [.agg #[iV p0.1,iV p0.2.1,iV p0.2.2],.agg #[iV Y.1,iV Y.2.1,iV Y.2.2]] E [] (λw E' B'=>w=iV r/\B'= []):=by
 refine Bj func113 λQ aP cs H am Z=>?_;unfold f113 at al;refine zg 2 rfl (DD am λr2 aQ ac O ap=>?_);refine DD ap λaR aS K U ag=>?_;refine zg 6 rfl (Cc 0 (O.Ah K) underlying27 AG Ba ?_);refine Cc 0 U underlying27 AG Ba ?_;refine zg 3 rfl (A0 al (λaq av=>?_) (λaq aw=>?_))
 ·refine zg 2 rfl (Cc 0 (O.Ah K) underlying27 AG Ba ?_);refine Cc 0 U underlying27 AG Ba ?_;obtain⟨aT,ay,az⟩:=bs av;refine Ch ay rfl rfl rfl (zg 2 rfl ?_);obtain rfl:=oi az;exact A2 func113 rfl rfl (Z (ac.Ad K) rfl ⟨rfl,rfl⟩ ag)
 ·refine zg 2 rfl (Cc 1 (O.Ah K) underlying27 AG Ba ?_);refine Cc 1 U underlying27 AG Ba ?_;refine zg 3 rfl (A0 aw (λaI aJ=>?_) (λaI aK=>?_))
  ·refine zg 2 rfl (Cc 1 (O.Ah K) underlying27 AG Ba ?_);refine Cc 1 U underlying27 AG Ba ?_;obtain⟨aU,aL,aM⟩:=bs aJ;refine Ch aL rfl rfl rfl (zg 2 rfl ?_);obtain rfl:=oi aM;exact A2 func113 rfl rfl (Z (ac.Ad K) rfl ⟨rfl,rfl⟩ ag)
  ·refine zg 4 rfl (Cc 2 (O.Ah K) underlying27 AG Ba ?_);refine Cc 2 U underlying27 AG Ba ?_;obtain⟨aV,aN,aO⟩:=bs aK;refine Ch aN rfl rfl rfl (zg 2 rfl ?_);obtain rfl:=oi aO;exact A2 func113 rfl rfl (Z (ac.Ad K) rfl ⟨rfl,rfl⟩ ag)
def Nk(fu_:Nat)(p0:List Int)(K:Int×Int):Option (Bn (Int×Int) Int):= if K.2<(p0.length:Int) then((ix p0 K.2).bind λO=> (Aw (K.1+O)).bind λU=> (Aw (K.2+1)).bind λY=> some (.more (U,Y))) else(some (.done K.1))
def f85(fu_:Nat)(p0:List Int):Option Int:= Option.bind (iter (Nk fu_ p0) fu_ (0,0)) λK=> some K
theorem Hz{a1:Ao}{c2:Nat}{p0:List Int}(ag:Am rI E a1 c2 p0){fu_:Nat}{r:Int}(Y:f85 fu_ p0=some r):AO J 85 [sV a1 p0 c2] E [] (λw E' B'=>w=iV r/\B'= []):=by
 refine Bj func85 λQ aW cs H al am=>?_;unfold f85 at Y;refine zg 12 rfl (JL.ln underlying28 rfl rfl rfl ?_);obtain⟨ap,aq,av⟩:=bs Y;refine zg 2 rfl (EN [] [(3,iV ap)] (λaX aw ay=>?_) (λaz=>?_))
 ·refine zg 5 rfl ?_;obtain rfl:=oi av;exact A2 func85 rfl rfl (am aw rfl ⟨rfl,rfl⟩ ay)
 ·refine JL.block (DO aq (λK=> []) (λK=> [(3,iV K.1),(6,sV a1 p0 c2),(7,iV (p0.length:Int)),(8,iV K.2)]) Az al ?_);rintro K aY O Z aI ⟨aZ,U⟩ aJ;have ac:=U;unfold Nk at ac;refine zg 5 rfl (A0 ac (λaK aL=>?_) (λaK aM=>?_))
  ·obtain⟨a0,aN,aO⟩:=bs aL;refine zg 5 rfl (JS.ix (ag.Ah O) aN underlying28 AG ?_);rintro a2 a3 _ rfl aP;refine C4 0 aP Ba rfl rfl rfl ?_;obtain⟨aQ,aR,aS⟩:=bs aO;refine zg 5 rfl (Bq aR rfl rfl rfl ?_);obtain⟨aT,aU,aV⟩:=bs aS;refine zg 4 rfl (Bq aU rfl rfl rfl ?_);refine zg 2 rfl ?_;obtain rfl:=oi aV;exact aJ (aQ,aT) O Z rfl U
  ·refine JL.exit rfl ?_;obtain rfl:=oi aM;obtain rfl:=aI _ U;exact az O Z rfl
end Pal
namespace Pal
open Go Go.Conc
section
variable {P:Program}{J:Judge P}{Q:Gs_}{b:Frame}{n:Nat}{ds:Ld_}{ops:Ao_}{k:Li_}{cs:Lf_}{L:Env}{E H:LH}{S:List Seg}
variable {d:Option Tmp}{x y w:Operand}{t u ty e:TypeId}{p:String}{af:Ae_}{g:On_}{i:Nat}{rest:List Nat}{s:St}{ρ:Operand->Value}
theorem Am.aG{α:Type}{pp:Rp α}{kk bk o:Nat}{ws:Lv_}{xs ys:List α}{hi:Int}(U:At E bk o ws)(O:(rA kk pp).r E ws xs)(hC:Ha xs 0 hi=some ys):Am pp E (some ⟨bk,o,none⟩) kk ys:=by
 have ag:=O.1;unfold Ha at hC;split at hC
 ·rename_i hb;cases hC;refine⟨by simp;omega,.inr ⟨bk,o,rfl,λq z K=>?_⟩⟩;simp only [Int.toNat_zero,List.drop_zero,List.getElem?_take] at K;split at K
  ·have Y:ix xs (q:Int)=some z:=by unfold ix;rw [if_pos (by omega)];simpa using K
   obtain⟨us,Z,ac,_,_⟩:=ZG O U Y;exact⟨us,Z,by simpa using ac⟩
  ·cases K
 ·cases hC
theorem Xj{α:Type}{pp:Rp α}{kk bk o:Nat}{ws:Lv_}{xs ys:List α}{hi:Int}(U:At E bk o ws)(K:(rA kk pp).r E ws xs)(hC:Ha xs 0 hi=some ys)
  (Y:ops[i]? =some ⟨d,.slice t x none (some w) none,ty,p,af,g⟩) (hw:AJ L ops ⟨d,.slice t x none (some w) none,ty,p,af,g⟩=some true) (Z:BH b n ⟨d,.slice t x none (some w) none,ty,p,af,g⟩=true)
  (ac:ev L x=some (.pointer (some ⟨bk,o,none⟩))) (ag:ev L w=some (iV hi)) (al:P.underlying t=some (.array kk e)) (am:Bh P e=some pp.n)
  (h:Am pp E (some ⟨bk,o,none⟩) kk ys->JL J Q b n (As L d (.slice (some ⟨bk,o,none⟩) ys.length kk)) ds (.inRegion ops rest::k) cs s):
  JL J Q b n L ds (.inRegion ops (i::rest)::k) cs s:=by
 have ap:=Am.aG U K hC;have aw:=K.1;refine AY Y hw Z (λρ O=>?_) (h ap);refine FO (sm:=Instr.sliceAt t (ρ x) none (some (ρ w)) none) rfl ?_;rw [O _ _ ac,O _ _ ag];unfold Ha at hC;split at hC
 ·rename_i hb;cases hC;obtain⟨ay,az,aI⟩:=hb;unfold Instr.sliceAt;refine Au _ _ (Cg al ?_);simp only [Instr.sureAddr,bind,Sem.bind,pure];have aq:Instr.sliceBounds false kk kk none (some (iV hi)) none=(pure (0,hi.toNat,kk):Sem _):=by
   simp only [Instr.sliceBounds,Instr.sliceBound,asIntOf,bind,Sem.bind,pure];rw [if_pos (by omega)];rfl
  rw [aq];simp only [pure,Sem.bind];refine Au (x:=Go.sizeOf e) _ (EH am ?_);have av:(if kk=0 then(⟨bk,o,none⟩:Addr) else Addr.add ⟨bk,o,none⟩ (0*pp.n))=⟨bk,o,none⟩:=by
   split
   ·rfl
   ·rw [Dz rfl];simp
  rw [av];have e2:((xs.take hi.toNat).drop (0:Int).toNat).length=hi.toNat - 0:=by simp;omega
  rw [e2];exact⟨rfl,rfl⟩
 ·cases hC
theorem U2{a:Option Addr}{l c:Nat}(K:P.underlying t=some (.slice e))(O:ρ x= .slice a l c)(U:ρ (.const (.slice none 0 0))= .slice none 0 0):Yl P ⟨d,.binOp .neq t x (.const (.slice none 0 0)) u,ty,p,af,g⟩ ρ s (.bool (!a.isNone)):=by
 have Y:∀o,eqGuard o t x (.const (.slice none 0 0)) (.slice a l c) (.slice none 0 0)=Sem.pure ():=λo=>by cases o <;> rfl
 refine FO (sm:=do eqGuard .neq t x (.const (.slice none 0 0)) (ρ x) (ρ (.const (.slice none 0 0)));binOp .neq t (ρ x) (ρ (.const (.slice none 0 0)))) rfl ?_
 rw [O,U,Y];simp only [bind,Sem.bind];have hb:binOp .neq t (.slice a l c) (.slice none 0 0)=(do pure (.bool (!(← Op.equal t (.slice a l c) (.slice none 0 0))))):=rfl
 rw [hb];refine Au (x:=Op.equal t _ _) _ ?_;unfold Op.equal Op.maxDepth Op.equalIn;refine Au _ _ (Cg K ?_);cases a with
 | none=>exact⟨rfl,rfl⟩
 | some ad=>exact⟨rfl,rfl⟩
end
end Pal
namespace Pal
open Go Go.Conc Go.Proofs
open Go.Proofs.Tryz
variable {J:Judge Tryz.prog}{E:LH}
def Ta(fu_:Nat)(p0:A6)(O:List Int)(K:Int):Option (Bn Int ((A6×Int)⊕(Unit))):= if K<(O.length:Int) then((ix O K).bind λU=> (Aw ((p0.1.length:Int) - 1)).bind λY=> (f91 fu_ U 0 Y).bind λZ=> if(!Z)=true then(some (.done (Sum.inl (([],[]),3)))) else((Aw (K+1)).bind λac=> some (.more ac))) else(some (.done (Sum.inr ())))
def f70(fu_:Nat)(p0:A6)(K:List Int):Option (A6×Int):= (f47 fu_ p0).bind λO=> if O≠0 then(some (([],[]),O)) else(Option.bind (iter (Ta fu_ p0 K) fu_ 0) λU=> Sum.elim (λr=>some r) (λag=> Option.bind (if(K.length:Int)=2 then((ix K (0)).bind λY=> (ix K (1)).bind λZ=> some (decide (Y=Z))) else(some false)) λac=> if ac=true then(some (([],[]),8)) else(some (p0,0))) U)
theorem K5{a1:Ao}{c2:Nat}{Z:Ao}{ac:Nat}{am:Ao}{ap:Nat}{p0:A6}{Y:List Int}(aM:Am (rL rI) E a1 c2 p0.1)(aN:Am Ay E Z ac p0.2)(ay:Am rI E am ap Y){fu_:Nat}{r:A6×Int}(aO:f70 fu_ p0 Y=some r):AO J 70 [.agg #[sV a1 p0.1 c2,sV Z p0.2 ac],sV am Y ap] E [] (λw E' B'=>∃(aP:Ao) (aQ:Nat) (aR:Ao) (aS:Nat),w= .tuple #[.agg #[sV aP r.1.1 aQ,sV aR r.1.2 aS],iV r.2]/\B'= []/\Am (rL rI) E' aP aQ r.1.1/\Am Ay E' aR aS r.1.2):=by
 refine Bj func70 λQ b6 cs H bb av=>?_;unfold f70 at aO;refine zg 2 rfl (DD bb λaz b7 K aI be=>?_);refine BT be HV λal bf=>?_;refine zg 5 rfl (CL aI EV CJ rfl rfl ?_);obtain⟨aT,bg,bh⟩:=bs aO;refine CU (ZH (aM.Ah K) (aN.Ah K) bg) rfl rfl (A7 func47 rfl) bf λbi O aU=>zg 7 rfl (A0 bh (λbj bl=>?_) (λbj bm=>?_))
 ·refine zg 2 rfl (Al (v:= .agg #[nS,nS]) rfl (λρ h=>Da [(0,2)] h HV underlying77 ⟨rfl,AQ type25,trivial⟩ rfl rfl) ?_);refine zg 1 rfl (BF 2 aU DI λaV=>?_);refine zg 2 rfl ?_;obtain rfl:=oi bl;refine JL.ret (v:= .tuple #[.agg #[nS,nS],iV aT]) rfl rfl (Bx.list func70 rfl (vs:= [.agg #[nS,nS],iV aT]) ⟨⟨_,rfl,Ld.many (vs:= [nS,nS]) F3 DI (F6 (off:=0) 2 aV rfl rfl)⟩,rfl,trivial⟩) (Ef 2 aV rfl λbn=>?_);exact av (K.Ad O) rfl ⟨none,0,none,0,rfl,rfl,Am.nil,Am.nil⟩ bn
 ·refine zg 5 rfl (JL.ln underlying28 rfl rfl rfl ?_);obtain⟨aW,bo,aX⟩:=bs bm;refine zg 2 rfl (Bu (λL s=>∃(aY:Unit) (aJ:LH),aW=Sum.inr aY/\Jm bi H aJ [bX al #[nS,nS] 77] [(1,sV am Y ap),(2,Ak az 0),(4,Ak al 0)] L s) ?_ ?_)
  ·rintro _ _ ⟨aY,aJ,rfl,rfl,rfl,ag,aZ⟩;have bp:=elim_inr aX;refine zg 2 rfl (EK 12 λU=>?_);refine Dw 0 U rfl rfl (AN 1 U rfl rfl (λρ h s' b8=>Yl.len rfl underlying28 (h _ _ rfl)) ?_);refine A3 U rfl [2,3] rfl ?_;obtain⟨bq,a0,br⟩:=bs bp;refine FQ 0 #[true,true,true,true,true,true,true,true,true,true,true,true] (λL s=>L= [(2,Ak az 0),(4,Ak al 0),(41,.bool bq)]/\s=Aj aJ H [bX al #[nS,nS] 77]) ?_ ?_
   ·rintro _ _ ⟨rfl,rfl⟩;refine AH.fin (by decide+kernel) (Cz br (λbu bv=>?_) (λbu bw=>?_))
    ·refine zg 2 rfl (Al (v:= .agg #[nS,nS]) rfl (λρ h=>Da [(0,2)] h HV underlying77 ⟨rfl,AQ type25,trivial⟩ rfl rfl) ?_);refine BF 0 aZ DI λa2=>?_;refine zg 2 rfl ?_;obtain rfl:=oi bv;refine JL.ret (v:= .tuple #[.agg #[nS,nS],iV 8]) rfl rfl (Bx.list func70 rfl (vs:= [.agg #[nS,nS],iV 8]) ⟨⟨_,rfl,Ld.many (vs:= [nS,nS]) F3 DI (F6 (off:=0) 0 a2 rfl rfl)⟩,rfl,trivial⟩) (Ef 0 a2 rfl λbx=>?_);exact av ((K.Ad O).Ad ag) rfl ⟨none,0,none,0,rfl,rfl,Am.nil,Am.nil⟩ bx
    ·refine zg 3 rfl (CL (aI.Ah (O.Ad ag)) EV CJ rfl rfl ?_);refine Al (v:= .agg #[sV a1 p0.1 c2,sV Z p0.2 ac]) rfl (λρ h=>Da [(0,2)] h HV underlying77 ⟨rfl,AQ type25,trivial⟩ rfl rfl) (BF 0 aZ DI λa3=>?_);refine zg 2 rfl ?_;obtain rfl:=oi bw;refine JL.ret (v:= .tuple #[.agg #[sV a1 p0.1 c2,sV Z p0.2 ac],iV 0]) rfl rfl (Bx.list func70 rfl (vs:= [.agg #[sV a1 p0.1 c2,sV Z p0.2 ac],iV 0]) ⟨⟨_,rfl,Ld.many (vs:= [sV a1 p0.1 c2,sV Z p0.2 ac]) F3 DI (F6 (off:=0) 0 a3 rfl rfl)⟩,rfl,trivial⟩) (Ef 0 a3 rfl λbz=>?_);exact av ((K.Ad O).Ad ag) rfl ⟨a1,c2,Z,ac,rfl,rfl,(aM.Ah ((K.Ad O).Ad ag)),(aN.Ah ((K.Ad O).Ad ag))⟩ bz
   ·intro a4;refine GC (q:=(Y.length:Int)=2) (i:=33) rfl (λaK=>?_) (λaK=>?_)
    ·have bA:=ip a0 aK;refine Dw 4 U rfl rfl ?_;obtain⟨b9,bB,bC⟩:=bs bA;refine Ei 5 (ay.Ah ((K.Ad O).Ad ag)) bB U underlying28 AG ?_;rintro ca cb _ rfl bD;refine Db 6 U 0 bD Ba rfl rfl rfl rfl ?_;refine Dw 7 U rfl rfl ?_;obtain⟨cc,bE,bF⟩:=bs bC;refine Ei 8 (ay.Ah ((K.Ad O).Ad ag)) bE U underlying28 AG ?_;rintro cd ce _ rfl bG;refine Db 9 U 0 bG Ba rfl rfl rfl rfl ?_;refine A3 U rfl [10,11] rfl ?_;obtain rfl:=oi bF;refine Di ?_ (a4 _ _ ⟨rfl,rfl⟩);exact⟨rfl,rfl,rfl,trivial⟩
    ·have bH:=im a0 aK;refine A3 U rfl [4,5,6,7,8,9,10,11] rfl ?_;obtain rfl:=oi bH;refine Di ?_ (a4 _ _ ⟨rfl,rfl⟩);exact⟨rfl,rfl,rfl,trivial⟩
  ·intro bI;refine JL.block (DO bo (λaL=> [bX al #[nS,nS] 77]) (λaL=> [(1,sV am Y ap),(2,Ak az 0),(4,Ak al 0),(15,sV am Y ap),(16,iV (Y.length:Int)),(17,iV aL)]) Az aU ?_);rintro aL bJ aq a5 a6 ⟨cf,aw⟩ bK;have a7:=aw;unfold Ta at a7;refine zg 5 rfl (A0 a7 (λbL bM=>?_) (λbL bN=>?_))
   ·obtain⟨cg,bO,bP⟩:=bs bM;refine zg 5 rfl (JS.ix (ay.Ah ((K.Ad O).Ad aq)) bO underlying28 AG ?_);rintro ci ck _ rfl bQ;refine C4 0 bQ Ba rfl rfl rfl (zg 5 rfl ?_);refine Cc 0 (aI.Ah (O.Ad aq)) underlying25 FN F2 ?_;refine JL.ln underlying22 rfl rfl rfl ?_;obtain⟨cm,bR,bS⟩:=bs bP;refine Ch bR rfl rfl rfl ?_;obtain⟨bT,bU,bV⟩:=bs bS;refine CU (LR bU) rfl rfl Ll a5 λcn a8 a9=>Al (v:= .bool (!bT)) rfl (λρ h=>Yl.not (h _ _ rfl)) (JL.done ?_);refine Cz bV (λbW bY=>?_) (λbW bZ=>?_)
    ·refine zg 2 rfl (Al (v:= .agg #[nS,nS]) rfl (λρ h=>Da [(0,2)] h HV underlying77 ⟨rfl,AQ type25,trivial⟩ rfl rfl) ?_);refine BF 0 a9 DI λba=>?_;refine zg 2 rfl ?_;obtain rfl:=oi bY;obtain rfl:=a6 _ aw;have b0:=elim_inl aX;obtain rfl:=oi b0;refine JL.ret (v:= .tuple #[.agg #[nS,nS],iV 3]) rfl rfl (Bx.list func70 rfl (vs:= [.agg #[nS,nS],iV 3]) ⟨⟨_,rfl,Ld.many (vs:= [nS,nS]) F3 DI (F6 (off:=0) 0 ba rfl rfl)⟩,rfl,trivial⟩) (Ef 0 ba rfl λb1=>?_);exact av (((K.Ad O).Ad aq).Ad a8) rfl ⟨none,0,none,0,rfl,rfl,Am.nil,Am.nil⟩ b1
    ·obtain⟨b2,b3,b4⟩:=bs bZ;refine zg 3 rfl (Bq b3 rfl rfl rfl ?_);refine zg 2 rfl ?_;obtain rfl:=oi b4;exact bK b2 (aq.Ad a8) a9 rfl aw
   ·refine JL.exit rfl ?_;obtain rfl:=oi bN;have b5:aW=(Sum.inr ()):=(a6 _ aw).symm;exact AB (bI _ _ ⟨(),bJ,b5,rfl,rfl,aq,a5⟩) rfl
def NR(fu_:Nat)(p0:List Int):Option ((List Int)):= (C3 ([]:List Int) p0).bind λK=> some K
theorem YG{ad:Addr}{c2:Nat}{p0:List Int}(Y:Am rI E (some ad) c2 p0){fu_:Nat}{r:(List Int)}(K:NR fu_ p0=some r):AO J 87 [.slice (some ad) p0.length c2] E [] (λw E' B'=>∃(O:Ao) (U:Nat) (g0:Seg),w= sV O r U/\B'=g0/\OL 3 rI E' O U g0 r):=by
 refine Bj func87 λQ aI cs H Z ac=>?_;unfold NR at K;refine zg 8 rfl (Al (v:= .bool false) rfl (λρ h=>MB (a:=(some ad)) underlying28 (h _ _ rfl) (h _ _ rfl)) ?_);refine zg 5 rfl (MM (pp:=rI) rfl rfl rfl underlying28 AG Z λr1 g2 ag al=>?_);obtain⟨aJ,am,ap⟩:=bs K;refine zg 1 rfl (H9 (pp:=rI) 1 am rfl rfl rfl rfl rfl rfl rfl underlying28 underlying28 AG (Dl type3) CI rfl (by decide) (by decide) ag Y al rfl λaq av aw ay az=>?_);refine zg 2 rfl ?_;obtain rfl:=oi ap;exact A2 func87 rfl rfl (ac Az rfl ⟨aq,av,aw,rfl,(by first | rfl | simp | (simp [Value.cells])),ay⟩ az)
def TQ(fu_:Nat)(p0:List Int):Option ((List Int)):= some ([])
theorem YV{c2:Nat}{p0:List Int}(ac:Am rI E none c2 p0){fu_:Nat}{r:(List Int)}(K:TQ fu_ p0=some r):AO J 87 [sV none p0 c2] E [] (λw E' B'=>∃(O:Ao) (U:Nat) (g0:Seg),w= sV O r U/\B'=g0/\OL 3 rI E' O U g0 r):=by
 refine Bj func87 λQ ag cs H Y Z=>?_;unfold TQ at K;refine zg 8 rfl (Al (v:= .bool true) rfl (λρ h=>MB (a:=none) underlying28 (h _ _ rfl) (h _ _ rfl)) ?_);refine zg 6 rfl ?_;obtain rfl:=oi K;exact A2 func87 rfl rfl (Z Az rfl ⟨none,0,[],rfl,rfl,OL.nil⟩ Y)
def f87(fu_:Nat)(p0:List Int):Option (List Int):=NR fu_ p0
theorem ZA{a1:Ao}{c2:Nat}{p0:List Int}(O:Am rI E a1 c2 p0){fu_:Nat}{r:List Int}(K:f87 fu_ p0=some r):AO J 87 [.slice a1 p0.length c2] E [] (λw E' B'=>∃(U:Ao) (Y:Nat) (g0:Seg),w= .slice U r.length Y/\B'=g0/\OL 3 rI E' U Y g0 r):=by
 cases a1 with
 | some ad=>exact YG O K
 | none=>
  have Z:p0= []:=by
   rcases O.2 with h | ⟨_,_,h,_⟩
   ·exact h.1
   ·cases h
  subst Z;have ac:r= []:=by
   have ag:NR fu_ []=some []:=rfl;unfold f87 at K;rw [ag] at K;exact(Option.some.inj K).symm
  subst ac;exact YV (fu_:=fu_) O rfl
def LU(fu_:Nat)(p0:Ax):Option (Ax):= (C3 ([]:Ax) p0).bind λK=> some K
theorem Xq{ad:Addr}{c2:Nat}{p0:Ax}(Y:Am Ay E (some ad) c2 p0){fu_:Nat}{r:Ax}(K:LU fu_ p0=some r):AO J 129 [.slice (some ad) p0.length c2] E [] (λw E' B'=>∃(O:Ao) (U:Nat) (g0:Seg),w= sV O r U/\B'=g0/\OL 27 Ay E' O U g0 r):=by
 refine Bj func129 λQ aI cs H Z ac=>?_;unfold LU at K;refine zg 8 rfl (Al (v:= .bool false) rfl (λρ h=>MB (a:=(some ad)) underlying80 (h _ _ rfl) (h _ _ rfl)) ?_);refine zg 5 rfl (MM (pp:=Ay) rfl rfl rfl underlying80 Bf Z λr1 g2 ag al=>?_);obtain⟨aJ,am,ap⟩:=bs K;refine zg 1 rfl (H9 (pp:=Ay) 1 am rfl rfl rfl rfl rfl rfl rfl underlying80 underlying80 Bf (Dl type27) BK rfl (by decide) (by decide) ag Y al rfl λaq av aw ay az=>?_);refine zg 2 rfl ?_;obtain rfl:=oi ap;exact A2 func129 rfl rfl (ac Az rfl ⟨aq,av,aw,rfl,(by first | rfl | simp | (simp [Value.cells])),ay⟩ az)
def TF(fu_:Nat)(p0:Ax):Option (Ax):= some ([])
theorem Xx{c2:Nat}{p0:Ax}(ac:Am Ay E none c2 p0){fu_:Nat}{r:Ax}(K:TF fu_ p0=some r):AO J 129 [sV none p0 c2] E [] (λw E' B'=>∃(O:Ao) (U:Nat) (g0:Seg),w= sV O r U/\B'=g0/\OL 27 Ay E' O U g0 r):=by
 refine Bj func129 λQ ag cs H Y Z=>?_;unfold TF at K;refine zg 8 rfl (Al (v:= .bool true) rfl (λρ h=>MB (a:=none) underlying80 (h _ _ rfl) (h _ _ rfl)) ?_);refine zg 6 rfl ?_;obtain rfl:=oi K;exact A2 func129 rfl rfl (Z Az rfl ⟨none,0,[],rfl,rfl,OL.nil⟩ Y)
def f129(fu_:Nat)(p0:Ax):Option Ax:=LU fu_ p0
theorem YA{a1:Ao}{c2:Nat}{p0:Ax}(O:Am Ay E a1 c2 p0){fu_:Nat}{r:Ax}(K:f129 fu_ p0=some r):AO J 129 [.slice a1 p0.length c2] E [] (λw E' B'=>∃(U:Ao) (Y:Nat) (g0:Seg),w= .slice U r.length Y/\B'=g0/\OL 27 Ay E' U Y g0 r):=by
 cases a1 with
 | some ad=>exact Xq O K
 | none=>
  have Z:p0= []:=by
   rcases O.2 with h | ⟨_,_,h,_⟩
   ·exact h.1
   ·cases h
  subst Z;have ac:r= []:=by
   have ag:LU fu_ []=some []:=rfl;unfold f129 at K;rw [ag] at K;exact(Option.some.inj K).symm
  subst ac;exact Xx (fu_:=fu_) O rfl
def f43(fu_:Nat)(p0:A6):Option ((List Int)×Int):= (f70 fu_ p0 ([])).bind λK=> if K.2≠0 then(some ([],K.2)) else((f84 fu_ K.1).bind λO=> (Ha O 0 (p0.1.length:Int)).bind λU=> (f87 fu_ U).bind λY=> some (Y,0))
theorem Zz{a1:Ao}{c2:Nat}{ac:Ao}{ag:Nat}{p0:A6}(aK:Am (rL rI) E a1 c2 p0.1)(aL:Am Ay E ac ag p0.2){fu_:Nat}{r:(List Int)×Int}(al:f43 fu_ p0=some r):AO J 43 [.agg #[sV a1 p0.1 c2,sV ac p0.2 ag]] E [] (λw E' B'=>∃(am:Ao) (ap:Nat),w= .tuple #[sV am r.1 ap,iV r.2]/\B'= []/\Am rI E' am ap r.1):=by
 refine Bj func43 λQ bm cs H aM aq=>?_;unfold f43 at al;refine zg 2 rfl (DD aM λbn bo U av aN=>?_);refine zg 5 rfl (CL av EV CJ rfl rfl ?_);obtain⟨bp,aO,aP⟩:=bs al;refine BX (K5 (aK.Ah U) (aL.Ah U) Am.nil aO) rfl rfl Kx aN ?_;rintro _ bq _ Y ⟨br,bu,bv,bw,rfl,rfl,aQ,aR⟩ aS;refine zg 3 rfl (BT aS HV λbx aT=>?_);refine BF 3 aT DI λaU=>?_;refine DJ 3 aU rfl λbz K aV aw=>zg 8 rfl (A0 aP (λaW aX=>?_) (λaW aY=>?_))
 ·refine zg 6 rfl ?_;obtain rfl:=oi aX;exact A2 func43 rfl rfl (aq ((U.Ad Y).Ad K) rfl ⟨none,0,rfl,rfl,Am.nil⟩ aw)
 ·refine zg 3 rfl (CL aV F3 DI rfl rfl ?_);obtain⟨bA,aZ,a0⟩:=bs aY;refine BX (PK (aQ.Ah K) (aR.Ah K) aZ) rfl rfl N9 aw ?_;rintro _ ay _ az ⟨Z,rfl,rfl,O⟩ a2;refine BT a2 Ky λbB a3=>?_;refine Hq (v:= .agg Z.toArray) (l:= []) (ws:=(List.replicate 5 (iV 0):Lv_)) (us:=Z) (o:=0) 5 rfl rfl rfl a3 rfl rfl rfl (by rw [B9 (kk:=5) (pp:=rI) O];exact AQ type105) ((rA 5 rI).one O) rfl (by rw [B9 (kk:=5) (pp:=rI) O,B9 (kk:=5) (pp:=rI) (GI (E:=ay) (pp:=rI) rfl)];omega) λaI=>?_;rw [Js (by rw [B9 (kk:=5) (pp:=rI) O,B9 (kk:=5) (pp:=rI) (GI (E:=ay) (pp:=rI) rfl)])] at aI ⊢;refine zg 3 rfl (Cc 0 (av.Ah ((Y.Ad K).Ad az)) underlying25 FN F2 ?_);refine JL.ln underlying22 rfl rfl rfl (DJ 5 aI rfl λbC aJ a4 a5=>?_);obtain⟨bD,a6,a7⟩:=bs a0;refine Xj (ws:=Z) (pp:=rI) a4 (Rp.Ah _ aJ O) a6 rfl rfl rfl rfl rfl underlying105 AG λa8=>?_;obtain⟨bE,a9,ba⟩:=bs a7;refine BX (ZA a8 a9) rfl rfl (A7 func87 rfl) a5 ?_;rintro _ bF bG bb ⟨be,bf,_,rfl,rfl,bg⟩ bh;refine zg 3 rfl (B8 6 bg bh rfl λbH bi bj bl=>?_);obtain rfl:=oi ba;exact A2 func43 rfl rfl (aq ((((((U.Ad Y).Ad K).Ad az).Ad aJ).Ad bb).Ad bi) rfl ⟨be,bf,rfl,rfl,bj⟩ bl)
def MN(fu_:Nat)(p0:Ax)(O:Ax)(K:Int):Option (Bn Int ((Int)⊕(Unit))):= if K<(p0.length:Int) then((ix p0 K).bind λY=> if(O.length:Int)<=K then(some (.done (Sum.inl 1))) else((ix O K).bind λZ=> (f113 fu_ Y Z).bind λU=> if U≠0 then(some (.done (Sum.inl U))) else((Aw (K+1)).bind λac=> some (.more ac)))) else(some (.done (Sum.inr ())))
def f112(fu_:Nat)(p0:Ax)(K:Ax):Option Int:= Option.bind (iter (MN fu_ p0 K) fu_ 0) λO=> Sum.elim (λr=>some r) (λU=> if(p0.length:Int)<(K.length:Int) then(some (-1)) else(some 0)) O
theorem Zh{a1:Ao}{c2:Nat}{Y:Ao}{Z:Nat}{p0:Ax}{O:Ax}(aR:Am Ay E a1 c2 p0)(aS:Am Ay E Y Z O){fu_:Nat}{r:Int}(ay:f112 fu_ p0 O=some r):AO J 112 [sV a1 p0 c2,sV Y O Z,(fV 113)] E [] (λw E' B'=>w=iV r/\B'= []):=by
 refine Bj func112 λQ bD cs H aT ac=>?_;unfold f112 at ay;refine zg 8 rfl (JL.ln underlying80 rfl rfl rfl ?_);obtain⟨az,aU,al⟩:=bs ay;refine zg 2 rfl (Bu (λL s=>∃(aI:Unit) (aJ:LH),az=Sum.inr aI/\Jm E H aJ [] [(0,sV a1 p0 c2),(1,sV Y O Z)] L s) ?_ ?_)
 ·rintro _ _ ⟨aI,aJ,rfl,rfl,rfl,aK,aL⟩;have aV:=elim_inr al;refine zg 4 rfl (JL.ln underlying80 rfl rfl rfl ?_);refine zg 1 rfl (JL.ln underlying80 rfl rfl rfl ?_);refine zg 2 rfl (A0 aV (λaW aX=>?_) (λaW aY=>?_))
  ·refine zg 4 rfl ?_;obtain rfl:=oi aX;exact A2 func112 rfl rfl (ac aK rfl ⟨rfl,rfl⟩ aL)
  ·refine zg 5 rfl ?_;obtain rfl:=oi aY;exact A2 func112 rfl rfl (ac aK rfl ⟨rfl,rfl⟩ aL)
 ·intro aZ;refine JL.block (DO aU (λam=> []) (λam=> [(0,sV a1 p0 c2),(1,sV Y O Z),(2,(fV 113)),(11,sV a1 p0 c2),(12,iV (p0.length:Int)),(13,iV am)]) Az aT ?_);rintro am a0 K aM ap ⟨bE,U⟩ a2;have aN:=U;unfold MN at aN;refine zg 5 rfl (A0 aN (λa3 a4=>?_) (λa3 a5=>?_))
  ·obtain⟨aq,a6,a7⟩:=bs a4;refine zg 6 rfl (JS.ix (aR.Ah K) a6 underlying80 Bf ?_);rintro bF bG _ ⟨_,_,rfl,rfl,⟨_,_,rfl,rfl,rfl⟩⟩ a8;refine CL a8 El Bf rfl rfl (BT aM BK λbH a9=>?_);refine zg 1 rfl (BF 0 a9 Bf λba=>?_);refine DJ 0 ba rfl λbI ag bb aO=>zg 6 rfl (JL.ln underlying80 rfl rfl rfl ?_);refine zg 2 rfl (A0 a7 (λbe bf=>?_) (λbe bg=>?_))
   ·refine zg 4 rfl ?_;obtain rfl:=oi bf;obtain rfl:=ap _ U;have bh:=elim_inl al;obtain rfl:=oi bh;exact A2 func112 rfl rfl (ac (K.Ad ag) rfl ⟨rfl,rfl⟩ aO)
   ·obtain⟨av,bi,bj⟩:=bs bg;refine zg 5 rfl (JS.ix (aS.Ah (K.Ad ag)) bi underlying80 Bf ?_);rintro bJ bK _ ⟨_,_,rfl,rfl,⟨_,_,rfl,rfl,rfl⟩⟩ bl;refine CL bl El Bf rfl rfl (BT aO BK λbL bm=>?_);refine BF 1 bm Bf λbn=>?_;refine DJ 1 bn rfl λbM aw bo bp=>zg 4 rfl (CL (bb.Ah aw) El Bf rfl rfl ?_);refine CL bo El Bf rfl rfl ?_;obtain⟨bN,bq,br⟩:=bs bj;refine KP (vs:= [.agg #[iV aq.1,iV aq.2.1,iV aq.2.2],.agg #[iV av.1,iV av.2.1,iV av.2.2]]) (Te bq) rfl rfl rfl rfl (A7 func113 rfl) rfl bp ?_;rintro _ bO _ aP ⟨rfl,rfl⟩ aQ;refine zg 7 rfl (A0 br (λbu bv=>?_) (λbu bw=>?_))
    ·refine zg 5 rfl ?_;obtain rfl:=oi bv;obtain rfl:=ap _ U;have bx:=elim_inl al;obtain rfl:=oi bx;exact A2 func112 rfl rfl (ac (((K.Ad ag).Ad aw).Ad aP) rfl ⟨rfl,rfl⟩ aQ)
    ·obtain⟨bz,bA,bB⟩:=bs bw;refine zg 3 rfl (Bq bA rfl rfl rfl ?_);refine zg 2 rfl ?_;obtain rfl:=oi bB;exact a2 bz (((K.Ad ag).Ad aw).Ad aP) aQ rfl U
  ·refine JL.exit rfl ?_;obtain rfl:=oi a5;have bC:az=(Sum.inr ()):=(ap _ U).symm;exact AB (aZ _ _ ⟨(),a0,bC,rfl,rfl,K,aM⟩) rfl
def f74(fu_:Nat)(p0:Ax)(K:Ax):Option Int:= (f112 fu_ p0 K).bind λO=> some O
theorem Il{a1:Ao}{c2:Nat}{O:Ao}{U:Nat}{p0:Ax}{K:Ax}(Z:Am Ay E a1 c2 p0)(ac:Am Ay E O U K){fu_:Nat}{r:Int}(Y:f74 fu_ p0 K=some r):AO J 74 [sV a1 p0 c2,sV O K U] E [] (λw E' B'=>w=iV r/\B'= []):=by
 refine Bj func74 λQ aw cs H ag al=>?_;unfold f74 at Y;obtain⟨ay,am,ap⟩:=bs Y;refine zg 8 rfl (CU (Zh Z ac am) rfl rfl (A7 func112 rfl) ag λaz aq av=>?_);refine zg 2 rfl ?_;obtain rfl:=oi ap;exact A2 func74 rfl rfl (al aq rfl ⟨rfl,rfl⟩ av)
def f73(fu_:Nat)(p0:Ax)(K:Ax):Option Bool:= (f74 fu_ p0 K).bind λO=> some (decide (O<0))
theorem ZZ{a1:Ao}{c2:Nat}{O:Ao}{U:Nat}{p0:Ax}{K:Ax}(Z:Am Ay E a1 c2 p0)(ac:Am Ay E O U K){fu_:Nat}{r:Bool}(Y:f73 fu_ p0 K=some r):AO J 73 [sV a1 p0 c2,sV O K U] E [] (λw E' B'=>w= .bool r/\B'= []):=by
 refine Bj func73 λQ aw cs H ag al=>?_;unfold f73 at Y;obtain⟨ay,am,ap⟩:=bs Y;refine zg 8 rfl (CU (Il Z ac am) rfl rfl HT ag λaz aq av=>?_);refine zg 3 rfl ?_;obtain rfl:=oi ap;exact A2 func73 rfl rfl (al aq rfl ⟨rfl,rfl⟩ av)
def f72(fu_:Nat)(p0:Ax×Bool)(K:Ax):Option ((Ax×Bool)):= Option.bind (if(!p0.2)=true then(some true) else((f73 fu_ K p0.1).bind λO=> some O)) λU=> Option.bind (if U=true then(some (K,true)) else(some p0)) λY=> some Y
theorem Z6{bk:Nat}{a1:Ao}{c2:Nat}{K:Ao}{O:Nat}{p0:Ax×Bool}{U:Ax}(aq:Am Ay E a1 c2 p0.1)(av:Am Ay E K O U){fu_:Nat}{r:(Ax×Bool)}(aw:f72 fu_ p0 U=some r):AO J 72 [Ak bk 0,sV K U O,(fV 73)] E [(bk,.cells #[sV a1 p0.1 c2,.bool p0.2] 82 (0,0))] (λw E' B'=>∃(ay:Ao) (az:Nat),w= .tuple #[]/\B'= [(bk,.cells #[sV ay r.1 az,.bool r.2] 82 (0,0))]/\Am Ay E' ay az r.1):=by
 refine Bj func72 λQ a8 cs H Z aL=>?_;unfold f72 at aw;refine zg 4 rfl (JL.fd underlying82 Ln rfl rfl rfl ?_);refine Al (v:= .bool p0.2) rfl (λρ h=>Yl.load NZ (h _ _ rfl) (BU (j:=0) (off:=1) Z rfl rfl)) (Al (v:= .bool (!p0.2)) rfl (λρ h=>Yl.not (h _ _ rfl)) ?_);obtain⟨aM,aN,aO⟩:=bs aw;refine zg 1 rfl (H6 [] (λL s=>∃(Y:LH),Jm E H Y [bX bk #[sV a1 p0.1 c2,.bool p0.2] 82] [(0,Ak bk 0),(1,sV K U O),(19,.bool aM)] L s) ?_ ?_)
 ·rintro _ _ ⟨Y,rfl,rfl,al,aI⟩;obtain⟨am,aP,aQ⟩:=bs aO;refine JL.done (Bu (λL s=>∃(ap:LH) (ac:Ao) (ag:Nat),Jn Y H ap [bX bk #[sV ac am.1 ag,.bool am.2] 82] [] L s (Am Ay ap ac ag am.1)) ?_ ?_)
  ·rintro _ _ ⟨ap,ac,ag,rfl,rfl,aR,aS,aT⟩;obtain rfl:=oi aQ;exact JL.fin (v:= .tuple #[]) rfl rfl (Bx.list func72 rfl (vs:= []) trivial) (aL (al.Ad aR) rfl ⟨ac,ag,rfl,rfl,aT⟩ aS)
  ·intro aJ;refine Cz aP (λaU aV=>?_) (λaU aW=>?_)
   ·refine zg 5 rfl (JL.fd underlying82 Bb rfl rfl rfl ?_);refine BF 0 aI Bb λaX=>?_;refine zg 1 rfl (JL.fd underlying82 Ln rfl rfl rfl ?_);refine BF 0 aX Ln λaY=>?_;refine JL.done ?_;obtain rfl:=oi aV;exact AB (aJ _ _ ⟨Y,K,O,rfl,rfl,Az,aY,(av.Ah al)⟩) rfl
   ·refine JL.skip ?_;obtain rfl:=oi aW;exact AB (aJ _ _ ⟨Y,a1,c2,rfl,rfl,Az,aI,(aq.Ah al)⟩) rfl
 ·intro aK;refine EI 11 aN (λaZ a0=>?_) (λaZ a2=>?_)
  ·refine zg 8 rfl ?_;obtain rfl:=oi a0;exact AB (aK _ _ ⟨E,rfl,rfl,Az,Z⟩) rfl
  ·refine zg 4 rfl (JL.fd underlying82 Bb rfl rfl rfl ?_);refine Al (v:= sV a1 p0.1 c2) rfl (λρ h=>Yl.load By (h _ _ rfl) (BU (j:=0) (off:=0) Z rfl rfl)) ?_;obtain⟨a9,a3,a4⟩:=bs a2;refine KP (vs:= [sV K U O,sV a1 p0.1 c2]) (ZZ av aq a3) rfl rfl rfl rfl (A7 func73 rfl) rfl Z ?_;rintro _ a5 _ a6 ⟨rfl,rfl⟩ a7;refine zg 1 rfl ?_;obtain rfl:=oi a4;exact AB (aK _ _ ⟨a5,rfl,rfl,a6,a7⟩) rfl
end Pal
namespace Pal
open Go Go.Conc Go.Proofs
open Go.Proofs.Tryz
variable {J:Judge Tryz.prog}{E:LH}
def RZ(fu_:Nat)(O:List Int)(K:(AA)×Int):Option (Bn ((AA)×Int) ((AA))):= if K.2<(O.length:Int) then((ix O K.2).bind λU=> (Aw (((BA K.1 U).getD 0)+1)).bind λY=> (Aw (K.2+1)).bind λZ=> some (.more ((Df K.1 U Y),Z))) else(some (.done K.1))
def RI(fu_:Nat)(p0:A6)(K:(List AA)×Int):Option (Bn ((List AA)×Int) ((List AA))):= if K.2<(p0.1.length:Int) then((ix p0.1 K.2).bind λO=> Option.bind (iter (RZ fu_ O) fu_ (([]:AA),0)) λU=> (room K.1 U).bind λY=> (Aw (K.2+1)).bind λZ=> some (.more (Y,Z))) else(some (.done K.1))
def f120(fu_:Nat)(p0:A6):Option ((List AA)):= Option.bind (iter (RI fu_ p0) fu_ ([],0)) λK=> some K
theorem Ze{a1:Ao}{c2:Nat}{aR:Ao}{aS:Nat}{p0:A6}(a8:Am (rL rI) E a1 c2 p0.1)(ce:Am Ay E aR aS p0.2){fu_:Nat}{r:(List AA)}(aT:f120 fu_ p0=some r):AO J 120 [.agg #[sV a1 p0.1 c2,sV aR p0.2 aS]] E [] (λw E' B'=>∃(aU:Ao) (aV:Nat),w= sV aU r aV/\B'= []/\Am (rM rI false rI false) E' aU aV r):=by
 refine Bj func120 λQ cf cs H a9 ba=>?_;unfold f120 at aT;refine zg 2 rfl (DD a9 λcg ay aW bb be=>?_);refine zg 9 rfl (JL.fd underlying77 CJ rfl rfl rfl ?_);refine Cc 0 bb underlying25 FN F2 ?_;refine JL.ln underlying22 rfl rfl rfl ?_;obtain⟨aX,bf,bg⟩:=bs aT;refine zg 2 rfl (Bu (λL s=>∃(az:LH) (am:Ao) (ap:Nat) (aI:Seg),Jn ay H az [aI] [(3,sV am aX ap)] L s (OL 197 (rM rI false rI false) az am ap aI aX)) ?_ ?_)
 ·rintro _ _ ⟨az,am,ap,aI,rfl,rfl,bh,bi,bj⟩;refine zg 5 rfl (B8 0 bj bi rfl λci bl bm bn=>?_);obtain rfl:=oi bg;exact A2 func120 rfl rfl (ba ((aW.Ad bh).Ad bl) rfl ⟨am,ap,rfl,rfl,bm⟩ bn)
 ·intro bo;refine JL.block (CP bf (λL s K=>∃(O:LH) (U:Ao) (Y:Nat) (ac:Seg),Jn ay H O [ac] [(3,sV U K.1 Y),(11,sV a1 p0.1 c2),(12,iV (p0.1.length:Int)),(13,iV K.2)] L s (OL 197 (rM rI false rI false) O U Y ac K.1)) ⟨ay,none,0,[],rfl,rfl,Az,be,OL.nil⟩ ?_);rintro _ _ K ⟨O,U,Y,ac,rfl,rfl,aJ,aY,aZ⟩ bp ⟨ck,aK⟩ bq;have a0:=aK;unfold RI at a0;refine zg 5 rfl (A0 a0 (λbr bu=>?_) (λbr bv=>?_))
  ·obtain⟨a2,bw,bx⟩:=bs bu;refine zg 5 rfl (JS.ix (a8.Ah (aW.Ad aJ)) bw underlying22 Fy ?_);rintro cm cn _ ⟨bz,bA,rfl,bB⟩ bC;refine C4 0 bC Jj rfl rfl rfl (zg 4 rfl ?_);refine JS.makeMap rfl rfl rfl aY λag bD=>zg 6 rfl (JL.ln underlying28 rfl rfl rfl ?_);obtain⟨a3,bE,bF⟩:=bs bx;refine zg 2 rfl (Bu (λL s=>∃(aL:LH) (aq:Obj),Jn O H aL [ac,[(ag,aq)]] [(3,sV U K.1 Y),(6,.map (some ag)),(11,sV a1 p0.1 c2),(12,iV (p0.1.length:Int)),(13,iV K.2)] L s (Bz rI false rI false aL aq a3)) ?_ ?_)
   ·rintro _ _ ⟨aL,aq,rfl,rfl,a4,bG,bH⟩;refine zg 3 rfl (Oo 1 bG rfl λa5 aM bI bJ=>?_);have bK:Bz rI false rI false a5 aq a3:=(bH.Ah aM);obtain⟨bL,bM,bN⟩:=bs bF;refine JS.app (pp:=(rM rI false rI false)) (v:= .map (some ag)) (a:=U) (c:=Y) 0 bM rfl rfl rfl rfl (λ_=>rfl) rfl (λ_=>rfl) rfl rfl rfl underlying156 underlying156 underlying156 Hn (Dl type197) (Dh type197) rfl (by decide) (by decide) (by decide) (by decide) (aZ.Ah (a4.Ad aM)) ⟨_,_,rfl,bI,bK⟩ bJ rfl λco bO bP bQ bR bS=>?_;obtain⟨bT,bU,bV⟩:=bs bN;refine zg 4 rfl (Bq bU rfl rfl rfl ?_);refine zg 2 rfl ?_;obtain rfl:=oi bV;exact AB (bq _ _ (bL,bT) ⟨a5,bO,bP,bQ,rfl,rfl,((aJ.Ad a4).Ad aM),bS,bR⟩ aK) rfl
   ·intro bW;refine JL.block (CP bE (λL s Z=>∃(al:LH) (av:Obj),Jn O H al [ac,[(ag,av)]] [(3,sV U K.1 Y),(6,.map (some ag)),(11,sV a1 p0.1 c2),(12,iV (p0.1.length:Int)),(13,iV K.2),(18,sV bz a2 bA),(19,iV (a2.length:Int)),(20,iV Z.2)] L s (Bz rI false rI false al av Z.1)) ⟨O,(.map #[] 0),rfl,rfl,Az,bD,Bz.nil⟩ ?_);rintro _ _ Z ⟨al,av,rfl,rfl,aN,aO,aP⟩ bY ⟨cp,aQ⟩ bZ;have a6:=aQ;unfold RZ at a6;refine zg 5 rfl (A0 a6 (λb0 b1=>?_) (λb0 b2=>?_))
    ·obtain⟨aw,b3,b4⟩:=bs b1;refine zg 5 rfl (JS.ix (bB.Ah aN) b3 underlying28 AG ?_);rintro cq cr _ rfl b5;refine C4 0 b5 Ba rfl rfl rfl (zg 5 rfl ?_);refine Al (v:=iV ((BA Z.1 aw).getD 0)) rfl (λρ h=>Yl.lookup (ok:=false) (xs:=Z.1) (x0:=aw) (z0:=0) IN underlying197 CI ⟨_,rfl,rfl⟩ aP ⟨_,rfl,rfl⟩ (by rintro _ ⟨_,rfl,rfl⟩;rfl) (h _ _ rfl) (h _ _ rfl) (DF (j:=1) (i:=0) aO rfl rfl)) ?_;obtain⟨a7,b6,b7⟩:=bs b4;refine Bq b6 rfl rfl rfl (JS.mapUpdate (xs:=Z.1) (x0:=aw) (v0:=a7) 1 IN underlying197 aP ⟨_,rfl,rfl⟩ ⟨_,rfl,rfl⟩ aO rfl rfl rfl rfl rfl rfl rfl λb8 b9 ca=>?_);obtain⟨cb,cc,cd⟩:=bs b7;refine zg 3 rfl (Bq cc rfl rfl rfl ?_);refine zg 2 rfl ?_;obtain rfl:=oi cd;exact AB (bZ _ _ ((Df Z.1 aw a7),cb) ⟨al,b8,rfl,rfl,aN,ca,b9⟩ aQ) rfl
    ·refine JL.exit rfl ?_;obtain rfl:=oi b2;obtain rfl:=bY _ aQ;exact AB (bW _ _ ⟨al,av,rfl,rfl,aN,aO,aP⟩) rfl
  ·refine JL.exit rfl ?_;obtain rfl:=oi bv;obtain rfl:=bp _ aK;exact AB (bo _ _ ⟨O,U,Y,ac,rfl,rfl,aJ,aY,aZ⟩) rfl
def SK(fu_:Nat)(p0:A6)(O:(List Int))(K:(List Int)×Int):Option (Bn ((List Int)×Int) ((List Int))):= if K.2<5 then((ix O K.2).bind λU=> Option.bind (if K.2<(p0.1.length:Int) then((ix p0.1 K.2).bind λY=> (f85 fu_ Y).bind λZ=> (Aw (-(U))).bind λac=> some (decide (Z<ac))) else(some false)) λag=> Option.bind (if ag=true then((room K.1 K.2).bind λal=> some al) else(some K.1)) λam=> (Aw (K.2+1)).bind λap=> some (.more (am,ap))) else(some (.done K.1))
def f39(fu_:Nat)(p0:A6):Option ((List Int)×Int):= (f70 fu_ p0 ([])).bind λK=> if K.2≠0 then(some ([],K.2)) else((f84 fu_ K.1).bind λO=> Option.bind (iter (SK fu_ p0 O) fu_ ([],0)) λU=> some (U,0))
theorem ZE{a1:Ao}{c2:Nat}{aV:Ao}{aW:Nat}{p0:A6}(aX:Am (rL rI) E a1 c2 p0.1)(a9:Am Ay E aV aW p0.2){fu_:Nat}{r:(List Int)×Int}(aY:f39 fu_ p0=some r):AO J 39 [.agg #[sV a1 p0.1 c2,sV aV p0.2 aW]] E [] (λw E' B'=>∃(aZ:Ao) (a0:Nat),w= .tuple #[sV aZ r.1 a0,iV r.2]/\B'= []/\Am rI E' aZ a0 r.1):=by
 refine Bj func39 λQ cr cs H ba a2=>?_;unfold f39 at aY;refine zg 2 rfl (DD ba λaK ct al aL bb=>?_);refine zg 5 rfl (CL aL EV CJ rfl rfl ?_);obtain⟨cu,be,bf⟩:=bs aY;refine BX (K5 (aX.Ah al) (a9.Ah al) Am.nil be) rfl rfl Kx bb ?_;rintro _ cv _ am ⟨cw,cy,cz,cA,rfl,rfl,bg,bh⟩ bi;refine zg 3 rfl (BT bi HV λcB bj=>?_);refine BF 3 bj DI λbl=>?_;refine DJ 3 bl rfl λcC O bm a3=>zg 8 rfl (A0 bf (λbn bo=>?_) (λbn bp=>?_))
 ·refine zg 6 rfl ?_;obtain rfl:=oi bo;exact A2 func39 rfl rfl (a2 ((al.Ad am).Ad O) rfl ⟨none,0,rfl,rfl,Am.nil⟩ a3)
 ·refine zg 8 rfl (CL bm F3 DI rfl rfl ?_);obtain⟨cD,bq,br⟩:=bs bp;refine BX (PK (bg.Ah O) (bh.Ah O) bq) rfl rfl N9 a3 ?_;rintro _ aM _ aq ⟨aN,rfl,rfl,bu⟩ bv;obtain⟨a4,bw,bx⟩:=bs br;refine zg 2 rfl (Bu (λL s=>∃(aO:LH) (av:Ao) (aw:Nat) (aP:Seg),Jn aM H aO [aP] [(6,sV av a4 aw)] L s (OL 3 rI aO av aw aP a4)) ?_ ?_)
  ·rintro _ _ ⟨aO,av,aw,aP,rfl,rfl,bz,bA,bB⟩;refine zg 6 rfl (B8 0 bB bA rfl λcE bC bD bE=>?_);obtain rfl:=oi bx;exact A2 func39 rfl rfl (a2 (((((al.Ad am).Ad O).Ad aq).Ad bz).Ad bC) rfl ⟨av,aw,rfl,rfl,bD⟩ bE)
  ·intro bF;refine JL.block (CP bw (λL s K=>∃(Z:LH) (U:Ao) (Y:Nat) (ac:Seg),Jn aM H Z [ac] [(1,Ak aK 0),(6,sV U K.1 Y),(18,.agg aN.toArray),(19,iV K.2)] L s (OL 3 rI Z U Y ac K.1)) ⟨aM,none,0,[],rfl,rfl,Az,bv,OL.nil⟩ ?_);rintro _ _ K ⟨Z,U,Y,ac,rfl,rfl,ag,aQ,aR⟩ bG ⟨cF,aS⟩ bH;have a5:=aS;unfold SK at a5;refine zg 5 rfl (A0 a5 (λbI bJ=>?_) (λbI bK=>?_))
   ·obtain⟨cG,bL,bM⟩:=bs bJ;refine zg 6 rfl (SO (Rp.Ah _ ag bu) bL rfl rfl rfl rfl rfl underlying105 AG Ba ?_ (λ_=>rfl));rintro _ rfl;refine zg 6 rfl (Cc 0 (aL.Ah (((am.Ad O).Ad aq).Ad ag)) underlying25 FN F2 ?_);refine JL.ln underlying22 rfl rfl rfl ?_;obtain⟨bN,bO,bP⟩:=bs bM;refine zg 2 rfl (H6 [] (λL s=>∃(ap:LH),Jm Z H ap [ac] [(1,Ak aK 0),(6,sV U K.1 Y),(7,iV K.2),(18,.agg aN.toArray),(19,iV K.2),(38,.bool bN)] L s) ?_ ?_)
    ·rintro _ _ ⟨ap,rfl,rfl,aT,a6⟩;obtain⟨aU,bQ,bR⟩:=bs bP;refine JL.done (Bu (λL s=>∃(ay:LH) (az:Ao) (aI:Nat) (aJ:Seg),Jn ap H ay [aJ] [(1,Ak aK 0),(6,sV az aU aI),(18,.agg aN.toArray),(19,iV K.2)] L s (OL 3 rI ay az aI aJ aU)) ?_ ?_)
     ·rintro _ _ ⟨ay,az,aI,aJ,rfl,rfl,bS,bT,bU⟩;obtain⟨bV,bW,bY⟩:=bs bR;refine zg 2 rfl (Bq bW rfl rfl rfl ?_);refine zg 2 rfl ?_;obtain rfl:=oi bY;exact AB (bH _ _ (aU,bV) ⟨ay,az,aI,aJ,rfl,rfl,((ag.Ad aT).Ad bS),bT,bU⟩ aS) rfl
     ·intro a7;refine Cz bQ (λbZ b0=>?_) (λbZ b1=>?_)
      ·obtain⟨cH,b2,b3⟩:=bs b0;refine zg 3 rfl (JS.app (pp:=rI) (v:=iV K.2) (a:=U) (c:=Y) 0 b2 rfl rfl rfl rfl (λ_=>rfl) rfl (λ_=>rfl) rfl rfl rfl underlying28 underlying28 underlying28 AG (Dl type3) CI rfl (by decide) (by decide) (by decide) (by decide) (aR.Ah aT) rfl a6 rfl λcI b4 b5 b6 b7 b8=>?_);refine zg 2 rfl ?_;obtain rfl:=oi b3;exact AB (a7 _ _ ⟨ap,b4,b5,b6,rfl,rfl,Az,b8,b7⟩) rfl
      ·refine JL.skip ?_;obtain rfl:=oi b1;exact AB (a7 _ _ ⟨ap,U,Y,ac,rfl,rfl,Az,a6,(aR.Ah aT)⟩) rfl
    ·intro a8;refine Ja 28 bO (λb9 ca=>?_) (λb9 cb=>?_)
     ·refine Cc 0 (aL.Ah (((am.Ad O).Ad aq).Ad ag)) underlying25 FN F2 ?_;obtain⟨cJ,cc,cd⟩:=bs ca;refine zg 1 rfl (JS.ix (aX.Ah ((((al.Ad am).Ad O).Ad aq).Ad ag)) cc underlying22 Fy ?_);rintro cK cM _ ⟨cN,cO,rfl,ce⟩ cf;refine C4 0 cf Jj rfl rfl rfl ?_;obtain⟨cP,cg,ci⟩:=bs cd;refine CU (Hz ce cg) rfl rfl Hm aQ λck cm cn=>?_;obtain⟨co,cp,cq⟩:=bs ci;refine zg 1 rfl (Al (v:=iV co) rfl (λρ h=>Ht (h _ _ rfl) cp) ?_);refine zg 2 rfl ?_;obtain rfl:=oi cq;exact AB (a8 _ _ ⟨ck,rfl,rfl,cm,cn⟩) rfl
     ·refine zg 10 rfl ?_;obtain rfl:=oi cb;exact AB (a8 _ _ ⟨Z,rfl,rfl,Az,aQ⟩) rfl
   ·refine JL.exit rfl ?_;obtain rfl:=oi bK;obtain rfl:=bG _ aS;exact AB (bF _ _ ⟨Z,U,Y,ac,rfl,rfl,ag,aQ,aR⟩) rfl
def Sk(fu_:Nat)(p0:List Int)(O:Int)(K:Int):Option (Bn Int ((Int)⊕(Unit))):= if K<(p0.length:Int) then((ix p0 K).bind λU=> if O=U then(some (.done (Sum.inl K))) else((Aw (K+1)).bind λY=> some (.more Y))) else(some (.done (Sum.inr ())))
def f128(fu_:Nat)(p0:List Int)(K:Int):Option Int:= Option.bind (iter (Sk fu_ p0 K) fu_ 0) λO=> Sum.elim (λr=>some r) (λU=> some (-1)) O
theorem Y5{a1:Ao}{c2:Nat}{p0:List Int}{U:Int}(ay:Am rI E a1 c2 p0){fu_:Nat}{r:Int}(ac:f128 fu_ p0 U=some r):AO J 128 [sV a1 p0 c2,iV U] E [] (λw E' B'=>w=iV r/\B'= []):=by
 refine Bj func128 λQ a4 cs H az ag=>?_;unfold f128 at ac;refine zg 8 rfl (JL.ln underlying28 rfl rfl rfl ?_);obtain⟨al,aI,am⟩:=bs ac;refine zg 2 rfl (Bu (λL s=>∃(ap:Unit) (aq:LH),al=Sum.inr ap/\Jm E H aq [] [] L s) ?_ ?_)
 ·rintro _ _ ⟨ap,aq,rfl,rfl,rfl,aJ,aK⟩;have aL:=elim_inr am;refine zg 4 rfl ?_;obtain rfl:=oi aL;exact A2 func128 rfl rfl (ag aJ rfl ⟨rfl,rfl⟩ aK)
 ·intro aM;refine JL.block (DO aI (λY=> []) (λY=> [(0,sV a1 p0 c2),(1,iV U),(7,iV (p0.length:Int)),(8,iV Y)]) Az az ?_);rintro Y aN K Z av ⟨a5,O⟩ aO;have aw:=O;unfold Sk at aw;refine zg 5 rfl (A0 aw (λaP aQ=>?_) (λaP aR=>?_))
  ·obtain⟨a6,aS,aT⟩:=bs aQ;refine zg 13 rfl (JS.ix (ay.Ah K) aS underlying28 AG ?_);rintro a7 a8 _ rfl aU;refine C4 0 aU Ba rfl rfl rfl (zg 2 rfl ?_);refine A0 aT (λaV aW=>?_) (λaV aX=>?_)
   ·refine zg 5 rfl ?_;obtain rfl:=oi aW;obtain rfl:=av _ O;have aY:=elim_inl am;obtain rfl:=oi aY;exact A2 func128 rfl rfl (ag K rfl ⟨rfl,rfl⟩ Z)
   ·obtain⟨aZ,a0,a2⟩:=bs aX;refine zg 3 rfl (Bq a0 rfl rfl rfl ?_);refine zg 2 rfl ?_;obtain rfl:=oi a2;exact aO aZ K Z rfl O
  ·refine JL.exit rfl ?_;obtain rfl:=oi aR;have a3:al=(Sum.inr ()):=(av _ O).symm;exact AB (aM _ _ ⟨(),aN,a3,rfl,rfl,K,Z⟩) rfl
def f82(fu_:Nat)(p0:List Int)(K:Int):Option Bool:= (f128 fu_ p0 K).bind λO=> some (decide (0<=O))
theorem ZI{a1:Ao}{c2:Nat}{p0:List Int}{K:Int}(U:Am rI E a1 c2 p0){fu_:Nat}{r:Bool}(O:f82 fu_ p0 K=some r):AO J 82 [sV a1 p0 c2,iV K] E [] (λw E' B'=>w= .bool r/\B'= []):=by
 refine Bj func82 λQ ap cs H Y Z=>?_;unfold f82 at O;obtain⟨aq,ac,ag⟩:=bs O;refine zg 8 rfl (CU (Y5 U ac) rfl rfl (A7 func128 rfl) Y λav al am=>?_);refine zg 3 rfl ?_;obtain rfl:=oi ag;exact A2 func82 rfl rfl (Z al rfl ⟨rfl,rfl⟩ am)
def Tb(fu_:Nat)(O:A6×Int)(K:(List ((Int×Int)×Bool))×Int):Option (Bn ((List ((Int×Int)×Bool))×Int) ((List ((Int×Int)×Bool)))):= if K.2<(O.1.2.length:Int) then((ix O.1.2 K.2).bind λU=> (Aw (K.2+1)).bind λY=> some (.more ((Df K.1 (U.1,U.2.1) true),Y))) else(some (.done K.1))
def SN(fu_:Nat)(U:A6×Int)(Y:(List ((Int×Int)×Bool)))(O:List Int)(K:Bc×Int):Option (Bn (Bc×Int) (Bc)):= if K.2<(U.1.1.length:Int) then(Option.bind ((f82 fu_ O K.2).bind λZ=> Option.bind (if Z=true then(some true) else(if 0<(O.length:Int) then((Aw ((O.length:Int) - 1)).bind λac=> (ix O ac).bind λag=> some (!((BA Y (ag,K.2)).getD false))) else(some false))) λal=> if al=true then(some K.1) else((C3 O ([K.2]:List Int)).bind λam=> (room K.1 am).bind λap=> some ap)) λaq=> (Aw (K.2+1)).bind λav=> some (.more (aq,av))) else(some (.done K.1))
def SH(fu_:Nat)(Z:A6×Int)(U:(List ((Int×Int)×Bool)))(Y:Bc)(O:Bc×Int):Option (Bn (Bc×Int) (((List Int)×Int)⊕(Bc))):= if O.2<(Y.length:Int) then((ix Y O.2).bind λK=> Option.bind (if 1<(K.length:Int) then((Aw ((K.length:Int) - 1)).bind λac=> (ix K ac).bind λag=> (ix K (0)).bind λal=> some ((BA U (ag,al)).getD false)) else(some false)) λam=> if am=true then(some (.done (Sum.inl (K,0)))) else(Option.bind (iter (SN fu_ Z U K) fu_ (O.1,0)) λap=> (Aw (O.2+1)).bind λaq=> some (.more (ap,aq)))) else(some (.done (Sum.inr O.1)))
def S5(fu_:Nat)(U:A6×Int)(Y:(List ((Int×Int)×Bool)))(K:Bc):Option (Bn (Bc) (((List Int)×Int)⊕(Unit))):= if 0<(K.length:Int) then(Option.bind (iter (SH fu_ U Y K) fu_ ([],0)) λZ=> Sum.elim (λr=>some (.done (Sum.inl r))) (λO=> if(O.length:Int)=0 then(some (.done (Sum.inr ()))) else(some (.more O))) Z) else(some (.done (Sum.inr ())))
def f33(fu_:Nat)(p0:A6):Option ((List Int)×Int):= (f70 fu_ p0 ([])).bind λK=> if K.2≠0 then(some ([],K.2)) else(Option.bind (iter (Tb fu_ K) fu_ (([]:List ((Int×Int)×Bool)),0)) λO=> Option.bind (iter (S5 fu_ K O) fu_ ([[]]:Bc)) λU=> Sum.elim (λr=>some r) (λY=> some ([],11)) U)
theorem Zs{a1:Ao}{c2:Nat}{bN:Ao}{bO:Nat}{p0:A6}(co:Am (rL rI) E a1 c2 p0.1)(cp:Am Ay E bN bO p0.2){fu_:Nat}{r:(List Int)×Int}(bP:f33 fu_ p0=some r):AO J 33 [.agg #[sV a1 p0.1 c2,sV bN p0.2 bO]] E [] (λw E' B'=>∃(bQ:Ao) (bR:Nat),w= .tuple #[sV bQ r.1 bR,iV r.2]/\B'= []/\Am rI E' bQ bR r.1):=by
 refine Bj func33 λQ fk cs H cq bw=>?_;unfold f33 at bP;refine zg 2 rfl (DD cq λfl fm aY cr ct=>?_);refine zg 6 rfl (CL cr EV CJ rfl rfl ?_);obtain⟨aZ,cu,cv⟩:=bs bP;refine BX (K5 (co.Ah aY) (cp.Ah aY) Am.nil cu) rfl rfl Kx ct ?_;rintro _ fo _ bx ⟨fp,fq,cw,cy,rfl,rfl,fs,cz⟩ cA;refine zg 3 rfl (BT cA HV λag cB=>?_);refine BF 3 cB DI λcC=>?_;refine DJ 3 cC rfl λbz a7 bS bT=>zg 8 rfl (A0 cv (λcD cE=>?_) (λcD cF=>?_))
 ·refine zg 6 rfl ?_;obtain rfl:=oi cE;exact A2 func33 rfl rfl (bw ((aY.Ad bx).Ad a7) rfl ⟨none,0,rfl,rfl,Am.nil⟩ bT)
 ·refine zg 3 rfl (JS.makeMap rfl rfl rfl bT λK cG=>?_);refine zg 5 rfl (JL.fd underlying77 CJ rfl rfl rfl ?_);refine Cc 1 bS underlying25 F4 IB ?_;refine JL.ln underlying23 rfl rfl rfl ?_;obtain⟨aQ,cH,cI⟩:=bs cF;refine zg 2 rfl (Bu (λL s=>∃(aR:LH) (ac:Obj),Jn bz H aR [[(K,ac)]] [(4,Ak ag 0),(6,.map (some K))] L s (Bz DX true rB false aR ac aQ)) ?_ ?_)
  ·rintro _ _ ⟨aR,ac,rfl,rfl,bA,cJ,bU⟩;refine zg 2 rfl (FT (pp:=(rL rI)) [nS] [[]] rfl rfl rfl underlying22 Fy KB (by decide) rfl rfl rfl ⟨⟨_,_,rfl,Am.nil⟩,trivial⟩ cJ λcK cM cN cO=>?_);refine zg 3 rfl (JL.label ?_);obtain⟨bB,cP,bV⟩:=bs cI;refine JL.seq (Bu (λL s=>∃(bW:Unit) (bY:LH),bB=Sum.inr bW/\Jm aR H bY [] [] L s) ?_ ?_)
   ·rintro _ _ ⟨bW,bY,rfl,rfl,rfl,cQ,cR⟩;have cT:=elim_inr bV;refine zg 5 rfl ?_;obtain rfl:=oi cT;exact A2 func33 rfl rfl (bw ((((aY.Ad bx).Ad a7).Ad bA).Ad cQ) rfl ⟨none,0,rfl,rfl,Am.nil⟩ cR)
   ·intro bZ;refine JL.block (CP cP (λL s O=>∃(aI:LH) (al:Ao) (am:Nat) (ap:Seg),Jn aR H aI [[(K,ac)],ap] [(4,Ak ag 0),(6,.map (some K)),(9,sV al O am)] L s (OL 28 (rL rI) aI al am ap O)) ⟨aR,(AR cK),1,cM,rfl,rfl,Az,cO,cN⟩ ?_);rintro _ _ O ⟨aI,al,am,ap,rfl,rfl,aJ,b0,cV⟩ bC ⟨fu,a0⟩ cW;have b1:=a0;unfold S5 at b1;refine zg 4 rfl (JL.ln underlying22 rfl rfl rfl ?_);refine zg 2 rfl (A0 b1 (λcX cY=>?_) (λcX cZ=>?_))
    ·refine zg 10 rfl (JL.ln underlying22 rfl rfl rfl ?_);obtain⟨b2,c0,b3⟩:=bs cY;refine zg 2 rfl (Bu (λL s=>∃(a2:Bc) (a3:LH) (a8:Ao) (a9:Nat) (ba:Seg),b2=Sum.inr a2/\Jn aI H a3 [[(K,ac)],ba] [(4,Ak ag 0),(6,.map (some K)),(10,sV a8 a2 a9)] L s (OL 28 (rL rI) a3 a8 a9 ba a2)) ?_ ?_)
     ·rintro _ _ ⟨a2,a3,a8,a9,ba,rfl,rfl,rfl,b4,b5,c1⟩;have c3:=elim_inr b3;refine zg 8 rfl (JL.ln underlying22 rfl rfl rfl ?_);refine zg 2 rfl (A0 c3 (λc4 c5=>?_) (λc4 c6=>?_))
      ·refine JL.exit rfl (JS.drop 0 b5 rfl λc7=>?_);refine JS.drop 1 c7 rfl λc8=>?_;obtain rfl:=oi c5;have c9:bB=(Sum.inr ()):=(bC _ a0).symm;exact AB (bZ _ _ ⟨(),a3,c9,rfl,rfl,(aJ.Ad b4),c8⟩) rfl
      ·refine zg 2 rfl ?_;obtain rfl:=oi c6;exact AB (cW _ _ a2 ⟨a3,a8,a9,ba,rfl,rfl,(aJ.Ad b4),b5,c1⟩ a0) rfl
     ·intro da;refine JL.block (CP c0 (λL s Y=>∃(av:LH) (aS:Ao) (aT:Nat) (aU:Seg),Jn aI H av [[(K,ac)],ap,aU] [(4,Ak ag 0),(6,.map (some K)),(10,sV aS Y.1 aT),(43,sV al O am),(44,iV (O.length:Int)),(45,iV Y.2)] L s (OL 28 (rL rI) av aS aT aU Y.1)) ⟨aI,none,0,[],rfl,rfl,Az,b0,OL.nil⟩ ?_);rintro _ _ Y ⟨av,aS,aT,aU,rfl,rfl,aK,a4,b6⟩ b7 ⟨fv,bb⟩ db;have b8:=bb;unfold SH at b8;refine zg 5 rfl (A0 b8 (λdc dd=>?_) (λdc de=>?_))
      ·obtain⟨aw,df,dg⟩:=bs dd;refine zg 5 rfl (MO 1 (cV.Ah aK) df rfl rfl rfl rfl rfl rfl underlying22 Fy ?_);rintro fw fx f155 _ dh ⟨aL,aV,rfl,ay⟩ di fy fz fA fB;refine Al (v:= sV aL aw aV) rfl (λρ h=>Yl.load Jj (h _ _ rfl) (BU (j:=1) a4 dh (di 0 _ rfl))) (zg 6 rfl ?_);refine JL.ln underlying28 rfl rfl rfl (zg 3 rfl ?_);refine PO 15 λZ=>A3 Z rfl [0,1,2] rfl ?_;obtain⟨dj,b9,dk⟩:=bs dg;refine FQ 0 #[true,true,true,true,true,true,true,true,true,true,true,true,true,true,true] (λL s=>L= [(4,Ak ag 0),(6,.map (some K)),(10,sV aS Y.1 aT),(12,sV aL aw aV),(43,sV al O am),(44,iV (O.length:Int)),(45,iV Y.2),(65,.bool dj)]/\s=Aj av H [[(K,ac)],ap,aU]) ?_ ?_
       ·rintro _ _ ⟨rfl,rfl⟩;refine AH.fin (by decide+kernel) (Cz dk (λdn dp=>?_) (λdn dq=>?_))
        ·refine zg 6 rfl (JS.drop 0 a4 rfl λdr=>?_);refine JS.drop 1 dr rfl λdt=>JS.drop 2 dt rfl λdu=>?_;obtain rfl:=oi dp;obtain rfl:=b7 _ bb;have dv:=elim_inl b3;obtain rfl:=oi dv;obtain rfl:=bC _ a0;have dw:=elim_inl bV;obtain rfl:=oi dw;exact A2 func33 rfl rfl (bw (((((aY.Ad bx).Ad a7).Ad bA).Ad aJ).Ad aK) rfl ⟨aL,aV,rfl,rfl,ay⟩ du)
        ·refine zg 3 rfl (JL.fd underlying77 CJ rfl rfl rfl ?_);refine Cc 0 (bS.Ah ((bA.Ad aJ).Ad aK)) underlying25 FN F2 ?_;refine JL.ln underlying22 rfl rfl rfl ?_;obtain⟨bD,dx,dy⟩:=bs dq;refine zg 2 rfl (Bu (λL s=>∃(be:LH) (bf:Ao) (bg:Nat) (bh:Seg),Jn av H be [[(K,ac)],ap,bh] [(4,Ak ag 0),(6,.map (some K)),(10,sV bf bD bg),(43,sV al O am),(44,iV (O.length:Int)),(45,iV Y.2)] L s (OL 28 (rL rI) be bf bg bh bD)) ?_ ?_)
         ·rintro _ _ ⟨be,bf,bg,bh,rfl,rfl,dz,dA,dB⟩;obtain⟨dC,dD,dE⟩:=bs dy;refine zg 2 rfl (Bq dD rfl rfl rfl ?_);refine zg 2 rfl ?_;obtain rfl:=oi dE;exact AB (db _ _ (bD,dC) ⟨be,bf,bg,bh,rfl,rfl,(aK.Ad dz),dA,dB⟩ bb) rfl
         ·intro dF;refine JL.block (CP dx (λL s U=>∃(a5:LH) (aM:Ao) (aN:Nat) (aW:Seg),Jn av H a5 [[(K,ac)],ap,aW] [(4,Ak ag 0),(6,.map (some K)),(10,sV aM U.1 aN),(12,sV aL aw aV),(43,sV al O am),(44,iV (O.length:Int)),(45,iV Y.2),(70,iV (aZ.1.1.length:Int)),(71,iV U.2)] L s (OL 28 (rL rI) a5 aM aN aW U.1)) ⟨av,aS,aT,aU,rfl,rfl,Az,a4,b6⟩ ?_);rintro _ _ U ⟨a5,aM,aN,aW,rfl,rfl,az,ca,bE⟩ dG ⟨fC,bF⟩ dH;have cb:=bF;unfold SN at cb;refine zg 5 rfl (A0 cb (λdI dJ=>?_) (λdI dK=>?_))
          ·obtain⟨bG,dL,dM⟩:=bs dJ;refine zg 2 rfl (Bu (λL s=>∃(bi:LH) (bj:Ao) (bl:Nat) (bm:Seg),Jn a5 H bi [[(K,ac)],ap,bm] [(4,Ak ag 0),(6,.map (some K)),(10,sV bj bG bl),(12,sV aL aw aV),(43,sV al O am),(44,iV (O.length:Int)),(45,iV Y.2),(70,iV (aZ.1.1.length:Int)),(71,iV U.2)] L s (OL 28 (rL rI) bi bj bl bm bG)) ?_ ?_)
           ·rintro _ _ ⟨bi,bj,bl,bm,rfl,rfl,dN,dO,dQ⟩;obtain⟨dR,dS,dT⟩:=bs dM;refine JL.region (Bq dS rfl rfl rfl ?_);refine zg 2 rfl ?_;obtain rfl:=oi dT;exact AB (dH _ _ (bG,dR) ⟨bi,bj,bl,bm,rfl,rfl,(az.Ad dN),dO,dQ⟩ bF) rfl
           ·intro cc;obtain⟨fD,dU,dV⟩:=bs dL;refine zg 11 rfl (CU (ZI (ay.Ah az) dU) rfl rfl (A7 func82 rfl) ca λbn aq bo=>?_);obtain⟨dW,dX,dY⟩:=bs dV;refine zg 1 rfl (H6 [] (λL s=>∃(bH:LH),Jm bn H bH [[(K,ac)],ap,aW] [(4,Ak ag 0),(6,.map (some K)),(10,sV aM U.1 aN),(12,sV aL aw aV),(14,iV U.2),(43,sV al O am),(44,iV (O.length:Int)),(45,iV Y.2),(70,iV (aZ.1.1.length:Int)),(71,iV U.2),(94,.bool dW)] L s) ?_ ?_)
            ·rintro _ _ ⟨bH,rfl,rfl,aO,cd⟩;refine JL.done (Cz dY (λdZ ea=>?_) (λdZ eb=>?_))
             ·refine JL.exit rfl ?_;obtain rfl:=oi ea;exact AB (cc _ _ ⟨bH,aM,aN,aW,rfl,rfl,(aq.Ad aO),cd,(bE.Ah (aq.Ad aO))⟩) rfl
             ·refine zg 5 rfl (JL.ln underlying28 rfl rfl rfl ?_);refine zg 1 rfl (JL.ln underlying28 rfl rfl rfl ?_);refine Al (v:= .slice aL aw.length aw.length) rfl (λρ h=>Qu (Am.spot (ay.Ah ((az.Ad aq).Ad aO))) (And.left (ay.Ah ((az.Ad aq).Ad aO))) underlying28 AG (h _ _ rfl) (h _ _ rfl) (h _ _ rfl)) (zg 1 rfl ?_);refine FT (pp:=rI) [iV U.2] [U.2] rfl rfl rfl underlying28 AG CI (by decide) rfl rfl rfl ⟨rfl,trivial⟩ cd λfE fF ec ed=>B8 3 ec ed rfl λfG bI ee ef=>?_;obtain⟨eg,eh,ei⟩:=bs eb;refine UP (pp:=rI) eh rfl rfl rfl rfl rfl rfl rfl underlying28 underlying28 AG (Dl type3) CI rfl (by decide) (by decide) (ay.Ah (((az.Ad aq).Ad aO).Ad bI)) ee ef λej ek el ce em en=>?_;obtain⟨fH,eo,ep⟩:=bs ei;refine JS.app (pp:=(rL rI)) (v:= sV ek eg el) (a:=aM) (c:=aN) 2 eo rfl rfl rfl rfl (λ_=>rfl) rfl (λ_=>rfl) rfl rfl rfl underlying22 underlying22 underlying22 Fy (Dl type28) KB rfl (by decide) (by decide) (by decide) (by decide) (bE.Ah (((aq.Ad aO).Ad bI).Ad ce)) ⟨_,_,rfl,em⟩ en rfl λfI er et eu ew ex=>zg 3 rfl ?_;obtain rfl:=oi ep;exact AB (cc _ _ ⟨ej,er,et,eu,rfl,rfl,(((aq.Ad aO).Ad bI).Ad ce),ex,ew⟩) rfl
            ·intro bJ;refine EI 77 dX (λey ez=>?_) (λey eA=>?_)
             ·refine zg 17 rfl ?_;obtain rfl:=oi ez;exact AB (bJ _ _ ⟨bn,rfl,rfl,Az,bo⟩) rfl
             ·refine zg 1 rfl (JL.ln underlying28 rfl rfl rfl ?_);refine zg 2 rfl (Ja 81 eA (λeB eC=>?_) (λeB eD=>?_))
              ·refine zg 3 rfl (JL.ln underlying28 rfl rfl rfl ?_);obtain⟨fJ,eE,eF⟩:=bs eC;refine Ch eE rfl rfl rfl ?_;obtain⟨bp,eG,eH⟩:=bs eF;refine JS.ix (ay.Ah (az.Ad aq)) eG underlying28 AG ?_;rintro fK fL _ rfl eI;refine C4 0 eI Ba rfl rfl rfl (zg 1 rfl ?_);refine Al (v:= .agg #[iV bp,iV U.2]) rfl (λρ h=>Da [(0,1),(1,1)] h IV underlying101 ⟨rfl,AQ type3,rfl,AQ type3,trivial⟩ rfl rfl) (Al (v:= .bool (((BA aQ (bp,U.2)).getD false))) rfl (λρ h=>Yl.lookup (ok:=false) (xs:=aQ) (x0:=(bp,U.2)) (z0:=false) O5 underlying99 Lm ⟨_,rfl,rfl⟩ (bU.Ah (((aJ.Ad aK).Ad az).Ad aq)) ⟨_,⟨_,_,rfl,rfl,rfl⟩,rfl⟩ (by rintro _ ⟨_,rfl,rfl⟩;rfl) (h _ _ rfl) (h _ _ rfl) (DF (j:=0) (i:=0) bo rfl rfl)) ?_);refine Al (v:= .bool ((!((BA aQ (bp,U.2)).getD false)))) rfl (λρ h=>Yl.not (h _ _ rfl)) (zg 2 rfl ?_);obtain rfl:=oi eH;exact AB (bJ _ _ ⟨bn,rfl,rfl,Az,bo⟩) rfl
              ·refine zg 13 rfl ?_;obtain rfl:=oi eD;exact AB (bJ _ _ ⟨bn,rfl,rfl,Az,bo⟩) rfl
          ·refine JL.exit rfl ?_;obtain rfl:=oi dK;obtain rfl:=dG _ bF;exact AB (dF _ _ ⟨a5,aM,aN,aW,rfl,rfl,az,ca,bE⟩) rfl
       ·intro cf;refine GC (q:=1<(aw.length:Int)) (i:=53) rfl (λbK=>?_) (λbK=>?_)
        ·have eJ:=ip b9 bK;refine A3 Z rfl [3,4,5] rfl ?_;obtain⟨fM,eK,eL⟩:=bs eJ;refine AN 6 Z rfl rfl (λρ h s' aP=>Ed (h _ _ rfl) (h _ _ rfl) eK) ?_;obtain⟨bq,eM,eN⟩:=bs eL;refine Ei 7 ay eM Z underlying28 AG ?_;rintro fN fO _ rfl eO;refine AN (v:=iV bq) 8 Z rfl rfl (λρ h s' aP=>Yl.load Ba (h _ _ rfl) (LV aP (At.K7 (j:=0) eO rfl))) ?_;refine Dw 9 Z rfl rfl ?_;obtain⟨br,eP,eQ⟩:=bs eN;refine Ei 10 ay eP Z underlying28 AG ?_;rintro fP fQ _ rfl eR;refine AN (v:=iV br) 11 Z rfl rfl (λρ h s' aP=>Yl.load Ba (h _ _ rfl) (LV aP (At.K7 (j:=0) eR rfl))) ?_;refine AN (v:= .agg #[iV bq,iV br]) 12 Z rfl rfl (λρ h s' aP=>Da [(0,1),(1,1)] h IV underlying101 ⟨rfl,AQ type3,rfl,AQ type3,trivial⟩ rfl rfl) ?_;refine AN (v:= .bool (((BA aQ (bq,br)).getD false))) 13 Z rfl rfl (λρ h s' aP=>Yl.lookup (ok:=false) (xs:=aQ) (x0:=(bq,br)) (z0:=false) O5 underlying99 Lm ⟨_,rfl,rfl⟩ (bU.Ah (aJ.Ad aK)) ⟨_,⟨_,_,rfl,rfl,rfl⟩,rfl⟩ (by rintro _ ⟨_,rfl,rfl⟩;rfl) (h _ _ rfl) (h _ _ rfl) (PT aP (DF (j:=0) (i:=0) a4 rfl rfl))) ?_;refine Dw 14 Z rfl rfl ?_;obtain rfl:=oi eQ;refine Di ?_ (cf _ _ ⟨rfl,rfl⟩);exact⟨rfl,rfl,rfl,rfl,rfl,rfl,rfl,rfl,trivial⟩
        ·have eS:=im b9 bK;refine A3 Z rfl [3,4,5,6,7,8,9,10,11,12,13,14] rfl ?_;obtain rfl:=oi eS;refine Di ?_ (cf _ _ ⟨rfl,rfl⟩);exact⟨rfl,rfl,rfl,rfl,rfl,rfl,rfl,rfl,trivial⟩
      ·refine JL.exit rfl (JS.drop 1 a4 rfl λeT=>?_);obtain rfl:=oi de;have eU:b2=(Sum.inr Y.1):=(b7 _ bb).symm;exact AB (da _ _ ⟨Y.1,av,aS,aT,aU,eU,rfl,rfl,aK,eT,b6⟩) rfl
    ·refine JL.exit rfl (JS.drop 0 b0 rfl λeV=>?_);refine JS.drop 1 eV rfl λeW=>?_;obtain rfl:=oi cZ;have eX:bB=(Sum.inr ()):=(bC _ a0).symm;exact AB (bZ _ _ ⟨(),aI,eX,rfl,rfl,aJ,eW⟩) rfl
  ·intro eY;refine JL.block (CP cH (λL s a6=>∃(bu:LH) (bv:Obj),Jn bz H bu [[(K,bv)]] [(4,Ak ag 0),(6,.map (some K)),(26,sV cw aZ.1.2 cy),(27,iV (aZ.1.2.length:Int)),(28,iV a6.2)] L s (Bz DX true rB false bu bv a6.1)) ⟨bz,(.map #[] 0),rfl,rfl,Az,cG,Bz.nil⟩ ?_);rintro _ _ a6 ⟨bu,bv,rfl,rfl,bL,cg,ci⟩ eZ ⟨fR,bM⟩ e0;have ck:=bM;unfold Tb at ck;refine zg 5 rfl (A0 ck (λe1 e3=>?_) (λe1 e4=>?_))
   ·obtain⟨aX,e5,e6⟩:=bs e3;refine zg 5 rfl (JS.ix (cz.Ah (a7.Ad bL)) e5 underlying23 Bf ?_);rintro fS fT _ ⟨_,_,rfl,rfl,⟨_,_,rfl,rfl,rfl⟩⟩ e7;refine CL e7 El Bf rfl rfl (BT cg BK λfU e8=>?_);refine BF 1 e8 Bf λe9=>?_;refine DJ 1 e9 rfl λfa cm cn fb=>zg 3 rfl (Cc 0 cn underlying27 AG Ba ?_);refine Cc 1 cn underlying27 AG Ba ?_;refine Al (v:= .agg #[iV aX.1,iV aX.2.1]) rfl (λρ h=>Da [(0,1),(1,1)] h IV underlying101 ⟨rfl,AQ type3,rfl,AQ type3,trivial⟩ rfl rfl) (JS.mapUpdate (xs:=a6.1) (x0:=(aX.1,aX.2.1)) (v0:=true) 0 O5 underlying99 (ci.Ah cm) ⟨_,⟨_,_,rfl,rfl,rfl⟩,rfl⟩ ⟨_,rfl,rfl⟩ fb rfl rfl rfl rfl rfl rfl rfl λfc fe ff=>?_);obtain⟨fg,fh,fj⟩:=bs e6;refine zg 3 rfl (Bq fh rfl rfl rfl ?_);refine zg 2 rfl ?_;obtain rfl:=oi fj;exact AB (e0 _ _ ((Df a6.1 (aX.1,aX.2.1) true),fg) ⟨fa,fc,rfl,rfl,(bL.Ad cm),ff,fe⟩ bM) rfl
   ·refine JL.exit rfl ?_;obtain rfl:=oi e4;obtain rfl:=eZ _ bM;exact AB (eY _ _ ⟨bu,bv,rfl,rfl,bL,cg,ci⟩) rfl
end Pal
namespace Pal
open Go Go.Conc Go.Proofs
open Go.Proofs.Tryz
variable {J:Judge Tryz.prog}{E:LH}
def SI:List Nat:= [0,1,2,2,3,3,3,3,4,4,4,4,4,4,4,4,5,5,5,5,5,5,5,5,5,5,5,5,5,5,5,5,6,6,6,6,6,6,6,6,6,6,6,6,6,6,6,6,6,6,6,6,6,6,6,6,6,6,6,6,6,6,6,6,7,7,7,7,7,7,7,7,7,7,7,7,7,7,7,7,7,7,7,7,7,7,7,7,7,7,7,7,7,7,7,7,7,7,7,7,7,7,7,7,7,7,7,7,7,7,7,7,7,7,7,7,7,7,7,7,7,7,7,7,7,7,7,7,8,8,8,8,8,8,8,8,8,8,8,8,8,8,8,8,8,8,8,8,8,8,8,8,8,8,8,8,8,8,8,8,8,8,8,8,8,8,8,8,8,8,8,8,8,8,8,8,8,8,8,8,8,8,8,8,8,8,8,8,8,8,8,8,8,8,8,8,8,8,8,8,8,8,8,8,8,8,8,8,8,8,8,8,8,8,8,8,8,8,8,8,8,8,8,8,8,8,8,8,8,8,8,8,8,8,8,8,8,8,8,8,8,8,8,8,8,8,8,8,8,8,8,8,8,8,8,8]
def f146(fu_:Nat)(p0:Nat):Option Int:= Option.bind (if(((4294967296):Nat):Int)<=(((p0):Nat):Int) then(some (p0>>>32,32)) else(some (p0,0))) λK=> Option.bind (if(((65536):Nat):Int)<=(((K.1):Nat):Int) then((Aw (K.2+16)).bind λY=> some (K.1>>>16,Y)) else(some K)) λO=> Option.bind (if(((256):Nat):Int)<=(((O.1):Nat):Int) then((Aw (O.2+8)).bind λZ=> some (O.1>>>8,Z)) else(some O)) λU=> (PV SI (((((U.1) % 256):Nat):Int))).bind λac=> (Aw (((ac):Nat):Int)).bind λag=> (Aw (U.2+ag)).bind λal=> some al
theorem Yx{p0:Nat}{fu_:Nat}{r:Int}(Y:f146 fu_ p0=some r):AO J 146 [.int .u64 ((p0:Nat):Int)] E [] (λw E' B'=>w=iV r/\B'= []):=by
 refine Bj func146 λQ a9 cs H Z aq=>?_;unfold f146 at Y;obtain⟨K,av,aw⟩:=bs Y;refine zg 10 rfl (EN [] [(0,.int .u64 ((K.1:Nat):Int)),(2,iV K.2)] (λba ay ac=>?_) (λag=>?_))
 ·obtain⟨O,az,aI⟩:=bs aw;refine zg 6 rfl (EN [] [(0,.int .u64 ((O.1:Nat):Int)),(2,iV O.2)] (λbb aJ al=>?_) (λam=>?_))
  ·obtain⟨U,aK,aL⟩:=bs aI;refine zg 6 rfl (EN [] [(0,.int .u64 ((U.1:Nat):Int)),(2,iV U.2)] (λbe aM aN=>?_) (λap=>?_))
   ·refine zg 4 rfl (Al (v:= .int .u8 (((U.1) % 256:Nat):Int)) rfl (λρ h=>XJ underlying72 underlying5 (h _ _ rfl)) ?_);obtain⟨aO,aP,aQ⟩:=bs aL;refine Al (v:= .int .u8 ((aO:Nat):Int)) rfl (λρ h=>U6 (l:=SI) (by decide+kernel) underlying9 (h _ _ rfl) (h _ _ rfl) aP) ?_;obtain⟨aR,aS,aT⟩:=bs aQ;refine Al (v:=iV aR) rfl (λρ h=>W6 underlying5 underlying3 (h _ _ rfl) aS) ?_;obtain⟨bf,aU,aV⟩:=bs aT;refine Bq aU rfl rfl rfl (zg 2 rfl ?_);obtain rfl:=oi aV;exact A2 func146 rfl rfl (aq ((ay.Ad aJ).Ad aM) rfl ⟨rfl,rfl⟩ aN)
   ·refine A0 aK (λaW aX=>?_) (λaW aY=>?_)
    ·refine zg 3 rfl (Al (v:= .int .u64 ((O.1>>>8:Nat):Int)) rfl (λρ h=>KV 8 (h _ _ rfl) (h _ _ rfl) (by decide)) ?_);obtain⟨bg,aZ,a0⟩:=bs aX;refine zg 4 rfl (Bq aZ rfl rfl rfl ?_);refine zg 2 rfl ?_;obtain rfl:=oi a0;exact ap Az al rfl
    ·refine JL.skip ?_;obtain rfl:=oi aY;exact ap Az al rfl
  ·refine A0 az (λa1 a2=>?_) (λa1 a3=>?_)
   ·refine zg 3 rfl (Al (v:= .int .u64 ((K.1>>>16:Nat):Int)) rfl (λρ h=>KV 16 (h _ _ rfl) (h _ _ rfl) (by decide)) ?_);obtain⟨bh,a4,a5⟩:=bs a2;refine zg 4 rfl (Bq a4 rfl rfl rfl ?_);refine zg 2 rfl ?_;obtain rfl:=oi a5;exact am Az ac rfl
   ·refine JL.skip ?_;obtain rfl:=oi a3;exact am Az ac rfl
 ·refine A0 av (λa6 a7=>?_) (λa6 a8=>?_)
  ·refine zg 3 rfl (Al (v:= .int .u64 ((p0>>>32:Nat):Int)) rfl (λρ h=>KV 32 (h _ _ rfl) (h _ _ rfl) (by decide)) ?_);refine zg 5 rfl ?_;obtain rfl:=oi a7;exact ag Az Z rfl
  ·refine JL.skip ?_;obtain rfl:=oi a8;exact ag Az Z rfl
def f115(fu_:Nat)(p0:Nat):Option Int:= (f146 fu_ p0).bind λK=> some K
theorem Nf{p0:Nat}{fu_:Nat}{r:Int}(K:f115 fu_ p0=some r):AO J 115 [.int .u64 ((p0:Nat):Int)] E [] (λw E' B'=>w=iV r/\B'= []):=by
 refine Bj func115 λQ al cs H O U=>?_;unfold f115 at K;obtain⟨am,Y,Z⟩:=bs K;refine zg 10 rfl (CU (Yx Y) rfl rfl (A7 func146 rfl) O λap ac ag=>?_);refine zg 2 rfl ?_;obtain rfl:=oi Z;exact A2 func115 rfl rfl (U ac rfl ⟨rfl,rfl⟩ ag)
def OV(fu_:Nat)(Y:Int)(K:Int×Ax):Option (Bn (Int×Ax) (Ax)):= Option.bind (if Y<K.1 then((ix K.2 K.1).bind λZ=> (Aw (K.1 - 1)).bind λac=> (ix K.2 ac).bind λag=> (f113 fu_ Z ag).bind λal=> some (decide (al<0))) else(some false)) λam=> if am=true then((Aw (K.1 - 1)).bind λO=> (Aw (K.1 - 1)).bind λap=> (ix K.2 ap).bind λU=> (ix K.2 K.1).bind λaq=> (ix (K.2.set (Int.toNat K.1) U) O).bind λaw=> (Aw (K.1 - 1)).bind λav=> some (.more (av,((K.2.set (Int.toNat K.1) U).set (Int.toNat O) aq)))) else(some (.done K.2))
def MZ(fu_:Nat)(O:Int)(p2:Int)(K:Int×Ax):Option (Bn (Int×Ax) (Ax)):= if K.1<p2 then(Option.bind (iter (OV fu_ O) fu_ K) λU=> (Aw (K.1+1)).bind λY=> some (.more (Y,U))) else(some (.done K.2))
def f193(fu_:Nat)(p0:Ax)(K:Int)(p2:Int):Option (Ax):= (Aw (K+1)).bind λO=> Option.bind (iter (MZ fu_ K p2) fu_ (O,p0)) λU=> some U
theorem YX{K:Nat}{U:Nat}{nw:Nat}{aN:Av_}{p0:Ax}{al:Int}{p2:Int}(hW:WL 27 Ay E K U nw aN p0){fu_:Nat}{r:Ax}(aT:f193 fu_ p0 al p2=some r):AO J 193 [.slice (AR K) nw U,iV al,iV p2,(fV 113)] E [(K,.cells aN 27 (0,0))] (λw E' B'=>∃(aU:Av_),w= .tuple #[]/\B'= [(K,.cells aU 27 (0,0))]/\WL 27 Ay E' K U nw aU r):=by
 refine Bj func193 λQ ce cs H ba bb=>?_;unfold f193 at aT;obtain⟨cf,be,bf⟩:=bs aT;refine zg 3 rfl (Bq be rfl rfl rfl ?_);obtain⟨bg,bh,bi⟩:=bs bf;refine zg 2 rfl (Bu (λL s=>∃(aO:LH) (f17:Av_),Jn E H aO [bX K f17 27] [] L s (WL 27 Ay aO K U nw f17 bg)) ?_ ?_)
 ·rintro _ _ ⟨aO,f17,rfl,rfl,bj,bl,bm⟩;obtain rfl:=oi bi;exact JL.fin (v:= .tuple #[]) rfl rfl (Bx.list func193 rfl (vs:= []) trivial) (bb bj rfl ⟨f17,rfl,(by first | rfl | simp | (simp [Value.cells])),bm⟩ bl)
 ·intro bn;refine JL.block (CP bh (λL s ap=>∃(am:LH) (f25:Av_),Jn E H am [bX K f25 27] [(0,.slice (AR K) nw U),(1,iV al),(2,iV p2),(3,(fV 113)),(8,iV ap.1)] L s (WL 27 Ay am K U nw f25 ap.2)) ⟨E,aN,rfl,rfl,Az,ba,hW⟩ ?_);rintro _ _ ap ⟨am,f25,rfl,rfl,aV,aW,aX⟩ bo ⟨cg,aP⟩ bp;have aY:=aP;unfold MZ at aY;refine zg 7 rfl (A0 aY (λbq br=>?_) (λbq bu=>?_))
  ·obtain⟨aZ,bv,bw⟩:=bs br;refine zg 8 rfl (Bu (λL s=>∃(aJ:LH) (f48:Av_),Jn am H aJ [bX K f48 27] [(0,.slice (AR K) nw U),(1,iV al),(2,iV p2),(3,(fV 113)),(8,iV ap.1)] L s (WL 27 Ay aJ K U nw f48 aZ)) ?_ ?_)
   ·rintro _ _ ⟨aJ,f48,rfl,rfl,bx,bz,bA⟩;obtain⟨bB,bC,bD⟩:=bs bw;refine zg 3 rfl (Bq bC rfl rfl rfl ?_);refine zg 2 rfl ?_;obtain rfl:=oi bD;exact AB (bp _ _ (bB,aZ) ⟨aJ,f48,rfl,rfl,(aV.Ad bx),bz,bA⟩ aP) rfl
   ·intro bE;refine JL.block (CP bv (λL s ag=>∃(ay:LH) (f58:Av_),Jn am H ay [bX K f58 27] [(0,.slice (AR K) nw U),(1,iV al),(2,iV p2),(3,(fV 113)),(8,iV ap.1),(9,iV ag.1)] L s (WL 27 Ay ay K U nw f58 ag.2)) ⟨am,f25,rfl,rfl,Az,aW,aX⟩ ?_);rintro _ _ ag ⟨ay,f58,rfl,rfl,a0,az,O⟩ bF ⟨ci,aQ⟩ bG;have a1:=aQ;unfold OV at a1;refine zg 2 rfl (Fj 17 [K] ⟨⟨0,_,rfl⟩,trivial⟩ az λac=>?_);refine A3 ac rfl [0,1,2,3] rfl ?_;obtain⟨bH,a2,bI⟩:=bs a1;refine FQ 0 #[true,true,true,true,true,true,true,true,true,true,true,true,true,true,true,true,true] (λL s=>∃(aK:LH),Jm ay H aK [bX K f58 27] [(0,.slice (AR K) nw U),(1,iV al),(2,iV p2),(3,(fV 113)),(8,iV ap.1),(9,iV ag.1),(34,.bool bH)] L s) ?_ ?_
    ·rintro _ _ ⟨aK,rfl,rfl,aq,aL⟩;refine AH.fin (by decide+kernel) (Cz bI (λbJ bK=>?_) (λbJ bL=>?_))
     ·refine zg 3 rfl (IG [15,17] [K] mixed rfl ?_);refine Bl 0 rfl rfl (Bl 1 rfl rfl ?_);refine Bl 2 rfl rfl (Bl 3 rfl rfl ?_);obtain⟨a3,bM,bN⟩:=bs bK;refine HG 4 true rfl rfl (λρ h s' a4=>Ed (h _ _ rfl) (h _ _ rfl) bM) (Bl 5 rfl rfl ?_);refine Bl 6 rfl rfl ?_;obtain⟨ck,bO,bP⟩:=bs bN;refine HG 7 true rfl rfl (λρ h s' a4=>Ed (h _ _ rfl) (h _ _ rfl) bO) ?_;obtain⟨Y,a5,bQ⟩:=bs bP;obtain⟨_,⟨_,_,rfl,rfl,⟨_,_,rfl,rfl,rfl⟩⟩,bR⟩:=WL.at (O.Ah aq) a5;refine JB.ix 8 O.2 a5 underlying23 Bf ?_;refine TA 9 [iV Y.1,iV Y.2.1,iV Y.2.2] 0 aL bR El Bf ?_;refine Bl 10 rfl rfl (Bl 11 rfl rfl ?_);obtain⟨Z,aM,bS⟩:=bs bQ;obtain⟨_,⟨_,_,rfl,rfl,⟨_,_,rfl,rfl,rfl⟩⟩,bT⟩:=WL.at (O.Ah aq) aM;refine JB.ix 12 O.2 aM underlying23 Bf ?_;refine TA 13 [iV Z.1,iV Z.2.1,iV Z.2.2] 0 aL bT El Bf ?_;refine JB.ix 14 O.2 aM underlying23 Bf ?_;have aI:=WL.put (x':=Y) (ws':= [iV Y.1,iV Y.2.1,iV Y.2.2]) (O.Ah aq) O.2 aM ⟨_,_,rfl,rfl,⟨_,_,rfl,rfl,rfl⟩⟩;refine EZ 15 0 aL Bf aI.2 λbU=>?_;obtain⟨cm,aR,bV⟩:=bs bS;obtain⟨_,⟨_,_,rfl,rfl,⟨_,_,rfl,rfl,rfl⟩⟩,cn⟩:=WL.at aI.1 aR;refine JB.ix 16 (aI.1).2 aR underlying23 Bf ?_;have a6:=WL.put (x':=Z) (ws':= [iV Z.1,iV Z.2.1,iV Z.2.2]) aI.1 (aI.1).2 aR ⟨_,_,rfl,rfl,⟨_,_,rfl,rfl,rfl⟩⟩;refine EZ 17 0 bU Bf a6.2 λbW=>?_;refine JB.fin (by decide+kernel) ?_;obtain⟨bY,bZ,b0⟩:=bs bV;refine zg 3 rfl (Ch bZ rfl rfl rfl ?_);refine zg 2 rfl ?_;obtain rfl:=oi b0;exact AB (bG _ _ (bY,((ag.2.set (Int.toNat ag.1) Y).set (Int.toNat a3) Z)) ⟨aK,(A8 (A8 f58 (Int.toNat (ag.1)*3) [iV Y.1,iV Y.2.1,iV Y.2.2]) (Int.toNat (a3)*3) [iV Z.1,iV Z.2.1,iV Z.2.2]),rfl,rfl,(a0.Ad aq),bW,a6.1⟩ aQ) rfl
     ·refine JL.exit rfl ?_;obtain rfl:=oi bL;obtain rfl:=bF _ aQ;exact AB (bE _ _ ⟨aK,f58,rfl,rfl,(a0.Ad aq),aL,(O.Ah aq)⟩) rfl
    ·intro a7;refine GC (q:=al<ag.1) (i:=21) rfl (λaS=>?_) (λaS=>?_)
     ·have b1:=ip a2 aS;refine A3 ac rfl [4,5,6] rfl ?_;obtain⟨av,a8,b2⟩:=bs b1;obtain⟨_,⟨_,_,rfl,rfl,⟨_,_,rfl,rfl,rfl⟩⟩,b3⟩:=WL.at O a8;refine JG.ix 7 ac (O).2 a8 underlying23 Bf ?_;refine Tv 8 ac [iV av.1,iV av.2.1,iV av.2.2] 0 az b3 El Bf ?_;refine A3 ac rfl [9,10] rfl ?_;obtain⟨co,b4,b5⟩:=bs b2;refine AN 11 ac rfl rfl (λρ h s' a4=>Ed (h _ _ rfl) (h _ _ rfl) b4) ?_;obtain⟨aw,a9,b6⟩:=bs b5;obtain⟨_,⟨_,_,rfl,rfl,⟨_,_,rfl,rfl,rfl⟩⟩,b7⟩:=WL.at O a9;refine JG.ix 12 ac (O).2 a9 underlying23 Bf ?_;refine Tv 13 ac [iV aw.1,iV aw.2.1,iV aw.2.2] 0 az b7 El Bf ?_;obtain⟨cp,b8,b9⟩:=bs b6;refine Jp (i:=14) ⟨⟨0,_,rfl⟩,trivial⟩ (vs:= [.agg #[iV av.1,iV av.2.1,iV av.2.2],.agg #[iV aw.1,iV aw.2.1,iV aw.2.2]]) (Te b8) (by decide+kernel) rfl rfl rfl rfl (A7 func113 rfl) rfl az ?_;rintro _ ca _ cb ⟨rfl,rfl⟩ cc;refine A3 ac rfl [15,16] rfl ?_;obtain rfl:=oi b9;refine Di ?_ (a7 _ _ ⟨ca,rfl,rfl,cb,cc⟩);exact⟨rfl,rfl,rfl,rfl,rfl,rfl,rfl,trivial⟩
     ·have cd:=im a2 aS;refine A3 ac rfl [4,5,6,7,8,9,10,11,12,13,14,15,16] rfl ?_;obtain rfl:=oi cd;refine Di ?_ (a7 _ _ ⟨ay,rfl,rfl,Az,az⟩);exact⟨rfl,rfl,rfl,rfl,rfl,rfl,rfl,trivial⟩
  ·refine JL.exit rfl ?_;obtain rfl:=oi bu;obtain rfl:=bo _ aP;exact AB (bn _ _ ⟨am,f25,rfl,rfl,aV,aW,aX⟩) rfl
def O2(fu_:Nat)(p0:Ax)(K:Int)(p2:Int)(p3:Int)(Y:Unit):Option (Bn Unit ((Ax)⊕(Unit))):= (Aw (p2 - K)).bind λO=> if O<=12 then((f193 fu_ p0 K p2).bind λU=> some (.done (Sum.inl U))) else(if p3=0 then(none) else(none))
def f169(fu_:Nat)(p0:Ax)(K:Int)(p2:Int)(p3:Int):Option (Ax):= Option.bind (iter (O2 fu_ p0 K p2 p3) fu_ ()) λO=> Sum.elim (λr=>some r) (λU=> none) O
theorem Zi{K:Nat}{O:Nat}{nw:Nat}{U:Av_}{p0:Ax}{Y:Int}{p2:Int}{p3:Int}(hW:WL 27 Ay E K O nw U p0){fu_:Nat}{r:Ax}(Z:f169 fu_ p0 Y p2 p3=some r):AO J 169 [.slice (AR K) nw O,iV Y,iV p2,iV p3,(fV 113)] E [(K,.cells U 27 (0,0))] (λw E' B'=>∃(ac:Av_),w= .tuple #[]/\B'= [(K,.cells ac 27 (0,0))]/\WL 27 Ay E' K O nw ac r):=by
 refine Bj func169 λQ aY cs H aq av=>?_;unfold f169 at Z;obtain⟨aZ,aw,ay⟩:=bs Z;refine zg 8 rfl (Bu (λL s=>False) ?_ ?_)
 ·intro _ _ az;exact az.elim
 ·intro a0;refine JL.block (DO aw (λag=> [bX K U 27]) (λag=> [(0,.slice (AR K) nw O),(1,iV Y),(2,iV p2),(3,iV p3),(4,(fV 113)),(10,.bool true),(11,.bool true)]) Az aq ?_);rintro ag a1 al aI aJ ⟨a2,am⟩ a3;have ap:=am;unfold O2 at ap;obtain⟨a4,aK,aL⟩:=bs ap;refine zg 5 rfl (Ch aK rfl rfl rfl ?_);refine zg 8 rfl (A0 aL (λaM aN=>?_) (λaM aO=>?_))
  ·obtain⟨a5,aP,aQ⟩:=bs aN;refine zg 6 rfl (Cn 0 (YX (hW.Ah al) aP) rfl rfl (A7 func193 rfl) aI rfl ?_);rintro _ a6 _ aR ⟨f32,rfl,rfl,aS⟩ aT;refine JL.done ?_;obtain rfl:=oi aQ;obtain rfl:=aJ _ am;have aU:=elim_inl ay;obtain rfl:=oi aU;exact A2 func169 rfl rfl (av (al.Ad aR) rfl ⟨f32,rfl,(by first | rfl | simp | (simp [Value.cells])),aS⟩ aT)
  ·refine zg 7 rfl (A0 aO (λaV aW=>?_) (λaV aX=>?_))
   ·refine zg 6 rfl ?_;cases aW
   ·refine zg 5 rfl (Al (v:= .bool false) rfl (λρ h=>Yl.not (c:=true) (h _ _ rfl)) ?_);refine zg 9 rfl ?_;cases aX
def f130(fu_:Nat)(p0:Ax):Option (Ax):= (f115 fu_ (CN (p0.length:Int))).bind λK=> (f169 fu_ p0 0 (p0.length:Int) K).bind λO=> some O
theorem Yy{K:Nat}{O:Nat}{nw:Nat}{U:Av_}{p0:Ax}(hW:WL 27 Ay E K O nw U p0){fu_:Nat}{r:Ax}(Y:f130 fu_ p0=some r):AO J 130 [.slice (AR K) nw O,(fV 113)] E [(K,.cells U 27 (0,0))] (λw E' B'=>∃(Z:Av_),w= .tuple #[]/\B'= [(K,.cells Z 27 (0,0))]/\WL 27 Ay E' K O nw Z r):=by
 refine Bj func130 λQ aJ cs H ag al=>?_;unfold f130 at Y;refine zg 3 rfl (Al (v:=iV (p0.length:Int)) rfl (λρ h=>RH (hW).2 rfl underlying80 (h _ _ rfl)) ?_);refine zg 6 rfl (Al (v:= .int .u64 ((CN (p0.length:Int):Nat):Int)) rfl (λρ h=>Yl.CN underlying3 underlying136 (h _ _ rfl)) ?_);obtain⟨aK,am,ap⟩:=bs Y;refine CU (Nf am) rfl rfl Mf ag λaL ac aq=>?_;obtain⟨aM,av,aw⟩:=bs ap;refine zg 1 rfl (Cn 0 (Zi (hW.Ah ac) av) rfl rfl (A7 func169 rfl) aq rfl ?_);rintro _ aN _ ay ⟨f12,rfl,rfl,az⟩ aI;refine JL.done ?_;obtain rfl:=oi aw;exact JL.fin (v:= .tuple #[]) rfl rfl (Bx.list func130 rfl (vs:= []) trivial) (al (ac.Ad ay) rfl ⟨f12,rfl,(by first | rfl | simp | (simp [Value.cells])),az⟩ aI)
def Rc(fu_:Nat)(O:Int)(K:Int)(Y:Unit):Option (Bn Unit Unit):= Option.bind (if O<K then(none) else(some false)) λU=> if U=true then((Aw (K - 1)).bind λZ=> (Aw (K - 1)).bind λac=> none) else(some (.done ()))
def Rz(fu_:Nat)(O:Int)(p2:Int)(K:Int):Option (Bn Int Unit):= if K<p2 then(Option.bind (iter (Rc fu_ O K) fu_ ()) λY=> (Aw (K+1)).bind λU=> some (.more U)) else(some (.done ()))
def PM(fu_:Nat)(K:Int)(p2:Int):Option Unit:= (Aw (K+1)).bind λO=> Option.bind (iter (Rz fu_ K p2) fu_ O) λU=> some ()
theorem Xi{U:Int}{p2:Int}{fu_:Nat}{r:Unit}(ac:PM fu_ U p2=some r):AO J 193 [nS,iV U,iV p2,(fV 113)] E [] (λw E' B'=>w= .tuple #[]/\B'= []):=by
 refine Bj func193 λQ bp cs H aI aJ=>?_;unfold PM at ac;obtain⟨bq,aK,aL⟩:=bs ac;refine zg 3 rfl (Bq aK rfl rfl rfl ?_);obtain⟨br,aM,aN⟩:=bs aL;refine zg 2 rfl (EN [] [] (λbu aO aP=>?_) (λaQ=>?_))
 ·obtain rfl:=oi aN;exact JL.fin (v:= .tuple #[]) rfl rfl (Bx.list func193 rfl (vs:= []) trivial) (aJ aO rfl ⟨rfl,rfl⟩ aP)
 ·refine JL.block (DO aM (λK=> []) (λK=> [(0,.slice none 0 0),(1,iV U),(2,iV p2),(3,(fV 113)),(8,iV K)]) Az aI ?_);rintro K bv ag al aR ⟨bw,Y⟩ aS;have am:=Y;unfold Rz at am;refine zg 7 rfl (A0 am (λaT aU=>?_) (λaT aV=>?_))
  ·obtain⟨bx,aW,aX⟩:=bs aU;refine zg 8 rfl (EN [] [(0,.slice none 0 0),(1,iV U),(2,iV p2),(3,(fV 113)),(8,iV K)] (λbz aY aZ=>?_) (λa0=>?_))
   ·obtain⟨a1,a2,a3⟩:=bs aX;refine zg 3 rfl (Bq a2 rfl rfl rfl ?_);refine zg 2 rfl ?_;obtain rfl:=oi a3;exact aS a1 (ag.Ad aY) aZ rfl Y
   ·refine JL.block (DO aW (λap=> []) (λap=> [(0,.slice none 0 0),(1,iV U),(2,iV p2),(3,(fV 113)),(8,iV K),(9,iV K)]) Az al ?_);rintro ap aq a4 a5 a6 ⟨bA,av⟩ bB;have aw:=av;unfold Rc at aw;refine zg 2 rfl (EK 17 λO=>?_);refine A3 O rfl [0,1,2,3] rfl ?_;obtain⟨a7,ay,a8⟩:=bs aw;refine FQ 0 #[true,true,true,true,true,true,true,true,true,true,true,true,true,true,true,true,true] (λL s=>∃(az:LH),Jm aq H az [] [(0,.slice none 0 0),(1,iV U),(2,iV p2),(3,(fV 113)),(8,iV K),(9,iV K),(34,.bool a7)] L s) ?_ ?_
    ·rintro _ _ ⟨az,rfl,rfl,a9,ba⟩;refine AH.fin (by decide+kernel) (Cz a8 (λbb be=>?_) (λbb bf=>?_))
     ·refine zg 3 rfl (EK 16 λO=>?_);refine A3 O rfl [0,1,2,3] rfl ?_;obtain⟨bC,bg,bh⟩:=bs be;refine AN 4 O rfl rfl (λρ h s' bi=>Ed (h _ _ rfl) (h _ _ rfl) bg) (A3 O rfl [5,6] rfl ?_);obtain⟨bD,bj,bl⟩:=bs bh;refine AN 7 O rfl rfl (λρ h s' bi=>Ed (h _ _ rfl) (h _ _ rfl) bj) ?_;cases bl
     ·refine JL.exit rfl ?_;obtain rfl:=oi bf;obtain rfl:=a6 _ av;exact a0 (a4.Ad a9) ba rfl
    ·intro bm;refine GC (q:=U<K) (i:=21) rfl (λZ=>?_) (λZ=>?_)
     ·have bn:=ip ay Z;refine A3 O rfl [4,5,6] rfl ?_;cases bn
     ·have bo:=im ay Z;refine A3 O rfl [4,5,6,7,8,9,10,11,12,13,14,15,16] rfl ?_;obtain rfl:=oi bo;refine Di ?_ (bm _ _ ⟨aq,rfl,rfl,Az,a5⟩);exact⟨rfl,rfl,rfl,rfl,rfl,rfl,rfl,trivial⟩
  ·refine JL.exit rfl ?_;obtain rfl:=oi aV;obtain rfl:=aR _ Y;exact aQ ag al rfl
def Rn(fu_:Nat)(K:Int)(p2:Int)(p3:Int)(U:Unit):Option (Bn Unit ((Unit)⊕(Unit))):= (Aw (p2 - K)).bind λO=> if O<=12 then((PM fu_ K p2).bind λY=> some (.done (Sum.inl ()))) else(if p3=0 then(none) else(none))
def PL(fu_:Nat)(K:Int)(p2:Int)(p3:Int):Option Unit:= Option.bind (iter (Rn fu_ K p2 p3) fu_ ()) λO=> Sum.elim (λr=>some r) (λU=> none) O
theorem Xl{K:Int}{p2:Int}{p3:Int}{fu_:Nat}{r:Unit}(O:PL fu_ K p2 p3=some r):AO J 169 [nS,iV K,iV p2,iV p3,(fV 113)] E [] (λw E' B'=>w= .tuple #[]/\B'= []):=by
 refine Bj func169 λQ aT cs H ac ag=>?_;unfold PL at O;obtain⟨aU,al,am⟩:=bs O;refine zg 8 rfl (Bu (λL s=>False) ?_ ?_)
 ·intro _ _ ap;exact ap.elim
 ·intro aV;refine JL.block (DO al (λU=> []) (λU=> [(0,.slice none 0 0),(1,iV K),(2,iV p2),(3,iV p3),(4,(fV 113)),(10,.bool true),(11,.bool true)]) Az ac ?_);rintro U aW aq av aw ⟨aX,Y⟩ aY;have Z:=Y;unfold Rn at Z;obtain⟨aZ,ay,az⟩:=bs Z;refine zg 5 rfl (Ch ay rfl rfl rfl ?_);refine zg 8 rfl (A0 az (λaI aJ=>?_) (λaI aK=>?_))
  ·obtain⟨a0,aL,aM⟩:=bs aJ;refine zg 6 rfl (CU (Xi aL) rfl rfl (A7 func193 rfl) av λa1 aN aO=>?_);refine JL.done ?_;obtain rfl:=oi aM;obtain rfl:=aw _ Y;have aP:=elim_inl am;obtain rfl:=oi aP;exact A2 func169 rfl rfl (ag (aq.Ad aN) rfl ⟨rfl,rfl⟩ aO)
  ·refine zg 7 rfl (A0 aK (λaQ aR=>?_) (λaQ aS=>?_))
   ·refine zg 6 rfl ?_;cases aR
   ·refine zg 5 rfl (Al (v:= .bool false) rfl (λρ h=>Yl.not (c:=true) (h _ _ rfl)) ?_);refine zg 9 rfl ?_;cases aS
def Tt(fu_:Nat):Option Unit:= (f115 fu_ (CN ((0:Nat):Int))).bind λK=> (PL fu_ 0 ((0:Nat):Int) K).bind λO=> some ()
theorem Xo{fu_:Nat}{r:Unit}(K:Tt fu_=some r):AO J 130 [nS,(fV 113)] E [] (λw E' B'=>w= .tuple #[]/\B'= []):=by
 refine Bj func130 λQ av cs H O U=>?_;unfold Tt at K;refine zg 3 rfl (JL.ln underlying80 rfl rfl rfl ?_);refine zg 6 rfl (Al (v:= .int .u64 ((CN ((0:Nat):Int):Nat):Int)) rfl (λρ h=>Yl.CN underlying3 underlying136 (h _ _ rfl)) ?_);obtain⟨aw,Y,Z⟩:=bs K;refine CU (Nf Y) rfl rfl Mf O λay ac ag=>?_;obtain⟨az,al,am⟩:=bs Z;refine zg 1 rfl (CU (Xl al) rfl rfl (A7 func169 rfl) ag λaI ap aq=>?_);refine JL.done ?_;obtain rfl:=oi am;exact JL.fin (v:= .tuple #[]) rfl rfl (Bx.list func130 rfl (vs:= []) trivial) (U (ac.Ad ap) rfl ⟨rfl,rfl⟩ aq)
theorem Xc{J:Judge Tryz.prog}{E:LH}{a:Ao}{c:Nat}{g:Seg}{p0:Ax}(Y:OL 27 Ay E a c g p0){fu_:Nat}{r:Ax}(K:f130 fu_ p0=some r):
  AO J 130 [.slice a p0.length c,.func (.func 113) #[] #[]] E g (λw E' B'=>w= .tuple #[]/\OL 27 Ay E' a c B' r/\r.length=p0.length):=by
 rcases Y.cases with⟨rfl,rfl,rfl,rfl⟩ | ⟨bk,f,rfl,rfl,hW⟩
 ·have Z:r= []:=by
   cases fu_ with
   | zero=>exact absurd K (by simp [f130,f169,f193,iter])
   | succ fu_=>
    cases fu_ with
    | zero=>exact(Option.some.inj (K.symm.trans (by rfl:f130 1 []=some []))).trans rfl
    | succ fu_=>exact(Option.some.inj (K.symm.trans (by rfl:f130 (fu_+2) []=some []))).trans rfl
  subst Z;refine(Xo (fu_:=10) (r:=()) rfl).Ah ?_;rintro w E' B' hle ⟨O,rfl⟩;exact⟨O,OL.nil,rfl⟩
 ·refine(Yy hW K).Ah ?_;rintro w E' B' hle ⟨ac,O,rfl,U⟩;exact⟨O,U.1,U.2⟩
def f90(fu_:Nat)(p0:Ax):Option (Ax):= (f129 fu_ p0).bind λK=> (f130 fu_ K).bind λO=> some O
theorem aa{a1:Ao}{c2:Nat}{p0:Ax}(al:Am Ay E a1 c2 p0){fu_:Nat}{r:Ax}(Z:f90 fu_ p0=some r):AO J 90 [sV a1 p0 c2] E [] (λw E' B'=>∃(ac:Ao) (ag:Nat),w= sV ac r ag/\B'= []/\Am Ay E' ac ag r):=by
 refine Bj func90 λQ aQ cs H am ap=>?_;unfold f90 at Z;obtain⟨aR,aq,av⟩:=bs Z;refine zg 7 rfl (BX (YA al aq) rfl rfl (A7 func129 rfl) am ?_);rintro _ aS aT aw ⟨K,O,_,rfl,rfl,ay⟩ az;obtain⟨U,aI,aJ⟩:=bs av;refine zg 5 rfl (Cn 1 (Xc ay aI) rfl rfl (A7 func130 rfl) az rfl ?_);rintro _ aU aV aK ⟨rfl,aL,Y⟩ aM;refine EX (L':= [(6,.tuple #[]),(0,.slice K U.length O),(2,.slice none 0 0),(3,.slice a1 p0.length c2),(4,.slice K U.length O),(5,.slice K U.length O)]) ⟨rfl,by rw [Y];rfl,rfl,rfl,by rw [Y];rfl,by rw [Y];rfl,trivial⟩ ?_;refine zg 6 rfl (B8 1 aL aM rfl λaW aN aO aP=>?_);obtain rfl:=oi aJ;exact A2 func90 rfl rfl (ap ((aw.Ad aK).Ad aN) rfl ⟨K,O,rfl,rfl,aO⟩ aP)
end Pal
namespace Pal
open Go Go.Conc
section
variable {P:Program}{J:Judge P}{Q:Gs_}{b:Frame}{n:Nat}{ds:Ld_}{ops:Ao_}{k:Li_}{cs:Lf_}{m fuel:Nat}{listed:Array Bool}{L:Env}{s:St}{E H:LH}{S:List Seg}
variable {d:Option Tmp}{x y:Operand}{t ty e:TypeId}{p:String}{af:Ae_}{g:On_}{v:Value}{i:Nat}
theorem Take.y0{oi:Oper}(hi:ops[i]? =some oi)(K:(!Eh oi.op&&Bd n oi.dst)=true)(hw:AJ L ops oi=some true)(O:∀ρ,EL L ρ->Yl P oi ρ s v)
  (h:AH J Q b n ds ops k cs m Dc fuel (A4 listed i) (As L oi.dst v) s):Take J Q b n ds ops k cs m Dc fuel listed L s i:=
 Take.L3 hi K hw λρ U=>by
  have:=O ρ U
  unfold Yl at this
  refine Ee _ this ?_ (λ_ _ h=>h)
  rintro Y s' ⟨rfl,rfl⟩
  exact h
end
end Pal
namespace Pal
open Go Go.Conc
def GA{P:Program}(J:Judge P)(f:FuncId)(args:Lv_)(E:LH)(B:Seg)(p:Bool)(pv:Value)(R:Value->LH->Seg->Prop):Prop:=
 ∀(Q:Gs_) (bc:Frame) (Tc:Av_) (dsc:Ld_) (K:Li_) (cs:Lf_) (H:LH),Nd E H B->
  (p=false->∀v E' B',Le E E'->R v E' B'->Nd E' H B'->J.ok Q (G ((fr bc Tc dsc K).finish v) cs) (mk E' H B'))->
  (p=true->∀E' B',Le E E'->Nd E' H B'->J.ok Q (G (GX bc Tc dsc K (raised pv)) cs) (mk E' H B'))->
  J.ok Q (G (Frame.enter P f args.toArray .normal) (fr bc Tc dsc K::cs)) (mk E H B)
section
variable {P:Program}{J:Judge P}{Q:Gs_}{b bc:Frame}{n:Nat}{L:Env}{ds dsc:Ld_}{k:Li_}{cs:Lf_}{E H:LH}{S:List Seg}{i:Nat}{rest:List Nat}{d:Option Tmp}{ty e t:TypeId}{pp:String}{af:Ae_}{g:On_}{ops:Ao_}{pv:Value}
theorem GA.enter{f:FuncId}{fn:Func}{c:Code}{vs:Lv_}{B:Seg}{R:Value->LH->Seg->Prop}{p:Bool}(ac:P.funcs[f]? =some fn)(hb:fn.body=some c)(ay:vs.length<=fn.ntmps)
  (h:∀(Q:Gs_) (bc:Frame) (Tc:Av_) (dsc:Ld_) (O:Li_) (cs:Lf_) (H:LH),Aq E H [B]->
   (p=false->∀v E' S' B',Le E E'->S'.flatten=B'->R v E' B'->Aq E' H S'->J.ok Q (G ((fr bc Tc dsc O).finish v) cs) (Aj E' H S'))->
   (p=true->∀E' S',Le E E'->Aq E' H S'->J.ok Q (G (GX bc Tc dsc O (raised pv)) cs) (Aj E' H S'))->
   JL J Q (base f) fn.ntmps (Ga 0 vs) [] [.code c] (fr bc Tc dsc O::cs) (Aj E H [B])):GA J f vs E B p pv R:=λQ bc Tc dsc O cs H ag al K=>by
 have he:Frame.enter P f vs.toArray .normal=fr (base f) (vs.toArray++Array.replicate (fn.ntmps - vs.length) undef) [] [.code c]:=by
  simp [Frame.enter,fr,ac,hb,base];rfl
 have am:mk E H B=Aj E H [B]:=by unfold Aj;simp
 rw [he,am];refine h Q bc Tc dsc O cs H (by unfold Aq;simpa using ag) (λU v E' S' B' hle ap aq Y=>?_) (λU E' S' hle Y=>?_) _ ⟨by simp;omega,λt v av=>?_⟩
 ·subst ap;exact al U v E' S'.flatten hle aq Y
 ·exact K U E' S'.flatten hle Y
 ·obtain⟨_,K⟩:=Jo av;have aw:t<vs.length:=by
   rcases Nat.lt_or_ge t vs.length with Z | Z
   ·exact Z
   ·simp at K;have:=(List.getElem?_eq_some_iff.1 K).1;omega
  rw [Array.getD_eq_getD_getElem?,Array.getElem?_append_left (by simpa using aw)];simp at K;simp [K]
theorem VE{x:Operand}{f:FuncId}{caps:Lv_}{args:Array Operand}{ats:Array TypeId}{s:St}{vs:Lv_}(hb:Dv P f=true)
  (U:ops[i]? =some ⟨d,.call ⟨.value x,args,ats⟩,ty,pp,af,g⟩) (hw:AJ L ops ⟨d,.call ⟨.value x,args,ats⟩,ty,pp,af,g⟩=some true) (O:((b.kind != .early)&&Bd n d)=true)
  (Y:ev L x=some (.func (.func f) #[] caps.toArray)) (Z:evs L args.toList=some vs)
  (h:∀T,Has n L T->J.ok Q (G (Frame.enter P f (vs++caps).toArray .normal) (fr b T ds (.inRegion ops (i::rest)::k)::cs)) s):
  JL J Q b n L ds (.inRegion ops (i::rest)::k) cs s:=λT K=>by
 simp only [Bool.and_eq_true] at O
 have ac:args.map (Bs T)=vs.toArray:=by
  rw [← Gr K.Gb Z];apply Array.ext';simp
 refine Judge.oper U (B3 K hw) (by simpa using O.1) (.inr λc ag=>by cases ag) ?_;have hd:lp P (execOp (Bs T) ⟨d,.call ⟨.value x,args,ats⟩,ty,pp,af,g⟩) s (upon J Q b T ds ops i rest k cs d) (K4 J Q b T ds ops i rest k cs):=by
  have al:execOp (Bs T) ⟨d,.call ⟨.value x,args,ats⟩,ty,pp,af,g⟩=(do let d ← Deferred.ofValue (.func (.func f) #[] caps.toArray) vs.toArray;invoke d.target d.args):=by
   simp only [execOp,resolve,ac,K.Gb _ _ Y]
  rw [al];simp only [Deferred.ofValue,bind,Sem.bind,pure,invoke];have e: #[]++vs.toArray++caps.toArray=(vs++caps).toArray:=by simp
  rw [e];exact IX hb (h T K)
 exact hd
theorem VB{f:FuncId}{args:Array Operand}{ats:Array TypeId}{s:St}{vs:Lv_}(hb:Dv P f=true)
  (U:ops[i]? =some ⟨d,.call ⟨.value (.func f),args,ats⟩,ty,pp,af,g⟩) (hw:AJ L ops ⟨d,.call ⟨.value (.func f),args,ats⟩,ty,pp,af,g⟩=some true) (O:((b.kind != .early)&&Bd n d)=true)
  (Y:evs L args.toList=some vs)
  (h:∀T,Has n L T->J.ok Q (G (Frame.enter P f vs.toArray .normal) (fr b T ds (.inRegion ops (i::rest)::k)::cs)) s):
  JL J Q b n L ds (.inRegion ops (i::rest)::k) cs s:=λT K=>by
 simp only [Bool.and_eq_true] at O
 have Z:args.map (Bs T)=vs.toArray:=by
  rw [← Gr K.Gb Y];apply Array.ext';simp
 refine Judge.oper U (B3 K hw) (by simpa using O.1) (.inr λc ac=>by cases ac) ?_;have hd:lp P (execOp (Bs T) ⟨d,.call ⟨.value (.func f),args,ats⟩,ty,pp,af,g⟩) s (upon J Q b T ds ops i rest k cs d) (K4 J Q b T ds ops i rest k cs):=by
  simp only [execOp,resolve,bind,Sem.bind,Deferred.ofValue,Bs,pure,invoke];have e: #[]++args.map (Bs T)++ #[]=vs.toArray:=by rw [Z];simp
  rw [e];exact IX hb (h T K)
 exact hd
theorem W0{g:Frame}{s:St}(O:s.q=false)(h:(∃w,Fits s w)->J.ok Q (G g cs) s):J.ok Q (G g cs) s:=by
 by_cases K:∃w,Fits s w
 ·exact h K
 ·exact J.step ⟨rfl,λw f=>absurd ⟨w,f⟩ K,λe=>by subst e;cases O⟩
theorem GA.use{f:FuncId}{vs:Lv_}{B:Seg}{R:Value->LH->Seg->Prop}{p:Bool}{Tc:Av_}{Y:Li_}(j:Nat)(ap:GA J f vs E B p pv R)(ac:Aq E H S)(ag:S[j]? =some B)
  (Z:p=false->∀v E' B',Le E E'->R v E' B'->Aq E' H (S.set j B')->J.ok Q (G ((fr bc Tc dsc Y).finish v) cs) (Aj E' H (S.set j B')))
  (aq:p=true->∀E' B',Le E E'->Aq E' H (S.set j B')->J.ok Q (G (GX bc Tc dsc Y (raised pv)) cs) (Aj E' H (S.set j B'))):
  J.ok Q (G (Frame.enter P f vs.toArray .normal) (fr bc Tc dsc Y::cs)) (Aj E H S):=by
 have K:S.flatten.Perm (B++(S.set j []).flatten):=(Ec (seg':=B) ag).1.trans List.perm_append_comm;have al:Nd E H (B++(S.set j []).flatten):=Nd.perm ac K;have av:Aj E H S=mk E (A9 (S.set j []).flatten H) B:=by
  rw [show Aj E H S=mk E H S.flatten from rfl,EY ac K];unfold mk;rw [FP]
 have aw:Nd E H (S.set j []).flatten:=by
  have:=al;rw [Nd.iff] at this ⊢;rw [List.map_append,List.nodup_append] at this;exact⟨this.1.2.1,λq ay=>this.2 q (List.mem_append_right _ ay)⟩
 have back:∀(g:Frame) (E':LH) (B':Seg),Le E E'->Nd E' (A9 (S.set j []).flatten H) B'->(Aq E' H (S.set j B')->J.ok Q (G g cs) (Aj E' H (S.set j B')))->J.ok Q (G g cs) (mk E' (A9 (S.set j []).flatten H) B'):=λg E' B' hle U az=>by
  have e2:mk E' (A9 (S.set j []).flatten H) B'=mk E' H (B'++(S.set j []).flatten):=by unfold mk;rw [FP]
  refine W0 rfl λ⟨w,aI⟩=>?_;have aJ:Nd E' H (S.set j []).flatten:=aw.grow λx aK=>by
   have aL:=aI.d x aK;have Z:A9 B' (A9 (S.set j []).flatten H) x=none:=aL;exact(HW Z).1
  have O:Nd E' H (B'++(S.set j []).flatten):=Nd.glue U aJ;rw [e2];have am:(B'++(S.set j []).flatten).Perm (S.set j B').flatten:=List.perm_append_comm.trans (Ec ag).2.symm;rw [EY O am];exact az (Nd.perm O am)
 rw [av];refine ap Q bc Tc dsc Y cs _ (Nd.front al) (λK v E' B' hle aM U=>back _ E' B' hle U λO=>Z K v E' B' hle aM O) (λK E' B' hle U=>back _ E' B' hle U λO=>aq K E' B' hle O)
theorem QH{x:Operand}{f:FuncId}{caps:Lv_}{args:Array Operand}{ats:Array TypeId}{vs:Lv_}{seg:Seg}{R:Value->LH->Seg->Prop}{p:Bool}(j:Nat)(hb:Dv P f=true)
  (ac:GA J f (vs++caps) E seg p pv R) (Y:ops[i]? =some ⟨d,.call ⟨.value x,args,ats⟩,ty,pp,af,g⟩) (hw:AJ L ops ⟨d,.call ⟨.value x,args,ats⟩,ty,pp,af,g⟩=some true) (K:((b.kind != .early)&&Bd n d)=true)
  (ag:ev L x=some (.func (.func f) #[] caps.toArray)) (al:evs L args.toList=some vs) (am:Aq E H S) (ap:S[j]? =some seg)
  (aq:p=true->∀E' seg',Le E E'->Aq E' H (S.set j seg')->JP J Q b n L ds cs (raised pv) (Aj E' H (S.set j seg')))
  (av:p=false->∀v E' seg',Le E E'->R v E' seg'->Aq E' H (S.set j seg')->JL J Q b n (As L d v) ds (.inRegion ops rest::k) cs (Aj E' H (S.set j seg'))):
  JL J Q b n L ds (.inRegion ops (i::rest)::k) cs (Aj E H S):=
 VE hb Y hw K ag al λT Z=>GA.use j ac am ap
  (λO v E' B' hle aw U=>by
   rw [Gq (o:=⟨d,.call ⟨.value x,args,ats⟩,ty,pp,af,g⟩) _ _ _ _ _ Y]
   simp only [Bool.and_eq_true] at K
   exact av O v E' B' hle aw U _ (Z.put K.2 v))
  (λO E' B' hle U=>aq O E' B' hle U T Z _)
theorem VJ{f:FuncId}{args:Array Operand}{ats:Array TypeId}{vs:Lv_}{seg:Seg}{R:Value->LH->Seg->Prop}{p:Bool}(j:Nat)(hb:Dv P f=true)
  (ac:GA J f vs E seg p pv R) (Y:ops[i]? =some ⟨d,.call ⟨.value (.func f),args,ats⟩,ty,pp,af,g⟩) (hw:AJ L ops ⟨d,.call ⟨.value (.func f),args,ats⟩,ty,pp,af,g⟩=some true) (K:((b.kind != .early)&&Bd n d)=true)
  (ag:evs L args.toList=some vs) (al:Aq E H S) (am:S[j]? =some seg)
  (ap:p=true->∀E' seg',Le E E'->Aq E' H (S.set j seg')->JP J Q b n L ds cs (raised pv) (Aj E' H (S.set j seg')))
  (aq:p=false->∀v E' seg',Le E E'->R v E' seg'->Aq E' H (S.set j seg')->JL J Q b n (As L d v) ds (.inRegion ops rest::k) cs (Aj E' H (S.set j seg'))):
  JL J Q b n L ds (.inRegion ops (i::rest)::k) cs (Aj E H S):=
 VB hb Y hw K ag λT Z=>GA.use j ac al am
  (λO v E' B' hle av U=>by
   rw [Gq (o:=⟨d,.call ⟨.value (.func f),args,ats⟩,ty,pp,af,g⟩) _ _ _ _ _ Y]
   simp only [Bool.and_eq_true] at K
   exact aq O v E' B' hle av U _ (Z.put K.2 v))
  (λO E' B' hle U=>ap O E' B' hle U T Z _)
theorem WU{ρ:Operand->Value}{x y z1:Operand}{s:St}{p:String}{a:Option Addr}{l c K m:Nat}{hi:Int}(O:∀ad,a=some ad->ad.spot=none∨c=0)(U:m<=c)(he:hi=(m:Int))(Y:P.underlying t=some (.slice e))(Z:Bh P e=some K)(ac:ρ x= .slice a l c)(ag:ρ y=iV hi)(al:ρ z1=iV hi):
  Yl P ⟨d,.slice t x none (some y) (some z1),ty,p,af,g⟩ ρ s (.slice a m m):=by
 subst he;have h:=Yl.slice (P:=P) (s:=s) (d:=d) (ty:=ty) (p:=p) (af:=af) (g:=g) (olo:=none) (ohi:=some y) (omx:=some z1) (lo:=0) (hi:=m) (mx:=m) Y Z ac al ag rfl U (Nat.le_refl _) (Nat.zero_le _);have am:(if m=0 then a else a.map (·.add (0*K)))=a:=by
  split
  ·rfl
  ·cases a with
   | none=>rfl
   | some ad=>
    have:=(O ad rfl).resolve_right (by omega);simp only [Option.map_some,Nat.zero_mul];rw [Dz this];obtain⟨b,o,sp⟩:=ad;simp only at this;subst this;simp
 rw [am] at h;simpa using h
theorem Am.Z1{α:Type}{q:Rp α}{a:Option Addr}{c:Nat}{xs ys:List α}{hi:Int}(U:Am q E a c xs)(hC:Ha xs 0 hi=some ys):Am q E a c ys/\ys.length<=c/\hi=(ys.length:Int):=by
 unfold Ha at hC;split at hC
 rotate_left
 ·cases hC
 rename_i hb;obtain⟨Z,ac,ag⟩:=hb;cases hC;have al:=U.1;have hlen:(((xs.take hi.toNat).drop (0:Int).toNat)).length=hi.toNat:=by simp;omega
 refine⟨⟨by rw [hlen];omega,?_⟩,by rw [hlen];omega,by rw [hlen];omega⟩;rcases U.2 with⟨h,O⟩ | ⟨bk,off,Y,O⟩
 ·exact .inl ⟨by rw [h];simp,O⟩
 ·refine .inr ⟨bk,off,Y,λi x K=>O i x ?_⟩;simp only [Int.toNat_zero,List.drop_zero] at K;rw [List.getElem?_take] at K;split at K
  ·exact K
  ·cases K
theorem Take.Rv{m fuel:Nat}{listed:Array Bool}{x y:Operand}{p:String}{α:Type}{q:Rp α}{t1:TypeId}{Y c cx:Nat}{a ax:Option Addr}{xs ys Z:List α}{ats:Array TypeId}{z:Value}(U:C3 xs ys=some Z)
  (aw:ops[i]? =some ⟨d,.call ⟨.builtin .append,#[x,y],ats⟩,ty,p,af,g⟩) (hw:AJ L ops ⟨d,.call ⟨.builtin .append,#[x,y],ats⟩,ty,p,af,g⟩=some true) (ay:Bd n d=true)
  (az:ev L x=some (.slice a xs.length xs.length)) (aI:ev L y=some (.slice ax ys.length cx)) (aJ:ats[0]? =some t) (aK:ats[1]? =some t1) (aL:P.underlying t=some (.slice e)) (aM:P.underlying t1=some (.slice e)) (aN:Bh P e=some q.n) (hb:FE P e=some Y) (aO:zeroOf P e=some z) (aP:z.cells.size=q.n)
  (aQ:0<Y) (aR:Y<=64) (ac:Am q E a c xs) (aS:Am q E ax cx ys) (ag:Aq E H S)
  (h:∀E' al K,Le E E'->Am q E' al K Z->Aq E' H (S++ [[]])->AH J Q b n ds ops k cs m Dc fuel (A4 listed i) (As L d (.slice al Z.length K)) (Aj E' H (S++ [[]]))):
  Take J Q b n ds ops k cs m Dc fuel listed L (Aj E H S) i:=by
 unfold C3 at U;split at U
 rotate_left
 ·cases U
 rename_i aT;cases U;obtain⟨wss,am,aU,aV,bb⟩:=Am.LB (H:=H) (B:=S.flatten) ac.full;obtain⟨aW,aX,aY,aZ,a0⟩:=Am.LB (H:=H) (B:=S.flatten) aS;have hlen:(xs++ys).length=xs.length+ys.length:=by simp
 show Take J Q b n ds ops k cs m Dc fuel listed L (mk E H S.flatten) i;refine Take.L3 aw (by simp [Eh,ay]) hw λρ ap=>?_;rw [Lo,ap x _ az,ap y _ aI];refine Au _ _ (Qa aJ aK aM aL aN hb aO aP ag aV aZ a0 aQ aT aR ?_ ?_)
 ·intro hm;have a1:ys= []:=List.eq_nil_of_length_eq_zero hm;subst a1;have a2:Aq E H (S++ [[]]):=by unfold Aq at*;rw [G1,List.append_nil];exact ag
  have a3:mk E H S.flatten=Aj E H (S++ [[]]):=by unfold Aj;rw [G1,List.append_nil]
  rw [a3];have:=h E a xs.length (Le.refl _) (by rw [List.append_nil];exact ac.full) a2;rw [hlen] at this;exact this
 ·intro r O K a4 a5 a6 a7;have a8:OL e q E (some ⟨r,0,none⟩) K [(r,.cells O e (0,0))] (xs++ys):=
   ⟨wss++aW,.inr ⟨r,O,rfl,rfl,a5,by rw [hlen];exact a4,by rw [hlen,List.flatten_append];exact a6.symm⟩,by simp [am,aX],Mw am aU aY⟩
  have aq:=Fz (S:=S) (seg:= [(r,.cells O e (0,0))]) a7;show AH J Q b n ds ops k cs m Dc fuel _ _ (mk E H (S.flatten++ [(r,.cells O e (0,0))]));rw [aq.1];refine F7 S.length a8 aq.2 (by simp) λE' hle a9 av=>?_;have ba:(S++ [[(r,Obj.cells O e (0,0))]]).set S.length []=S++ [[]]:=I5 _ _ _ _;rw [ba] at av ⊢;have:=h E' (some ⟨r,0,none⟩) K hle a9 av;rw [hlen] at this;exact this
theorem Uf{ρ:Operand->Value}{x:Operand}{s:St}{p:String}{v:Value}{xt t1:TypeId}{f1:Array Field}(K:P.underlying t1=some (.struct f1))(O:ρ x= .iface t1 v):Yl P ⟨d,.typeAssert x xt t1 true,ty,p,af,g⟩ ρ s (.tuple #[v,.bool true]):=by
 refine FO (sm:=Instr.typeAssert (ρ x) xt t1 true) rfl ?_;rw [O];unfold Instr.typeAssert;refine Au _ _ (Cg K ?_);simp [lp,pure]
theorem Ug{ρ:Operand->Value}{x:Operand}{s:St}{p:String}{z:Value}{xt t1:TypeId}{f1:Array Field}(K:P.underlying t1=some (.struct f1))(O:zeroOf P t1=some z)(U:ρ x= .nilIface):Yl P ⟨d,.typeAssert x xt t1 true,ty,p,af,g⟩ ρ s (.tuple #[z,.bool false]):=by
 refine FO (sm:=Instr.typeAssert (ρ x) xt t1 true) rfl ?_;rw [U];unfold Instr.typeAssert;refine Au _ _ (Cg K ?_);exact Au (x:=zeroValue t1) _ (Ho O ⟨rfl,rfl⟩)
end
end Pal
