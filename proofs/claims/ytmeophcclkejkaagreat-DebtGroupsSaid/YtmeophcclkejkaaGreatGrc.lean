/- DebtGroups: a part (3 of 8) of the proof of its row. -/
import Derived.Test.YtmeophcclkejkaaGreatGra
import Derived.Test.YtmeophcclkejkaaGreatGrb
import Derived.Test.YtmeophcclkejkaaGreatRows
import Derived.Test.YtmeophcclkejkaaGreatChecked
import Derived.Conc.LeavingOf
import Derived.Conc.HoldsTime
import Derived.Carry
import Derived.ChangeSame
import Derived.ChangeVars
import Derived.ChangeSlices
import Derived.JoinedOf
import Derived.RowKit
import Derived.Deep.Strs
import Derived.Stop.Joined
import Derived.Test.YtmeophcclkejkaaGreatProg
set_option linter.all false
set_option maxRecDepth 100000
namespace Pal
open Go Go.Conc
open Go.ConcN (sumTo upd sumTo_upd upd_ne upd_same)
def Lr(P:Program)(R:Value->St->Prop):GP:=λg s=>
 g.status= .running/\∃v,R v s/\∀w,stepG P true g w= .ended (.done v) w #[]
section
variable {P:Program}{R:Value->St->Prop}{J:Judge P}{n:Nat}{L:Env}{s:St}{b:Frame}
theorem JO.end{fn:Func}{t:Tmp}{v:Value}(K:b.kind= .normal)(hi:P.inits.idxOf? b.fn=none)(O:P.funcs[b.fn]? =some fn)(U:fn.results= #[.tmp t])(Y:look L t=some v)(Z:R v s):JO J (Lr P R) b n L [] [] s:=λT aa todo=>by
 refine J.stop ⟨rfl,v,Z,λw=>?_⟩
 have e:results fn T=Sem.pure v:=by
  have:=aa.at_ t v Y;simp only [results,U,Array.mapM_eq_mapM_toList];show Sem.pure (T.getD t undef)=_;rw [this]
 have ab:(results fn T).run P w= .ok v w:=by rw [e];rfl
 have e2:(results fn T).events P w #[]= #[]:=by rw [e];simp [Sem.events_pure']
 simp [G,stepG,unwind,Ed,O,ab,e2,doReturn,K,GStep.after,hi,seen_none]
end
section
variable {P:Program}{R:Value->St->Prop}
def After(P:Program)(R:Value->St->Prop)(K:World)(s₀:St)(v:Value)(w':World):Prop:=
 ∃s,R v s/\Fits s w'/\(∀b o,s₀.E b=some o->s.E b=some o)/\w'.tape=K.tape/\F7 K.os w'.os/\w'.output=K.output
def PG(P:Program)(R:Value->St->Prop)(K:World)(s₀:St)(O:Nat)(m:Machine)(t:Trace):Prop:=
 ∃gs w sl q Sh g s,m=crowd gs w sl/\Hd P gs w t q Sh g s/\Lr P R g s/\O=sumTo gs.size q/\(∀b o,s₀.E b=some o->s.E b=some o)/\w.tape=K.tape/\F7 K.os w.os/\w.output=K.output
theorem Wa{ag:World}{s₀:St}(ak:Nat)(m:Machine)(t:Trace)(h:PG P R ag s₀ ak m t):
  (∃o w ops,stepT P m=(.ended o w,ops)/\Good P (After P R ag s₀) m o w (t++ops))∨(∃m' ops al,stepT P m=(.next m',ops)/\al<ak/\PG P R ag s₀ al m' (t++ops)):=by
 obtain⟨gs,w,sl,q,Sh,g,s,rfl,hC,aB,rfl,am,an,ao,ap⟩:=h;obtain⟨aa,v,aq,ar⟩:=aB;have aC:∀x∈gs,awake x:=by
  intro x Y;obtain⟨i,hi,rfl⟩:=Array.mem_iff_getElem.1 Y;rcases Nat.eq_zero_or_pos i with rfl | ah
  ·have:gs[0]=g:=by simpa [Array.getElem?_eq_getElem hi] using hC.main
   rw [this];exact awake_of (.inl aa)
  ·exact awake_of ((hC.lv.old i _ ah (Array.getElem?_eq_getElem hi)).status.elim .inl λx=> .inr (.inr x))
 obtain⟨i,x,d,au,hi,Y,av⟩:=crowd_pick (P:=P) (w:=w) (sl:=sl) aC ⟨0,g,hC.main,aa⟩;have aw:=hC.at_ d;have aD:0<gs.size:=(Array.getElem?_eq_some_iff.1 hC.main).1;have aE:∀(a:Nat) (fn:FuncId) (pos:String),MemOp.ofEvents a fn pos #[]= #[]:=λa fn pos=>by rw [ofEvents_eq];simp
 rcases Nat.eq_zero_or_pos i with rfl | ah
 ·obtain rfl:x=g:=by rw [hC.main] at hi;exact(Option.some.inj hi).symm
  have ab:=runT_many_ended (P:=P) (sl:=au) (i:=0) hi (show stepG P (0==0) x (w.at d)=_ from ar (w.at d));rw [aE] at ab;refine .inl ⟨_,_,_,av.trans ab,v,rfl,⟨s,aq,aw.B3.fits 0 aD,am,an,ao,ap⟩,?_,?_,⟨λy K=>?_,rfl⟩,λj y K O=>?_⟩
  ·simpa using hC.B3.clean
  ·simpa using hC.over
  ·obtain⟨j,O⟩:=List.mem_iff_getElem?.1 K;rw [List.getElem?_drop] at O;exact⟨_,(hC.lv.old (1+j) y (by omega) (by simpa [crowd] using O)).leaves⟩
  ·have Z:=hC.lv.old j y (by omega) K;exact⟨q j,by simp only [Array.append_empty];exact Z.hears w⟩
 ·have Z:=hC.lv.old i x ah hi;have aF:(i==0)=false:=by simp;omega
  have ay:i<gs.size:=(Array.getElem?_eq_some_iff.1 hi).1;cases ai:q i with
  | zero=>rw [ai] at Z;rw [Z.1] at Y;cases Y
  | succ k=>
   rw [ai] at Z;rcases Z with⟨aG,_⟩ | ⟨_,x',es,hm,aH,aI⟩
   ·rw [aG] at Y;cases Y
   have aM:sumTo gs.size (upd q i k)+(k+1)=sumTo gs.size q+k:=by
    have:=sumTo_upd q k id ay;simpa [ai] using this
   have ab:=runT_crowd_go (P:=P) (sl:=au) (i:=i) hi (by rw [aF];exact aH (w.at d));have aj:((gs.map (woken P x x' (w.at d))).setIfInBounds i x').size=gs.size:=by simp
   have ac:∀op∈MemOp.ofEvents i x.frame.fn x.frame.place es,op.g=i:=λop U=>by obtain⟨e,_,rfl⟩:=mem_ofEvents U;rfl
   have az:∀op∈MemOp.ofEvents i x.frame.fn x.frame.place es,op.act.touch? =none:=λop U=>by obtain⟨e,he,rfl⟩:=mem_ofEvents U;exact touch_mute (hm e he)
   have aJ:Hd P ((gs.map (woken P x x' (w.at d))).setIfInBounds i x') (w.at d) (t++MemOp.ofEvents i x.frame.fn x.frame.place es) (upd q i k) Sh g s:=by
    refine⟨?_,⟨λj y O K=>?_,λj O=>?_⟩,?_,?_,?_⟩
    ·have aK:i≠0:=by omega
     rw [Array.getElem?_setIfInBounds_ne aK,Array.getElem?_map,hC.main];simp [woken_run aa]
    ·by_cases ae:i=j
     ·subst ae;rw [Array.getElem?_setIfInBounds_self_of_lt (by simpa using ay)] at K;obtain rfl:=Option.some.inj K;rw [upd_same,Deaf_own];exact aI
     ·rw [Array.getElem?_setIfInBounds_ne ae,Array.getElem?_map] at K;obtain⟨z,aL,rfl⟩:=Option.map_eq_some_iff.1 K;have aA:=hC.lv.old j z O aL;rw [woken_quitsD aA,upd_ne q k (Ne.symm ae),Deaf_other t ae _ ac];exact aA
    ·rw [Deaf_other t (g':=i) (by simp at O;omega) _ ac];exact hC.lv.above j (by simpa using O)
    ·rw [aj];exact aw.B3.mute ac az (λop U=>by obtain⟨e,he,rfl⟩:=mem_ofEvents U;exact low_mute (hm e he) _) rfl
    ·exact handedOver_app hC.over λop U=> .inr (az op U)
    ·rw [Deaf_other t (by omega) _ ac];exact hC.hears
   exact .inr ⟨_,_,_,av.trans ab,by rw [← aj];rw [aj];omega,_,_,_,_,_,_,_,rfl,aJ,⟨aa,v,aq,ar⟩,rfl,am,an,ao,ap⟩
theorem ends{gs:Array Goroutine}{w:World}{sl:Option (Nat×Nat)}{t:Trace}{q:Nat->Nat}{Sh:Nat->Prop}{g:Goroutine}{s:St}(hC:Hd P gs w t q Sh g s)(O:Lr P R g s):
  ∃N last o w' K,runNT P (N+1) (crowd gs w sl) t=(.ended o w',K)/\runN P N (crowd gs w sl)= .next last/\step P last= .ended o w'/\Good P (After P R w s) last o w' K:=
 run_of_inv Nat.lt_wfRel.wf (PG P R w s) (Good P (After P R w s)) Wa _ _ _ ⟨gs,w,sl,q,Sh,g,s,rfl,hC,O,rfl,λ_ _ h=>h,rfl,.refl _,rfl⟩
theorem Us{m m':Machine}{t K:Trace}{n:Nat}(h:runNT P n m t=(.next m',K)):runN P n m= .next m':=by rw [← runNT_fst P n m t,h]
def GK(W:World):St:=⟨λb=>W.heap[b]?,λ_=>none,false⟩
theorem Vt{W:World}{g:Goroutine}(h:(Gx P).ok (Lr P R) g (GK W)):
  ∃M last o w' K,runNT P (M+1) (solo g W) #[]=(.ended o w',K)/\runN P M (solo g W)= .next last/\step P last= .ended o w'/\Good P (After P R W (GK W)) last o w' K:=by
 have hC:Hd P #[g] W #[] (λ_=>0) (λ_=>False) g (GK W):=by
  have Y:∀{i:Nat} {a:Touch},touchAt #[] i=some a->False:=λ{i a} h=>by simp [touchAt,Trace.act?] at h
  refine⟨rfl,leavers_one P g,⟨λi hi=>?_,λi j hi aa aA=>by simp at hi aa;omega,λi hi b hb=>hb.elim,λb hb=>hb.elim,λsaid=>?_,by simp,λi _ b _ x a O=>(Y O).elim,λi _ b _ x a O=>(Y O).elim⟩,λi g ab=>by simp [Trace.g?] at ab,rfl⟩
  ·have:i=0:=by simp at hi;exact hi
   subst this;exact⟨λb o U=>U,λb o U=>(by cases U),λb _=>rfl⟩
  ·rintro⟨i,j,_,⟨a,b,ac,_⟩,_⟩;simp [Trace.act?] at ac
 obtain⟨n,gs',w',ae,K,q',aB,g',s',Z,ag,ah,ai,aj,ak,al⟩:=h #[g] W none #[] _ _ hC;obtain⟨N,last,o,am,an,k1,ao,ap,aq⟩:=ends (sl:=ae) ag ah;refine⟨n+N,last,o,am,an,?_,?_,ap,?_⟩
 ·rw [solo_eq_crowd,Nat.add_assoc,runNT_add,Z];exact k1
 ·have ar:=Us Z;rw [solo_eq_crowd,runN_add,ar];exact ao
 ·obtain⟨v,e,⟨s2,a1,au,av,aw,ay,az⟩,r⟩:=aq;exact⟨v,e,⟨s2,a1,au,λb o hb=>av b o (ai b o hb),aw.trans aj,ak.trans ay,az.trans al⟩,r⟩
end
end Pal
namespace Pal
open Go Go.Conc
theorem U2{P:Program}{Q:Gs_}{E H:LH}{f:FuncId}{fn:Func}{c:Code}{vs:Lv_}(U:P.funcs[f]? =some fn)(hb:fn.body=some c)(ab:fn.ntmps=fn.ntmps)(ac:vs.length<=fn.ntmps)
  (h:JL (Gx P) Q (base f) fn.ntmps (F2 0 vs) [] [.code c] [] (Ak E H [[]])):(Gx P).ok Q (G (Frame.enter P f vs.toArray .normal) []) (mk E H []):=by
 have he:Frame.enter P f vs.toArray .normal=fr (base f) (vs.toArray++Array.replicate (fn.ntmps - vs.length) undef) [] [.code c]:=by
  simp [Frame.enter,fr,U,hb,base];rfl
 rw [he];have Y:mk E H []=Ak E H [[]]:=by unfold Ak;simp
 rw [Y];refine h _ ⟨by simp;omega,λt v Z=>?_⟩;obtain⟨_,K⟩:=Jf Z;have aa:t<vs.length:=by
  rcases Nat.lt_or_ge t vs.length with O | O
  ·exact O
  ·simp at K;have:=(List.getElem?_eq_some_iff.1 K).1;omega
 rw [Array.getD_eq_getD_getElem?,Array.getElem?_append_left (by simpa using aa)];simp at K;simp [K]
end Pal
namespace Pal
open Go Go.Conc Go.Proofs Go.ChangeShapes Go.WideShapes Go.ChangeAt Go.RowKit
open Go.Proofs.YtmeophcclkejkaaGreat
theorem Tryz.own:ownKnob Tryz.prog.godebug=none:=by kernel_rfl
theorem Tryz.laidOut:laidOutB Tryz.prog=true:=by kernel_rfl
theorem Tryz.YK:Tryz.prog.cellsOf 3=1:=by kernel_rfl
theorem T7{R:Value->St->Prop}{W w':World}{v:Value}(h:After Tryz.prog R W (GK W) v w'):(∃s,R v s)/\Below W.heap.size W {w' with os:=W.os}/\Go.ConcM.OsLater W.os w'.os:=by
 obtain⟨s,Y,Z,aa,ab,ac,ae⟩:=h;have hb:∀k,k<W.heap.size->w'.heap[k]? =W.heap[k]? :=λk O=>by
  have K:(GK W).E k=some W.heap[k]:=Array.getElem?_eq_getElem O;have U:=Z.e k _ (aa k _ K);rw [U,Array.getElem?_eq_getElem O]
 refine⟨⟨s,Y⟩,⟨rfl,ab,ae,?_,hb⟩,ac⟩;show W.heap.size<=w'.heap.size;rcases Nat.eq_zero_or_pos W.heap.size with ag | ag
 ·omega
 ·have K:=hb (W.heap.size - 1) (by omega);have ah:W.heap[W.heap.size - 1]? =some W.heap[W.heap.size - 1]:=Array.getElem?_eq_getElem (by omega);rw [ah] at K;have U:=(Array.getElem?_eq_some_iff.1 K).1;omega
theorem Qp(a:Addr):a.add 0=a:=by unfold Addr.add;rw [if_pos rfl]
section
variable {H:Type}{enc:TypeId×Value->H}{W:World}{fuel:Nat}{cs:Lv_}{x:DataW H×List MemPlace}
theorem V4{b off:Nat}{v:Value}(h:W.cell? ⟨b,off,none⟩=some v):At (GK W).E b off [v]:=by
 unfold World.cell? at h;split at h
 ·rename_i c e f hW;simp only [Option.isSome_none,Bool.false_eq_true,if_false] at h;refine⟨c,e,f,hW,λj w K=>?_⟩
  match j,K with
  | 0,K=>simp at K;subst K;simpa using h
  | j+1,K=>simp at K
 ·cases h
theorem UI{b off:Nat}(O:0<cs.length)(h:∀j,j<cs.length->W.cell? ⟨b,off+j,none⟩=cs[j]?):At (GK W).E b off cs:=by
 have U:=h 0 O;rw [List.getElem?_eq_getElem O] at U;obtain⟨f,e,fr,Y,_⟩:=V4 U;have hW:W.heap[b]? =some (.cells f e fr):=Y;refine⟨f,e,fr,Y,λj w Z=>?_⟩;have aa:=(List.getElem?_eq_some_iff.1 Z).1;have K:=h j aa;rw [Z] at K;unfold World.cell? at K;simp only [hW] at K;simpa using K
theorem X5{α:Type}{p:Rp α}{t e:TypeId}(an:Tryz.prog.underlying t=some (.slice e))(ao:Tryz.prog.cellsOf e=p.n)(ap:0<p.n)
  (aq:∀n cs x,DataW.trod enc Tryz.prog W 0 (λ_=>true) true n e cs=some x->∃v,p.r (GK W).E cs v)
  (ar:DataW.trod enc Tryz.prog W 0 (λ_=>true) true fuel t cs=some x):∃(a:Option Addr) (c:Nat) (ah:List α),cs= [.slice a ah.length c]/\Al p (GK W).E a c ah:=by
 rcases DataW.trod_slice an ar with⟨aa,au⟩ | ⟨a,len,cap,elems,rest,n,_,aa,au,_,av,_,hlen,ai,aj,_⟩
 ·exact⟨none,0,[],aa,Al.nil⟩
 ·rw [ao] at ai aj;rcases Nat.eq_zero_or_pos cap with ak | ak
  ·have:len=0:=by omega
   subst this;subst ak;exact⟨some a,0,[],aa,Nat.le_refl _,.inl ⟨rfl,λ_ _=> .inr rfl⟩⟩
  ·have al:∀i,i<len->∃vs y,vs.length=p.n/\(∀j,j<p.n->W.cell? ((a.add (i*p.n)).add j)=vs[j]?)/\DataW.trod enc Tryz.prog W 0 (λ_=>true) true n e vs=some y:=λi hi=>by
    have K:=ai i hi;rw [List.getElem?_eq_getElem (by omega)] at K;obtain⟨vs,ac,Y⟩:=Option.bind_eq_some_iff.1 K;obtain⟨_,O,ae⟩:=World.cells?_some ac;exact⟨vs,_,O,ae,Y⟩
   have ag:a.spot=none:=by
    have key:∀vs:Lv_,vs.length=p.n->(∀j,j<p.n->W.cell? ((a.add (0*p.n)).add j)=vs[j]?)->a.spot=none:=λvs ab U=>by
     have:=U 0 ap;rw [List.getElem?_eq_getElem (by omega),Qp,Nat.zero_mul,Qp] at this;exact World.cell?_spot this
    rcases Nat.eq_zero_or_pos len with K | K
    ·obtain⟨ac,Y⟩:=aj rfl;have O:=Y 0 (by omega);rw [List.getElem?_eq_getElem (by omega)] at O;obtain⟨vs,ae,_⟩:=Option.bind_eq_some_iff.1 O;obtain⟨_,ab,U⟩:=World.cells?_some ae;rw [K] at U;exact key vs ab U
    ·obtain⟨vs,y,ab,U,_⟩:=al 0 K;exact key vs ab U
   have am:∀i:Fin len,∃z:α,∃vs,p.r (GK W).E vs z/\At (GK W).E a.block (a.off+i*p.n) vs:=λi=>by
    obtain⟨vs,y,ac,Y,O⟩:=al i i.2;obtain⟨z,Z⟩:=aq _ _ _ O;refine⟨z,vs,Z,UI (by omega) λj aw=>?_⟩;have:=Y j (by omega);rw [Dm ag,Dm rfl] at this;exact this
   refine⟨some a,cap,List.ofFn λi=>Classical.choose (am i),by simpa using aa,by simpa using av,.inr ⟨a.block,a.off,?_,λi z Z=>?_⟩⟩
   ·obtain⟨b,o,s⟩:=a;simp only at ag;subst ag;rfl
   ·have hi:i<len:=by have:=(List.getElem?_eq_some_iff.1 Z).1;simpa using this
    simp [hi] at Z;have:=Classical.choose_spec (am ⟨i,hi⟩);rw [Z] at this;exact this
theorem Xo(h:DataW.trod enc Tryz.prog W 0 (λ_=>true) true fuel 3 cs=some x):∃z:Int,cs= [iV z]:=by
 obtain⟨n1,K,_⟩:=DataW.trod_int Tryz.underlying3 h;exact⟨n1,K⟩
theorem Wk(O:DataW.trod enc Tryz.prog W 0 (λ_=>true) true fuel 28 cs=some x):∃(a:Option Addr) (c:Nat) (K:List Int),cs= [.slice a K.length c]/\Al rI (GK W).E a c K:=
 X5 (p:=rI) Tryz.underlying28 Tryz.YK Nat.one_pos (λn cs x h=>by
  obtain⟨z,rfl⟩:=Xo h
  exact⟨z,rfl⟩) O
theorem VK{v:Value}{O:Nat}{d:DataW H}{p:List MemPlace}(U:Value.okWide Tryz.prog W .any O 28 v)(hd:DataW.Trod enc Tryz.prog W 0 (λ_=>true) true 28 v d p):
  ∃(a:Option Addr) (c:Nat) (K:List Int),v= .slice a K.length c/\Al rI (GK W).E a c K:=by
 obtain⟨Z,len,cap,rfl⟩:=okWide_slice Tryz.underlying28 U;obtain⟨fuel,Y⟩:=hd;obtain⟨a,c,K,e,g⟩:=Wk Y;simp [Value.cells] at e;obtain⟨rfl,rfl,rfl⟩:=e;exact⟨_,_,_,rfl,g⟩
end
end Pal
namespace Pal
open Go Go.Conc
def Hc(K:Bool)(ws:Lv_):Value:=if K then .agg ws.toArray else ws.headD undef
def Vr{α:Type}(pp:Rp α)(K:Bool)(E:LH)(v:Value)(x:α):Prop:=∃ws,pp.r E ws x/\v=Hc K ws
theorem Vr.Ag{α:Type}{pp:Rp α}{K:Bool}{E E':LH}{v:Value}{x:α}(h:Vr pp K E v x)(hle:Le E E'):Vr pp K E' v x:=
 let ⟨ws,O,U⟩:=h;⟨ws,pp.Ag hle O,U⟩
structure Gl (P:Program) (t:TypeId) {κ:Type} [DecidableEq κ] (pk:Rp κ) (ka:Bool):Prop where
 BF:∀{em:Bool} {E:LH} {v:Value} {x:κ} {s:St} {Q:Unit->St->Prop} {X:Halt->St->Prop},Vr pk ka E v x->Q () s->lp P (Instr.checkKey em 10000 t v) s Q X
 kind:∃kd,P.underlying t=some kd/\((∀v w,Instr.sameNow kd v w=none)∨∀{E:LH} {v w:Value} {x y:κ},Vr pk ka E v x->Vr pk ka E w y->Instr.sameNow kd v w=some (decide (x=y)))
 eq:∀{E:LH} {v w:Value} {x y:κ} {s:St} {Q:Bool->St->Prop} {X:Halt->St->Prop},Vr pk ka E v x->Vr pk ka E w y->Q (decide (x=y)) s->lp P (Op.equal t v w) s Q X
 same:∀{E:LH} {v:Value} {x:κ},Vr pk ka E v x->Instr.sameBits 10000 v v=true
 uniq:∀{E:LH} {v w:Value} {x:κ},Vr pk ka E v x->Vr pk ka E w x->v=w
section
variable {κ ν:Type} [DecidableEq κ] {pk:Rp κ}{pv:Rp ν}{ka va:Bool}{E E':LH}
def Ds(pk:Rp κ)(ka:Bool)(pv:Rp ν)(va:Bool)(E:LH):List MapEntry->List (κ×ν)->Prop
 | [],[]=>True
 | e::es,x::xs=>Vr pk ka E e.key x.1/\Vr pv va E e.val x.2/\Ds pk ka pv va E es xs
 | _,_=>False
theorem Ds.Ag(hle:Le E E'):∀{es:List MapEntry} {xs:List (κ×ν)},Ds pk ka pv va E es xs->Ds pk ka pv va E' es xs
 | [],[],_=>trivial
 | e::es,x::xs,h=>⟨h.1.Ag hle,h.2.1.Ag hle,Ds.Ag hle h.2.2⟩
 | [],_::_,h=>h.elim
 | _::_,[],h=>h.elim
theorem Ds.len:∀{es:List MapEntry} {xs:List (κ×ν)},Ds pk ka pv va E es xs->es.length=xs.length
 | [],[],_=>rfl
 | e::es,x::xs,h=>by simp [Ds.len h.2.2]
 | [],_::_,h=>h.elim
 | _::_,[],h=>h.elim
def EA(x:κ):List MapEntry->List (κ×ν)->Nat->Option (Nat×Value)
 | e::es,y::ys,i=>if x=y.1 then some (i,e.val) else EA x es ys (i+1)
 | _,_,_=>none
def BC(xs:List (κ×ν))(x:κ):Option ν:=(xs.find? λy=>decide (x=y.1)).map (·.2)
def C8(xs:List (κ×ν))(x:κ)(v:ν):List (κ×ν):=match xs with
 | []=> [(x,v)]
 | y::ys=>if x=y.1 then(x,v)::ys else y::C8 ys x v
theorem Rz{x:κ}:∀{es:List MapEntry} {xs:List (κ×ν)} {i:Nat},Ds pk ka pv va E es xs->(EA x es xs i=none/\BC xs x=none)∨∃j w v0,EA x es xs i=some (j,w)/\BC xs x=some v0/\Vr pv va E w v0
 | [],[],i,_=> .inl ⟨rfl,rfl⟩
 | e::es,y::ys,i,h=>by
  unfold EA BC
  by_cases K:x=y.1
  ·exact .inr ⟨i,e.val,y.2,by rw [if_pos K],by simp [K],h.2.1⟩
  ·rcases Rz (x:=x) (i:=i+1) h.2.2 with⟨O,U⟩ | ⟨j,w,v0,O,U,Y⟩
   ·exact .inl ⟨by rw [if_neg K];exact O,by simpa [K,BC] using U⟩
   ·exact .inr ⟨j,w,v0,by rw [if_neg K];exact O,by simpa [K,BC] using U,Y⟩
 | [],_::_,_,h=>h.elim
 | _::_,[],_,h=>h.elim
theorem Ds.put{x:κ}{v0:ν}{O w:Value}(U:Vr pk ka E O x)(hw:Vr pv va E w v0)(Z:Nat):∀{es:List MapEntry} {xs:List (κ×ν)} {i:Nat},Ds pk ka pv va E es xs->
  (EA x es xs i=none/\Ds pk ka pv va E (es++ [{key:=O,val:=w,born:=Z}]) (C8 xs x v0))∨
  ∃j u,EA x es xs i=some (i+j,u)/\j<es.length/\(∀e,es[j]? =some e->Vr pk ka E e.key x)/\Ds pk ka pv va E (es.modify j λe=>{e with key:=O,val:=w}) (C8 xs x v0)
 | [],[],i,_=> .inl ⟨rfl,U,hw,trivial⟩
 | e::es,y::ys,i,h=>by
  unfold EA C8
  by_cases K:x=y.1
  ·refine .inr ⟨0,e.val,by rw [if_pos K];rfl,by simp,λaa he=>?_,?_⟩
   ·simp at he;subst he;rw [K];exact h.1
   ·rw [if_pos K];exact⟨U,hw,h.2.2⟩
  ·rcases Ds.put U hw Z (i:=i+1) h.2.2 with⟨Y,ab⟩ | ⟨j,u,Y,ab,ac,ae⟩
   ·exact .inl ⟨by rw [if_neg K];exact Y,by rw [if_neg K];exact⟨h.1,h.2.1,ab⟩⟩
   ·refine .inr ⟨j+1,u,by rw [if_neg K,Y];congr 2;omega,by simp;omega,λaa he=>ac aa (by simpa using he),?_⟩;rw [if_neg K];exact⟨h.1,h.2.1,ae⟩
 | [],_::_,_,h=>h.elim
 | _::_,[],_,h=>h.elim
def Kj(pk:Rp κ)(ka:Bool)(pv:Rp ν)(va:Bool)(E:LH)(o:Obj)(xs:List (κ×ν)):Prop:=
 ∃es clock,o= .map es clock/\Ds pk ka pv va E es.toList xs/\(es.toList.map (·.born)).Pairwise (·<·)/\∀e∈es.toList,e.born<clock
theorem Kj.Ag{o:Obj}{xs:List (κ×ν)}(h:Kj pk ka pv va E o xs)(hle:Le E E'):Kj pk ka pv va E' o xs:=
 let ⟨es,c,K,O,U⟩:=h;⟨es,c,K,O.Ag hle,U⟩
variable {P:Program}{s:St}{t tm te:TypeId}{X:Halt->St->Prop}
theorem PT(U:Gl P t pk ka){k:Value}{x:κ}(Y:Vr pk ka E k x){Q:Option (Nat×Value)->St->Prop}:∀{es:List MapEntry} {xs:List (κ×ν)} {i:Nat},Ds pk ka pv va E es xs->Q (EA x es xs i) s->lp P (Instr.findAsking t k es i) s Q X
 | [],[],i,_,h=>h
 | e::es,y::ys,i,h,K=>by
  unfold Instr.findAsking
  refine As _ _ (U.eq Y h.1 ?_)
  unfold EA at K
  by_cases O:x=y.1
  ·rw [decide_eq_true O]
   rw [if_pos O] at K;exact K
  ·rw [decide_eq_false O];rw [if_neg O] at K;exact PT U Y h.2.2 K
 | [],_::_,_,h,_=>h.elim
 | _::_,[],_,h,_=>h.elim
theorem P7{kd:TypeDesc}{k:Value}{x:κ}(O:Vr pk ka E k x)(U:∀{E:LH} {v w:Value} {x y:κ},Vr pk ka E v x->Vr pk ka E w y->Instr.sameNow kd v w=some (decide (x=y))):∀{es:List MapEntry} {xs:List (κ×ν)} {i:Nat},Ds pk ka pv va E es xs->Instr.findNow kd k es i=some (EA x es xs i)
 | [],[],i,_=>rfl
 | e::es,y::ys,i,h=>by
  unfold Instr.findNow EA
  rw [U O h.1]
  by_cases K:x=y.1
  ·simp [K]
  ·simp only [decide_eq_false K,if_neg K];exact P7 O U h.2.2
 | [],_::_,_,h=>h.elim
 | _::_,[],_,h=>h.elim
theorem N4(O:Gl P t pk ka){k:Value}{x:κ}(U:Vr pk ka E k x){Q:Option (Nat×Value)->St->Prop}{es:List MapEntry}{xs:List (κ×ν)}(h:Ds pk ka pv va E es xs)(K:Q (EA x es xs 0) s):lp P (Instr.findKey t k es) s Q X:=by
 unfold Instr.findKey;obtain⟨kd,Y,Z | aa⟩:=O.kind
 ·refine As _ _ (Ce Y ?_);cases es with
  | nil=>
   cases xs with
   | nil=>exact K
   | cons y ys=>exact h.elim
  | cons e es=>
   have ab:Instr.findNow kd k (e::es) 0=none:=by unfold Instr.findNow;rw [Z]
   rw [ab];exact PT O U h K
 ·refine As _ _ (Ce Y ?_);rw [P7 U aa h];exact K
theorem UZ(O:Gl P t pk ka)(hm:P.underlying tm=some (.map t te)){z:Value}{z0:ν}(Z:zeroOf P te=some z)(aa:Vr pv va E z z0){bk:Nat}{o:Obj}{xs:List (κ×ν)}{k:Value}{x:κ}(ab:s.get bk=some o)(ac:Kj pk ka pv va E o xs)(U:Vr pk ka E k x)(ok:Bool){Q:Value->St->Prop}
  (h:∀w,Vr pv va E w ((BC xs x).getD z0)->Q (if ok then .tuple #[w,.bool (BC xs x).isSome] else w) s):lp P (Instr.lookup tm (.map (some bk)) k ok) s Q X:=by
 obtain⟨es,c,rfl,Y,ag,ah⟩:=ac;unfold Instr.lookup;refine As _ _ (Ce hm ?_);refine As _ _ ?_;unfold getObj;simp only [bind,Sem.bind,lp];refine⟨_,ab,rfl,?_⟩;refine As (x:=Instr.checkKey _ 10000 t k) _ (O.BF U ?_);refine As (x:=Instr.findKey t k es.toList) _ (N4 O U Y ?_);rcases Rz (x:=x) (i:=0) Y with⟨K,e2⟩ | ⟨j,w,v0,K,e2,ae⟩
 ·rw [K];simp only;refine As (x:=zeroValue te) _ (Hm Z ?_);have:=h z (by rw [e2];exact aa);rw [e2] at this;exact this
 ·rw [K];have:=h w (by rw [e2];exact ae);rw [e2] at this;exact this
theorem TW(O:Gl P t pk ka)(hm:P.underlying tm=some (.map t te)){bk:Nat}{o:Obj}{xs:List (κ×ν)}{k w:Value}{x:κ}{v0:ν}(ae:s.get bk=some o)(Z:s.H bk=some o)(ag:Kj pk ka pv va E o xs)(K:Vr pk ka E k x)(hw:Vr pv va E w v0){Q:Unit->St->Prop}
  (h:∀o',Kj pk ka pv va E o' (C8 xs x v0)->Q () (s.upd bk o')):lp P (Instr.mapUpdate tm (.map (some bk)) k w) s Q X:=by
 obtain⟨es,c,rfl,aa,ab,U⟩:=ag;unfold Instr.mapUpdate;refine As _ _ (Ce hm ?_);unfold getObj;simp only [bind,Sem.bind,lp];refine⟨_,ae,rfl,?_⟩;refine As (x:=Instr.checkKey false 10000 t k) _ (O.BF K ?_);refine As (x:=Instr.findKey t k es.toList) _ (N4 O K aa ?_);rcases Ds.put K hw c (i:=0) aa with⟨Y,e2⟩ | ⟨j,u,Y,e2,ah,ai⟩
 ·rw [Y];simp only [setObj,lp];refine⟨⟨_,Z,rfl⟩,rfl,h _ ⟨es.push {key:=k,val:=w,born:=c},c+1,rfl,by simpa using e2,?_,?_⟩⟩
  ·rw [Array.toList_push,List.map_append,List.pairwise_append];refine⟨ab,by simp,λa aj b hb=>?_⟩;simp at hb;subst hb;obtain⟨e,he,rfl⟩:=List.mem_map.1 aj;exact U e he
  ·intro e he;rw [Array.toList_push] at he;rcases List.mem_append.1 he with he | he
   ·have:=U e he;omega
   ·simp at he;subst he;simp
 ·rw [Y];have ac:es[j]? =some (es[j]'(by simpa using e2)):=Array.getElem?_eq_getElem (by simpa using e2);have ak:(es[j]'(by simpa using e2)).key=k:=O.uniq (ah _ (by rw [Array.getElem?_toList];exact ac)) K;simp only [Nat.zero_add,ac,Option.map_some,Option.getD_some,ak];refine As (x:=Instr.keyThatStays k k) _ ?_;unfold Instr.keyThatStays;rw [if_pos (O.same K)];simp only [lp,pure,setObj];refine⟨⟨_,Z,rfl⟩,rfl,h _ ⟨_,c,rfl,by simpa using ai,?_,?_⟩⟩
  ·have:(es.modify j λe=>{e with key:=k,val:=w}).toList.map (·.born)=es.toList.map (·.born):=by
    rw [Array.toList_modify];apply List.ext_getElem?;intro q;simp only [List.getElem?_map,List.getElem?_modify];split <;> cases es.toList[q]? <;> rfl
   rw [this];exact ab
  ·intro e he;rw [Array.toList_modify] at he;obtain⟨q,al,rfl⟩:=List.mem_iff_getElem.1 he;rw [List.getElem_modify];have am:q<es.toList.length:=by simpa using al
   split
   ·show(es.toList[q]'am).born<c;exact U _ (List.getElem_mem _)
   ·exact U _ (List.getElem_mem _)
end
end Pal
namespace Pal
open Go Go.Conc
theorem Ri{l us r:Lv_}:∀j w,us[j]? =some w->(l++us++r).toArray[l.length+j]? =some w:=λj w h=>by
 have K:j<us.length:=(List.getElem?_eq_some_iff.1 h).1
 rw [List.getElem?_toArray,List.append_assoc,List.getElem?_append_right (by omega),show l.length+j - l.length=j by omega,List.getElem?_append_left K]
 exact h
section
variable {P:Program}{s:St}{t e:TypeId}{X:Halt->St->Prop}
theorem KF{c:Av_}{off:Nat}{us:Lv_}{O:Bool}(Y:C9 P e=some O)(Z:Bl P e=some us.length)(aa:O=false->us.length=1)(hw:∀j w,us[j]? =some w->c[off+j]? =some w)
  {Q:Value->St->Prop} (k:Q (Hc O us) s):lp P (Go.part e c off) s Q X:=by
 unfold Go.part;refine As (x:=isAgg e) _ (Mx Y ?_);cases O with
 | true=>
  simp only [if_true];refine As (x:=Go.sizeOf e) _ (ED Z ?_);have ab:c.extract off (off+us.length)=us.toArray:=by
   apply Array.ext_getElem?;intro j;by_cases U:j<us.length
   ·have K:=hw j us[j] (List.getElem?_eq_getElem U);have ac:off+j<c.size:=(Array.getElem?_eq_some_iff.1 K).1;simp only [Array.getElem?_extract];rw [if_pos (by omega),K];simp [U]
   ·simp only [Array.getElem?_extract];rw [if_neg (by omega)];simp;omega
  show Q (.agg (c.extract off (off+us.length))) s;rw [ab];exact k
 | false=>
  obtain⟨w,rfl⟩:∃w,us= [w]:=by
   match us,aa rfl with
   | [w],_=>exact⟨w,rfl⟩
  have K:=hw 0 w rfl;rw [Nat.add_zero] at K;simp only [Bool.false_eq_true,if_false,K];exact k
end
structure BW (P:Program) (t:TypeId) {α:Type} [DecidableEq α] (pp:Rp α) (K:Bool) (dep:Nat):Prop where
 agg:C9 P t=some K
 size:Bl P t=some pp.n
 one:K=false->pp.n=1
 eq:∀{n:Nat} {E E':LH} {ws ws':Lv_} {x y:α} {s:St} {Q:Bool->St->Prop} {X:Halt->St->Prop},dep<=n->pp.r E ws x->pp.r E' ws' y->Q (decide (x=y)) s->lp P (Op.equalIn n t (Hc K ws) (Hc K ws')) s Q X
 BF:∀{n:Nat} {em:Bool} {E:LH} {ws:Lv_} {x:α} {s:St} {Q:Unit->St->Prop} {X:Halt->St->Prop},dep<=n->pp.r E ws x->Q () s->lp P (Instr.checkKey em n t (Hc K ws)) s Q X
 uniq:∀{E E':LH} {ws ws':Lv_} {x:α},pp.r E ws x->pp.r E' ws' x->ws=ws'
 same:∀{E:LH} {ws:Lv_} {x:α},pp.r E ws x->∀w∈ws,∀m,Instr.sameBits (m+1) w w=true
 now:∃kd,P.underlying t=some kd/\((∀v w,Instr.sameNow kd v w=none)∨∀{E E':LH} {ws ws':Lv_} {x y:α},pp.r E ws x->pp.r E' ws' y->Instr.sameNow kd (Hc K ws) (Hc K ws')=some (decide (x=y)))
section
variable {P:Program}{t e:TypeId}
theorem BW.int{kd:IntKind}(U:P.underlying t=some (.int kd))(Y:Bl P t=some 1):BW P t (rK kd) false 1 where
 agg:=by unfold C9;rw [U]
 size:=Y
 one _:=rfl
 eq {n E E' ws ws' x y s Q X} Z K O k:=by
  obtain⟨m,rfl⟩:∃m,n=m+1:=⟨n - 1,by omega⟩;have K:ws= [.int kd x]:=K;have O:ws'= [.int kd y]:=O;subst K O;refine SD U ?_;have e:(x==y)=decide (x=y):=by by_cases h:x=y <;> simp [h]
  rw [e];exact k
 BF {n em E ws x s Q X} Z K k:=by
  obtain⟨m,rfl⟩:∃m,n=m+1:=⟨n - 1,by omega⟩;have K:ws= [.int kd x]:=K;subst K;unfold Instr.checkKey;refine As _ _ (Ce U ?_);exact k
 uniq K O:=by
  have K:_= [Value.int kd _]:=K;have O:_= [Value.int kd _]:=O;rw [K,O]
 same {E ws x} h w hw m:=by
  have h:ws= [Value.int kd x]:=h;subst h;simp at hw;subst hw;simp [Instr.sameBits]
 now:=⟨_,U,.inr λ{E E' ws ws' x y} K O=>by
  have K:ws= [.int kd x]:=K
  have O:ws'= [.int kd y]:=O
  subst K O
  have e:(x==y)=decide (x=y):=by by_cases h:x=y <;> simp [h]
  show(if kd=kd then some (x==y) else none)=_
  rw [if_pos rfl,e]⟩
theorem BW.nat{kd:IntKind}(U:P.underlying t=some (.int kd))(Z:Bl P t=some 1):BW P t (rN kd) false 1 where
 agg:=by unfold C9;rw [U]
 size:=Z
 one _:=rfl
 eq {n E E' ws ws' x y s Q X} aa K O k:=by
  obtain⟨m,rfl⟩:∃m,n=m+1:=⟨n - 1,by omega⟩;have K:ws= [.int kd ((x:Nat):Int)]:=K;have O:ws'= [.int kd ((y:Nat):Int)]:=O;subst K O;refine SD U ?_;have e:((x:Int)==(y:Int))=decide (x=y):=by
   by_cases h:x=y
   ·simp [h]
   ·have Y:¬(x:Int)=(y:Int):=by omega
    simp [h,Y]
  rw [e];exact k
 BF {n em E ws x s Q X} aa K k:=by
  obtain⟨m,rfl⟩:∃m,n=m+1:=⟨n - 1,by omega⟩;have K:ws= [.int kd ((x:Nat):Int)]:=K;subst K;unfold Instr.checkKey;refine As _ _ (Ce U ?_);exact k
 uniq K O:=by
  have K:_= [Value.int kd _]:=K;have O:_= [Value.int kd _]:=O;rw [K,O]
 same {E ws x} h w hw m:=by
  have h:ws= [Value.int kd ((x:Nat):Int)]:=h;subst h;simp at hw;subst hw;simp [Instr.sameBits]
 now:=⟨_,U,.inr λ{E E' ws ws' x y} K O=>by
  have K:ws= [.int kd ((x:Nat):Int)]:=K
  have O:ws'= [.int kd ((y:Nat):Int)]:=O
  subst K O
  have e:((x:Int)==(y:Int))=decide (x=y):=by
   by_cases h:x=y
   ·simp [h]
   ·have Y:¬(x:Int)=(y:Int):=by omega
    simp [h,Y]
  show(if kd=kd then some ((x:Int)==(y:Int)) else none)=_
  rw [if_pos rfl,e]⟩
theorem BW.up{α:Type} [DecidableEq α] {pp:Rp α}{O:Bool}{dep U:Nat}(h:BW P t pp O dep)(hd:dep<=U):BW P t pp O U:=
 ⟨h.agg,h.size,h.one,λK=>h.eq (Nat.le_trans hd K),λK=>h.BF (Nat.le_trans hd K),h.uniq,h.same,h.now⟩
theorem OF{α:Type}{kk:Nat}{pp:Rp α}{E:LH}{ws:Lv_}{xs:List α}(K:(rA kk pp).r E ws xs){i:Nat}(hi:i<kk):∃x us,xs[i]? =some x/\pp.r E us x/\us.length=pp.n/\∀j w,us[j]? =some w->ws.toArray[i*pp.n+j]? =some w:=by
 have O:xs[i]? =some (xs[i]'(by rw [K.1];exact hi)):=List.getElem?_eq_getElem (by rw [K.1];exact hi);have Y:ix xs (i:Int)=some (xs[i]'(by rw [K.1];exact hi)):=by unfold ix;rw [if_pos (by omega)];simpa using O
 obtain⟨us,U,_,_,Z⟩:=Gt (m:=(i:Int)) K Y;exact⟨_,us,O,U,pp.len U,λj w aa=>by have:=Z j w aa;rw [List.getElem?_toArray];simpa using this⟩
theorem BW.arr{α:Type} [DecidableEq α] {pp:Rp α}{ar:Bool}{dep kk:Nat}(h:BW P e pp ar dep)(Z:P.underlying t=some (.array kk e))(au:Bl P t=some (kk*pp.n)):BW P t (rA kk pp) true (dep+1) where
 agg:=by unfold C9;rw [Z]
 size:=au
 one:=λh=>by cases h
 eq {n E E' ws ws' xs ys s Q X} av aa am k:=by
  obtain⟨n,rfl⟩:∃m,n=m+1:=⟨n - 1,by omega⟩;have aF:=aa.1;have aG:=am.1;unfold Op.equalIn;refine As _ _ (Ce Z ?_);refine As (x:=Go.sizeOf e) _ (ED h.size ?_);simp only [Hc,if_true];simp only [Std.Legacy.Range.forIn_eq_forIn_range',Std.Legacy.Range.size,Nat.sub_zero,Nat.add_one_sub_one,Nat.div_one];let bd:Nat->Option Bool×Unit->Sem (ForInStep (Option Bool×Unit)):=λi _=>do
   if !(← Op.equalIn n e (← Go.part e ws.toArray (i*pp.n)) (← Go.part e ws'.toArray (i*pp.n))) then pure (ForInStep.done (some false,())) else pure (ForInStep.yield (none,()))
  have key:∀(m st:Nat),st+m=kk->(∀i,i<st->xs[i]? =ys[i]?)->∀{K:Option Bool×Unit->St->Prop},K (if xs=ys then(none,()) else(some false,())) s->lp P (forIn (List.range' st m) (none,()) bd:Sem _) s K X:=by
   intro m
   induction m with
   | zero=>
    intro st ac ae K O;have U:xs=ys:=by
     apply List.ext_getElem?;intro i;rcases Nat.lt_or_ge i st with hi | hi
     ·exact ae i hi
     ·rw [List.getElem?_eq_none (by omega),List.getElem?_eq_none (by omega)]
    rw [if_pos U] at O;simp only [List.range'_zero,List.forIn_nil];exact O
   | succ m ag=>
    intro st ac ae K O;simp only [List.range'_succ,List.forIn_cons];obtain⟨a,us,ab,ah,Y,ai⟩:=OF aa (i:=st) (by omega);obtain⟨c,aH,aj,aw,an,ay⟩:=OF am (i:=st) (by omega);refine As _ _ (As _ _ (KF h.agg (by rw [Y];exact h.size) (λq=>by rw [Y];exact h.one q) ai ?_));refine As _ _ (KF h.agg (by rw [an];exact h.size) (λq=>by rw [an];exact h.one q) ay ?_);refine As _ _ (h.eq (by omega) ah aw ?_);by_cases ak:a=c
    ·subst ak;simp only [decide_true,Bool.not_true,Bool.false_eq_true,if_false,lp,pure];exact ag (st+1) (by omega) (λi hi=>by
      rcases Nat.lt_or_ge i st with ao | ao
      ·exact ae i ao
      ·obtain rfl:i=st:=by omega
       rw [ab,aj]) O
    ·have az:¬xs=ys:=λq=>ak (by rw [q] at ab;rw [ab] at aj;exact Option.some.inj aj);rw [if_neg az] at O;simp only [ak,decide_false,Bool.not_false,if_true,lp,pure];exact O
  refine As _ _ (key kk 0 (by omega) (λi hi=>by omega) ?_);by_cases U:xs=ys
  ·rw [if_pos U];simpa [lp,pure,U] using k
  ·rw [if_neg U];simpa [lp,pure,U] using k
 BF {n em E ws xs s Q X} av aa k:=by
  obtain⟨n,rfl⟩:∃m,n=m+1:=⟨n - 1,by omega⟩;unfold Instr.checkKey;refine As _ _ (Ce Z ?_);simp only [Hc,if_true];simp only [Std.Legacy.Range.forIn_eq_forIn_range',Std.Legacy.Range.size,Nat.sub_zero,Nat.add_one_sub_one,Nat.div_one];let bd:Nat->Unit->Sem (ForInStep Unit):=λi _=>do
   Instr.checkKey em n e (← Go.part e ws.toArray (i*(← Go.sizeOf e)))
   pure (ForInStep.yield ())
  have key:∀(m st:Nat),st+m=kk->∀{K:Unit->St->Prop},K () s->lp P (forIn (List.range' st m) () bd:Sem _) s K X:=by
   intro m
   induction m with
   | zero=>
    intro st ac K O;simp only [List.range'_zero,List.forIn_nil];exact O
   | succ m ag=>
    intro st ac K O;simp only [List.range'_succ,List.forIn_cons];obtain⟨a,us,ab,ah,Y,ai⟩:=OF aa (i:=st) (by omega);refine As _ _ (As (x:=Go.sizeOf e) _ (ED h.size ?_));refine As _ _ (KF h.agg (by rw [Y];exact h.size) (λq=>by rw [Y];exact h.one q) ai ?_);refine As _ _ (h.BF (by omega) ah ?_);exact ag (st+1) (by omega) O
  exact As _ _ (key kk 0 (by omega) k)
 uniq {E E' ws ws' xs} al aA:=by
  obtain⟨a1,wss,rfl,ap,c1⟩:=al;obtain⟨aI,aB,rfl,aJ,c2⟩:=aA;have:wss=aB:=by
   apply List.ext_getElem (by omega);intro i hi aC;have aq:xs[i]? =some (xs[i]'(by omega)):=List.getElem?_eq_getElem (by omega);exact h.uniq (c1 i _ _ aq (List.getElem?_eq_getElem hi)) (c2 i _ _ aq (List.getElem?_eq_getElem aC))
  rw [this]
 same {E ws xs} al w hw m:=by
  obtain⟨a1,wss,rfl,ap,c1⟩:=al;obtain⟨us,aD,hw⟩:=List.mem_flatten.1 hw;obtain⟨i,hi⟩:=List.mem_iff_getElem?.1 aD;have aE:i<xs.length:=by rw [a1,← ap];exact(List.getElem?_eq_some_iff.1 hi).1
  exact h.same (c1 i _ us (List.getElem?_eq_getElem aE) hi) w hw m
 now:=⟨_,Z,.inl λv w=>rfl⟩
theorem BW.field{α:Type} [DecidableEq α] {pp:Rp α}{aa:Bool}{dep n:Nat}{f:Field}{s:St}{X:Halt->St->Prop}(h:BW P f.type pp aa dep)(hd:dep<=n)(ab:f.name≠ "_"){E E':LH}{us Y:Lv_}{x y:α}(r1:pp.r E us x)(r2:pp.r E' Y y){cx Z:Av_}
  (w1:∀j w,us[j]? =some w->cx[f.offset+j]? =some w) (w2:∀j w,Y[j]? =some w->Z[f.offset+j]? =some w) {K:ForInStep (Option Bool×Unit)->St->Prop} (O:K (if x=y then .yield (none,()) else .done (some false,())) s):
  lp P (if f.name≠ "_" then do
   if !(← Op.equalIn n f.type (← Go.part f.type cx f.offset) (← Go.part f.type Z f.offset)) then pure (ForInStep.done (some false,())) else pure (ForInStep.yield (none,()))
   else pure (ForInStep.yield (none,()))) s K X:=by
 rw [if_pos ab]
 refine As _ _ (KF h.agg (by rw [pp.len r1];exact h.size) (λq=>by rw [pp.len r1];exact h.one q) w1 ?_)
 refine As _ _ (KF h.agg (by rw [pp.len r2];exact h.size) (λq=>by rw [pp.len r2];exact h.one q) w2 ?_)
 refine As _ _ (h.eq hd r1 r2 ?_)
 by_cases U:x=y
 ·rw [if_pos U] at O;simpa [lp,pure,U] using O
 ·rw [if_neg U] at O;simpa [lp,pure,U] using O
theorem BW.LJ{α:Type} [DecidableEq α] {pp:Rp α}{O em:Bool}{dep n:Nat}{f:Field}{s:St}{X:Halt->St->Prop}(h:BW P f.type pp O dep)(hd:dep<=n)(U:f.name≠ "_"){E:LH}{us:Lv_}{x:α}(r1:pp.r E us x){cx:Av_}
  (w1:∀j w,us[j]? =some w->cx[f.offset+j]? =some w) {K:ForInStep Unit->St->Prop} (Y:K (.yield ()) s):
  lp P (if f.name≠ "_" then do
   Instr.checkKey em n f.type (← Go.part f.type cx f.offset)
   pure (ForInStep.yield ())
   else pure (ForInStep.yield ())) s K X:=by
 rw [if_pos U]
 refine As _ _ (KF h.agg (by rw [pp.len r1];exact h.size) (λq=>by rw [pp.len r1];exact h.one q) w1 ?_)
 refine As _ _ (h.BF hd r1 ?_)
 exact Y
theorem KV{us r:Lv_}{o:Nat}(K:o=0):∀j w,us[j]? =some w->(us++r).toArray[o+j]? =some w:=λj w h=>by subst K;exact Ri (l:= []) j w h
theorem Nl{l us r:Lv_}{o:Nat}(K:o=l.length):∀j w,us[j]? =some w->(l++(us++r)).toArray[o+j]? =some w:=λj w h=>by
 subst K
 have:=Ri (l:=l) (r:=r) j w h
 rwa [List.append_assoc] at this
theorem Nn{l us:Lv_}{o:Nat}(K:o=l.length):∀j w,us[j]? =some w->(l++us).toArray[o+j]? =some w:=λj w h=>by
 have:=Nl (r:= []) K j w h
 rwa [List.append_nil] at this
theorem Pg{l m us:Lv_}{o:Nat}(K:o=l.length+m.length):∀j w,us[j]? =some w->(l++(m++us)).toArray[o+j]? =some w:=λj w h=>by
 have:=Nn (l:=l++m) (o:=o) (by simp [K]) j w h
 rwa [List.append_assoc] at this
theorem BW.two{α β:Type} [DecidableEq α] [DecidableEq β] {K:Rp α}{p2:Rp β}{a1 aj:Bool}{dep:Nat}{f1 f2:Field}(O:P.underlying t=some (.struct #[f1,f2]))(U:BW P f1.type K a1 dep)(Y:BW P f2.type p2 aj dep)(ak:P.stoodInHeld t=false)
  (n1:f1.name≠ "_") (n2:f2.name≠ "_") (ab:f1.offset=0) (ac:f2.offset=K.n) (al:Bl P t=some (K.n+p2.n)):BW P t (rP K p2) true (dep+1) where
 agg:=by unfold C9;rw [O]
 size:=al
 one:=λh=>by cases h
 eq {n E E' ws ws' x y s Q X} am ae an k:=by
  obtain⟨n,rfl⟩:∃m,n=m+1:=⟨n - 1,by omega⟩;obtain⟨ag,ah,rfl,r1,r2⟩:=ae;obtain⟨v1,v2,rfl,Z,ai⟩:=an;simp only [Hc,if_true];unfold Op.equalIn;refine As _ _ (Ce O ?_);refine As (x:=program) _ ?_;show lp P (if P.stoodInHeld t=true then _ else _) s _ _
  rw [if_neg (by rw [ak];exact Bool.false_ne_true)]
  dsimp only;rw [← Array.forIn_toList];simp only [List.forIn_cons,List.forIn_nil];refine As _ _ (As _ _ (U.field (by omega) n1 r1 Z (KV ab) (KV ab) ?_));by_cases aa:x.1=y.1
  ·rw [if_pos aa];refine As _ _ (Y.field (by omega) n2 r2 ai (Nn (ac.trans (K.len r1).symm)) (Nn (ac.trans (K.len Z).symm)) ?_);by_cases e2:x.2=y.2
   ·have e:x=y:=Prod.ext aa e2;rw [if_pos e2];simpa [lp,pure,e] using k
   ·have e:¬x=y:=λq=>e2 (by rw [q]);rw [if_neg e2];simpa [lp,pure,e] using k
  ·have e:¬x=y:=λq=>aa (by rw [q]);rw [if_neg aa];simpa [lp,pure,e] using k
 BF {n em E ws x s Q X} am ae k:=by
  obtain⟨n,rfl⟩:∃m,n=m+1:=⟨n - 1,by omega⟩;obtain⟨ag,ah,rfl,r1,r2⟩:=ae;simp only [Hc,if_true];unfold Instr.checkKey;refine As _ _ (Ce O ?_)
  dsimp only;rw [← Array.forIn_toList];simp only [List.forIn_cons,List.forIn_nil];refine As _ _ (As _ _ (U.LJ (by omega) n1 r1 (KV ab) ?_));refine As _ _ (Y.LJ (by omega) n2 r2 (Nn (ac.trans (K.len r1).symm)) ?_);exact k
 uniq {E E' ws ws' x} a b:=by
  obtain⟨ag,ah,rfl,r1,r2⟩:=a;obtain⟨v1,v2,rfl,Z,ai⟩:=b;rw [U.uniq r1 Z,Y.uniq r2 ai]
 same {E ws x} a w hw m:=by
  obtain⟨ag,ah,rfl,r1,r2⟩:=a;rcases List.mem_append.1 hw with hw | hw
  ·exact U.same r1 w hw m
  ·exact Y.same r2 w hw m
 now:=⟨_,O,.inl λv w=>rfl⟩
theorem BW.three{α β ao:Type} [DecidableEq α] [DecidableEq β] [DecidableEq ao] {K:Rp α}{p2:Rp β}{p3:Rp ao}{a1 aq ar:Bool}{dep:Nat}{f1 f2 f3:Field}(U:P.underlying t=some (.struct #[f1,f2,f3]))(Y:BW P f1.type K a1 dep)(Z:BW P f2.type p2 aq dep)(aa:BW P f3.type p3 ar dep)(au:P.stoodInHeld t=false)
  (n1:f1.name≠ "_") (n2:f2.name≠ "_") (ap:f3.name≠ "_") (ag:f1.offset=0) (ah:f2.offset=K.n) (ai:f3.offset=K.n+p2.n) (av:Bl P t=some (K.n+(p2.n+p3.n))):BW P t (rP K (rP p2 p3)) true (dep+1) where
 agg:=by unfold C9;rw [U]
 size:=av
 one:=λh=>by cases h
 eq {n E E' ws ws' x y s Q X} aw aj ay k:=by
  obtain⟨n,rfl⟩:∃m,n=m+1:=⟨n - 1,by omega⟩;obtain⟨ak,_,rfl,r1,al,am,rfl,r2,r3⟩:=aj;obtain⟨v1,_,rfl,O,v2,az,rfl,ab,an⟩:=ay;simp only [Hc,if_true];unfold Op.equalIn;refine As _ _ (Ce U ?_);refine As (x:=program) _ ?_;show lp P (if P.stoodInHeld t=true then _ else _) s _ _
  rw [if_neg (by rw [au];exact Bool.false_ne_true)]
  dsimp only;rw [← Array.forIn_toList];simp only [List.forIn_cons,List.forIn_nil];refine As _ _ (As _ _ (Y.field (by omega) n1 r1 O (KV ag) (KV ag) ?_));by_cases ac:x.1=y.1
  ·rw [if_pos ac];refine As _ _ (Z.field (by omega) n2 r2 ab (Nl (ah.trans (K.len r1).symm)) (Nl (ah.trans (K.len O).symm)) ?_);by_cases e2:x.2.1=y.2.1
   ·rw [if_pos e2];refine As _ _ (aa.field (by omega) ap r3 an (Pg (by rw [ai,K.len r1,p2.len r2])) (Pg (by rw [ai,K.len O,p2.len ab])) ?_);by_cases ae:x.2.2=y.2.2
    ·have e:x=y:=Prod.ext ac (Prod.ext e2 ae);rw [if_pos ae];simpa [lp,pure,e] using k
    ·have e:¬x=y:=λq=>ae (by rw [q]);rw [if_neg ae];simpa [lp,pure,e] using k
   ·have e:¬x=y:=λq=>e2 (by rw [q]);rw [if_neg e2];simpa [lp,pure,e] using k
  ·have e:¬x=y:=λq=>ac (by rw [q]);rw [if_neg ac];simpa [lp,pure,e] using k
 BF {n em E ws x s Q X} aw aj k:=by
  obtain⟨n,rfl⟩:∃m,n=m+1:=⟨n - 1,by omega⟩;obtain⟨ak,_,rfl,r1,al,am,rfl,r2,r3⟩:=aj;simp only [Hc,if_true];unfold Instr.checkKey;refine As _ _ (Ce U ?_)
  dsimp only;rw [← Array.forIn_toList];simp only [List.forIn_cons,List.forIn_nil];refine As _ _ (As _ _ (Y.LJ (by omega) n1 r1 (KV ag) ?_));refine As _ _ (Z.LJ (by omega) n2 r2 (Nl (ah.trans (K.len r1).symm)) ?_);refine As _ _ (aa.LJ (by omega) ap r3 (Pg (by rw [ai,K.len r1,p2.len r2])) ?_);exact k
 uniq {E E' ws ws' x} a b:=by
  obtain⟨ak,_,rfl,r1,al,am,rfl,r2,r3⟩:=a;obtain⟨v1,_,rfl,O,v2,az,rfl,ab,an⟩:=b;rw [Y.uniq r1 O,Z.uniq r2 ab,aa.uniq r3 an]
 same {E ws x} a w hw m:=by
  obtain⟨ak,_,rfl,r1,al,am,rfl,r2,r3⟩:=a;rcases List.mem_append.1 hw with hw | hw
  ·exact Y.same r1 w hw m
  ·rcases List.mem_append.1 hw with hw | hw
   ·exact Z.same r2 w hw m
   ·exact aa.same r3 w hw m
 now:=⟨_,U,.inl λv w=>rfl⟩
theorem BW.key{α:Type} [DecidableEq α] {pp:Rp α}{K:Bool}{dep:Nat}(h:BW P t pp K dep)(hd:dep<=10000):Gl P t pp K where
 BF:=by
  rintro em E v x s Q X ⟨ws,Y,rfl⟩ k;exact h.BF hd Y k
 kind:=by
  obtain⟨kd,O,Z⟩:=h.now;refine⟨kd,O,Z.imp id λaa=>?_⟩;rintro E v w x y ⟨ws,r1,rfl⟩ ⟨ws',r2,rfl⟩;exact aa r1 r2
 eq:=by
  rintro E v w x y s Q X ⟨ws,r1,rfl⟩ ⟨ws',r2,rfl⟩ k;exact h.eq hd r1 r2 k
 same:=by
  rintro E v x ⟨ws,r1,rfl⟩;cases K with
  | false=>
   obtain⟨w,rfl⟩:∃w,ws= [w]:=by
    have:=(pp.len r1).trans (h.one rfl)
    match ws,this with
    | [w],_=>exact⟨w,rfl⟩
   exact h.same r1 w (by simp) 9999
  | true=>
   show(ws.toArray.size==ws.toArray.size&&(ws.toArray.toList.zip ws.toArray.toList).all λ(x,y)=>Instr.sameBits 9999 x y)=true;rw [Bool.and_eq_true];refine⟨by simp,List.all_eq_true.2 ?_⟩;rintro⟨a,b⟩ ab;have O:∀(l:Lv_) a b,(a,b)∈l.zip l->a=b/\a∈l:=by
    intro l
    induction l with
    | nil=>intro a b h;simp at h
    | cons c l U=>
     intro a b h;simp only [List.zip_cons_cons,List.mem_cons,Prod.mk.injEq] at h;rcases h with⟨rfl,rfl⟩ | h
     ·exact⟨rfl,by simp⟩
     ·exact⟨(U a b h).1,List.mem_cons_of_mem _ (U a b h).2⟩
   obtain⟨rfl,hm⟩:=O _ a b ab;exact h.same r1 a (by simpa using hm) 9998
 uniq:=by
  rintro E v w x ⟨ws,r1,rfl⟩ ⟨ws',r2,rfl⟩;rw [h.uniq r1 r2]
section
variable {s:St}{ρ:Operand->Value}{x y:Operand}{d:Option Tmp}{u ty:TypeId}{p:String}{af:Ae_}{g:On_}{E E':LH}{ws ws':Lv_}
theorem Wq{α:Type} [DecidableEq α] {pp:Rp α}{dep:Nat}{a b:α}(h:BW P t pp true dep)(hd:dep<=10000)(K:P.eqGuardType P.depth t=false)(r1:pp.r E ws a)(r2:pp.r E' ws' b)(O:ρ x= .agg ws.toArray)(U:ρ y= .agg ws'.toArray):Yl P ⟨d,.binOp .eql t x y u,ty,p,af,g⟩ ρ s (.bool (decide (a=b))):=by
 refine Ft (sm:=do eqGuard .eql t x y (ρ x) (ρ y);binOp .eql t (ρ x) (ρ y)) rfl ?_
 rw [O,U];refine As _ _ (QC (.inl rfl) K ?_);have hb:binOp .eql t (.agg ws.toArray) (.agg ws'.toArray)=(do pure (.bool (← Op.equal t (.agg ws.toArray) (.agg ws'.toArray)))):=rfl
 rw [hb];exact As (x:=Op.equal t _ _) _ (h.eq hd r1 r2 ⟨rfl,rfl⟩)
theorem RD{α:Type} [DecidableEq α] {pp:Rp α}{dep:Nat}{a b:α}(h:BW P t pp true dep)(hd:dep<=10000)(K:P.eqGuardType P.depth t=false)(r1:pp.r E ws a)(r2:pp.r E' ws' b)(O:ρ x= .agg ws.toArray)(U:ρ y= .agg ws'.toArray):Yl P ⟨d,.binOp .neq t x y u,ty,p,af,g⟩ ρ s (.bool (decide (a≠b))):=by
 refine Ft (sm:=do eqGuard .neq t x y (ρ x) (ρ y);binOp .neq t (ρ x) (ρ y)) rfl ?_
 rw [O,U];refine As _ _ (QC (.inr rfl) K ?_);have hb:binOp .neq t (.agg ws.toArray) (.agg ws'.toArray)=(do pure (.bool (!(← Op.equal t (.agg ws.toArray) (.agg ws'.toArray))))):=rfl
 rw [hb];exact As (x:=Op.equal t _ _) _ (h.eq hd r1 r2 ⟨by simp,rfl⟩)
end
end
end Pal
namespace Pal
open Go Go.Conc
theorem TU{E H:LH}{B:List (Nat×Obj)}(i:Nat){bk:Nat}{o:Obj}(K:Nd E H B)(h:B[i]? =some (bk,o)):∃E',Le E E'/\E' bk=some o/\Nd E' H (B.eraseIdx i)/\B9 (mk E H B) (mk E' H (B.eraseIdx i)):=by
 have ag:=List.mem_of_getElem? h;have ah:E bk=none/\H bk=none:=by
  have:∀{B:List (Nat×Obj)},Nd E H B->(bk,o)∈B->E bk=none/\H bk=none:=by
   intro B K O
   induction B with
   | nil=>simp at O
   | cons q B Y=>
    rcases List.mem_cons.1 O with rfl | O
    ·exact⟨K.1,K.2.1⟩
    ·exact Y K.2.2.2 O
  exact this K ag
 let E':LH:=λx=>if x=bk then some o else E x
 have ab:E' bk=some o:=by simp [E']
 have hle:Le E E':=λx u U=>by
  have:x≠bk:=λe=>by subst e;rw [ah.1] at U;cases U
  simp [E',this,U]
 have ai:Nd E' H (B.eraseIdx i):=by
  have:∀{B:List (Nat×Obj)} {i:Nat},Nd E H B->B[i]? =some (bk,o)->Nd E' H (B.eraseIdx i)/\∀p∈B.eraseIdx i,p.1≠bk:=by
   intro B
   induction B with
   | nil=>intro i _ h;simp at h
   | cons q B Y=>
    obtain⟨c,v⟩:=q;intro i K h;have up:∀{B:List (Nat×Obj)},Nd E H B->(∀p∈B,p.1≠bk)->Nd E' H B:=by
     intro B K ac
     induction B with
     | nil=>trivial
     | cons q B aj=>exact⟨by simpa [E',ac q (by simp)] using K.1,K.2.1,K.2.2.1,aj K.2.2.2 λp O=>ac p (List.mem_cons_of_mem _ O)⟩
    cases i with
    | zero=>
     simp at h;obtain⟨rfl,rfl⟩:=h;exact⟨up K.2.2.2 K.2.2.1,K.2.2.1⟩
    | succ i=>
     simp at h;obtain⟨Z,aa⟩:=Y K.2.2.2 h;have ae:c≠bk:=λe=>K.2.2.1 (bk,o) (List.mem_of_getElem? h) e.symm;refine⟨⟨by simpa [E',ae] using K.1,K.2.1,λp O=>K.2.2.1 p (List.mem_of_mem_eraseIdx O),Z⟩,λp O=>?_⟩;rcases List.mem_cons.1 O with rfl | O
     ·exact ae
     ·exact aa p O
  exact(this K h).1
 refine⟨E',hle,ab,ai,⟨λx u U=>hle x u U,λx u U=>(Lf K h U).2,λx u U=>?_,rfl⟩⟩;by_cases e:x=bk
 ·subst e;right;have:u=o:=by have:E' x=some u:=U;rw [ab] at this;exact(Option.some.inj this).symm
  subst this;refine⟨IV K h,?_⟩;cases ak:(mk E' H (B.eraseIdx i)).H x with
  | none=>rfl
  | some y=>exact absurd rfl (Lf K h ak).1
 ·left;have Z:E' x=some u:=U;have aa:E' x=E x:=by simp [E',e]
  show E x=some u;rw [← aa];exact Z
theorem TJ{E H:LH}{B0:List (Nat×Obj)}{e:TypeId}{K l c:Nat}{a:Option Addr}{blk:List (Nat×Obj)}{xs:Lv_}(ab:GS e K a l c blk xs)(U:Nd E H (B0++blk)):∃E',Le E E'/\NH E' K (.slice a l c) l xs/\Nd E' H B0/\B9 (mk E H (B0++blk)) (mk E' H B0):=by
 rcases ab with⟨rfl,rfl,rfl,rfl,rfl⟩ | ⟨bk,f,rfl,rfl,ac,Y,rfl⟩
 ·simp only [List.append_nil] at U ⊢;exact⟨E,Le.refl _,.nil,U,.refl _⟩
 ·have ae:(B0++ [(bk,Obj.cells f e (0,0))])[B0.length]? =some (bk,Obj.cells f e (0,0)):=by simp
  obtain⟨E',hle,ag,Z,aa⟩:=TU B0.length U ae;have ah:(B0++ [(bk,Obj.cells f e (0,0))]).eraseIdx B0.length=B0:=by rw [List.eraseIdx_append_of_length_le (Nat.le_refl _)];simp
  rw [ah] at Z aa;refine⟨E',hle,⟨_,c,rfl,Y,?_,.inr ⟨bk,0,f,e,(0,0),rfl,ag,λj w O=>?_⟩⟩,Z,aa⟩
  ·have:l*K<=c*K:=Nat.mul_le_mul_right _ Y;simp [ac,Nat.min_eq_left this]
  ·rw [List.getElem?_take] at O;split at O
   ·simpa using O
   ·cases O
theorem TO{α:Type}{pp:Rp α}{E H:LH}{S:List Seg}{e:TypeId}{a:Option Addr}{c:Nat}{seg:Seg}{xs:List α}(j:Nat)(U:OL e pp E a c seg xs)(ag:Aq E H S)(ah:S[j]? =some seg):∃E',Le E E'/\Al pp E' a c xs/\Aq E' H (S.set j [])/\B9 (Ak E H S) (Ak E' H (S.set j [])):=by
 obtain⟨wss,U,aa,ab⟩:=U;have ai:∀ad:Addr,a=some ad->ad.spot=none:=λad K=>by
  rcases U with⟨O,_⟩ | ⟨bk,f,O,_⟩
  ·rw [O] at K;cases K
  ·rw [O] at K;cases K;rfl
 obtain⟨O,aj⟩:=G0 ag ah;obtain⟨E',hle,ak,al,ac⟩:=TJ U aj;rw [← O] at ac;refine⟨E',hle,?_,al,ac⟩;obtain⟨am,an,Y,ao,av,Z⟩:=ak;obtain⟨rfl,-,rfl⟩:a=am/\xs.length=xs.length/\c=an:=by
  simp only [Value.slice.injEq] at Y;exact⟨Y.1,rfl,Y.2.2⟩
 refine⟨ao,?_⟩;rcases Z with Z | ⟨bk,off,f,ap,fr,aq,g2,ar⟩
 ·exact .inl ⟨List.eq_nil_of_length_eq_zero Z,λad K=> .inl (ai ad K)⟩
 ·refine .inr ⟨bk,off,aq,λi x ae=>?_⟩;have au:i<wss.length:=by rw [aa];exact(List.getElem?_eq_some_iff.1 ae).1
  have hw:=List.getElem?_eq_getElem au;refine⟨wss[i],pp.Ag hle (ab i x _ ae hw),f,ap,fr,g2,λm w hm=>?_⟩;rw [Nat.add_assoc];exact ar _ w (J3 (HW aa ab) hw m w hm)
theorem B9.get{s s₀:St}(h:B9 s s₀){b:Nat}{o:Obj}(K:s₀.get b=some o):s.get b=some o:=by
 unfold St.get at K ⊢;cases O:s₀.E b with
 | some o'=>
  rw [O] at K;simp only at K;cases K;rcases h.Ex _ _ O with U | ⟨U,_⟩
  ·rw [U]
  ·cases he:s.E b with
   | none=>exact U
   | some Y=>
    have:=h.ext _ _ he;rw [O] at this;cases this;rfl
 | none=>
  rw [O] at K;simp only at K;cases he:s.E b with
  | none=>exact h.own _ _ K
  | some Y=>
   have:=h.ext _ _ he;rw [O] at this;cases this
theorem B9.upd{s s₀:St}(h:B9 s s₀){b:Nat}(o:Obj)(hb:(∃u,s₀.H b=some u)∨s₀.E b=none):B9 (s.upd b o) (s₀.upd b o):=by
 refine⟨h.ext,λx u K=>?_,λx u K=>?_,h.q⟩
 ·simp only [St.upd] at K ⊢;by_cases e:x=b
  ·rw [if_pos e] at K ⊢;exact K
  ·rw [if_neg e] at K ⊢;exact h.own _ _ K
 ·have O:s₀.E x=some u:=K;rcases h.Ex _ _ O with U | ⟨U,Y⟩
  ·exact .inl U
  ·refine .inr ?_;have e:x≠b:=λe=>by
    subst e;rcases hb with⟨w,hw⟩ | hb
    ·rw [hw] at Y;cases Y
    ·rw [hb] at O;cases O
   simp only [St.upd,if_neg e];exact⟨U,Y⟩
theorem B9.none{s s₀:St}(h:B9 s s₀){b:Nat}(U:s.E b=none)(O:s.H b=none):s₀.E b=none/\s₀.H b=none:=by
 constructor
 ·cases he:s₀.E b with
  | none=>rfl
  | some o=>
   rcases h.Ex _ _ he with K | ⟨K,_⟩
   ·rw [U] at K;cases K
   ·rw [O] at K;cases K
 ·cases he:s₀.H b with
  | none=>rfl
  | some o=>have:=h.own _ _ he;rw [O] at this;cases this
theorem VC{P:Program}{α:Type}(x:Sem α):∀{s s₀:St} {Q:α->St->Prop} {X:Halt->St->Prop},B9 s s₀->lp P x s₀ Q X->lp P x s (λa s'=>∃Z,B9 s' Z/\Q a Z) (λh s'=>∃Z,B9 s' Z/\X h Z):=by
 induction x with
 | pure a=>intro s s₀ Q X g h;exact⟨s₀,g,h⟩
 | load m a k K=>
  intro s s₀ Q X g h;obtain⟨O,v,U,Y⟩:=h;obtain⟨o,ac,ae⟩:=Option.bind_eq_some_iff.1 U;exact⟨O,v,by unfold St.cell?;rw [g.get ac];exact ae,K v g Y⟩
 | store m a v k K=>
  intro s s₀ Q X g h;obtain⟨O,U,o,Y,ag,ah,ai⟩:=h;exact⟨O,U,o,g.own _ _ Y,ag,ah,K (g.upd _ (.inl ⟨o,Y⟩)) ai⟩
 | new o k K=>
  intro s s₀ Q X g h;refine⟨by rw [← g.q];exact h.1,λr O U=>?_⟩;obtain⟨ab,e2⟩:=g.none O U;exact K r (g.upd _ (.inr ab)) (h.2 r ab e2)
 | shape r k K=>intro s s₀ Q X g h;obtain⟨o,O,U⟩:=h;exact⟨o,g.get O,K _ g U⟩
 | freeze a n k K=>intro s s₀ Q X g h;exact h.elim
 | frozen a k K=>intro s s₀ Q X g h;obtain⟨o,O,U⟩:=h;exact⟨o,g.get O,K _ g U⟩
 | getObj r k K=>intro s s₀ Q X g h;obtain⟨o,O,U,Y⟩:=h;exact⟨o,g.get O,U,K _ g Y⟩
 | setObj r o k K=>
  intro s s₀ Q X g h;obtain⟨⟨o',O,aj⟩,U,Y⟩:=h;exact⟨⟨o',g.own _ _ O,aj⟩,U,K (g.upd _ (.inl ⟨o',O⟩)) Y⟩
 | choose q k K=>
  intro s s₀ Q X g h;simp only [lp] at h ⊢;split
  ·rename_i aa;rw [if_pos aa] at h;exact K _ g h
  ·rename_i aa;rw [if_neg aa] at h;exact⟨by rw [← g.q];exact h.1,λt=>K _ g (h.2 t)⟩
 | sys c k K=>intro s s₀ Q X g h;exact h.elim
 | program k K=>intro s s₀ Q X g h;exact K _ g h
 | mark m k K=>
  intro s s₀ Q X g h;refine⟨?_,K g h.2⟩;rcases h.1 with⟨O,U⟩ | O
  ·exact .inl ⟨by rw [← g.q];exact O,U⟩
  ·exact .inr O
 | halt h=>intro s s₀ Q X g ak;exact⟨s₀,g,ak⟩
section
variable {P:Program}{J:Judge P}{Q:Gs_}{b:Frame}{n:Nat}{ds:Ld_}{ops:Ao_}{k:Li_}{cs:Lf_}{m fuel:Nat}{D:Nat->Bool}{listed:Array Bool}{L:Env}{s:St}{E E' H:LH}{S:List Seg}
variable {d:Option Tmp}{x y:Operand}{t u ty e:TypeId}{p:String}{af:Ae_}{g:On_}{v:Value}{i:Nat}{kd:IntKind}
theorem QH{f:FuncId}{args:Array Operand}{ats:Array TypeId}{vs:Lv_}{seg:Seg}{R:Value->LH->Seg->Prop}(j:Nat)(am:∀x,D x=true->∃(O:Nat) (o:Obj),(S.set j [])[O]? =some [(x,o)])(an:AL J f vs E seg R)(ao:Region.ready .any ops listed= [i])
  (ap:ops[i]? =some ⟨d,.call ⟨.value (.func f),args,ats⟩,ty,p,af,g⟩) (aq:Bg n d=true) (hw:AM L ops ⟨d,.call ⟨.value (.func f),args,ats⟩,ty,p,af,g⟩=some true) (hb:De P f=true) (ar:evs L args.toList=some vs) (Z:Aq E H S) (aa:S[j]? =some seg)
  (au:∀v E' seg',Le E E'->R v E' seg'->Aq E' H (S.set j seg')->AN J Q b n ds ops k cs m D fuel (A6 listed i) (Au L d v) (Ak E' H (S.set j seg'))):
  AN J Q b n ds ops k cs m D (fuel+1) listed L (Ak E H S):=by
 have ac:S.flatten.Perm (seg++(S.set j []).flatten):=(DZ (seg':=seg) aa).1.trans List.perm_append_comm;have ae:Nd E H (seg++(S.set j []).flatten):=Nd.perm Z ac;have av:Ak E H S=mk E (Bf (S.set j []).flatten H) seg:=by
  rw [show Ak E H S=mk E H S.flatten from rfl,EV Z ac];unfold mk;rw [FQ]
 have ag:=Ez.K4 (an (Bf (S.set j []).flatten H) (Nd.front ae)) (by rintro v s' ⟨E',B',_,_,_,rfl⟩;rfl);rw [← av] at ag;refine AN.call rfl ao ap aq hw hb ar ag ?_;rintro v aF ⟨⟨E',B',hle,aw,ay,rfl⟩,w,az⟩;have e2:mk E' (Bf (S.set j []).flatten H) B'=mk E' H (B'++(S.set j []).flatten):=by unfold mk;rw [FQ]
 have aA:Nd E H (S.set j []).flatten:=by
  have:=ae;rw [Nd.iff] at this ⊢;rw [List.map_append,List.nodup_append] at this;exact⟨this.1.2.1,λq aB=>this.2 q (List.mem_append_right _ aB)⟩
 have aC:Nd E' H (S.set j []).flatten:=aA.grow λx U=>by
  have aD:=az.d x U;have ab:Bf B' (Bf (S.set j []).flatten H) x=none:=aD;exact(HP ab).1
 have ah:Nd E' H (B'++(S.set j []).flatten):=Nd.glue ay aC;have ai:(B'++(S.set j []).flatten).Perm (S.set j B').flatten:=List.perm_append_comm.trans (DZ aa).2.symm;have aj:Aq E' H (S.set j B'):=Nd.perm ah ai;rw [e2,EV ah ai];refine⟨rfl,λx o U=>?_,au v E' B' hle aw aj⟩;by_cases hd:D x=true
 ·obtain⟨O,o',Y⟩:=am x hd;have ak:j≠O:=λh=>by
   subst h;rw [List.getElem?_set_self (List.getElem?_eq_some_iff.1 aa).1] at Y;cases Y
  have al:S[O]? =some [(x,o')]:=by rw [List.getElem?_set_ne ak] at Y;exact Y
  have ab:(Ak E H S).get x=some o':=Dw (i:=0) Z al rfl;have aE:(Ak E' H (S.set j B')).get x=some o':=Dw (i:=0) aj (by rw [List.getElem?_set_ne ak];exact al) rfl;have K:(if D x then(Ak E H S).get x else E x)=some o:=U
  show(if D x then(Ak E' H (S.set j B')).get x else E' x)=some o
  rw [if_pos hd] at K ⊢;rw [aE,← ab];exact K
 ·have K:(if D x then(Ak E H S).get x else E x)=some o:=U
  show(if D x then(Ak E' H (S.set j B')).get x else E' x)=some o
  rw [if_neg hd] at K ⊢;exact hle _ _ K
theorem AN.perm{S':List Seg}(K:S.flatten.Perm S'.flatten)(O:Aq E H S)(h:Aq E H S'->AN J Q b n ds ops k cs m D fuel listed L (Ak E H S')):AN J Q b n ds ops k cs m D fuel listed L (Ak E H S):=by
 have e:Ak E H S=Ak E H S':=EV O K;rw [e];exact h (Nd.perm O K)
theorem JA.ghost:∀(fuel:Nat) {listed:Array Bool} {T:Av_} {s s₀:St},B9 s s₀->JA J Q b ds ops k cs m C6 fuel listed T s₀->JA J Q b ds ops k cs m C6 fuel listed T s
 | 0,listed,T,s,s₀,g,h=>⟨h.1,J.ghost g h.2⟩
 | fuel+1,listed,T,s,s₀,g,h=>by
  rcases h with⟨O,U⟩ | ⟨O,U,aa⟩
  ·exact .inl ⟨O,λt=>J.ghost g (U t)⟩
  ·refine .inr ⟨O,by rw [← g.q];exact U,λi hi o ab=>?_⟩;obtain⟨a1,ac,ae⟩:=aa i hi o ab;refine⟨a1,λe=>JA.ghost fuel g (ac e),λe=>?_⟩;have ag:=VC _ (s:=Br C6 s) (s₀:=Br C6 s₀) g (ae e);refine Ec _ ag ?_ (λ_ s' ⟨_,_,h⟩=>h);intro ah s' K;obtain⟨Y,Z,K⟩:=K;cases ah with
   | value v=>exact JA.ghost fuel (s:=s') (s₀:=Y) Z K
   | skip=>exact JA.ghost fuel (s:=s') (s₀:=Y) Z K
   | enter f args=>
    obtain⟨R,ai,aj⟩:=K;refine⟨R,λQ c cs ak=>J.ghost (s:=s') (s₀:=Y) Z (ai Q c cs ak),λv al am=>?_⟩;obtain⟨an,ao,ap⟩:=aj v al am;exact⟨an,λx o K=>ao x o (g.ext x o K),ap⟩
   | _=>exact K.elim
theorem FP{α:Type}{pp:Rp α}{a:Option Addr}{c:Nat}{seg:Seg}{xs:List α}(j:Nat)(K:OL e pp E a c seg xs)(O:Aq E H S)(U:S[j]? =some seg)
  (h:∀E',Le E E'->Al pp E' a c xs->Aq E' H (S.set j [])->AN J Q b n ds ops k cs m C6 fuel listed L (Ak E' H (S.set j []))):AN J Q b n ds ops k cs m C6 fuel listed L (Ak E H S):=λT Y=>by
 obtain⟨E',Z,aa,ab,ac⟩:=TO j K O U
 exact JA.ghost _ ac (h E' Z aa ab T Y)
end
end Pal
namespace Pal
open Go Go.Conc
theorem oi{α:Type}{a b:α}(h:some a=some b):a=b:=Option.some.inj h
theorem bs{α β:Type}{o:Option α}{f:α->Option β}{r:β}(h:o.bind f=some r):∃x,o=some x/\f x=some r:=bind_some h
def HZ(L:Env):Env->List (Option Value)
 | []=> []
 | (t,_)::L'=>look L t::HZ L L'
def H4:Env->List (Option Value)
 | []=> []
 | (_,v)::L'=>some v::H4 L'
theorem MT{L:Env}:∀{L':Env},HZ L L'=H4 L'->Sub L' L
 | [],_=>trivial
 | (t,v)::L',h=>by
  simp only [HZ,H4,List.cons.injEq] at h
  exact⟨h.1,MT h.2⟩
section
variable {P:Program}{J:Judge P}{Q:Gs_}{b:Frame}{n:Nat}{L L':Env}{ds:Ld_}{k k':Li_}{cs:Lf_}{s:St}{ops:Ao_}{i:Nat}{rest:List Nat}{v:Value}
variable {d:Option Tmp}{op:Op}{ty:TypeId}{p:String}{af:Ae_}{g:On_}
theorem Ej(L':Env)(h:HZ L L'=H4 L')(k':JL J Q b n L' ds k cs s):JL J Q b n L ds k cs s:=EK (MT h) k'
theorem AA(k':JL J Q b n L' ds k cs s)(h:HZ L L'=H4 L'):JL J Q b n L ds k cs s:=EK (MT h) k'
def Fa(b:Frame)(n:Nat)(L:Env)(ops:Ao_)(i:Nat):Option Oper:=
 match I5 ops.toList i with
 | some ⟨d,op,ty,p,af,g⟩=>match AM L ops ⟨d,op,ty,p,af,g⟩ with
  | some true=>match BF b n ⟨d,op,ty,p,af,g⟩ with
   | true=>some ⟨d,op,ty,p,af,g⟩
   | false=>none
  | _=>none
 | none=>none
theorem J8{o:Oper}(h:Fa b n L ops i=some o):ops[i]? =some o/\AM L ops o=some true/\BF b n o=true:=by
 unfold Fa at h;split at h
 ·rename_i K;rw [KJ,Array.getElem?_toList] at K;split at h
  ·rename_i hw;split at h
   ·rename_i O;cases h;exact⟨K,hw,O⟩
   ·cases h
  ·cases h
 ·cases h
theorem Am(K:Fa b n L ops i=some ⟨d,op,ty,p,af,g⟩)(h:∀ρ,EG L ρ->Yl P ⟨d,op,ty,p,af,g⟩ ρ s v)(O:JL J Q b n (Au L d v) ds (.inRegion ops rest::k) cs s):
  JL J Q b n L ds (.inRegion ops (i::rest)::k) cs s:=
 let ⟨U,Y,Z⟩:=J8 K
 A0 U Y Z h O
theorem OY{f:FuncId}{fn:Func}{c:Code}{E:LH}{vs:Lv_}{B:Seg}{R:Value->LH->Seg->Prop}(O:P.funcs[f]? =some fn)(hb:fn.body=some c)(U:Nat.ble vs.length fn.ntmps=true)
  (h:∀(Q:Gs_) (K:Frame) (cs:Lf_) (H:LH),Aq E H [B]->(∀v E' S' B',Le E E'->S'.flatten=B'->R v E' B'->Aq E' H S'->J.ok Q (G (K.finish v) cs) (Ak E' H S'))->JL J Q (base f) fn.ntmps (F2 0 vs) [] [.code c] (K::cs) (Ak E H [B])):AL J f vs E B R:=
 AL.enter O hb (Nat.le_of_ble_eq_true U) h
def NG(n:Nat)(L:Env)(ops:Ao_)(i:Nat):Option Env:=
 match I5 ops.toList i with
 | some ⟨d,op,ty,p,af,g⟩=>match AM L ops ⟨d,op,ty,p,af,g⟩ with
  | some true=>match Bg n d with
   | true=>match Kr L op with
    | some v=>match d with
     | some d=>some ((d,v)::L)
     | none=>some L
    | none=>none
   | false=>none
  | some false=>match Bg n d with
   | true=>match d with
    | some d=>some ((d,undef)::L)
    | none=>some L
   | false=>none
  | none=>none
 | none=>none
def GG(n:Nat)(L:Env)(ops:Ao_)(i:Nat):Option Oper:=
 match I5 ops.toList i with
 | some ⟨d,op,ty,p,af,g⟩=>match AM L ops ⟨d,op,ty,p,af,g⟩ with
  | some true=>match Bg n d with
   | true=>some ⟨d,op,ty,p,af,g⟩
   | false=>none
  | _=>none
 | none=>none
theorem Oe{o:Oper}(h:GG n L ops i=some o):ops[i]? =some o/\AM L ops o=some true/\Bg n o.dst=true:=by
 unfold GG at h;split at h
 ·rename_i K;rw [KJ,Array.getElem?_toList] at K;split at h
  ·rename_i hw;split at h
   ·rename_i O;cases h;exact⟨K,hw,O⟩
   ·cases h
  ·cases h
 ·cases h
theorem V0(h:NG n L ops i=some L'):∃o,ops[i]? =some o/\Bg n o.dst=true/\((∃v,AM L ops o=some true/\Kr L o.op=some v/\L'=Au L o.dst v)∨(AM L ops o=some false/\L'=Au L o.dst undef)):=by
 unfold NG at h;split at h
 ·rename_i d op ty p af g O;rw [KJ,Array.getElem?_toList] at O;refine⟨_,O,?_⟩;split at h
  ·rename_i hw;split at h
   ·rename_i K;refine⟨K,.inl ?_⟩;split at h
    ·rename_i v U;refine⟨v,hw,U,?_⟩;cases d with
     | none=>cases h;rfl
     | some d=>cases h;rfl
    ·cases h
   ·cases h
  ·rename_i hw;split at h
   ·rename_i K;refine⟨K,.inr ⟨hw,?_⟩⟩;cases d with
    | none=>cases h;rfl
    | some d=>cases h;rfl
   ·cases h
  ·cases h
 ·cases h
variable {m:Nat}{D:Nat->Bool}{fuel:Nat}{listed:Array Bool}
theorem C5(i:Nat)(K:Dv ops m=true)(O:s.q=false)(h:NG n L ops i=some L')
  (U:AN J Q b n ds ops k cs m D fuel (A6 listed i) L' s) (Y:F6 ops listed m i=true:=by decide+kernel):AN J Q b n ds ops k cs m D (fuel+1) listed L s:=by
 obtain⟨o,Z,aa,⟨v,hw,ab,rfl⟩ | ⟨hw,rfl⟩⟩:=V0 h
 ·exact JG.val i Z K Y O hw aa (λρ ac s' _=>MM ac ab) U
 ·exact Zk i Z K Y O hw aa U
theorem AK(i:Nat)(K:Dv ops m=true)(O:s.q=false)(U:GG n L ops i=some ⟨d,op,ty,p,af,g⟩)
  (Y:∀ρ,EG L ρ->∀s':St,(∀x o,(Br D s).E x=some o->s'.E x=some o)->Yl P ⟨d,op,ty,p,af,g⟩ ρ s' v)
  (Z:AN J Q b n ds ops k cs m D fuel (A6 listed i) (Au L d v) s) (aa:F6 ops listed m i=true:=by decide+kernel):AN J Q b n ds ops k cs m D (fuel+1) listed L s:=by
 obtain⟨ab,ac,ae⟩:=Oe U;exact JG.val i ab K aa O ac ae Y Z
end
end Pal
namespace Pal
open Go Go.Conc
abbrev Jn(E H E':LH)(S:List Seg)(K L:Env)(s:St)(R:Prop):Prop:=L=K/\s=Ak E' H S/\Le E E'/\Aq E' H S/\R
abbrev Jm(E H E':LH)(S:List Seg)(K L:Env)(s:St):Prop:=L=K/\s=Ak E' H S/\Le E E'/\Aq E' H S
def NA(L:Env):List ResultVar->Option (Lv_)
 | []=>some []
 | .tmp t::rs=>match look L t with
  | some v=>match NA L rs with
   | some vs=>some (v::vs)
   | none=>none
  | none=>none
 | _=>none
theorem Rd{P:Program}{L:Env}{s:St}:∀{rs:List ResultVar} {vs:Lv_},NA L rs=some vs->RV P L s rs vs
 | [],vs,h=>by cases h;trivial
 | .tmp t::rs,vs,h=>by
  unfold NA at h
  split at h
  ·rename_i v K
   split at h
   ·rename_i ws hw;cases h;exact⟨K,Rd hw⟩
   ·cases h
  ·cases h
 | .cell _ _::_,_,h=>by cases h
section
variable {P:Program}{J:Judge P}{Q:Gs_}{b:Frame}{n:Nat}{L L':Env}{ds:Ld_}{k k':Li_}{cs:Lf_}{s:St}{ops:Ao_}{i:Nat}{rest:List Nat}{v:Value}{E H:LH}{S:List Seg}
variable {d:Option Tmp}{op:Op}{x y:Operand}{t ft ty e:TypeId}{p:String}{af:Ae_}{g:On_}
theorem AX{c:Frame}{fn:Func}{vs:Lv_}(O:P.funcs[b.fn]? =some fn)(K:(b.kind== .normal&&b.roundOf.isNone)=true)(U:NA L fn.results.toList=some vs)(h:J.ok Q (G (c.finish (MI vs)) cs) s):JL J Q b n L [] (.code .ret::k) (c::cs) s:=by
 simp only [Bool.and_eq_true,beq_iff_eq,Option.isNone_iff_eq_none] at K;exact JL.ret K.1 K.2 (Bx.list O rfl (Rd U)) h
theorem BT{f:FuncId}{args:Array Operand}{ats:Array TypeId}{vs:Lv_}{R:Value->LH->Seg->Prop}
  (O:AL J f vs E [] R) (U:Fa b n L ops i=some ⟨d,.call ⟨.value (.func f),args,ats⟩,ty,p,af,g⟩) (Y:evs L args.toList=some vs) (hb:De P f=true)
  (Z:Aq E H S) (aa:∀v E' seg',Le E E'->R v E' seg'->Aq E' H (S++ [seg'])->JL J Q b n (Au L d v) ds (.inRegion ops rest::k) cs (Ak E' H (S++ [seg']))):
  JL J Q b n L ds (.inRegion ops (i::rest)::k) cs (Ak E H S):=by
 obtain⟨ab,ac,K⟩:=J8 U;refine JS.call O ab ac ?_ hb Y Z aa;simp only [BF,Bool.and_eq_true] at K ⊢;exact⟨K.1,K.2.1⟩
theorem CM{f:FuncId}{args:Array Operand}{ats:Array TypeId}{vs:Lv_}{v:Value}
  (O:AL J f vs E [] (λw E' B'=>w=v/\B'= [])) (U:Fa b n L ops i=some ⟨d,.call ⟨.value (.func f),args,ats⟩,ty,p,af,g⟩) (Y:evs L args.toList=some vs) (hb:De P f=true)
  (K:Aq E H S) (Z:∀E',Le E E'->Aq E' H (S++ [[]])->JL J Q b n (Au L d v) ds (.inRegion ops rest::k) cs (Ak E' H (S++ [[]]))):
  JL J Q b n L ds (.inRegion ops (i::rest)::k) cs (Ak E H S):=BT O U Y hb K (by rintro _ E' _ hle ⟨rfl,rfl⟩ K;exact Z E' hle K)
theorem Cq{f:FuncId}{args:Array Operand}{ats:Array TypeId}{vs:Lv_}{seg:Seg}{R:Value->LH->Seg->Prop}(j:Nat)
  (O:AL J f vs E seg R) (U:Fa b n L ops i=some ⟨d,.call ⟨.value (.func f),args,ats⟩,ty,p,af,g⟩) (Y:evs L args.toList=some vs) (hb:De P f=true)
  (Z:Aq E H S) (aa:S[j]? =some seg) (ab:∀v E' seg',Le E E'->R v E' seg'->Aq E' H (S.set j seg')->JL J Q b n (Au L d v) ds (.inRegion ops rest::k) cs (Ak E' H (S.set j seg'))):
  JL J Q b n L ds (.inRegion ops (i::rest)::k) cs (Ak E H S):=by
 obtain⟨ac,ae,K⟩:=J8 U;refine Q9 j O ac ae ?_ hb Y Z aa ab;simp only [BF,Bool.and_eq_true] at K ⊢;exact⟨K.1,K.2.1⟩
def LC(K:Array Field)(i:Nat):Option (Nat×TypeId):=match K[i]? with
 | some f=>some (f.offset,f.type)
 | none=>none
theorem Bm{r m m':Int}{u:TypeId}(h:Av (m+m')=some r)(K:Fa b n L ops i=some ⟨d,.binOp .add t x y u,ty,p,af,g⟩)(O:ev L x=some (iV m))(U:ev L y=some (iV m'))
  (Y:JL J Q b n (Au L d (iV r)) ds (.inRegion ops rest::k) cs s):JL J Q b n L ds (.inRegion ops (i::rest)::k) cs s:=Am K (λ_ q=>Ff (q _ _ O) (q _ _ U) h) Y
theorem Cg{r m m':Int}{u:TypeId}(h:Av (m - m')=some r)(K:Fa b n L ops i=some ⟨d,.binOp .sub t x y u,ty,p,af,g⟩)(O:ev L x=some (iV m))(U:ev L y=some (iV m'))
  (Y:JL J Q b n (Au L d (iV r)) ds (.inRegion ops rest::k) cs s):JL J Q b n L ds (.inRegion ops (i::rest)::k) cs s:=Am K (λ_ q=>Dz (q _ _ O) (q _ _ U) h) Y
theorem JL.ln{a:Option Addr}{e:TypeId}{l c:Nat}{ats:Array TypeId}(K:P.underlying t=some (.slice e))(O:Fa b n L ops i=some ⟨d,.call ⟨.builtin .len,#[x],ats⟩,ty,p,af,g⟩)(U:ats[0]? =some t)(Y:ev L x=some (.slice a l c))
  (Z:JL J Q b n (Au L d (.int .i64 l)) ds (.inRegion ops rest::k) cs s):JL J Q b n L ds (.inRegion ops (i::rest)::k) cs s:=Am O (λ_ q=>Yl.len U K (q _ _ Y)) Z
theorem JL.fd{bk o O off:Nat}{U:Array Field}{Y:Nat}(Z:P.underlying t=some (.struct U))(aa:Bl P ft=some (O+1))(ab:Fa b n L ops i=some ⟨d,.fieldAddr t x Y,ty,p,af,g⟩)(ac:ev L x=some (.pointer (some ⟨bk,o,none⟩)))(K:LC U Y=some (off,ft))
  (ae:JL J Q b n (Au L d (.pointer (some ⟨bk,o+off,none⟩))) ds (.inRegion ops rest::k) cs s):
  JL J Q b n L ds (.inRegion ops (i::rest)::k) cs s:=by
 unfold LC at K;split at K
 ·rename_i f ag;cases K;refine Am ab (λρ h=>Gi (a:=⟨bk,o,none⟩) O f.offset Z aa ag rfl rfl (h _ _ ac)) ?_;rw [Dm rfl];exact ae
 ·cases K
theorem Ch{bk o:Nat}{ws:Lv_}(j:Nat)(K:At E bk o ws)(O:C9 P t=some false)(U:Fa b n L ops i=some ⟨d,.load t x,ty,p,af,g⟩)(Y:ev L x=some (.pointer (some ⟨bk,o+j,none⟩)))(Z:ws[j]? =some v)
  (aa:JL J Q b n (Au L d v) ds (.inRegion ops rest::k) cs (Ak E H S)):
  JL J Q b n L ds (.inRegion ops (i::rest)::k) cs (Ak E H S):=
 Am U (λ_ h=>Yl.load O (h _ _ Y) (At.KZ K Z)) aa
theorem ZO{bk off:Nat}{c:Av_}(j:Nat)(K:Aq E H S)(O:Bl P t=some v.cells.size)(U:Fa b n L ops i=some ⟨d,.store t x y,ty,p,af,g⟩)
  (Y:ev L x=some (.pointer (some ⟨bk,off,none⟩))) (Z:ev L y=some v) (aa:S[j]? =some [(bk,.cells c e (0,0))])
  (h:Aq E H (S.set j [(bk,.cells (Bb c off v.cells.toList) e (0,0))])->JL J Q b n (Au L d undef) ds (.inRegion ops rest::k) cs (Ak E H (S.set j [(bk,.cells (Bb c off v.cells.toList) e (0,0))])))
  (hle:off+v.cells.size<=c.size:=by exact Nat.le_of_ble_eq_true rfl) (ab:∀u∈v.cells.toList,CU u=true:=by simp [Value.cells,CU]):
  JL J Q b n L ds (.inRegion ops (i::rest)::k) cs (Ak E H S):=by
 obtain⟨ac,ae,ag⟩:=J8 U;exact JS.store j ac ae ag K Y Z O ab aa hle h
theorem Cw{bk o:Nat}{ws:Lv_}(K:At E bk o ws)(O:C9 P t=some true)(U:Bl P t=some ws.length)(Y:Fa b n L ops i=some ⟨d,.load t x,ty,p,af,g⟩)(Z:ev L x=some (.pointer (some ⟨bk,o,none⟩)))
  (aa:JL J Q b n (Au L d (.agg ws.toArray)) ds (.inRegion ops rest::k) cs (Ak E H S)):
  JL J Q b n L ds (.inRegion ops (i::rest)::k) cs (Ak E H S):=
 Am Y (λ_ h=>IS O U (h _ _ Z) (At.LB K)) aa
variable {m:Nat}{D:Nat->Bool}{fuel:Nat}{listed:Array Bool}
theorem JG.fd{bk o O off:Nat}{U:Array Field}{Y:Nat}(i:Nat)(Z:Dv ops m=true)(aa:P.underlying t=some (.struct U))(ab:Bl P ft=some (O+1))(ac:s.q=false)(ae:GG n L ops i=some ⟨d,.fieldAddr t x Y,ty,p,af,g⟩)(ag:ev L x=some (.pointer (some ⟨bk,o,none⟩)))(K:LC U Y=some (off,ft))
  (ah:AN J Q b n ds ops k cs m D fuel (A6 listed i) (Au L d (.pointer (some ⟨bk,o+off,none⟩))) s) (ai:F6 ops listed m i=true:=by decide+kernel):AN J Q b n ds ops k cs m D (fuel+1) listed L s:=by
 unfold LC at K;split at K
 ·rename_i f aj;cases K;refine AK i Z ac ae (λρ h _ _=>Gi (a:=⟨bk,o,none⟩) O f.offset aa ab aj rfl rfl (h _ _ ag)) ?_ ai;rw [Dm rfl];exact ah
 ·cases K
theorem Eu{bk o:Nat}{ws:Lv_}(i:Nat)(K:Dv ops m=true)(j:Nat)(O:At (Br D s).E bk o ws)(U:C9 P t=some false)(Y:s.q=false)(Z:GG n L ops i=some ⟨d,.load t x,ty,p,af,g⟩)(aa:ev L x=some (.pointer (some ⟨bk,o+j,none⟩)))(ab:ws[j]? =some v)
  (ac:AN J Q b n ds ops k cs m D fuel (A6 listed i) (Au L d v) s) (ae:F6 ops listed m i=true:=by decide+kernel):AN J Q b n ds ops k cs m D (fuel+1) listed L s:=
 AK i K Y Z (λ_ h _ ag=>Yl.load U (h _ _ aa) (At.GB O ag ab)) ac ae
theorem Jq{bk o:Nat}{ws:Lv_}(i:Nat)(K:Dv ops m=true)(O:At (Br D s).E bk o ws)(U:C9 P t=some true)(Y:Bl P t=some ws.length)(Z:s.q=false)(aa:GG n L ops i=some ⟨d,.load t x,ty,p,af,g⟩)(ab:ev L x=some (.pointer (some ⟨bk,o,none⟩)))
  (ac:AN J Q b n ds ops k cs m D fuel (A6 listed i) (Au L d (.agg ws.toArray)) s) (ae:F6 ops listed m i=true:=by decide+kernel):AN J Q b n ds ops k cs m D (fuel+1) listed L s:=
 AK i K Z aa (λ_ h _ ag=>IS U Y (h _ _ ab) (At.SB O ag)) ac ae
end
end Pal
namespace Pal
open Go Go.Conc
abbrev PI:=Int×List Int×Nat
abbrev AF:=List (Int×Int)
abbrev CK:=List Int×Int×Nat
abbrev Ao:=Option Addr
abbrev DL:Rp (Int×Int):=rP rI rI
theorem ip{α:Type}{p:Prop} [Decidable p] {A B:Option α}{r:α}(h:(if p then A else B)=some r)(c:p):A=some r:=by rwa [if_pos c] at h
theorem im{α:Type}{p:Prop} [Decidable p] {A B:Option α}{r:α}(h:(if p then A else B)=some r)(c:¬p):B=some r:=by rwa [if_neg c] at h
theorem ib{α:Type}{c:Bool}{A B:Option α}{r:α}(h:(if c=true then A else B)=some r)(K:c=false):B=some r:=by subst K;simpa using h
def Pz(n:Nat)(ops:Ao_):List Nat->Nat->Env->Option (Nat×Env)
 | [],f,L=>some (f,L)
 | i::l,f+1,L=>match NG n L ops i with
  | some L'=>Pz n ops l f L'
  | none=>none
 | _::_,0,_=>none
def Pk(ops:Ao_)(m:Nat):Array Bool->List Nat->Bool
 | _,[]=>true
 | listed,i::l=>F6 ops listed m i&&Pk ops m (A6 listed i) l
def S8:Array Bool->List Nat->Array Bool
 | listed,[]=>listed
 | listed,i::l=>S8 (A6 listed i) l
theorem Ba{P:Program}{J:Judge P}{Q:Gs_}{b:Frame}{n:Nat}{ds:Ld_}{k:Li_}{cs:Lf_}{s:St}{ops:Ao_}{m:Nat}{D:Nat->Bool}{L':Env}{U:Nat}(Y:Dv ops m=true)(Z:s.q=false):
  ∀(l:List Nat) {fuel:Nat} {listed:Array Bool} {L:Env},Pz n ops l fuel L=some (U,L')->AN J Q b n ds ops k cs m D U (S8 listed l) L' s->(K:Pk ops m listed l=true:=by decide+kernel)->AN J Q b n ds ops k cs m D fuel listed L s
 | [],fuel,listed,L,h,O,_=>by cases h;exact O
 | i::l,fuel,listed,L,h,O,K=>by
  cases fuel with
  | zero=>cases h
  | succ fuel=>
   unfold Pk at K;rw [Bool.and_eq_true] at K;unfold Pz at h;split at h
   ·rename_i aa e;exact C5 i Y Z e (Ba Y Z l h O K.2) K.1
   ·cases h
theorem zg{P:Program}{J:Judge P}{Q:Gs_}{b:Frame}{n:Nat}{L L':Env}{ds:Ld_}{k k':Li_}{cs:Lf_}{s:St}(m:Nat)(h:M7 b n m k L=some (k',L'))(K:JL J Q b n L' ds k' cs s):JL J Q b n L ds k cs s:=JL.go m h K
abbrev bX(r:Nat)(c:Av_)(t:TypeId):Seg:= [(r,.cells c t (0,0))]
end Pal
namespace Pal
open Go Go.Conc
section
variable {P:Program}{J:Judge P}{Q:Gs_}{b:Frame}{n:Nat}{L L':Env}{ds:Ld_}{k:Li_}{cs:Lf_}{s:St}{ops:Ao_}{E H:LH}{S:List Seg}
variable {α:Type}{A B:Option α}{r:α}
theorem AS{c:Operand}{x y:Code}{p:Prop} [Decidable p] (K:(if p then A else B)=some r)(O:p->A=some r->JL J Q b n L ds (.code x::k) cs s)(U:¬p->B=some r->JL J Q b n L ds (.code y::k) cs s)
  (Y:ev L c=some (.bool (decide p)):=by exact rfl):JL J Q b n L ds (.code (.cond c x y)::k) cs s:=F1 Y (λh=>O h (ip K h)) λh=>U h (im K h)
theorem CC{c:Operand}{x y:Code}{t:Bool}(K:(if t=true then A else B)=some r)(O:t=true->A=some r->JL J Q b n L ds (.code x::k) cs s)(U:t=false->B=some r->JL J Q b n L ds (.code y::k) cs s)
  (Y:ev L c=some (.bool t):=by exact rfl):JL J Q b n L ds (.code (.cond c x y)::k) cs s:=Oi Y (λh=>O h (ip K h)) λh=>U h (ib K h)
theorem I1{q:Prop} [Decidable q] (i:Nat)(K:(if q then A else B)=some r)(O:q->A=some r->JL J Q b n (Au L (some i) (.bool true)) ds k cs s)(U:¬q->B=some r->JL J Q b n (Au L (some i) (.bool false)) ds k cs s)
  (Y:look L i=some (.bool (decide q)):=by exact rfl):JL J Q b n L ds k cs s:=Lj Y (λh=>O h (ip K h)) λh=>U h (im K h)
theorem Et{t:Bool}(i:Nat)(K:(if t=true then A else B)=some r)(O:t=true->A=some r->JL J Q b n (Au L (some i) (.bool true)) ds k cs s)(U:t=false->B=some r->JL J Q b n (Au L (some i) (.bool false)) ds k cs s)
  (Y:look L i=some (.bool t):=by exact rfl):JL J Q b n L ds k cs s:=J5 Y (λh=>O h (ip K h)) λh=>U h (ib K h)
theorem Cj{K O:Type}{c:Code}{body:K->Option (Bj K O)}{f:Nat}{U:K}{a:O}(Z:iter body f U=some a)(I:Env->St->K->Prop)(aa:I L' s U)
  (round:∀L s x,I L s x->(∀Y,body x=some (.done Y)->Y=a)->(∃st,body x=some st)->(∀L' s' x',I L' s' x'->body x=some (.more x')->JL J Q b n L' ds (.inLoop c::k) cs s')->JL J Q b n L ds (.code c:: .inLoop c::k) cs s)
  (ab:HZ L L'=H4 L':=by exact rfl):JL J Q b n L ds (.code (.loop c)::k) cs s:=Ej L' ab (QX Z I aa round)
variable {m:Nat}{D:Nat->Bool}{fuel:Nat}{listed:Array Bool}
def Nj(ops:Ao_):Array Bool->List Nat->Bool
 | _,[]=>true
 | l,i::t=>Region.ready .any ops l== [i]&&Nj ops (A6 l i) t
theorem RJ:∀{t:List Nat} {l:Array Bool},Nj ops l t=true->∀u,Region.linearise.go .any ops t.length u l []=t
 | [],_,_,_=>rfl
 | i::t,l,h,u=>by
  unfold Nj at h
  rw [Bool.and_eq_true,beq_iff_eq] at h
  exact Yn h.1 (RJ h.2) u
theorem Dd(t:List Nat)(O:JL J Q b n L ds (.inRegion ops t::k) cs s)(K:(Pq m listed&&Nj ops listed t&&(fuel+1==t.length))=true:=by decide+kernel):AN J Q b n ds ops k cs m D (fuel+1) listed L s:=by
 rw [Bool.and_eq_true,Bool.and_eq_true,beq_iff_eq] at K;exact AN.leaf K.1.1 (by rw [K.2];exact RJ K.1.2) O
theorem EX(m:Nat){id:Nat}(h:Dv ops m=true->AN J Q b n ds ops k cs m C6 ops.size (Array.replicate ops.size false) L (Ak E H S))(hm:P.follows .mixedOrders=true:=by exact rfl)(K:(b.kind != .early)=true:=by exact rfl)(O:Dv ops m=true:=by decide+kernel):
  JL J Q b n L ds (.code (.region id ops true)::k) cs (Ak E H S):=Vq m hm K O h
theorem EY(m:Nat)(bks:List Nat){id:Nat}(K:HB S bks)(O:Aq E H S)(h:Dv ops m=true->AN J Q b n ds ops k cs m (AT bks) ops.size (Array.replicate ops.size false) L (Ak E H S))(hm:P.follows .mixedOrders=true:=by exact rfl)(U:(b.kind != .early)=true:=by exact rfl)(Y:Dv ops m=true:=by decide+kernel):
  JL J Q b n L ds (.code (.region id ops true)::k) cs (Ak E H S):=VA m bks K O hm U Y h
theorem Fz{α:Type}{pp:Rp α}{a:Option Addr}{c:Nat}{xs:List α}{xv:α}{K:Int}{d:Option Tmp}{x y:Operand}{t ty e:TypeId}{p:String}{af:Ae_}{g:On_}{kd:IntKind}(i:Nat)(O:Al pp E a c xs)(U:ix xs K=some xv)(Y:Dv ops m=true)(Z:P.underlying t=some (.slice e))(aa:Bl P e=some pp.n)
  (h:∀bk o ws,pp.r E ws xv->At E bk o ws->AN J Q b n ds ops k cs m D fuel (A6 listed i) (Au L d (.pointer (some ⟨bk,o,none⟩))) s)
  (ab:ops[i]? =some ⟨d,.indexAddr t x y,ty,p,af,g⟩:=by exact rfl) (ac:F6 ops listed m i=true:=by decide+kernel) (ae:s.q=false:=by exact rfl)
  (hw:AM L ops ⟨d,.indexAddr t x y,ty,p,af,g⟩=some true:=by exact rfl) (ag:Bg n d=true:=by exact rfl)
  (ah:ev L x=some (.slice a xs.length c):=by exact rfl) (ai:ev L y=some (.int kd K):=by exact rfl):
  AN J Q b n ds ops k cs m D (fuel+1) listed L s:=Yk i O U ab Y ac ae hw ag ah ai Z aa h
end
end Pal
namespace Pal
open Go Go.Conc
theorem Ei{P:Program}{J:Judge P}{Q:Gs_}{b:Frame}{n:Nat}{ds:Ld_}{ops:Ao_}{k:Li_}{cs:Lf_}{m fuel:Nat}{D:Nat->Bool}{listed:Array Bool}{L L':Env}{s:St}(k':AN J Q b n ds ops k cs m D fuel listed L' s)(h:HZ L L'=H4 L'):AN J Q b n ds ops k cs m D fuel listed L s:=DY (MT h) k'
instance {α:Type} [DecidableEq α] (xs:List α):Decidable (xs= []):=inferInstance
section
variable {P:Program}{J:Judge P}{Q:Gs_}{b:Frame}{n:Nat}{L L':Env}{ds:Ld_}{k:Li_}{cs:Lf_}{s:St}{ops:Ao_}{E H:LH}{S:List Seg}{i:Nat}{rest:List Nat}
variable {d:Option Tmp}{x y:Operand}{t u ty e:TypeId}{p:String}{af:Ae_}{g:On_}{v w:Value}
end
section
variable {P:Program}{J:Judge P}{Q:Gs_}{b:Frame}{n:Nat}{ds:Ld_}{ops:Ao_}{k:Li_}{cs:Lf_}{m fuel:Nat}{listed:Array Bool}{L:Env}{E H:LH}{S:List Seg}
variable {d:Option Tmp}{x y:Operand}{t ty e:TypeId}{p:String}{af:Ae_}{g:On_}{v:Value}{i:Nat}
theorem MC{s:St}{D:Nat->Bool}{i j l:Nat}(K:s.q=false)(O:Region.ready .any ops listed= [i,j,l])(hi:Take J Q b n ds ops k cs m D fuel listed L s i)(U:Take J Q b n ds ops k cs m D fuel listed L s j)(Y:Take J Q b n ds ops k cs m D fuel listed L s l):AN J Q b n ds ops k cs m D (fuel+1) listed L s:=
 N1 K O (by simp) (by intro q K;simp at K;rcases K with rfl | rfl | rfl <;> assumption)
end
theorem Al.cut{α:Type}{pp:Rp α}{E:LH}{a:Option Addr}{c:Nat}{xs ys:List α}{lo hi:Int}(Y:Al pp E a c xs)(hC:Ic xs lo hi=some ys):
  ∃Z aa,Al pp E Z aa ys/\∀{P:Program} {ρ:Operand->Value} {s:St} {d:Option Tmp} {x:Operand} {t ty e:TypeId} {p:String} {af:Ae_} {g:On_} {olo ohi:Option Operand},P.underlying t=some (.slice e)->Bl P e=some pp.n->ρ x= .slice a xs.length c->
   (match ohi with | some w=>ρ w=iV hi | none=>hi=xs.length)->(match olo with | some w=>ρ w=iV lo | none=>lo=0)->Yl P ⟨d,.slice t x olo ohi none,ty,p,af,g⟩ ρ s (.slice Z ys.length aa):=by
 unfold Ic at hC;split at hC
 rotate_left
 ·cases hC
 rename_i hb;obtain⟨an,ao,ag⟩:=hb;cases hC;obtain⟨lo,rfl⟩:∃l:Nat,lo=l:=⟨lo.toNat,by omega⟩;obtain⟨hi,rfl⟩:∃l:Nat,hi=l:=⟨hi.toNat,by omega⟩;simp only [Int.toNat_natCast] at*;have ap:=Y.1;have hlen:((xs.take hi).drop lo).length=hi - lo:=by simp;omega
 have ab:∀ad:Addr,a=some ad->ad.spot=none∨c=0:=λad K=>by
  rcases Y.2 with⟨_,h⟩ | ⟨bk,off,h,_⟩
  ·exact h ad K
  ·rw [h] at K;cases K;exact .inl rfl
 refine⟨if c=lo then a else a.map (·.add (lo*pp.n)),c - lo,⟨by rw [hlen];omega,?_⟩,?_⟩
 ·by_cases ah:hi - lo=0
  ·left;refine⟨List.eq_nil_of_length_eq_zero (by rw [hlen];exact ah),λad K=>?_⟩;split at K
   ·exact(ab ad K).imp id λh=>by omega
   ·cases a with
    | none=>cases K
    | some ai=>
     simp only [Option.map_some,Option.some.injEq] at K;subst K;exact .inl (by rw [Dm ((ab ai rfl).resolve_right (by omega))])
  ·right;rcases Y.2 with⟨h,_⟩ | ⟨bk,off,rfl,O⟩
   ·subst h;simp at ag;omega
   ·refine⟨bk,off+lo*pp.n,?_,λq z U=>?_⟩
    ·rw [if_neg (by omega),Option.map_some,Dm rfl]
    ·rw [List.getElem?_drop,List.getElem?_take] at U;split at U
     ·obtain⟨ws,aj,ac⟩:=O _ z U;refine⟨ws,aj,?_⟩;rw [Nat.add_mul] at ac;rw [Nat.add_assoc];exact ac
     ·cases U
 ·intro P ρ s d x t ty e p af g olo ohi ak al am O ae;rw [hlen];refine Yl.slice (mx:=c) (hi:=hi) (lo:=lo) ak al am rfl ?_ ?_ (Nat.le_refl _) (by omega) (by omega)
  ·cases ohi with
   | none=>exact⟨by simp only at O;omega,rfl⟩
   | some w=>exact O
  ·cases olo with
   | none=>simp only at ae;show lo=0;omega
   | some w=>exact ae
end Pal
namespace Pal
open Go Go.Conc
section
variable {P:Program}{J:Judge P}{Q:Gs_}{b:Frame}{n:Nat}{ds:Ld_}{ops:Ao_}{k:Li_}{cs:Lf_}{m fuel:Nat}{D:Nat->Bool}{listed:Array Bool}{L:Env}{E H:LH}{S:List Seg}
theorem Hn{S1 S':List Seg}(K:S=S1)(O:S1.Perm S')(U:Aq E H S)(h:Aq E H S'->AN J Q b n ds ops k cs m D fuel listed L (Ak E H S')):AN J Q b n ds ops k cs m D fuel listed L (Ak E H S):=by
 subst K;exact AN.perm O.flatten U h
end
end Pal
namespace Pal
open Go Go.Conc
section
variable {P:Program}{J:Judge P}{Q:Gs_}{b:Frame}{n:Nat}{L L':Env}{ds:Ld_}{k:Li_}{cs:Lf_}{s:St}{ops:Ao_}{E H:LH}{S:List Seg}{i:Nat}{rest:List Nat}
variable {d:Option Tmp}{x y:Operand}{t u ty e e2:TypeId}{p:String}{af:Ae_}{g:On_}{v w:Value}
def JC(E:LH):Nat->Bool:=λx=>(E x).isNone
theorem YF(x:Nat):(Br (JC E) (Ak E H S)).E x=(Ak E H S).get x:=by
 show(if JC E x then(Ak E H S).get x else E x)=_
 unfold JC;cases h:E x with
 | none=>simp
 | some o=>
  rw [if_neg (by simp)];unfold St.get;rw [show(Ak E H S).E x=some o from h]
theorem PF{s':St}(K:∀x o,(Br (JC E) (Ak E H S)).E x=some o->s'.E x=some o){x:Nat}{o:Obj}(h:(Ak E H S).get x=some o):s'.get x=some o:=by
 have:=K x o (by rw [YF];exact h);unfold St.get;rw [this]
theorem LR{s':St}(K:∀x o,(Br (JC E) (Ak E H S)).E x=some o->s'.E x=some o){a:Addr}{v:Value}(h:(Ak E H S).cell? a=some v):s'.cell? a=some v:=by
 obtain⟨o,O,U⟩:=Option.bind_eq_some_iff.1 h;unfold St.cell?;rw [PF K O];exact U
theorem Sd{s':St}(K:∀x o,(Br (JC E) (Ak E H S)).E x=some o->s'.E x=some o){a:Addr}{vs:Lv_}(h:∀(i:Nat) v,vs[i]? =some v->(Ak E H S).cell? (Addr.add a i)=some v):∀(i:Nat) v,vs[i]? =some v->s'.cell? (Addr.add a i)=some v:=λi v O=>LR K (h i v O)
theorem Pr(m:Nat){id:Nat}(h:Dv ops m=true->AN J Q b n ds ops k cs m (JC E) ops.size (Array.replicate ops.size false) L (Ak E H S))(hm:P.follows .mixedOrders=true:=by exact rfl)(K:(b.kind != .early)=true:=by exact rfl)(O:Dv ops m=true:=by decide+kernel):
  JL J Q b n L ds (.code (.region id ops true)::k) cs (Ak E H S):=Ot m (JC E) rfl hm K (h O)
abbrev rs(q:Nat×Obj)(K:Seg)(p:Nat×Obj)(g2:Seg):Seg:=q::(K++ [p]++g2)
end
end Pal
namespace Pal
open Go Go.Conc
section
variable {κ ν:Type} [DecidableEq κ]
def KN(xs:List (κ×ν)):Prop:=(xs.map (·.1)).Nodup
theorem KN.perm{xs ys:List (κ×ν)}(h:KN xs)(p:ys.Perm xs):KN ys:=((p.map (λq:κ×ν=>q.1)).nodup_iff).2 h
theorem QY{xs:List (κ×ν)}(h:KN xs){x:κ}{v:ν}:BC xs x=some v↔(x,v)∈xs:=by
 induction xs with
 | nil=>simp [BC]
 | cons y ys U=>
  have O:y.1 ∉ ys.map (·.1)/\KN ys:=by simpa [KN] using h
  by_cases e:x=y.1
  ·subst e;have K:BC (y::ys) y.1=some y.2:=by simp [BC]
   rw [K];constructor
   ·intro q;cases q;simp
   ·intro q;rcases List.mem_cons.1 q with q | q
    ·rw [← q]
    ·exact absurd (List.mem_map.2 ⟨_,q,rfl⟩) O.1
  ·have K:BC (y::ys) x=BC ys x:=by simp [BC,e]
   rw [K,U O.2];constructor
   ·intro q;exact List.mem_cons_of_mem _ q
   ·intro q;rcases List.mem_cons.1 q with q | q
    ·exact absurd (by rw [← q]) e
    ·exact q
theorem Qo{xs ys:List (κ×ν)}(h:KN xs)(p:ys.Perm xs)(x:κ):BC ys x=BC xs x:=by
 apply Option.ext;intro v;rw [QY h,QY (h.perm p),p.mem_iff]
def DK(xs:List (κ×ν))(x:κ):List (κ×ν):=xs.filter λy=>decide (x≠y.1)
theorem Qy{xs:List (κ×ν)}{x:κ}(h:∀y∈xs,x≠y.1):DK xs x=xs:=List.filter_eq_self.2 λy K=>by simpa using h y K
theorem Mt{x:κ}{v:ν}:∀{xs:List (κ×ν)},KN xs->(C8 xs x v).Perm ((x,v)::DK xs x)
 | [],_=> .refl _
 | y::ys,h=>by
  have K:y.1 ∉ ys.map (·.1)/\KN ys:=by simpa [KN] using h
  unfold C8;by_cases e:x=y.1
  ·rw [if_pos e];have e2:DK (y::ys) x=ys:=by
    have:DK (y::ys) x=DK ys x:=by simp [DK,e]
    rw [this];exact Qy λz O q=>K.1 (List.mem_map.2 ⟨z,O,by rw [← q,e]⟩)
   rw [e2]
  ·rw [if_neg e];have e2:DK (y::ys) x=y::DK ys x:=by simp [DK,e]
   rw [e2];exact((Mt K.2).cons y).trans (List.Perm.swap _ _ _)
theorem N8{xs ys:List (κ×ν)}(p:ys.Perm xs)(x:κ):(DK ys x).Perm (DK xs x):=p.filter _
theorem Uh{xs ys:List (κ×ν)}(h:KN xs)(p:ys.Perm xs)(x:κ)(v:ν):(C8 ys x v).Perm (C8 xs x v):=
 (Mt (h.perm p)).trans (((N8 p x).cons _).trans (Mt h).symm)
theorem KN.del{xs:List (κ×ν)}(h:KN xs)(x:κ):KN (DK xs x):=by
 unfold KN DK;exact List.Nodup.sublist (List.Sublist.map _ List.filter_sublist) h
theorem KN.put{xs:List (κ×ν)}(h:KN xs)(x:κ)(v:ν):KN (C8 xs x v):=by
 refine KN.perm ?_ (Mt h);unfold KN;simp only [List.map_cons,List.nodup_cons];refine⟨λq=>?_,h.del x⟩;obtain⟨z,K,e⟩:=List.mem_map.1 q;have:=(List.mem_filter.1 K).2;simp at this;exact this e.symm
variable {pk:Rp κ}{pv:Rp ν}{ka va:Bool}{E E' H:LH}
def BA(pk:Rp κ)(ka:Bool)(pv:Rp ν)(va:Bool)(E:LH)(o:Obj)(xs:List (κ×ν)):Prop:=KN xs/\∃ys,ys.Perm xs/\Kj pk ka pv va E o ys
theorem BA.Ag{o:Obj}{xs:List (κ×ν)}(h:BA pk ka pv va E o xs)(hle:Le E E'):BA pk ka pv va E' o xs:=
 let ⟨K,ys,O,U⟩:=h;⟨K,ys,O,U.Ag hle⟩
theorem BA.perm{o:Obj}{xs ys:List (κ×ν)}(h:BA pk ka pv va E o xs)(p:ys.Perm xs):BA pk ka pv va E o ys:=
 let ⟨K,O,U,Y⟩:=h;⟨K.perm p,O,U.trans p.symm,Y⟩
theorem BA.nil:BA pk ka pv va E (.map #[] 0) []:=⟨List.nodup_nil,[],.refl _,⟨#[],0,rfl,trivial,.nil,by simp⟩⟩
def rM(pk:Rp κ)(ka:Bool)(pv:Rp ν)(va:Bool):Rp (List (κ×ν)):=⟨1,λE ws xs=>∃bk o,ws= [.map (some bk)]/\E bk=some o/\BA pk ka pv va E o xs,
 λhle ⟨bk,o,h,K,O⟩=>⟨bk,o,h,hle _ _ K,O.Ag hle⟩,λ⟨bk,o,h,_,_⟩=>by subst h;rfl,λ⟨bk,o,h,_,_⟩ w hw=>by subst h;simp at hw;subst hw;rfl⟩
section
variable {P:Program}{s:St}{t tm te:TypeId}{X:Halt->St->Prop}{bk:Nat}{o:Obj}{xs:List (κ×ν)}{k w:Value}{x:κ}{v0:ν}
theorem Uv(K:Gl P t pk ka)(hm:P.underlying tm=some (.map t te)){z:Value}{z0:ν}(O:zeroOf P te=some z)(U:Vr pv va E z z0)(Y:s.get bk=some o)(Z:BA pk ka pv va E o xs)(aa:Vr pk ka E k x)(ok:Bool){Q:Value->St->Prop}
  (h:∀w,Vr pv va E w ((BC xs x).getD z0)->Q (if ok then .tuple #[w,.bool (BC xs x).isSome] else w) s):lp P (Instr.lookup tm (.map (some bk)) k ok) s Q X:=by
 obtain⟨ab,ys,ac,ae⟩:=Z;refine UZ K hm O U Y ae aa ok ?_;rw [Qo ab ac];exact h
theorem TN(O:Gl P t pk ka)(hm:P.underlying tm=some (.map t te))(U:s.get bk=some o)(Y:s.H bk=some o)(Z:BA pk ka pv va E o xs)(aa:Vr pk ka E k x)(hw:Vr pv va E w v0){Q:Unit->St->Prop}
  (h:∀o',BA pk ka pv va E o' (C8 xs x v0)->Q () (s.upd bk o')):lp P (Instr.mapUpdate tm (.map (some bk)) k w) s Q X:=by
 obtain⟨K,ys,ab,ac⟩:=Z;exact TW O hm U Y ac aa hw λo' ae=>h o' ⟨K.put _ _,_,Uh K ab _ _,ae⟩
theorem Ds.erase(Y:Vr pk ka E k x):∀{es:List MapEntry} {ys:List (κ×ν)} {i:Nat},Ds pk ka pv va E es ys->KN ys->
  (EA x es ys i=none/\DK ys x=ys)∨∃j u,EA x es ys i=some (i+j,u)/\Ds pk ka pv va E (es.eraseIdx j) (DK ys x)
 | [],[],i,_,_=> .inl ⟨rfl,rfl⟩
 | e::es,y::ys,i,h,Z=>by
  have U:y.1 ∉ ys.map (·.1)/\KN ys:=by simpa [KN] using Z
  unfold EA;by_cases K:x=y.1
  ·refine .inr ⟨0,e.val,by rw [if_pos K];rfl,?_⟩;have e2:DK (y::ys) x=ys:=by
    have:DK (y::ys) x=DK ys x:=by simp [DK,K]
    rw [this];exact Qy λz aa q=>U.1 (List.mem_map.2 ⟨z,aa,by rw [← q,K]⟩)
   rw [e2];exact h.2.2
  ·have e2:DK (y::ys) x=y::DK ys x:=by simp [DK,K]
   rcases Ds.erase Y (i:=i+1) h.2.2 U.2 with⟨a1,O⟩ | ⟨j,u,a1,O⟩
   ·exact .inl ⟨by rw [if_neg K];exact a1,by rw [e2,O]⟩
   ·refine .inr ⟨j+1,u,by rw [if_neg K,a1];congr 2;omega,?_⟩;rw [e2];exact⟨h.1,h.2.1,O⟩
 | [],_::_,_,h,_=>h.elim
 | _::_,[],_,h,_=>h.elim
theorem Uk(ab:Gl P t pk ka)(hm:P.underlying tm=some (.map t te))(ai:s.get bk=some o)(ac:s.H bk=some o)(aj:BA pk ka pv va E o xs)(K:Vr pk ka E k x){u:TypeId}{Q:Value->St->Prop}
  (h:∀o',BA pk ka pv va E o' (DK xs x)->Q (.tuple #[]) (s.upd bk o')):lp P (Builtin.delete_ #[tm,t] u #[.map (some bk),k]) s Q X:=by
 obtain⟨O,ys,U,es,c,rfl,Y,ae,ag⟩:=aj;unfold Builtin.delete_;simp only [List.getElem?_toArray,List.getElem?_cons_zero,List.getElem?_cons_succ];refine As _ _ (Ce hm ?_)
 dsimp only;refine As _ _ ?_;unfold getObj;simp only [bind,Sem.bind,lp];refine⟨_,ai,rfl,?_⟩;refine As (x:=Instr.checkKey _ 10000 t k) _ (ab.BF K ?_);refine As (x:=Instr.findKey t k es.toList) _ (N4 ab K Y ?_);rcases Ds.erase K (i:=0) Y (O.perm U) with⟨Z,e2⟩ | ⟨j,u,Z,e2⟩
 ·rw [Z];simp only [setObj,lp,pure];refine⟨⟨_,ac,rfl⟩,rfl,h _ ⟨O.del _,_,N8 U x,es,c,rfl,by rw [e2];exact Y,ae,ag⟩⟩
 ·rw [Z];simp only [setObj,lp,pure];have ah:(es.toList.eraseIdx j).Sublist es.toList:=List.eraseIdx_sublist _ _;have aa:(es.eraseIdxIfInBounds (0+j)).toList=es.toList.eraseIdx j:=by rw [Nat.zero_add];simp
  refine⟨⟨_,ac,rfl⟩,rfl,h _ ⟨O.del _,_,N8 U x,_,c,rfl,by rw [aa];exact e2,?_,?_⟩⟩
  ·rw [aa];exact ae.sublist (ah.map _)
  ·rw [aa];exact λe he=>ag e (ah.subset he)
end
section
variable {P:Program}{J:Judge P}{Q:Gs_}{b:Frame}{n:Nat}{ds:Ld_}{ops:Ao_}{kk:Li_}{cs:Lf_}{L:Env}{s:St}{S:List Seg}
variable {d:Option Tmp}{x y z:Operand}{t u ty e tm te:TypeId}{p:String}{af:Ae_}{g:On_}{i:Nat}{rest:List Nat}{bk:Nat}{o:Obj}{xs:List (κ×ν)}{k w:Value}{x0:κ}{v0:ν}{ρ:Operand->Value}
theorem Yl.lookup{K v:Value}{z0:ν}{ok:Bool}(O:Gl P t pk ka)(hm:P.underlying tm=some (.map t te))(U:zeroOf P te=some K)(Y:Vr pv va E K z0)(Z:BA pk ka pv va E o xs)(aa:Vr pk ka E k x0)
  (ab:∀w,Vr pv va E w ((BC xs x0).getD z0)->(if ok then .tuple #[w,.bool (BC xs x0).isSome] else w)=v) (ac:ρ x= .map (some bk)) (ae:ρ y=k) (ag:s.get bk=some o):Yl P ⟨d,.lookup tm x y ok,ty,p,af,g⟩ ρ s v:=by
 refine Ft (sm:=Instr.lookup tm (ρ x) (ρ y) ok) rfl ?_;rw [ac,ae];exact Uv O hm U Y ag Z aa ok λw hw=>⟨ab w hw,rfl⟩
theorem JS.makeMap(K:ops[i]? =some ⟨d,.makeMap t none,ty,p,af,g⟩)(hw:AM L ops ⟨d,.makeMap t none,ty,p,af,g⟩=some true)(O:BF b n ⟨d,.makeMap t none,ty,p,af,g⟩=true)(U:Aq E H S)
  (h:∀r,Aq E H (S++ [[(r,.map #[] 0)]])->JL J Q b n (Au L d (.map (some r))) ds (.inRegion ops rest::kk) cs (Ak E H (S++ [[(r,.map #[] 0)]]))):
  JL J Q b n L ds (.inRegion ops (i::rest)::kk) cs (Ak E H S):=
 JL.op K hw O λρ ag=>by
  show lp P (do pure (Next.value (← Instr.makeMap t none))) _ _ _
  refine As _ _ ?_
  unfold Instr.makeMap
  simp only [newObj,bind,Sem.bind,pure,lp]
  refine⟨rfl,λr Y Z=>?_⟩
  obtain⟨aa,ab⟩:=J6 Y Z (.map #[] 0) U
  obtain⟨ac,p2⟩:=Fv aa
  have ae:(Ak E H S).upd r (.map #[] 0)=Ak E H (S++ [[(r,.map #[] 0)]]):=by rw [← ac,← ab];rfl
  show JL J Q b n (Au L d (.map (some r))) ds (.inRegion ops rest::kk) cs ((Ak E H S).upd r (.map #[] 0));rw [ae];exact h r p2
theorem JS.mapUpdate(j:Nat)(Y:Gl P t pk ka)(hm:P.underlying tm=some (.map t te))(Z:BA pk ka pv va E o xs)(aa:Vr pk ka E k x0)(ab:Vr pv va E w v0)(K:Aq E H S)(O:S[j]? =some [(bk,o)])
  (ac:ops[i]? =some ⟨d,.mapUpdate tm x y z,ty,p,af,g⟩) (hw:AM L ops ⟨d,.mapUpdate tm x y z,ty,p,af,g⟩=some true) (ae:BF b n ⟨d,.mapUpdate tm x y z,ty,p,af,g⟩=true) (ag:ev L x=some (.map (some bk))) (ah:ev L y=some k) (ai:ev L z=some w)
  (h:∀o',BA pk ka pv va E o' (C8 xs x0 v0)->Aq E H (S.set j [(bk,o')])->JL J Q b n (Au L d undef) ds (.inRegion ops rest::kk) cs (Ak E H (S.set j [(bk,o')]))):
  JL J Q b n L ds (.inRegion ops (i::rest)::kk) cs (Ak E H S):=
 JL.op ac hw ae λρ U=>by
  show lp P (do Instr.mapUpdate tm (ρ x) (ρ y) (ρ z);pure Next.skip) _ _ _
  rw [U _ _ ag,U _ _ ah,U _ _ ai]
  refine As _ _ (TN Y hm (Dw (i:=0) K O rfl) (Jx K O) Z aa ab λo' aj=>?_)
  obtain⟨ak,al⟩:=Ka K O o'
  rw [ak]
  exact h o' aj al
theorem TT{at1:TypeId}(j:Nat)(Y:Gl P t pk ka)(hm:P.underlying tm=some (.map t te))(Z:BA pk ka pv va E o xs)(aa:Vr pk ka E k x0)(K:Aq E H S)(O:S[j]? =some [(bk,o)])
  (ab:ops[i]? =some ⟨d,.call ⟨.builtin .delete,#[x,y],#[tm,t]⟩,ty,p,af,g⟩) (hw:AM L ops ⟨d,.call ⟨.builtin .delete,#[x,y],#[tm,t]⟩,ty,p,af,g⟩=some true) (ac:BF b n ⟨d,.call ⟨.builtin .delete,#[x,y],#[tm,t]⟩,ty,p,af,g⟩=true) (ae:ev L x=some (.map (some bk))) (ag:ev L y=some k)
  (h:∀o',BA pk ka pv va E o' (DK xs x0)->Aq E H (S.set j [(bk,o')])->JL J Q b n (Au L d (.tuple #[])) ds (.inRegion ops rest::kk) cs (Ak E H (S.set j [(bk,o')]))):
  JL J Q b n L ds (.inRegion ops (i::rest)::kk) cs (Ak E H S):=
 JL.op ab hw ac λρ U=>by
  have ah:execOp ρ ⟨d,.call ⟨.builtin .delete,#[x,y],#[tm,t]⟩,ty,p,af,g⟩=(do pure (Next.value (← Builtin.delete_ #[tm,t] ty #[ρ x,ρ y]))):=by
   simp [execOp,resolve,Deferred.ofValue,invoke,bind,Sem.bind,pure,Go.builtin]
  rw [ah,U _ _ ae,U _ _ ag];refine As _ _ (Uk Y hm (Dw (i:=0) K O rfl) (Jx K O) Z aa λo' ai=>?_);obtain⟨aj,ak⟩:=Ka K O o';rw [aj];exact h o' ai ak
theorem NZ{todo:Li_}(j:Nat)(O:Aq E H S)(U:S[j]? =some [(bk,o)])
  (h:∀E',Le E E'->E' bk=some o->Aq E' H (S.set j [])->JL J Q b n L ds todo cs (Ak E' H (S.set j []))):JL J Q b n L ds todo cs (Ak E H S):=by
 obtain⟨Y,Z⟩:=G0 O U;rw [Y];have aa:((S.set j []).flatten++ [(bk,o)])[(S.set j []).flatten.length]? =some (bk,o):=by simp
 refine JL.freeze (S.set j []).flatten.length Z aa λE' hle ab K=>?_;have ac:((S.set j []).flatten++ [(bk,o)]).eraseIdx (S.set j []).flatten.length=(S.set j []).flatten:=by rw [List.eraseIdx_append_of_length_le (Nat.le_refl _)];simp
 rw [ac] at K ⊢;exact h E' hle ab K
theorem Qu{α:Type}{m:Nat}{f:Nat->Sem α}{s:St}{Q:α->St->Prop}{X:Halt->St->Prop}(hm:0<m)(K:s.q=false)(h:∀i,i<m->lp P (f i) s Q X):lp P ((choose (.mapNext m)).bind f) s Q X:=by
 simp only [choose,Sem.bind,lp];split
 ·exact h 0 hm
 ·exact⟨K,λt=>h _ (Nat.mod_lt _ hm)⟩
theorem JS.range{es:Array MapEntry}{c:Nat}(hm:P.underlying tm=some (.map t te))(K:(Ak E H S).get bk=some (.map es c))(O:ops[i]? =some ⟨d,.range tm x,ty,p,af,g⟩)(hw:AM L ops ⟨d,.range tm x,ty,p,af,g⟩=some true)(U:BF b n ⟨d,.range tm x,ty,p,af,g⟩=true)(Y:Aq E H S)
  (Z:ev L x=some (.map (some bk)))
  (h:∀r,Aq E H (S++ [[(r,.mapIter (some bk) c #[] c)]])->JL J Q b n (Au L d (.pointer (some ⟨r,0,none⟩))) ds (.inRegion ops rest::kk) cs (Ak E H (S++ [[(r,.mapIter (some bk) c #[] c)]]))):
  JL J Q b n L ds (.inRegion ops (i::rest)::kk) cs (Ak E H S):=
 JL.op O hw U λρ aa=>by
  show lp P (do pure (Next.value (← Instr.range tm (ρ x)))) _ _ _
  rw [aa _ _ Z]
  refine As _ _ ?_
  unfold Instr.range
  refine As _ _ (Ce hm ?_)
  simp only [getObj,newObj,bind,Sem.bind,pure,lp]
  refine⟨_,K,rfl,rfl,λr ab ac=>?_⟩
  obtain⟨ae,ag⟩:=J6 ab ac (.mapIter (some bk) c #[] c) Y
  obtain⟨ah,p2⟩:=Fv ae
  have ai:(Ak E H S).upd r (.mapIter (some bk) c #[] c)=Ak E H (S++ [[(r,.mapIter (some bk) c #[] c)]]):=by rw [← ah,← ag];rfl
  show JL J Q b n (Au L d (.pointer (some ⟨r,0,none⟩))) ds (.inRegion ops rest::kk) cs ((Ak E H S).upd r (.mapIter (some bk) c #[] c));rw [ai];exact h r p2
theorem JS.next{es:Array MapEntry}{c r:Nat}{seen:Array Nat}(j:Nat)(ae:(Ak E H S).get bk=some (.map es c))(hb:∀e∈es.toList,e.born<c)(K:Aq E H S)(O:S[j]? =some [(r,.mapIter (some bk) c seen c)])
  (ag:ops[i]? =some ⟨d,.next x false,ty,p,af,g⟩) (hw:AM L ops ⟨d,.next x false,ty,p,af,g⟩=some true) (ah:BF b n ⟨d,.next x false,ty,p,af,g⟩=true) (U:ev L x=some (.pointer (some ⟨r,0,none⟩)))
  (ai:∀e∈es.toList,e.born ∉ seen->Aq E H (S.set j [(r,.mapIter (some bk) c (seen.push e.born) c)])->JL J Q b n (Au L d (.tuple #[.bool true,e.key,e.val])) ds (.inRegion ops rest::kk) cs (Ak E H (S.set j [(r,.mapIter (some bk) c (seen.push e.born) c)])))
  (aj:(∀e∈es.toList,e.born∈seen)->JL J Q b n (Au L d (.tuple #[.bool false])) ds (.inRegion ops rest::kk) cs (Ak E H S)):
  JL J Q b n L ds (.inRegion ops (i::rest)::kk) cs (Ak E H S):=
 JL.op ag hw ah λρ ak=>by
  show lp P (do pure (Next.value (← Instr.next (ρ x) false ty))) _ _ _
  rw [ak _ _ U]
  refine As _ _ ?_
  unfold Instr.next
  simp only [getObj,setObj,bind,Sem.bind,pure,lp]
  refine⟨_,Dw (i:=0) K O rfl,rfl,?_⟩
  simp only [lp]
  refine⟨_,ae,rfl,?_⟩
  have al:(!seen.isEmpty&& !es.isEmpty&&es.all (λe=>decide (e.born>=c)))=false:=by
   by_cases he:es.toList= []
   ·have:es.isEmpty=true:=by simpa [Array.isEmpty_iff] using he
    simp [this]
   ·obtain⟨e,ab⟩:=List.exists_mem_of_ne_nil _ he;have aB:=hb e ab;have:es.all (λe=>decide (e.born>=c))=false:=by
     cases U:es.all (λe=>decide (e.born>=c)) with
     | false=>rfl
     | true=>
      have:=Array.all_eq_true'.1 U e (Array.mem_toList_iff.1 ab);simp at this;omega
    simp [this]
  have am:Array.filter (λx:MapEntry=>decide (x.born<c)) (Array.filter (λe=> !seen.contains e.born) es)=Array.filter (λe=> !seen.contains e.born) es:=by
   apply Array.toList_inj.1;rw [Array.toList_filter,List.filter_eq_self];intro e he;rw [Array.toList_filter] at he;simpa using hb e (List.mem_filter.1 he).1
  have e2:Array.filter (λx:MapEntry=>decide (x.born>=c)) (Array.filter (λe=> !seen.contains e.born) es)= #[]:=by
   apply Array.toList_inj.1;rw [Array.toList_filter,List.filter_eq_nil_iff];intro e he;rw [Array.toList_filter] at he;have:=hb e (List.mem_filter.1 he).1;simp;omega
  dsimp only;rw [if_neg (by rw [al];exact Bool.false_ne_true),am,e2];have Y:∀e,e∈(Array.filter (λe=> !seen.contains e.born) es).toList↔e∈es.toList/\e.born ∉ seen:=by
   intro e;rw [Array.toList_filter,List.mem_filter];simp
  generalize Array.filter (λe:MapEntry=> !seen.contains e.born) es=left at Y ⊢;by_cases Z:left.toList= []
  ·have an:left= #[]:=Array.toList_inj.1 Z;subst an;refine Qu (by simp) rfl λi hi=>?_;obtain rfl:i=0:=by simp at hi;exact hi
   have ao:((if(#[]:Array MapEntry).isEmpty=true then #[none] else #[])++Array.map some ((#[]:Array MapEntry)++ #[]))[0]? =some none:=by simp
   rw [ao];refine aj λe he=>?_;by_cases ac:e.born∈seen
   ·exact ac
   ·have:=(Y e).2 ⟨he,ac⟩;simp at this
  ·have ap:left.isEmpty=false:=by
    cases aq:left.isEmpty with
    | false=>rfl
    | true=>exact absurd (by simpa [Array.isEmpty_iff] using aq) Z
   rw [ap];simp only [Bool.false_eq_true,if_false,Array.append_empty,Array.empty_append];have ar:0<left.size:=by
    rcases Nat.eq_zero_or_pos left.size with aa | aa
    ·exact absurd (by simpa using Array.eq_empty_of_size_eq_zero aa) Z
    ·exact aa
   refine Qu (by simpa using ar) rfl λi hi=>?_;have au:i<left.size:=by simpa using hi
   have av:(Array.map some left)[i]? =some (some left[i]):=by simp [au]
   rw [av];simp only [lp];obtain⟨aw,ay⟩:=(Y left[i]).1 (Array.getElem_mem_toList _);refine⟨⟨_,Jx K O,rfl⟩,rfl,?_⟩;obtain⟨az,aA⟩:=Ka K O (.mapIter (some bk) c (seen.push left[i].born) c);rw [az];exact ai _ aw ay aA
theorem JS.entry{es:Array MapEntry}{c r:Nat}{seen:Array Nat}{e:MapEntry}(j:Nat)(U:(Ak E H S).get bk=some (.map es c))(he:e∈es.toList)(hb:(es.toList.map (·.born)).Pairwise (·<·))(Y:Aq E H S)(Z:S[j]? =some [(r,.mapIter (some bk) c (seen.push e.born) c)])
  (aa:ops[i]? =some ⟨d,.entry x,ty,p,af,g⟩) (hw:AM L ops ⟨d,.entry x,ty,p,af,g⟩=some true) (ab:BF b n ⟨d,.entry x,ty,p,af,g⟩=true) (ac:ev L x=some (.pointer (some ⟨r,0,none⟩)))
  (h:JL J Q b n (Au L d (.tuple #[e.key,e.val])) ds (.inRegion ops rest::kk) cs (Ak E H S)):
  JL J Q b n L ds (.inRegion ops (i::rest)::kk) cs (Ak E H S):=
 JL.op aa hw ab λρ ae=>by
  show lp P (do pure (Next.value (← Instr.entry (ρ x)))) _ _ _
  rw [ae _ _ ac]
  refine As _ _ ?_
  unfold Instr.entry
  simp only [getObj,bind,Sem.bind,pure,lp]
  refine⟨_,Dw (i:=0) Y Z rfl,rfl,?_⟩
  simp only [Array.back?_push,bne_self_eq_false,lp]
  refine⟨_,U,rfl,?_⟩
  have ag:es.find? (λx=>x.born==e.born)=some e:=by
   rw [← Array.find?_toList];have key:∀(l:List MapEntry),e∈l->(l.map (·.born)).Pairwise (·<·)->l.find? (λx=>x.born==e.born)=some e:=by
    intro l
    induction l with
    | nil=>intro h;cases h
    | cons y l ah=>
     intro hm K;rw [List.map_cons,List.pairwise_cons] at K;by_cases O:y.born=e.born
     ·rcases List.mem_cons.1 hm with rfl | hm
      ·simp
      ·have:=K.1 e.born (List.mem_map.2 ⟨e,hm,rfl⟩);omega
     ·rw [List.find?_cons_of_neg (by simpa using O)];rcases List.mem_cons.1 hm with rfl | hm
      ·exact absurd rfl O
      ·exact ah hm K.2
   exact key _ he hb
  simp only [bne_self_eq_false,Bool.false_eq_true,if_false,ag,lp];exact h
end
end
end Pal
namespace Pal
open Go Go.Conc
theorem JY{E H:LH}{S:List Seg}{bk:Nat}{o:Obj}(h:E bk=some o):(Ak E H S).get bk=some o:=by
 show(match E bk with | some o=>some o | none=>_)=some o
 rw [h]
theorem PU{α β:Type}(f:α->β){l:List α}(h:(l.map f).Nodup):l.Nodup:=by
 unfold List.Nodup at h ⊢;rw [List.pairwise_map] at h;exact h.imp λh e=>h (by rw [e])
theorem QN{α:Type}:∀{l l':List α},l.Nodup->(∀x∈l,x∈l')->l.length<=l'.length
 | [],_,_,_=>Nat.zero_le _
 | x::l,l',h,O=>by
  obtain⟨a,b,rfl⟩:=List.append_of_mem (O x (by simp))
  have U:=List.nodup_cons.1 h
  have:=QN (l:=l) (l':=a++b) U.2 (λy Y=>by
   have K:=O y (List.mem_cons_of_mem _ Y)
   have Z:y≠x:=λe=>U.1 (e▸Y)
   simp at K ⊢
   rcases K with K | K | K
   ·exact .inl K
   ·exact absurd K Z
   ·exact .inr K)
  simp at this ⊢;omega
section
variable {κ ν:Type} [DecidableEq κ] {pk:Rp κ}{pv:Rp ν}{ka va:Bool}{E E' H:LH}
def Iw(es:Array MapEntry)(ys:List (κ×ν))(seen:Array Nat)(done:List (κ×ν)):Prop:=
 ∃K:List (MapEntry×(κ×ν)),done=K.map (·.2)/\seen.toList=K.map (·.1.born)/\K.Nodup/\∀q∈K,q∈es.toList.zip ys
theorem Iw.nil{es:Array MapEntry}{ys:List (κ×ν)}:Iw es ys #[] []:=⟨[],rfl,rfl,.nil,by simp⟩
theorem QO:∀{es:List MapEntry} {ys:List (κ×ν)},(es.map (·.born)).Pairwise (·<·)->∀{p q:MapEntry×(κ×ν)},p∈es.zip ys->q∈es.zip ys->p.1.born=q.1.born->p=q
 | [],_,_,_,_,h,_,_=>by simp at h
 | _::_,[],_,_,_,h,_,_=>by simp at h
 | e::es,y::ys,U,p,q,K,O,hb=>by
  rw [List.map_cons,List.pairwise_cons] at U
  rw [List.zip_cons_cons] at K O
  have Y:∀{z:MapEntry×(κ×ν)},z∈es.zip ys->z.1.born∈es.map (·.born):=λ{z} Z=>by
   have:=(List.of_mem_zip Z).1
   exact List.mem_map.2 ⟨z.1,this,rfl⟩
  rcases List.mem_cons.1 K with rfl | K <;> rcases List.mem_cons.1 O with rfl | O
  ·rfl
  ·have:=U.1 _ (Y O);simp at hb;omega
  ·have:=U.1 _ (Y K);simp at hb;omega
  ·exact QO U.2 K O hb
theorem Ds.zip:∀{es:List MapEntry} {ys:List (κ×ν)},Ds pk ka pv va E es ys->∀{q:MapEntry×(κ×ν)},q∈es.zip ys->Vr pk ka E q.1.key q.2.1/\Vr pv va E q.1.val q.2.2
 | [],[],_,_,h=>by simp at h
 | e::es,y::ys,h,q,K=>by
  rw [List.zip_cons_cons] at K
  rcases List.mem_cons.1 K with rfl | K
  ·exact⟨h.1,h.2.1⟩
  ·exact Ds.zip h.2.2 K
 | [],_::_,h,_,_=>h.elim
 | _::_,[],h,_,_=>h.elim
theorem QZ:∀{es:List MapEntry} {ys:List (κ×ν)},KN ys->(es.map (·.born)).Pairwise (·<·)->∀{p q:MapEntry×(κ×ν)},p∈es.zip ys->q∈es.zip ys->p.2.1=q.2.1->p=q
 | [],_,_,_,_,_,h,_,_=>by simp at h
 | _::_,[],_,_,_,_,h,_,_=>by simp at h
 | e::es,y::ys,aa,Y,p,q,K,O,hb=>by
  have U:y.1 ∉ ys.map (·.1)/\KN ys:=by simpa [KN] using aa
  rw [List.map_cons,List.pairwise_cons] at Y;rw [List.zip_cons_cons] at K O;have Z:∀{z:MapEntry×(κ×ν)},z∈es.zip ys->z.2.1∈ys.map (·.1):=λ{z} ab=>List.mem_map.2 ⟨z.2,(List.of_mem_zip ab).2,rfl⟩;rcases List.mem_cons.1 K with rfl | K <;> rcases List.mem_cons.1 O with rfl | O
  ·rfl
  ·have:=Z O;simp only at hb;rw [← hb] at this;exact absurd this U.1
  ·have:=Z K;simp only at hb;rw [hb] at this;exact absurd this U.1
  ·exact QZ U.2 Y.2 K O hb
theorem Iw.len{es:Array MapEntry}{ys:List (κ×ν)}{seen:Array Nat}{done:List (κ×ν)}(h:Iw es ys seen done):done.length<=ys.length:=by
 obtain⟨Y,rfl,Z,K,O⟩:=h;rw [List.length_map];have U:=QN K O;exact Nat.le_trans U (by rw [List.length_zip];exact Nat.min_le_right _ _)
section
variable {P:Program}{J:Judge P}{Q:Gs_}{b:Frame}{n:Nat}{ds:Ld_}{ops:Ao_}{kk:Li_}{cs:Lf_}{L:Env}{s:St}{S:List Seg}
variable {d:Option Tmp}{x y z:Operand}{t u ty e tm te:TypeId}{p:String}{af:Ae_}{g:On_}{i:Nat}{rest:List Nat}{bk:Nat}{o:Obj}{xs ys:List (κ×ν)}
theorem QL{es:Array MapEntry}{c r:Nat}{seen:Array Nat}{done:List (κ×ν)}(j:Nat)(ab:Ds pk ka pv va E es.toList ys)(Z:(es.toList.map (·.born)).Pairwise (·<·))(hb:∀e∈es.toList,e.born<c)(ai:KN ys)(aj:Iw es ys seen done)(ak:(Ak E' H S).get bk=some (.map es c))(al:Aq E' H S)(am:S[j]? =some [(r,.mapIter (some bk) c seen c)])
  (an:ops[i]? =some ⟨d,.next x false,ty,p,af,g⟩) (hw:AM L ops ⟨d,.next x false,ty,p,af,g⟩=some true) (ao:BF b n ⟨d,.next x false,ty,p,af,g⟩=true) (ap:ev L x=some (.pointer (some ⟨r,0,none⟩)))
  (aq:∀e O,Vr pk ka E e.key O.1->Vr pv va E e.val O.2->O∈ys->O.1 ∉ done.map (·.1)->e∈es.toList->Iw es ys (seen.push e.born) (done++ [O])->Aq E' H (S.set j [(r,.mapIter (some bk) c (seen.push e.born) c)])->
   JL J Q b n (Au L d (.tuple #[.bool true,e.key,e.val])) ds (.inRegion ops rest::kk) cs (Ak E' H (S.set j [(r,.mapIter (some bk) c (seen.push e.born) c)])))
  (ar:done.Perm ys->JL J Q b n (Au L d (.tuple #[.bool false])) ds (.inRegion ops rest::kk) cs (Ak E' H S)):
  JL J Q b n L ds (.inRegion ops (i::rest)::kk) cs (Ak E' H S):=by
 obtain⟨aa,rfl,a1,ac,Y⟩:=aj;have hlen:=ab.len;refine JS.next j ak hb al am an hw ao ap (λe he au av=>?_) (λaw=>?_)
 ·obtain⟨m,hm,ay⟩:=List.mem_iff_getElem.1 he;have U:(e,ys[m]'(by omega))∈es.toList.zip ys:=by
   rw [← ay];have:(es.toList.zip ys)[m]'(by rw [List.length_zip];omega)=(es.toList[m],ys[m]'(by omega)):=List.getElem_zip;rw [← this];exact List.getElem_mem _
  obtain⟨k1,az⟩:=ab.zip U;have ae:(e,ys[m]'(by omega)) ∉ aa:=λq=>au (by
   rw [← Array.mem_toList_iff,a1]
   exact List.mem_map.2 ⟨_,q,rfl⟩)
  refine aq e _ k1 az (List.getElem_mem _) (λq=>?_) he ⟨aa++ [(e,ys[m]'(by omega))],by simp,by simp [a1],?_,λq K=>?_⟩ av
  ·obtain⟨O,aA,aB⟩:=List.mem_map.1 q;obtain⟨z,ag,rfl⟩:=List.mem_map.1 aA;have:=QZ ai Z (Y z ag) U aB;exact ae (this▸ag)
  ·rw [List.nodup_append];exact⟨ac,by simp,by intro q K z ah aC;simp at ah;subst ah aC;exact ae K⟩
  ·rcases List.mem_append.1 K with K | K
   ·exact Y q K
   ·simp at K;subst K;exact U
 ·refine ar ?_;have aD:aa.Perm (es.toList.zip ys):=by
   have aE:(es.toList.zip ys).Nodup:=by
    have:((es.toList.zip ys).map (·.1)).Nodup:=by
     rw [List.map_fst_zip (by omega)];exact PU (λe:MapEntry=>e.born) (Z.imp (λh=>Nat.ne_of_lt h))
    exact PU _ this
   refine(List.perm_ext_iff_of_nodup ac aE).2 λq=>⟨λK=>Y q K,λK=>?_⟩;have:=aw q.1 (List.of_mem_zip K).1;rw [← Array.mem_toList_iff,a1] at this;obtain⟨z,U,aF⟩:=List.mem_map.1 this;have:=QO Z (Y z U) K aF;exact this▸U
  have:=aD.map (·.2)
  rwa [List.map_snd_zip (by omega)] at this
end
end
end Pal
namespace Pal
open Go Go.Conc
section
variable {P:Program}{J:Judge P}{Q:Gs_}{b:Frame}{n:Nat}{ds:Ld_}{ops:Ao_}{k:Li_}{cs:Lf_}{fuel:Nat}{D:Nat->Bool}{listed:Array Bool}{L L':Env}{s:St}{xl:List Nat}
variable {d:Option Tmp}{op:Op}{ty:TypeId}{p:String}{af:Ae_}{g:On_}{v:Value}
theorem EN(i:Nat)(pure:Bool)(K:s.q=false)(O:GG n L ops i=some ⟨d,op,ty,p,af,g⟩)
  (U:∀ρ,EG L ρ->∀s':St,(pure=false->∀x o,(Br D s).E x=some o->s'.E x=some o)->Yl P ⟨d,op,ty,p,af,g⟩ ρ s' v)
  (Y:FE J Q b n ds ops k cs (AT xl) D fuel (A6 listed i) (Au L d v) s) (Z:Jv ops listed xl pure i=true:=by decide+kernel):FE J Q b n ds ops k cs (AT xl) D (fuel+1) listed L s:=by
 obtain⟨aa,ab,ac⟩:=Oe O;exact JB.val i pure aa Z K ab ac U Y
def PM(n:Nat)(L:Env)(ops:Ao_)(i:Nat):Option Env:=
 match I5 ops.toList i with
 | some ⟨d,op,ty,p,af,g⟩=>match AM L ops ⟨d,op,ty,p,af,g⟩ with
  | some true=>match Bg n d with
   | true=>match Kr L op with
    | some v=>match d with
     | some d=>some ((d,v)::L)
     | none=>some L
    | none=>none
   | false=>none
  | _=>none
 | none=>none
theorem VF{i:Nat}(h:PM n L ops i=some L'):∃o v,ops[i]? =some o/\Bg n o.dst=true/\AM L ops o=some true/\Kr L o.op=some v/\L'=Au L o.dst v:=by
 unfold PM at h;split at h
 ·rename_i d op ty p af g K;rw [KJ,Array.getElem?_toList] at K;split at h
  ·rename_i hw;split at h
   ·rename_i O;split at h
    ·rename_i v U;refine⟨_,v,K,O,hw,U,?_⟩;cases d with
     | none=>cases h;rfl
     | some d=>cases h;rfl
    ·cases h
   ·cases h
  ·cases h
 ·cases h
theorem Bc(i:Nat)(K:s.q=false)(h:PM n L ops i=some L')
  (O:FE J Q b n ds ops k cs (AT xl) D fuel (A6 listed i) L' s) (U:Jv ops listed xl true i=true:=by decide+kernel):FE J Q b n ds ops k cs (AT xl) D (fuel+1) listed L s:=by
 obtain⟨o,v,Y,Z,hw,aa,rfl⟩:=VF h;exact JB.val i true Y U K hw Z (λρ ab s' _=>MM ab aa) O
end
end Pal
namespace Pal
open Go Go.Conc
section
variable {P:Program}{J:Judge P}{Q:Gs_}{b:Frame}{n:Nat}{L L':Env}{ds:Ld_}{k:Li_}{cs:Lf_}{s:St}{ops:Ao_}{E H:LH}{S:List Seg}{i i2:Nat}{rest:List Nat}
variable {d d2:Option Tmp}{x y x2:Operand}{t t2 ft u ty ty2 e:TypeId}{p p2:String}{af af2:Ae_}{g g2:On_}{v w:Value}
theorem Dg(O:Aq E H S)(h:∀r E',Le E E'->At E' r 0 v.cells.toList->Aq E' H (S++ [[]])->JL J Q b n (Au L d (.pointer (some ⟨r,0,none⟩))) ds (.inRegion ops rest::k) cs (Ak E' H (S++ [[]])))
  (U:Fa b n L ops i=some ⟨d,.box e x,ty,p,af,g⟩:=by exact rfl) (Y:ev L x=some v:=by exact rfl):JL J Q b n L ds (.inRegion ops (i::rest)::k) cs (Ak E H S):=by
 obtain⟨Z,aa,ab⟩:=J8 U;refine JS.box Z aa ab O Y λr ac=>CP (bk:=r) (c:=v.cells) (e:=e) (f:=(0,0)) S.length ac (by simp) λE' hle ae K=>?_;have ag:(S++ [[(r,Obj.cells v.cells e (0,0))]]).set S.length []=S++ [[]]:=by simp
 rw [ag] at K ⊢;exact h r E' hle ae K
theorem BI{z:Value}(K:Aq E H S)(O:zeroOf P e=some z)(h:∀r,Aq E H (S++ [[(r,.cells z.cells e (0,0))]])->JL J Q b n (Au L d (.pointer (some ⟨r,0,none⟩))) ds (.inRegion ops rest::k) cs (Ak E H (S++ [[(r,.cells z.cells e (0,0))]])))
  (U:Fa b n L ops i=some ⟨d,.alloc e,ty,p,af,g⟩:=by exact rfl):JL J Q b n L ds (.inRegion ops (i::rest)::k) cs (Ak E H S):=by
 obtain⟨Y,Z,aa⟩:=J8 U;exact JS.alloc Y Z aa K O h
theorem BB{bk off K:Nat}{c:Av_}(j:Nat)(O:Aq E H S)(U:Bl P t=some K)
  (h:Aq E H (S.set j [(bk,.cells (Bb c off v.cells.toList) e (0,0))])->JL J Q b n (Au L d undef) ds (.inRegion ops rest::k) cs (Ak E H (S.set j [(bk,.cells (Bb c off v.cells.toList) e (0,0))])))
  (Y:Fa b n L ops i=some ⟨d,.store t x y,ty,p,af,g⟩:=by exact rfl) (Z:ev L x=some (.pointer (some ⟨bk,off,none⟩)):=by exact rfl) (aa:ev L y=some v:=by exact rfl) (ab:S[j]? =some [(bk,.cells c e (0,0))]:=by exact rfl)
  (ac:K=v.cells.size:=by exact rfl) (hle:off+v.cells.size<=c.size:=by exact Nat.le_of_ble_eq_true rfl) (ae:v.cells.toList.all CU=true:=by first | exact rfl | simp [Value.cells,CU]):
  JL J Q b n L ds (.inRegion ops (i::rest)::k) cs (Ak E H S):=ZO j O (by rw [← ac];exact U) Y Z aa ab h hle (List.all_eq_true.1 ae)
theorem B5{bk o K Y off:Nat}{O:Array Field}{U:Nat}{ws:Lv_}(j:Nat)(Z:At E bk o ws)(aa:P.underlying t=some (.struct O))(ab:Bl P ft=some (Y+1))(ac:C9 P t2=some false)
  (ae:JL J Q b n (Au (Au L d (.pointer (some ⟨bk,K+off,none⟩))) d2 v) ds (.inRegion ops rest::k) cs (Ak E H S))
  (ag:Fa b n L ops i=some ⟨d,.fieldAddr t x U,ty,p,af,g⟩:=by exact rfl) (ah:ev L x=some (.pointer (some ⟨bk,K,none⟩)):=by exact rfl) (ai:LC O U=some (off,ft):=by exact rfl)
  (aj:Fa b n (Au L d (.pointer (some ⟨bk,K+off,none⟩))) ops i2=some ⟨d2,.load t2 x2,ty2,p2,af2,g2⟩:=by exact rfl) (ak:ev (Au L d (.pointer (some ⟨bk,K+off,none⟩))) x2=some (.pointer (some ⟨bk,o+j,none⟩)):=by exact rfl) (al:ws[j]? =some v:=by exact rfl):
  JL J Q b n L ds (.inRegion ops (i::i2::rest)::k) cs (Ak E H S):=JL.fd aa ab ag ah ai (Ch j Z ac aj ak al ae)
theorem JS.ix{α:Type}{pp:Rp α}{a:Option Addr}{c:Nat}{xs:List α}{xv:α}{m:Int}{kd:IntKind}(K:Al pp E a c xs)(hm:ix xs m=some xv)(O:P.underlying t=some (.slice e))(U:Bl P e=some pp.n)
  (h:∀bk o ws,pp.r E ws xv->At E bk o ws->JL J Q b n (Au L d (.pointer (some ⟨bk,o,none⟩))) ds (.inRegion ops rest::k) cs (Ak E H S))
  (Y:Fa b n L ops i=some ⟨d,.indexAddr t x y,ty,p,af,g⟩:=by exact rfl) (Z:ev L x=some (.slice a xs.length c):=by exact rfl) (aa:ev L y=some (.int kd m):=by exact rfl):
  JL J Q b n L ds (.inRegion ops (i::rest)::k) cs (Ak E H S):=by
 obtain⟨ab,ac,ae⟩:=J8 Y;exact RZ K hm ab ac ae Z aa O U h
theorem DF(K:List Seg)(O:Env){todo:Li_}{c:Code}(U:∀E',Le E E'->Aq E' H K->JL J Q b n O ds todo cs (Ak E' H K))
  (h:(∀{E':LH} {L:Env},Le E E'->Aq E' H K->HZ L O=H4 O->JL J Q b n L ds todo cs (Ak E' H K))->JL J Q b n L ds (.code c::todo) cs (Ak E H S)):JL J Q b n L ds (.code c::todo) cs (Ak E H S):=
 h λY Z aa=>AA (U _ Y Z) aa
theorem Fj{U:List Nat}(Y Z:Nat)(K:List Seg)(O:Env){todo:Li_}(aa:∀E',Le E E'->Aq E' H K->JL J Q b n O ds (.inRegion ops (List.range' Y Z)::todo) cs (Ak E' H K))
  (h:(∀{E':LH} {L:Env},Le E E'->Aq E' H K->HZ L O=H4 O->JL J Q b n L ds (.inRegion ops (List.range' Y Z)::todo) cs (Ak E' H K))->JL J Q b n L ds (.inRegion ops U::todo) cs (Ak E H S)):JL J Q b n L ds (.inRegion ops U::todo) cs (Ak E H S):=
 h λab ac ae=>AA (aa _ ab ac) ae
theorem Dh{O ab:Type}{c:Code}{body:O->Option (Bj O ab)}{f:Nat}{Y:O}{a:ab}{Z:LH}{k:Li_}(ae:iter body f Y=some a)(K:O->List Seg)(U:O->Env)(hle:Le Z E)(ag:Aq E H (K Y))
  (round:∀x E',Le Z E'->Aq E' H (K x)->(∀ac,body x=some (.done ac)->ac=a)->(∃st,body x=some st)->(∀{L':Env} {aa:LH} (x':O),Le Z aa->Aq aa H (K x')->HZ L' (U x')=H4 (U x')->body x=some (.more x')->JL J Q b n L' ds (.inLoop c::k) cs (Ak aa H (K x')))->JL J Q b n (U x) ds (.code c:: .inLoop c::k) cs (Ak E' H (K x)))
  (ah:HZ L (U Y)=H4 (U Y):=by exact rfl) (ai:Ak E H S=Ak E H (K Y):=by exact rfl):JL J Q b n L ds (.code (.loop c)::k) cs (Ak E H S):=by
 rw [ai];refine Ej _ ah (QX ae (λL s x=>∃E',Jm Z H E' (K x) (U x) L s) ⟨E,rfl,rfl,hle,ag⟩ ?_);rintro _ _ x ⟨E',rfl,rfl,aj,ak⟩ hd hb al;exact round x E' aj ak hd hb λx' am g2 an ao=>AA (al _ _ x' ⟨_,rfl,rfl,am,g2⟩ ao) an
theorem Bi{f:FuncId}{fn:Func}{c:Code}{E:LH}{vs:Lv_}{B:Seg}{R:Value->LH->Seg->Prop}(O:P.funcs[f]? =some fn)
  (h:∀(Q:Gs_) (K:Frame) (cs:Lf_) (H:LH),Aq E H [B]->(∀{v:Value} {E':LH} {S':List Seg} {B':Seg},Le E E'->S'.flatten=B'->R v E' B'->Aq E' H S'->J.ok Q (G (K.finish v) cs) (Ak E' H S'))->JL J Q (base f) fn.ntmps (F2 0 vs) [] [.code c] (K::cs) (Ak E H [B]))
  (hb:fn.body=some c:=by exact rfl) (U:Nat.ble vs.length fn.ntmps=true:=by exact rfl):AL J f vs E B R:=
 OY O hb U λQ K cs H Y Z=>h Q K cs H Y λaa ab ac ae=>Z _ _ _ _ aa ab ac ae
variable {m:Nat}{fuel:Nat}{listed:Array Bool}{bks xl:List Nat}
theorem Kh{bk:Nat}{c:Av_}{f:Nat×Nat}(i:Nat)(K:Dv ops m=true)(o:Nat)(j:Nat)(O:Aq E H S)(U:C9 P t=some false)
  (Y:AN J Q b n ds ops k cs m (AT bks) fuel (A6 listed i) (Au L d w) (Ak E H S)) (Z:GG n L ops i=some ⟨d,.load t x,ty,p,af,g⟩:=by exact rfl) (aa:ev L x=some (.pointer (some ⟨bk,o,none⟩)):=by exact rfl)
  (ab:S[j]? =some [(bk,.cells c e f)]:=by exact rfl) (hw:c[o]? =some w:=by exact rfl) (ac:AT bks bk=true:=by simp [AT]) (ae:F6 ops listed m i=true:=by decide+kernel):AN J Q b n ds ops k cs m (AT bks) (fuel+1) listed L (Ak E H S):=
 AK i K rfl Z (λρ h s' ag=>Yl.load U (h _ _ aa) (B4 (o:=o) j O ab ac ag hw)) Y ae
theorem JG.lp{bk o:Nat}{ws:Lv_}(i:Nat)(K:Dv ops m=true)(j:Nat)(O:At E bk o ws)(U:Aq E H S)(Y:HB S bks)(Z:C9 P t=some false)
  (aa:AN J Q b n ds ops k cs m (AT bks) fuel (A6 listed i) (Au L d w) (Ak E H S)) (ab:GG n L ops i=some ⟨d,.load t x,ty,p,af,g⟩:=by exact rfl) (ac:ev L x=some (.pointer (some ⟨bk,o+j,none⟩)):=by exact rfl)
  (hw:ws[j]? =some w:=by exact rfl) (ae:F6 ops listed m i=true:=by decide+kernel):AN J Q b n ds ops k cs m (AT bks) (fuel+1) listed L (Ak E H S):=
 AK i K rfl ab (λρ h s' ag=>Yl.load Z (h _ _ ac) (At.GB (j:=j) O (YT U ag Y) hw)) aa ae
theorem Tg{bk o K:Nat}{c:Av_}{f:Nat×Nat}(i:Nat)(O:Dv ops m=true)(vs:Lv_)(j:Nat)(U:Aq E H S)(hw:∀(q:Nat) w,vs[q]? =some w->c[o+q]? =some w)(Y:C9 P t=some true)(Z:Bl P t=some K)
  (aa:AN J Q b n ds ops k cs m (AT bks) fuel (A6 listed i) (Au L d (.agg vs.toArray)) (Ak E H S)) (ab:GG n L ops i=some ⟨d,.load t x,ty,p,af,g⟩:=by exact rfl) (ac:ev L x=some (.pointer (some ⟨bk,o,none⟩)):=by exact rfl)
  (ae:S[j]? =some [(bk,.cells c e f)]:=by exact rfl) (ag:K=vs.length:=by exact rfl) (ah:AT bks bk=true:=by simp [AT]) (ai:F6 ops listed m i=true:=by decide+kernel):AN J Q b n ds ops k cs m (AT bks) (fuel+1) listed L (Ak E H S):=
 AK i O rfl ab (λρ h s' aj=>IS (vs:=vs) Y (by rw [← ag];exact Z) (h _ _ ac) (λq w ak=>by rw [Dm rfl];exact B4 j U ae ah aj (hw q w ak))) aa ai
theorem JG.ix{D:Nat->Bool}{α:Type}{xs:List α}{xv:α}{K:Int}{bk c O U:Nat}{kd:IntKind}(i:Nat)(Y:Dv ops m=true)(Z:xs.length=U)(hm:ix xs K=some xv)(aa:P.underlying t=some (.slice e))(ab:Bl P e=some O)
  (ac:AN J Q b n ds ops k cs m D fuel (A6 listed i) (Au L d (.pointer (some ⟨bk,K.toNat*O,none⟩))) s) (ae:s.q=false:=by exact rfl) (ag:GG n L ops i=some ⟨d,.indexAddr t x y,ty,p,af,g⟩:=by exact rfl)
  (ah:ev L x=some (.slice (some ⟨bk,0,none⟩) U c):=by exact rfl) (ai:ev L y=some (.int kd K):=by exact rfl) (aj:F6 ops listed m i=true:=by decide+kernel):AN J Q b n ds ops k cs m D (fuel+1) listed L s:=
 AK i Y ae ag (λρ h s' ak=>Fg Z hm aa ab (h _ _ ah) (h _ _ ai)) ac aj
theorem JB.ix{D:Nat->Bool}{α:Type}{xs:List α}{xv:α}{K:Int}{bk c O U:Nat}{kd:IntKind}(i:Nat)(Y:xs.length=U)(hm:ix xs K=some xv)(Z:P.underlying t=some (.slice e))(aa:Bl P e=some O)
  (ab:FE J Q b n ds ops k cs (AT xl) D fuel (A6 listed i) (Au L d (.pointer (some ⟨bk,K.toNat*O,none⟩))) s) (ac:s.q=false:=by exact rfl) (ae:GG n L ops i=some ⟨d,.indexAddr t x y,ty,p,af,g⟩:=by exact rfl)
  (ag:ev L x=some (.slice (some ⟨bk,0,none⟩) U c):=by exact rfl) (ah:ev L y=some (.int kd K):=by exact rfl) (ai:Jv ops listed xl true i=true:=by decide+kernel):FE J Q b n ds ops k cs (AT xl) D (fuel+1) listed L s:=
 EN i true ac ae (λρ h s' aj=>Fg Y hm Z aa (h _ _ ag) (h _ _ ah)) ab ai
theorem Ta{bk o K:Nat}{c:Av_}{f:Nat×Nat}(i:Nat)(vs:Lv_)(j:Nat)(O:Aq E H S)(hw:∀(q:Nat) w,vs[q]? =some w->c[o+q]? =some w)(U:C9 P t=some true)(Y:Bl P t=some K)
  (Z:FE J Q b n ds ops k cs (AT xl) (AT bks) fuel (A6 listed i) (Au L d (.agg vs.toArray)) (Ak E H S)) (aa:GG n L ops i=some ⟨d,.load t x,ty,p,af,g⟩:=by exact rfl) (ab:ev L x=some (.pointer (some ⟨bk,o,none⟩)):=by exact rfl)
  (ac:S[j]? =some [(bk,.cells c e f)]:=by exact rfl) (ae:K=vs.length:=by exact rfl) (ag:AT bks bk=true:=by simp [AT]) (ah:Jv ops listed xl false i=true:=by decide+kernel):FE J Q b n ds ops k cs (AT xl) (AT bks) (fuel+1) listed L (Ak E H S):=
 EN i false rfl aa (λρ h s' ai=>IS (vs:=vs) U (by rw [← ae];exact Y) (h _ _ ab) (λq w aj=>by rw [Dm rfl];exact B4 j O ac ag (ai rfl) (hw q w aj))) Z ah
theorem Es{bk off K:Nat}{c:Av_}{D:Nat->Bool}(i j:Nat)(O:Aq E H S)(U:Bl P t=some K)(hle:off+K<=c.size)
  (h:Aq E H (S.set j [(bk,.cells (Bb c off v.cells.toList) e (0,0))])->FE J Q b n ds ops k cs (AT xl) D fuel (A6 listed i) (Au L d undef) (Ak E H (S.set j [(bk,.cells (Bb c off v.cells.toList) e (0,0))])))
  (Y:GG n L ops i=some ⟨d,.store t x y,ty,p,af,g⟩:=by exact rfl) (Z:ev L x=some (.pointer (some ⟨bk,off,none⟩)):=by exact rfl) (aa:ev L y=some v:=by exact rfl) (ab:S[j]? =some [(bk,.cells c e (0,0))]:=by exact rfl)
  (ac:K=v.cells.size:=by exact rfl) (ae:v.cells.toList.all CU=true:=by first | exact rfl | simp [Value.cells,CU]) (ag:Region.ready .any ops listed= [i]:=by decide+kernel) (ah:AT xl i=true:=by decide+kernel):
  FE J Q b n ds ops k cs (AT xl) D (fuel+1) listed L (Ak E H S):=by
 obtain⟨ai,aj,ak⟩:=Oe Y;subst ac;exact JB.store i j ag ah ai aj ak O Z aa U (List.all_eq_true.1 ae) ab hle h
end
end Pal
namespace Pal
open Go Go.Conc
abbrev s8(s:Nat):Value:= .int .u8 (s:Int)
def Nu(a:Nat)(n:Int):Option Nat:=if 0<=n/\n<=8 then some (a>>>n.toNat) else none
def K1(a b:Nat):Option Nat:=if a<256/\b<256 then some (a ||| b) else none
def Nk(a b:Nat):Option Nat:=if a<256/\b<256 then some (a&&& b) else none
section
variable {P:Program}{s:St}{ρ:Operand->Value}{d:Option Tmp}{t u ty:TypeId}{x y:Operand}{p:String}{af:Ae_}{g:On_}{a b c r:Nat}{m:Int}
theorem Ti{m:Nat}(h:m<256):IntKind.u8.wrap (m:Int)=m:=by
 simp only [IntKind.wrap,IntKind.bits,IntKind.signed];simp;omega
theorem NF{m:Nat}(h:m<256):(BitVec.ofInt IntKind.u8.bits (m:Int)).toNat=m:=by
 simp [IntKind.bits,BitVec.toNat_ofInt];omega
theorem Zx{k:Nat}(a c:Nat)(K:c<=k):((a:Int).fdiv (2 ^ (min c k)))=((a>>>c:Nat):Int):=by
 rw [Nat.min_eq_left K,Nat.shiftRight_eq_div_pow,Int.fdiv_eq_ediv_of_nonneg _ (Int.pow_nonneg (by decide)),Int.natCast_ediv]
 rfl
theorem Q4(K:ρ x=s8 a)(O:ρ y=iV m)(h:Nu a m=some r):Yl P ⟨d,.binOp .shr t x y u,ty,p,af,g⟩ ρ s (s8 r):=by
 unfold Nu at h;split at h
 ·rename_i U;cases h;have h:=Yl.shr (P:=P) (s:=s) (d:=d) (t:=t) (u:=u) (ty:=ty) (p:=p) (af:=af) (g:=g) K O U.1;rw [show IntKind.u8.bits=8 from rfl,Zx a m.toNat (by omega)] at h;exact h
 ·cases h
theorem ME(O:ρ x=s8 a)(U:ρ y=s8 b)(h:K1 a b=some r):Yl P ⟨d,.binOp .or t x y u,ty,p,af,g⟩ ρ s (s8 r):=by
 unfold K1 at h;split at h
 ·rename_i K;cases h;have h:=Yl.or (P:=P) (s:=s) (d:=d) (t:=t) (u:=u) (ty:=ty) (p:=p) (af:=af) (g:=g) O U;rw [BitVec.toNat_or,NF K.1,NF K.2,Ti (Nat.or_lt_two_pow (n:=8) K.1 K.2)] at h;exact h
 ·cases h
theorem QI(O:ρ x=s8 a)(U:ρ y=s8 b)(h:Nk a b=some r):Yl P ⟨d,.binOp .and t x y u,ty,p,af,g⟩ ρ s (s8 r):=by
 unfold Nk at h;split at h
 ·rename_i K;cases h;have h:=Yl.and (P:=P) (s:=s) (d:=d) (t:=t) (u:=u) (ty:=ty) (p:=p) (af:=af) (g:=g) O U;rw [BitVec.toNat_and,NF K.1,NF K.2,Ti (Nat.lt_of_le_of_lt Nat.and_le_left K.1)] at h;exact h
 ·cases h
end
end Pal
namespace Pal
open Go Go.Conc
def ON(a b:Nat):Option Nat:=if a<4294967296/\b<4294967296 then some (a&&& b) else none
def OR(a:Nat)(n:Int):Option Nat:=if 0<=n/\n<=32/\a*2 ^ n.toNat<4294967296 then some (a*2 ^ n.toNat) else none
def Kq(n:Int):Option Nat:=if 0<=n/\n<=8 then some ((1<<<n.toNat) % 256) else none
section
variable {P:Program}{s:St}{ρ:Operand->Value}{d:Option Tmp}{t u ty e:TypeId}{x y:Operand}{p:String}{af:Ae_}{g:On_}{a b c r:Nat}{m:Int}
theorem wrap32{m:Nat}(h:m<4294967296):IntKind.u32.wrap (m:Int)=m:=by
 simp only [IntKind.wrap,IntKind.bits,IntKind.signed];simp;omega
theorem Ts{m:Nat}(h:m<4294967296):(BitVec.ofInt IntKind.u32.bits (m:Int)).toNat=m:=by
 simp [IntKind.bits,BitVec.toNat_ofInt];omega
theorem UK(O:ρ x= .int .u32 (a:Int))(U:ρ y= .int .u32 (b:Int))(h:ON a b=some r):Yl P ⟨d,.binOp .and t x y u,ty,p,af,g⟩ ρ s (.int .u32 (r:Int)):=by
 unfold ON at h;split at h
 ·rename_i K;cases h;have h:=Yl.and (P:=P) (s:=s) (d:=d) (t:=t) (u:=u) (ty:=ty) (p:=p) (af:=af) (g:=g) O U;rw [BitVec.toNat_and,Ts K.1,Ts K.2,wrap32 (Nat.lt_of_le_of_lt Nat.and_le_left K.1)] at h;exact h
 ·cases h
theorem U5(O:ρ x= .int .u32 (a:Int))(U:ρ y=iV m)(h:OR a m=some r):Yl P ⟨d,.binOp .shl t x y u,ty,p,af,g⟩ ρ s (.int .u32 (r:Int)):=by
 unfold OR at h;split at h
 ·rename_i K;cases h;have h:=Yl.shl (P:=P) (s:=s) (d:=d) (t:=t) (u:=u) (ty:=ty) (p:=p) (af:=af) (g:=g) O U K.1;have e:IntKind.u32.wrap ((a:Int)*2 ^ (min m.toNat IntKind.u32.bits))=((a*2 ^ m.toNat:Nat):Int):=by
   have Y:min m.toNat IntKind.u32.bits=m.toNat:=by simp [IntKind.bits];omega
   rw [Y,← wrap32 K.2.2];simp
  rw [e] at h;exact h
 ·cases h
theorem Ln(K:ρ x=s8 1)(O:ρ y=iV m)(h:Kq m=some r):Yl P ⟨d,.binOp .shl t x y u,ty,p,af,g⟩ ρ s (s8 r):=by
 unfold Kq at h;split at h
 ·rename_i U;cases h;have h:=Yl.shl (P:=P) (s:=s) (d:=d) (t:=t) (u:=u) (ty:=ty) (p:=p) (af:=af) (g:=g) K O U.1;have e:IntKind.u8.wrap (((1:Nat):Int)*2 ^ (min m.toNat IntKind.u8.bits))=(((1<<<m.toNat) % 256:Nat):Int):=
   (by decide:∀k:Fin 9,IntKind.u8.wrap (((1:Nat):Int)*2 ^ (min k.1 IntKind.u8.bits))=(((1<<<k.1) % 256:Nat):Int)) ⟨m.toNat,by omega⟩
  rw [e] at h;exact h
 ·cases h
theorem VT(K:ρ x=s8 a)(O:ρ y=s8 b)(hb:b<=256):Yl P ⟨d,.binOp .sub t x y u,ty,p,af,g⟩ ρ s (s8 ((a+(256 - b)) % 256)):=by
 have h:=Yl.sub (P:=P) (s:=s) (d:=d) (t:=t) (u:=u) (ty:=ty) (p:=p) (af:=af) (g:=g) K O;have e:IntKind.u8.wrap ((a:Int) - (b:Int))=(((a+(256 - b)) % 256:Nat):Int):=by
  simp only [IntKind.wrap,IntKind.bits,IntKind.signed];simp;omega
 rw [e] at h;exact h
theorem Xj{kd:IntKind}{E:LH}(xs:List Nat):(rA xs.length (rN kd)).r E (xs.map λx=>Value.int kd ((x:Nat):Int)) xs:=by
 refine⟨rfl,xs.map λx=> [Value.int kd ((x:Nat):Int)],?_,by simp,λi x us K hu=>?_⟩
 ·induction xs with
  | nil=>rfl
  | cons x xs O=>simp [← O]
 ·rw [List.getElem?_map,K] at hu;exact(Option.some.inj hu).symm
theorem MJ{α:Type}{kk:Nat}{pp:Rp α}{E:LH}{us:Lv_}{x:α}(h:pp.r E us x):(rA kk pp).r E (List.replicate kk us).flatten (List.replicate kk x):=
 ⟨by simp,List.replicate kk us,rfl,by simp,λi y ws K hw=>by
  rw [List.getElem?_replicate] at K hw
  split at K
  ·rename_i O
   rw [if_pos O] at hw
   cases K;cases hw
   exact h
  ·cases K⟩
theorem Ol{k K:Nat}{z v:Value}(O:P.underlying t=some (.array k e))(U:zeroOf P t=some z)(Y:Bl P e=some K)(Z: .agg z.cells=v):Yl P ⟨d,.build t #[],ty,p,af,g⟩ ρ s v:=by
 refine Ft Oa ?_;unfold Instr.build;refine As (x:=zeroValue t) _ (Hm U ?_);refine As _ _ (Ce O ?_);refine As (x:=Go.sizeOf e) _ (ED Y ?_);subst Z;simp [Instr.fill,lp,pure]
theorem Wp{k K:Nat}{z v:Value}{L:Env}{U:Array (Nat×Operand)}{vs:List (Nat×Value)}(h:EG L ρ)(Z:P.underlying t=some (.array k e))(aa:zeroOf P t=some z)(ab:Bl P e=some K)(ac:U.toList.mapM (λq=>(ev L q.2).map λv=>(q.1,v))=some vs)(O:(Instr.fill (λi=>some (i*K,K)) z.cells vs).map Value.agg=some v):Yl P ⟨d,.build t U,ty,p,af,g⟩ ρ s v:=by
 refine Ft Oa ?_;unfold Instr.build;refine As (x:=zeroValue t) _ (Hm aa ?_);refine As _ _ (Ce Z ?_);refine As (x:=Go.sizeOf e) _ (ED ab ?_);have ae:=Od h ac;have ag:(U.map λ(j,x)=>(j,ρ x)).toList=vs:=by rw [← ae,Array.toList_map]
 rw [ag];cases Y:Instr.fill (λi=>some (i*K,K)) z.cells vs with
 | none=>rw [Y] at O;cases O
 | some cells=>rw [Y] at O;cases O;exact⟨rfl,rfl⟩
end
end Pal
namespace Pal
open Go Go.Conc
section
variable {P:Program}{E H:LH}{S:List Seg}{t e:TypeId}
end
section
variable {P:Program}{J:Judge P}{Q:Gs_}{b:Frame}{n:Nat}{ds:Ld_}{ops:Ao_}{k:Li_}{cs:Lf_}{m fuel:Nat}{D:Nat->Bool}{listed:Array Bool}{L:Env}{s:St}{E E' H:LH}{S:List Seg}
variable {d:Option Tmp}{x y:Operand}{t u ty e e2:TypeId}{p:String}{af:Ae_}{g:On_}{v:Value}{i:Nat}{kd:IntKind}
end
end Pal
namespace Pal
open Go Go.Conc
def GH(b:Frame)(T:Av_)(ds:Ld_)(todo:Li_)(ch:List PanicEntry):Frame:={b with tmps:=T,todo:=todo,defers:=ds,mode:= .panicking ch}
def raised(v:Value):List PanicEntry:= [{v,recovered:=false}]
def taken(v:Value):List PanicEntry:= [{v,recovered:=true}]
section
variable {P:Program}(J:Judge P)(Q:Gs_)
def JP(b:Frame)(n:Nat)(L:Env)(ds:Ld_)(cs:Lf_)(ch:List PanicEntry)(s:St):Prop:=
 ∀T,Has n L T->∀todo,J.ok Q (G (GH b T ds todo ch) cs) s
end
section
variable {P:Program}{J:Judge P}{Q:Gs_}{b bc:Frame}{n:Nat}{L L':Env}{ds dsc:Ld_}{k:Li_}{cs:Lf_}{s:St}{ch:List PanicEntry}{T Tc:Av_}{todoc:Li_}
variable {ops:Ao_}{i:Nat}{rest:List Nat}{d:Option Tmp}{x:Operand}{ty:TypeId}{p:String}{af:Ae_}{g:On_}{v:Value}
theorem JL.panic{t:TypeId}(O:ops[i]? =some ⟨d,.panic x,ty,p,af,g⟩)(U:b.roundOf=none)(hw:AM L ops ⟨d,.panic x,ty,p,af,g⟩=some true)(Y:ev L x=some (.iface t v))
  (h:JP J Q b n L ds cs (raised (.iface t v)) s):JL J Q b n L ds (.inRegion ops (i::rest)::k) cs s:=λT K=>
 Judge.CY rfl (λw=>by
  have he:execOp (Bs T) ⟨d,.panic x,ty,p,af,g⟩= .halt (.panic (.iface t v)):=by
   simp [execOp,Instr.panic,K.ev Y,goPanic,bind,Sem.bind]
  rw [stepG_op O (BX K hw)]
  simp [U,stepG.apply,he,Sem.run,Sem.runT,Sem.events,GStep.after,fr,GH,Frame.raise,G,raised,seen_none]) (h T K (.inRegion ops (i::rest)::k))
theorem JP.pop{fn:Func}(K:P.funcs[b.fn]? =some fn)(h:J.ok Q (G (GH bc Tc dsc todoc ch) cs) s):JP J Q b n L [] (fr bc Tc dsc todoc::cs) ch s:=λT O todo=>
 Judge.CY rfl (λw=>by simp [G,stepG,unwind,GH,fr,Frame.raise,Frame.catches,K]) h
theorem JP.O4{f:FuncId}{fn:Func}{c:Code}{vs caps:Lv_}(ag:b.roundOf=none)(O:P.funcs[f]? =some fn)(Y:(fn.name== "runtime.NumGoroutine")=false)(hb:fn.body=some c)(Z:(vs++caps).length<=fn.ntmps)
  (h:∀T,Has n L T->∀todo,JL J Q (baseD f) fn.ntmps (F2 0 (vs++caps)) [] [.code c] (GH b T ds todo ch::cs) s):JP J Q b n L (Kk f vs.toArray caps.toArray::ds) cs ch s:=λT aa todo=>by
 have ab:¬fn.name= "runtime.NumGoroutine" :=by simpa using Y
 refine Judge.CY rfl (λw=>?_) (h T aa todo ((vs++caps).toArray++Array.replicate (fn.ntmps - (vs++caps).length) undef) ⟨by simp;simp at Z;omega,λt v ac=>?_⟩)
 ·rw [BE (b:=baseD f) rfl];have:=enter_atD (P:=P) (vs++caps).toArray O hb;simp only [List.size_toArray] at this;rw [← this];simp [G,stepG,unwind,callDeferred,GH,Kk,invoke,callFunc,O,ab,hb,GStep.after,seen_none]
 ·obtain⟨_,K⟩:=Jf ac;have ae:t<(vs++caps).length:=by
   rcases Nat.lt_or_ge t (vs++caps).length with U | U
   ·exact U
   ·simp only [Nat.sub_zero] at K;have:=(List.getElem?_eq_some_iff.1 K).1;omega
  rw [Array.getD_eq_getD_getElem?,Array.getElem?_append_left (by simpa using ae)];simp only [Nat.sub_zero] at K;rw [List.getElem?_toArray,K];rfl
theorem T0{ats:Array TypeId}{K:List PanicEntry}(O:ops[i]? =some ⟨d,.call ⟨.builtin .recover,#[],ats⟩,ty,p,af,g⟩)(U:b.roundOf=none)(Y:b.kind= .deferred)(ab:Bg n d=true)(hw:AM L ops ⟨d,.call ⟨.builtin .recover,#[],ats⟩,ty,p,af,g⟩=some true)
  (h:JL J Q b n (Au L d v) ds (.inRegion ops rest::k) (GH bc Tc dsc todoc ({v,recovered:=true}::K)::cs) s):
  JL J Q b n L ds (.inRegion ops (i::rest)::k) (GH bc Tc dsc todoc ({v,recovered:=false}::K)::cs) s:=λT Z=>
 Judge.CY rfl (λw=>by
  have he:execOp (Bs T) ⟨d,.call ⟨.builtin .recover,#[],ats⟩,ty,p,af,g⟩= .pure .recover:=by
   simp [execOp,resolve,Deferred.ofValue,invoke,bind,Sem.bind,pure,Go.builtin]
  have aa:=Ge (b:=b) (ds:=ds) (k:=k) T ops i rest v _ O
  simp only [fr,U,Y] at aa
  rw [stepG_op O (BX Z hw)]
  simp [U,Y,stepG.apply,he,Sem.run,Sem.runT,Sem.events,GStep.after,fr,GH,tryRecover,G,seen_none,aa]) (h _ (Z.put ab _))
theorem T4{ats:Array TypeId}(K:ops[i]? =some ⟨d,.call ⟨.builtin .recover,#[],ats⟩,ty,p,af,g⟩)(O:b.roundOf=none)(U:b.kind= .deferred)(aa:Bg n d=true)(hw:AM L ops ⟨d,.call ⟨.builtin .recover,#[],ats⟩,ty,p,af,g⟩=some true)
  (h:JL J Q b n (Au L d .nilIface) ds (.inRegion ops rest::k) (Ed bc Tc dsc todoc::cs) s):
  JL J Q b n L ds (.inRegion ops (i::rest)::k) (Ed bc Tc dsc todoc::cs) s:=λT Y=>
 Judge.CY rfl (λw=>by
  have he:execOp (Bs T) ⟨d,.call ⟨.builtin .recover,#[],ats⟩,ty,p,af,g⟩= .pure .recover:=by
   simp [execOp,resolve,Deferred.ofValue,invoke,bind,Sem.bind,pure,Go.builtin]
  have Z:=Ge (b:=b) (ds:=ds) (k:=k) T ops i rest .nilIface _ K
  simp only [fr,O,U] at Z
  rw [stepG_op K (BX Y hw)]
  simp [O,U,stepG.apply,he,Sem.run,Sem.runT,Sem.events,GStep.after,fr,Ed,tryRecover,G,seen_none,Z]) (h _ (Y.put aa _))
theorem JO.X8{fn:Func}(O:b.kind= .deferred)(U:P.funcs[b.fn]? =some fn)(K:fn.results= #[])(h:J.ok Q (G (Ed bc Tc dsc todoc) cs) s):JO J Q b n L [] (GH bc Tc dsc todoc (taken v)::cs) s:=λT Z todo=>by
 refine Judge.CY rfl (λw=>?_) h
 have Y:=results_none K T P w
 have e2:=λ(x:Array Event)=>events_results_none (P:=P) (w:=w) K T x
 simp [G,stepG,unwind,Ed,GH,U,Y,e2,doReturn,O,GStep.after,seen_none,taken]
end
end Pal
namespace Pal
open Go Go.Conc Go.Proofs
abbrev Dq:=Int×Int×Int
abbrev Ay:=List Dq
abbrev AV:=List Ay
abbrev A1:=List (List Int)
abbrev AY:=A1×Ay
abbrev Ax:=rP rI DL
open Go.Proofs.Tryz
def Az:=AQ Tryz.type3
def Bp:=AQ Tryz.type27
def FO:=AQ Tryz.type101
def Hk:=AQ Tryz.type105
def Mj:=AQ Tryz.type227
def A4:=Cp Tryz.underlying3
def K9:=A7 Tryz.func91 rfl
def Fs:=AQ Tryz.type22
def FM:=Cp Tryz.underlying22
def GU:=AQ Tryz.type23
def IJ:=Cp Tryz.underlying23
def DX:=Cp Tryz.underlying27
def BK:=CQ Tryz.type27
def Dy:=AQ Tryz.type28
def Gc:=Cp Tryz.underlying28
def Im:=CQ Tryz.type105
def Db:=AQ Tryz.type25
def GQ:=Cp Tryz.underlying105
def IK:=CQ Tryz.type101
def Hj:=CQ Tryz.type77
def FN:=Cp Tryz.underlying25
def Dl:=AQ Tryz.type77
def FL:=Cp Tryz.underlying77
def Cd:=CQ Tryz.type3
def JV:=A7 Tryz.func70 rfl
def Mg:=A7 Tryz.func84 rfl
def HO:=A7 Tryz.func74 rfl
def Je:=AQ Tryz.type4
def Mb:=Cp Tryz.underlying4
def Bh:=AQ Tryz.type80
def Bz:=Cp Tryz.underlying80
def Hl:=AQ Tryz.type197
def Hi:=A7 Tryz.func85 rfl
def JW:=CQ Tryz.type28
def La:=CQ Tryz.type4
def Md:=A7 Tryz.func115 rfl
def Kz:=CQ Tryz.type209
def HN:=A7 Tryz.func204 rfl
def NR:=CQ Tryz.type80
def L9:=Cp Tryz.underlying167
def NJ:=Cp Tryz.underlying83
def NQ:=A7 Tryz.func71 rfl
def NK:=A7 Tryz.func205 rfl
def NL:=A7 Tryz.func179 rfl
def NM:=A7 Tryz.func137 rfl
def Mc:=A7 Tryz.func114 rfl
def JU:=Cp Tryz.underlying197
def NP:=CQ Tryz.type227
def L8:=Cp Tryz.underlying227
def Jc:=AQ Tryz.type156
def Mf:=CQ Tryz.type156
def L6:=Cp Tryz.underlying156
def GR:=Cp Tryz.underlying21
def Mk:=AQ Tryz.type85
def Jb:=CQ Tryz.type25
def Me:=A7 Tryz.func67 rfl
def NN:=A7 Tryz.func110 rfl
def Mh:=A7 Tryz.func63 rfl
def K8:=A7 Tryz.func29 rfl
def Jd:=AQ Tryz.type72
def Ma:=Cp Tryz.underlying72
def Ky:=A7 Tryz.func36 rfl
def NO:=A7 Tryz.func37 rfl
theorem mixed:Tryz.prog.follows .mixedOrders=true:=rfl
theorem ZM:BW Tryz.prog 27 (rP rI (rP rI rI)) true 2:=BW.three underlying27 (BW.int underlying3 Az) (BW.int underlying3 Az) (BW.int underlying3 Az) (by decide+kernel) (by decide) (by decide) (by decide) rfl rfl rfl Bp
theorem X4:BW Tryz.prog 101 (rP rI rI) true 2:=BW.two underlying101 (BW.int underlying3 Az) (BW.int underlying3 Az) (by decide+kernel) (by decide) (by decide) rfl rfl FO
theorem Se:BW Tryz.prog 105 (rA 5 rI) true 2:=BW.arr (kk:=5) (BW.int underlying3 Az) underlying105 Hk
theorem YH:BW Tryz.prog 225 (rA 10 rI) true 2:=BW.arr (kk:=10) (BW.int underlying3 Az) underlying225 (AQ type225)
theorem Sc:BW Tryz.prog 227 (rA 5 (rA 10 rI)) true 3:=BW.arr (kk:=5) YH underlying227 Mj
theorem Yt:BW Tryz.prog 249 (rP (rN .u8) (rA 5 (rA 10 rI))) true 4:=BW.two underlying249 ((BW.nat underlying5 (AQ type5)).up (by decide)) Sc (by decide+kernel) (by decide) (by decide) rfl rfl (AQ type249)
theorem IB:Gl Tryz.prog 3 rI false:=(BW.int underlying3 Az).key (by decide)
theorem O2:Gl Tryz.prog 101 (rP rI rI) true:=X4.key (by decide)
theorem SL:Gl Tryz.prog 227 (rA 5 (rA 10 rI)) true:=Sc.key (by decide)
theorem SC:Gl Tryz.prog 249 (rP (rN .u8) (rA 5 (rA 10 rI))) true:=Yt.key (by decide)
end Pal
namespace Pal
open Go Go.Conc Go.Proofs
open Go.Proofs.Tryz
variable {J:Judge Tryz.prog}{E:LH}
def f91(fu_:Nat)(p0:Int)(K:Int)(p2:Int):Option Bool:= Option.bind (if K<=p0 then(some (decide (p0<=p2))) else(some false)) λO=> some O
theorem LU{p0:Int}{K:Int}{p2:Int}{fu_:Nat}{r:Bool}(O:f91 fu_ p0 K p2=some r):AL J 91 [iV p0,iV K,iV p2] E [] (λw E' B'=>w= .bool r/\B'= []):=by
 refine Bi func91 λQ ak cs H U Z=>?_;unfold f91 at O;obtain⟨aa,ab,ac⟩:=bs O;refine zg 10 rfl (Fj 8 1 [] [(14,.bool aa)] (λal ae ag=>?_) (λY=>?_))
 ·refine zg 2 rfl ?_;obtain rfl:=oi ac;exact AX func91 rfl rfl (Z ae rfl ⟨rfl,rfl⟩ ag)
 ·refine I1 10 ab (λah ai=>?_) (λah aj=>?_)
  ·refine zg 4 rfl ?_;obtain rfl:=oi ai;exact Y Aw U rfl
  ·refine zg 4 rfl ?_;obtain rfl:=oi aj;exact Y Aw U rfl
def f86(fu_:Nat)(p0:Int×Int×Int)(K:Int)(p2:Int):Option Int:= (Av (K - 1)).bind λO=> (f91 fu_ p0.1 0 O).bind λU=> Option.bind (if(!U)=true then(some true) else((Av (K - 1)).bind λY=> (f91 fu_ p0.2.1 0 Y).bind λZ=> some (!Z))) λaa=> if aa=true then(some 3) else(if p0.1=p0.2.1 then(some 8) else((f91 fu_ p0.2.2 1 p2).bind λab=> if(!ab)=true then(some 1) else(some 0)))
theorem Y4{p0:Int×Int×Int}{ab:Int}{p2:Int}{fu_:Nat}{r:Int}(ac:f86 fu_ p0 ab p2=some r):AL J 86 [.agg #[iV p0.1,iV p0.2.1,iV p0.2.2],iV ab,iV p2] E [] (λw E' B'=>w=iV r/\B'= []):=by
 refine Bi func86 λQ aS cs H aj Y=>?_;unfold f86 at ac;refine zg 2 rfl (Dg aj λr2 aT Z U ak=>?_);refine zg 6 rfl (B5 0 U underlying27 Az A4 ?_);obtain⟨aU,al,am⟩:=bs ac;refine zg 1 rfl (Cg al rfl rfl rfl ?_);obtain⟨an,ao,ap⟩:=bs am;refine CM (LU ao) rfl rfl K9 ak λaV K ae=>Am (v:= .bool (!an)) rfl (λρ h=>Yl.not (h _ _ rfl)) ?_;obtain⟨aq,ar,au⟩:=bs ap;refine zg 1 rfl (Fj 14 1 [] [(2,iV p2),(3,Aj r2 0),(21,.bool aq)] (λaW O aa=>?_) (λag=>?_))
 ·refine zg 2 rfl (CC au (λav aw=>?_) (λav ay=>?_))
  ·refine zg 4 rfl ?_;obtain rfl:=oi aw;exact AX func86 rfl rfl (Y ((Z.Ad K).Ad O) rfl ⟨rfl,rfl⟩ aa)
  ·refine zg 2 rfl (B5 0 (U.Ag (K.Ad O)) underlying27 Az A4 ?_);refine B5 1 (U.Ag (K.Ad O)) underlying27 Az A4 ?_;refine zg 3 rfl (AS ay (λaz aA=>?_) (λaz aB=>?_))
   ·refine zg 4 rfl ?_;obtain rfl:=oi aA;exact AX func86 rfl rfl (Y ((Z.Ad K).Ad O) rfl ⟨rfl,rfl⟩ aa)
   ·refine zg 2 rfl (B5 2 (U.Ag (K.Ad O)) underlying27 Az A4 ?_);obtain⟨aC,aD,aE⟩:=bs aB;refine zg 1 rfl (CM (LU aD) rfl rfl K9 aa λaX ah ai=>?_);refine Am (v:= .bool (!aC)) rfl (λρ h=>Yl.not (h _ _ rfl)) (zg 2 rfl ?_);refine CC aE (λaF aG=>?_) (λaF aH=>?_)
    ·refine zg 4 rfl ?_;obtain rfl:=oi aG;exact AX func86 rfl rfl (Y (((Z.Ad K).Ad O).Ad ah) rfl ⟨rfl,rfl⟩ ai)
    ·refine zg 6 rfl ?_;obtain rfl:=oi aH;exact AX func86 rfl rfl (Y (((Z.Ad K).Ad O).Ad ah) rfl ⟨rfl,rfl⟩ ai)
 ·refine Et 14 ar (λaI aJ=>?_) (λaI aK=>?_)
  ·refine zg 7 rfl ?_;obtain rfl:=oi aJ;exact ag Aw ae rfl
  ·refine B5 1 (U.Ag K) underlying27 Az A4 ?_;obtain⟨aY,aL,aM⟩:=bs aK;refine zg 1 rfl (Cg aL rfl rfl rfl ?_);obtain⟨aN,aO,aP⟩:=bs aM;refine CM (LU aO) rfl rfl K9 ae λaZ aQ aR=>Am (v:= .bool (!aN)) rfl (λρ h=>Yl.not (h _ _ rfl)) (zg 1 rfl ?_);obtain rfl:=oi aP;exact ag aQ aR rfl
def Ng(fu_:Nat)(O:List Int)(K:Int):Option (Bj Int ((Int)⊕(Unit))):= if K<(O.length:Int) then((ix O K).bind λU=> (f91 fu_ U 1 9).bind λY=> if(!Y)=true then(some (.done (Sum.inl 1))) else((Av (K+1)).bind λZ=> some (.more Z))) else(some (.done (Sum.inr ())))
def Nh(fu_:Nat)(p0:AY)(K:Int):Option (Bj Int ((Int)⊕(Unit))):= if K<(p0.1.length:Int) then((ix p0.1 K).bind λO=> if 3<(O.length:Int) then(some (.done (Sum.inl 6))) else(Option.bind (iter (Ng fu_ O) fu_ 0) λU=> Sum.elim (λr=>some (.done (Sum.inl r))) (λZ=> (Av (K+1)).bind λY=> some (.more Y)) U)) else(some (.done (Sum.inr ())))
def Sl(fu_:Nat)(p0:AY)(K:Int):Option (Bj Int ((Int)⊕(Unit))):= if K<(p0.2.length:Int) then((ix p0.2 K).bind λU=> (f86 fu_ U (p0.1.length:Int) 9).bind λO=> if O≠0 then(some (.done (Sum.inl O))) else((Av (K+1)).bind λY=> some (.more Y))) else(some (.done (Sum.inr ())))
def f47(fu_:Nat)(p0:AY):Option Int:= if(p0.1.length:Int)<2 then(some 7) else(if 5<(p0.1.length:Int) then(some 6) else(Option.bind (iter (Nh fu_ p0) fu_ 0) λK=> Sum.elim (λr=>some r) (λU=> if 8<(p0.2.length:Int) then(some 6) else(Option.bind (iter (Sl fu_ p0) fu_ 0) λO=> Sum.elim (λr=>some r) (λY=> some 0) O)) K))
theorem YV{a1:Ao}{c2:Nat}{aj:Ao}{ak:Nat}{p0:AY}(aV:Al (rL rI) E a1 c2 p0.1)(aW:Al Ax E aj ak p0.2){fu_:Nat}{r:Int}(av:f47 fu_ p0=some r):AL J 47 [.agg #[sV a1 p0.1 c2,sV aj p0.2 ak]] E [] (λw E' B'=>w=iV r/\B'= []):=by
 refine Bi func47 λQ cv cs H aX O=>?_;unfold f47 at av;refine zg 2 rfl (Dg aX λY aY K Z al=>?_);refine zg 5 rfl (B5 0 Z underlying25 Fs FM ?_);refine JL.ln underlying22 rfl rfl rfl (zg 9 rfl ?_);refine AS av (λaZ a0=>?_) (λaZ a2=>?_)
 ·refine zg 4 rfl ?_;obtain rfl:=oi a0;exact AX func47 rfl rfl (O K rfl ⟨rfl,rfl⟩ al)
 ·refine zg 6 rfl (AS a2 (λa3 a4=>?_) (λa3 a5=>?_))
  ·refine zg 4 rfl ?_;obtain rfl:=oi a4;exact AX func47 rfl rfl (O K rfl ⟨rfl,rfl⟩ al)
  ·refine zg 5 rfl (B5 0 Z underlying25 Fs FM ?_);refine JL.ln underlying22 rfl rfl rfl ?_;obtain⟨aw,a6,am⟩:=bs a5;refine zg 2 rfl (Bq (λL s=>∃(ay:Unit) (an:LH),aw=Sum.inr ay/\Jm aY H an [] [(1,Aj Y 0)] L s) ?_ ?_)
   ·rintro _ _ ⟨ay,an,rfl,rfl,rfl,U,az⟩;have a7:=elim_inr am;refine zg 3 rfl (B5 1 (Z.Ag U) underlying25 GU IJ ?_);refine JL.ln underlying23 rfl rfl rfl (zg 2 rfl ?_);refine AS a7 (λa8 a9=>?_) (λa8 ba=>?_)
    ·refine zg 4 rfl ?_;obtain rfl:=oi a9;exact AX func47 rfl rfl (O (K.Ad U) rfl ⟨rfl,rfl⟩ az)
    ·refine zg 4 rfl (B5 1 (Z.Ag U) underlying25 GU IJ ?_);refine JL.ln underlying23 rfl rfl rfl ?_;obtain⟨aA,bb,aB⟩:=bs ba;refine zg 2 rfl (Bq (λL s=>∃(aC:Unit) (aD:LH),aA=Sum.inr aC/\Jm an H aD [] [] L s) ?_ ?_)
     ·rintro _ _ ⟨aC,aD,rfl,rfl,rfl,be,bf⟩;have bg:=elim_inr aB;refine zg 4 rfl ?_;obtain rfl:=oi bg;exact AX func47 rfl rfl (O ((K.Ad U).Ad be) rfl ⟨rfl,rfl⟩ bf)
     ·intro bh;refine JL.block (Dh bb (λao=> []) (λao=> [(1,Aj Y 0),(46,sV aj p0.2 ak),(47,iV (p0.2.length:Int)),(48,iV ao)]) Aw az ?_);rintro ao bi aa aE aF ⟨cw,ag⟩ bj;have aG:=ag;unfold Sl at aG;refine zg 5 rfl (AS aG (λbl bm=>?_) (λbl bn=>?_))
      ·obtain⟨cy,bo,bp⟩:=bs bm;refine zg 5 rfl (JS.ix (aW.Ag ((K.Ad U).Ad aa)) bo underlying23 Bp ?_);rintro cz cA _ ⟨_,_,rfl,rfl,⟨_,_,rfl,rfl,rfl⟩⟩ bq;refine Cw bq DX Bp rfl rfl (BI aE BK λcB br=>?_);refine BB 0 br Bp λbu=>?_;refine CP 0 bu rfl λcC ap bv bw=>zg 3 rfl (Cw bv DX Bp rfl rfl ?_);refine B5 0 (Z.Ag ((U.Ad aa).Ad ap)) underlying25 Fs FM ?_;refine JL.ln underlying22 rfl rfl rfl ?_;obtain⟨cD,bx,bz⟩:=bs bp;refine CM (Y4 bx) rfl rfl (A7 func86 rfl) bw λcE aH aI=>zg 7 rfl (AS bz (λbA bB=>?_) (λbA bC=>?_))
       ·refine zg 5 rfl ?_;obtain rfl:=oi bB;obtain rfl:=aF _ ag;have bD:=elim_inl aB;obtain rfl:=oi bD;exact AX func47 rfl rfl (O ((((K.Ad U).Ad aa).Ad ap).Ad aH) rfl ⟨rfl,rfl⟩ aI)
       ·obtain⟨bE,bF,bG⟩:=bs bC;refine zg 3 rfl (Bm bF rfl rfl rfl ?_);refine zg 2 rfl ?_;obtain rfl:=oi bG;exact bj bE ((aa.Ad ap).Ad aH) aI rfl ag
      ·refine JL.exit rfl ?_;obtain rfl:=oi bn;have bH:aA=(Sum.inr ()):=(aF _ ag).symm;exact AA (bh _ _ ⟨(),bi,bH,rfl,rfl,aa,aE⟩) rfl
   ·intro bI;refine JL.block (Dh a6 (λab=> []) (λab=> [(1,Aj Y 0),(21,sV a1 p0.1 c2),(22,iV (p0.1.length:Int)),(23,iV ab)]) Aw al ?_);rintro ab aJ ac aq ar ⟨cF,ae⟩ bJ;have aK:=ae;unfold Nh at aK;refine zg 5 rfl (AS aK (λbK bL=>?_) (λbK bM=>?_))
    ·obtain⟨aL,bN,bO⟩:=bs bL;refine zg 5 rfl (JS.ix (aV.Ag (K.Ad ac)) bN underlying22 Dy ?_);rintro cG cH _ ⟨bP,bQ,rfl,bR⟩ bS;refine Ch 0 bS Gc rfl rfl rfl (zg 6 rfl ?_);refine JL.ln underlying28 rfl rfl rfl (zg 2 rfl ?_);refine AS bO (λbT bU=>?_) (λbT bV=>?_)
     ·refine zg 4 rfl ?_;obtain rfl:=oi bU;obtain rfl:=ar _ ae;have bW:=elim_inl am;obtain rfl:=oi bW;exact AX func47 rfl rfl (O (K.Ad ac) rfl ⟨rfl,rfl⟩ aq)
     ·refine zg 4 rfl (JL.ln underlying28 rfl rfl rfl ?_);obtain⟨aM,bY,aN⟩:=bs bV;refine zg 2 rfl (Bq (λL s=>∃(aO:Unit) (aP:LH),aM=Sum.inr aO/\Jm aJ H aP [] [(1,Aj Y 0),(21,sV a1 p0.1 c2),(22,iV (p0.1.length:Int)),(23,iV ab)] L s) ?_ ?_)
      ·rintro _ _ ⟨aO,aP,rfl,rfl,rfl,bZ,b0⟩;have b1:=elim_inr aN;obtain⟨b2,b3,b4⟩:=bs b1;refine zg 2 rfl (Bm b3 rfl rfl rfl ?_);refine zg 2 rfl ?_;obtain rfl:=oi b4;exact bJ b2 (ac.Ad bZ) b0 rfl ae
      ·intro b5;refine JL.block (Dh bY (λau=> []) (λau=> [(1,Aj Y 0),(21,sV a1 p0.1 c2),(22,iV (p0.1.length:Int)),(23,iV ab),(30,sV bP aL bQ),(31,iV (aL.length:Int)),(32,iV au)]) Aw aq ?_);rintro au b6 ah aQ aR ⟨cI,ai⟩ b7;have aS:=ai;unfold Ng at aS;refine zg 5 rfl (AS aS (λb8 b9=>?_) (λb8 ca=>?_))
       ·obtain⟨cJ,cb,cc⟩:=bs b9;refine zg 5 rfl (JS.ix (bR.Ag ah) cb underlying28 Az ?_);rintro cK cM _ rfl cd;refine Ch 0 cd A4 rfl rfl rfl ?_;obtain⟨ce,cf,cg⟩:=bs cc;refine zg 5 rfl (CM (LU cf) rfl rfl K9 aQ λcN aT aU=>?_);refine Am (v:= .bool (!ce)) rfl (λρ h=>Yl.not (h _ _ rfl)) (JL.done ?_);refine CC cg (λci ck=>?_) (λci cm=>?_)
        ·refine zg 4 rfl ?_;obtain rfl:=oi ck;obtain rfl:=aR _ ai;have cn:=elim_inl aN;obtain rfl:=oi cn;obtain rfl:=ar _ ae;have co:=elim_inl am;obtain rfl:=oi co;exact AX func47 rfl rfl (O (((K.Ad ac).Ad ah).Ad aT) rfl ⟨rfl,rfl⟩ aU)
        ·obtain⟨cp,cq,cr⟩:=bs cm;refine zg 3 rfl (Bm cq rfl rfl rfl ?_);refine zg 2 rfl ?_;obtain rfl:=oi cr;exact b7 cp (ah.Ad aT) aU rfl ai
       ·refine JL.exit rfl ?_;obtain rfl:=oi ca;have ct:aM=(Sum.inr ()):=(aR _ ai).symm;exact AA (b5 _ _ ⟨(),b6,ct,rfl,rfl,ah,aQ⟩) rfl
    ·refine JL.exit rfl ?_;obtain rfl:=oi bM;have cu:aw=(Sum.inr ()):=(ar _ ae).symm;exact AA (bI _ _ ⟨(),aJ,cu,rfl,rfl,ac,aq⟩) rfl
def MY(fu_:Nat)(p0:AY)(O:(List Int)×Int):Option (Bj ((List Int)×Int) ((List Int))):= if O.2<(p0.2.length:Int) then((ix p0.2 O.2).bind λK=> (ix O.1 K.2.1).bind λY=> (Av (Y+K.2.2)).bind λU=> (ix O.1 K.2.1).bind λac=> (ix (O.1.set (Int.toNat K.2.1) U) K.1).bind λZ=> (Av (Z - K.2.2)).bind λaa=> (ix (O.1.set (Int.toNat K.2.1) U) K.1).bind λae=> (Av (O.2+1)).bind λab=> some (.more (((O.1.set (Int.toNat K.2.1) U).set (Int.toNat K.1) aa),ab))) else(some (.done O.1))
def f84(fu_:Nat)(p0:AY):Option ((List Int)):= Option.bind (iter (MY fu_ p0) fu_ ((List.replicate 5 (0:Int)),0)) λK=> some K
theorem Ni{a1:Ao}{c2:Nat}{av:Ao}{aw:Nat}{p0:AY}(bC:Al (rL rI) E a1 c2 p0.1)(aQ:Al Ax E av aw p0.2){fu_:Nat}{r:(List Int)}(aE:f84 fu_ p0=some r):AL J 84 [.agg #[sV a1 p0.1 c2,sV av p0.2 aw]] E [] (λw E' B'=>∃(aF:Lv_),w= .agg aF.toArray/\B'= []/\(rA 5 rI).r E' aF r):=by
 refine Bi func84 λQ bD cs H aR aS=>?_;unfold f84 at aE;refine zg 2 rfl (Dg aR λbE an aG aT aU=>?_);refine BI aU Im λao aV=>?_;refine zg 3 rfl (BI aV Im λU aW=>?_);refine zg 4 rfl (JL.fd underlying77 Db rfl rfl rfl ?_);refine B5 1 aT underlying25 GU IJ ?_;refine JL.ln underlying23 rfl rfl rfl ?_;obtain⟨aX,aY,aZ⟩:=bs aE;refine zg 2 rfl (Bq (λL s=>∃(aj:LH) (Y:Lv_),Jn an H aj [bX ao (([]:Lv_)++(List.replicate 5 (iV 0):Lv_)).toArray 105,bX U (([]:Lv_)++Y).toArray 105] [(2,Aj ao 0),(3,Aj U 0)] L s ((rA 5 rI).r aj Y aX)) ?_ ?_)
 ·rintro _ _ ⟨aj,Y,rfl,rfl,a0,aH,aa⟩;refine zg 2 rfl (Am (v:= .agg Y.toArray) rfl (λρ h=>Gu (kk:=5) (pp:=rI) aa GQ Hk (h _ _ rfl) (Gw (l:= []) 1 aH rfl)) ?_);refine Gd (v:= .agg Y.toArray) (l:= []) (ws:=(List.replicate 5 (iV 0):Lv_)) (us:=Y) (o:=0) 0 rfl rfl rfl aH rfl rfl rfl (by rw [BO (kk:=5) (pp:=rI) aa];exact AQ type105) ((rA 5 rI).one aa) rfl (by rw [BO (kk:=5) (pp:=rI) aa,BO (kk:=5) (pp:=rI) (EW (E:=aj) (pp:=rI) rfl)];omega) λaI=>?_;rw [Iq (by rw [BO (kk:=5) (pp:=rI) aa,BO (kk:=5) (pp:=rI) (EW (E:=aj) (pp:=rI) rfl)])] at aI ⊢;refine JL.done (JS.drop 1 aI rfl λaJ=>?_);obtain rfl:=oi aZ;refine JL.ret (v:= .agg Y.toArray) rfl rfl (Bx.list func84 rfl (vs:= [.agg Y.toArray]) ⟨⟨_,rfl,Ld.many (vs:=Y) GQ (by rw [BO (kk:=5) (pp:=rI) aa];exact AQ type105) (Gw (l:= []) 0 aJ rfl)⟩,trivial⟩) (Eg 0 aJ rfl λa2=>?_);exact aS (aG.Ad a0) rfl ⟨Y,rfl,rfl,aa⟩ a2
 ·intro a3;refine JL.block (Cj aY (λL s ac=>∃(ap:LH) (ae:Lv_),Jn an H ap [bX ao (([]:Lv_)++(List.replicate 5 (iV 0):Lv_)).toArray 105,bX U (([]:Lv_)++ae).toArray 105] [(2,Aj ao 0),(3,Aj U 0),(8,sV av p0.2 aw),(9,iV (p0.2.length:Int)),(10,iV ac.2)] L s ((rA 5 rI).r ap ae ac.1)) ⟨an,(List.replicate 5 (iV 0):Lv_),rfl,rfl,Aw,aW,(EW (E:=an) (pp:=rI) rfl)⟩ ?_);rintro _ _ ac ⟨ap,ae,rfl,rfl,ay,aK,ag⟩ a4 ⟨bF,az⟩ a5;have aL:=az;unfold MY at aL;refine zg 5 rfl (AS aL (λa6 a7=>?_) (λa6 a8=>?_))
  ·obtain⟨K,a9,ba⟩:=bs a7;refine zg 5 rfl (JS.ix (aQ.Ag (aG.Ad ay)) a9 underlying23 Bp ?_);rintro bG bH _ ⟨_,_,rfl,rfl,⟨_,_,rfl,rfl,rfl⟩⟩ bb;refine Cw bb DX Bp rfl rfl (BI aK BK λbI be=>?_);refine BB 2 be Bp λbf=>?_;refine CP 2 bf rfl λaA ah aq ak=>zg 2 rfl (EY 6 [U] ⟨⟨1,_,rfl⟩,trivial⟩ ak λO=>?_);refine JG.fd 0 O underlying27 Az rfl rfl rfl rfl (JG.lp 1 O 1 aq ak ⟨⟨1,_,rfl⟩,trivial⟩ A4 ?_);obtain⟨bg,aM,bh⟩:=bs ba;obtain⟨_,rfl,_,_,bi⟩:=Gt (kk:=5) (pp:=rI) (Rp.Ag _ ah ag) aM;refine AK (v:= .pointer (some ⟨U,0+Int.toNat (K.2.1)*1,none⟩)) 2 O rfl rfl (λρ h s' al=>Ho (kk:=5) (pp:=rI) (Rp.Ag _ ah ag) aM underlying105 Az (h _ _ rfl) (h _ _ rfl)) (AK (v:=iV bg) 3 O rfl rfl (λρ h s' al=>Yl.load A4 (h _ _ rfl) (Lh (l:= []) 1 ak rfl (by simp [AT]) al (bi 0 _ rfl))) ?_);refine JG.fd 4 O underlying27 Az rfl rfl rfl rfl (JG.lp 5 O 2 aq ak ⟨⟨1,_,rfl⟩,trivial⟩ A4 ?_);refine Dd [6,7,8] ?_;obtain⟨Z,bj,bl⟩:=bs bh;refine Bm bj rfl rfl rfl ?_;obtain⟨bJ,aB,bm⟩:=bs bl;obtain⟨_,rfl,_,_,bK⟩:=Gt (kk:=5) (pp:=rI) (Rp.Ag _ ah ag) aB;refine Am (v:= .pointer (some ⟨U,0+Int.toNat (K.2.1)*1,none⟩)) rfl (λρ h=>Ho (kk:=5) (pp:=rI) (Rp.Ag _ ah ag) aB underlying105 Az (h _ _ rfl) (h _ _ rfl)) ?_;have ar:=LD (us:= [iV Z]) (y:=Z) (Rp.Ag _ ah ag) aB rfl;refine Gd (v:=iV Z) (l:= []) (ws:=ae) (us:= [iV Z]) (o:=Int.toNat (K.2.1)*1) 1 rfl rfl rfl ak rfl rfl rfl Az (by simp [Value.cells,CU]) rfl ar.2 λai=>?_;replace ar:=ar.1;generalize bn:HD ae (Int.toNat (K.2.1)*1) [iV Z]=aC at ai ⊢;have am:(rA 5 rI).r aA aC (ac.1.set (Int.toNat K.2.1) Z):=by rw [← bn];exact ar
   refine JL.done (EY 6 [U] ⟨⟨1,_,rfl⟩,trivial⟩ ai λO=>?_);refine JG.fd 0 O underlying27 Az rfl rfl rfl rfl (JG.lp 1 O 0 aq ai ⟨⟨1,_,rfl⟩,trivial⟩ A4 ?_);obtain⟨bo,aN,bp⟩:=bs bm;obtain⟨_,rfl,_,_,bq⟩:=Gt (kk:=5) (pp:=rI) am aN;refine AK (v:= .pointer (some ⟨U,0+Int.toNat (K.1)*1,none⟩)) 2 O rfl rfl (λρ h s' al=>Ho (kk:=5) (pp:=rI) am aN underlying105 Az (h _ _ rfl) (h _ _ rfl)) (AK (v:=iV bo) 3 O rfl rfl (λρ h s' al=>Yl.load A4 (h _ _ rfl) (Lh (l:= []) 1 ai rfl (by simp [AT]) al (bq 0 _ rfl))) ?_);refine JG.fd 4 O underlying27 Az rfl rfl rfl rfl (JG.lp 5 O 2 aq ai ⟨⟨1,_,rfl⟩,trivial⟩ A4 ?_);refine Dd [6,7,8] ?_;obtain⟨ab,br,bu⟩:=bs bp;refine Cg br rfl rfl rfl ?_;obtain⟨bL,aD,bv⟩:=bs bu;obtain⟨_,rfl,_,_,bM⟩:=Gt (kk:=5) (pp:=rI) am aD;refine Am (v:= .pointer (some ⟨U,0+Int.toNat (K.1)*1,none⟩)) rfl (λρ h=>Ho (kk:=5) (pp:=rI) am aD underlying105 Az (h _ _ rfl) (h _ _ rfl)) ?_;have au:=LD (us:= [iV ab]) (y:=ab) am aD rfl;refine Gd (v:=iV ab) (l:= []) (ws:=aC) (us:= [iV ab]) (o:=Int.toNat (K.1)*1) 1 rfl rfl rfl ai rfl rfl rfl Az (by simp [Value.cells,CU]) rfl au.2 λaO=>?_;replace au:=au.1;generalize bw:HD aC (Int.toNat (K.1)*1) [iV ab]=aP at aO ⊢;have bx:(rA 5 rI).r aA aP ((ac.1.set (Int.toNat K.2.1) Z).set (Int.toNat K.1) ab):=by rw [← bw];exact au
   obtain⟨bz,bA,bB⟩:=bs bv;refine zg 3 rfl (Bm bA rfl rfl rfl ?_);refine zg 2 rfl ?_;obtain rfl:=oi bB;exact AA (a5 _ _ (((ac.1.set (Int.toNat K.2.1) Z).set (Int.toNat K.1) ab),bz) ⟨aA,aP,rfl,rfl,(ay.Ad ah),aO,bx⟩ az) rfl
  ·refine JL.exit rfl ?_;obtain rfl:=oi a8;obtain rfl:=a4 _ az;exact AA (a3 _ _ ⟨ap,ae,rfl,rfl,ay,aK,ag⟩) rfl
def f204(fu_:Nat)(p0:List Int)(K:Int×Int×Int):Option ((List Int)):= (ix p0 K.1).bind λU=> (Av (U+K.2.2)).bind λO=> (ix p0 K.1).bind λaa=> (ix (p0.set (Int.toNat K.1) O) K.2.1).bind λY=> (Av (Y - K.2.2)).bind λZ=> (ix (p0.set (Int.toNat K.1) O) K.2.1).bind λab=> some ((p0.set (Int.toNat K.1) O).set (Int.toNat K.2.1) Z)
theorem H2{w1:Lv_}{p0:List Int}{K:Int×Int×Int}(ae:(rA 5 rI).r E w1 p0){fu_:Nat}{r:(List Int)}(ar:f204 fu_ p0 K=some r):AL J 204 [.agg w1.toArray,.agg #[iV K.1,iV K.2.1,iV K.2.2]] E [] (λw E' B'=>∃(au:Lv_),w= .agg au.toArray/\B'= []/\(rA 5 rI).r E' au r):=by
 refine Bi func204 λQ aT cs H aA aB=>?_;unfold f204 at ar;refine zg 2 rfl (JS.box (v:= .agg w1.toArray) rfl rfl rfl aA rfl λr3 aC=>?_);refine Dg aC λaU aj aa ak aD=>?_;refine BI aD Im λaV ag=>?_;refine zg 2 rfl (EY 6 [r3] ⟨⟨1,_,rfl⟩,trivial⟩ ag λO=>?_);refine JG.fd 0 O underlying27 Az rfl rfl rfl rfl (JG.lp 1 O 0 ak ag ⟨⟨1,_,rfl⟩,trivial⟩ A4 ?_);obtain⟨aE,av,aF⟩:=bs ar;obtain⟨_,rfl,_,_,aG⟩:=Gt (kk:=5) (pp:=rI) (Rp.Ag _ aa ae) av;refine AK (v:= .pointer (some ⟨r3,0+Int.toNat (K.1)*1,none⟩)) 2 O rfl rfl (λρ h s' ah=>Ho (kk:=5) (pp:=rI) (Rp.Ag _ aa ae) av underlying105 Az (h _ _ rfl) (h _ _ rfl)) (AK (v:=iV aE) 3 O rfl rfl (λρ h s' ah=>Yl.load A4 (h _ _ rfl) (Lh (l:= []) 1 ag rfl (by simp [AT]) ah (aG 0 _ rfl))) ?_);refine JG.fd 4 O underlying27 Az rfl rfl rfl rfl (JG.lp 5 O 2 ak ag ⟨⟨1,_,rfl⟩,trivial⟩ A4 ?_);refine Dd [6,7,8] ?_;obtain⟨Y,aH,aI⟩:=bs aF;refine Bm aH rfl rfl rfl ?_;obtain⟨aW,an,aJ⟩:=bs aI;obtain⟨_,rfl,_,_,aX⟩:=Gt (kk:=5) (pp:=rI) (Rp.Ag _ aa ae) an;refine Am (v:= .pointer (some ⟨r3,0+Int.toNat (K.1)*1,none⟩)) rfl (λρ h=>Ho (kk:=5) (pp:=rI) (Rp.Ag _ aa ae) an underlying105 Az (h _ _ rfl) (h _ _ rfl)) ?_;have al:=LD (us:= [iV Y]) (y:=Y) (Rp.Ag _ aa ae) an rfl;refine Gd (v:=iV Y) (l:= []) (ws:=w1) (us:= [iV Y]) (o:=Int.toNat (K.1)*1) 1 rfl rfl rfl ag rfl rfl rfl Az (by simp [Value.cells,CU]) rfl al.2 λab=>?_;replace al:=al.1;generalize aK:HD w1 (Int.toNat (K.1)*1) [iV Y]=ao at ab ⊢;have ai:(rA 5 rI).r aj ao (p0.set (Int.toNat K.1) Y):=by rw [← aK];exact al
 refine zg 2 rfl (EY 6 [r3] ⟨⟨1,_,rfl⟩,trivial⟩ ab λO=>?_);refine JG.fd 0 O underlying27 Az rfl rfl rfl rfl (JG.lp 1 O 1 ak ab ⟨⟨1,_,rfl⟩,trivial⟩ A4 ?_);obtain⟨aL,aw,aM⟩:=bs aJ;obtain⟨_,rfl,_,_,aN⟩:=Gt (kk:=5) (pp:=rI) ai aw;refine AK (v:= .pointer (some ⟨r3,0+Int.toNat (K.2.1)*1,none⟩)) 2 O rfl rfl (λρ h s' ah=>Ho (kk:=5) (pp:=rI) ai aw underlying105 Az (h _ _ rfl) (h _ _ rfl)) (AK (v:=iV aL) 3 O rfl rfl (λρ h s' ah=>Yl.load A4 (h _ _ rfl) (Lh (l:= []) 1 ab rfl (by simp [AT]) ah (aN 0 _ rfl))) ?_);refine JG.fd 4 O underlying27 Az rfl rfl rfl rfl (JG.lp 5 O 2 ak ab ⟨⟨1,_,rfl⟩,trivial⟩ A4 ?_);refine Dd [6,7,8] ?_;obtain⟨ac,aO,aP⟩:=bs aM;refine Cg aO rfl rfl rfl ?_;obtain⟨aY,ap,aQ⟩:=bs aP;obtain⟨_,rfl,_,_,aZ⟩:=Gt (kk:=5) (pp:=rI) ai ap;refine Am (v:= .pointer (some ⟨r3,0+Int.toNat (K.2.1)*1,none⟩)) rfl (λρ h=>Ho (kk:=5) (pp:=rI) ai ap underlying105 Az (h _ _ rfl) (h _ _ rfl)) ?_;have am:=LD (us:= [iV ac]) (y:=ac) ai ap rfl;refine Gd (v:=iV ac) (l:= []) (ws:=ao) (us:= [iV ac]) (o:=Int.toNat (K.2.1)*1) 1 rfl rfl rfl ab rfl rfl rfl Az (by simp [Value.cells,CU]) rfl am.2 λaq=>?_;replace am:=am.1;generalize aR:HD ao (Int.toNat (K.2.1)*1) [iV ac]=U at aq ⊢;have Z:(rA 5 rI).r aj U ((p0.set (Int.toNat K.1) Y).set (Int.toNat K.2.1) ac):=by rw [← aR];exact am
 refine zg 3 rfl (Am (v:= .agg U.toArray) rfl (λρ h=>Gu (kk:=5) (pp:=rI) Z GQ Hk (h _ _ rfl) (Gw (l:= []) 1 aq rfl)) ?_);refine Gd (v:= .agg U.toArray) (l:= []) (ws:=(List.replicate 5 (iV 0):Lv_)) (us:=U) (o:=0) 3 rfl rfl rfl aq rfl rfl rfl (by rw [BO (kk:=5) (pp:=rI) Z];exact AQ type105) ((rA 5 rI).one Z) rfl (by rw [BO (kk:=5) (pp:=rI) Z,BO (kk:=5) (pp:=rI) (EW (E:=aj) (pp:=rI) rfl)];omega) λay=>?_;rw [Iq (by rw [BO (kk:=5) (pp:=rI) Z,BO (kk:=5) (pp:=rI) (EW (E:=aj) (pp:=rI) rfl)])] at ay ⊢;refine JL.done (JS.drop 1 ay rfl λaz=>?_);obtain rfl:=oi aQ;refine JL.ret (v:= .agg U.toArray) rfl rfl (Bx.list func204 rfl (vs:= [.agg U.toArray]) ⟨⟨_,rfl,Ld.many (vs:=U) GQ (by rw [BO (kk:=5) (pp:=rI) Z];exact AQ type105) (Gw (l:= []) 3 az rfl)⟩,trivial⟩) (Eg 3 az rfl λaS=>?_);exact aB aa rfl ⟨U,rfl,rfl,Z⟩ aS
def f106(fu_:Nat)(p0:Int)(K:Int):Option Nat:= (Av (max p0 K - 1)).bind λO=> (ix ([1,2,4,8]:List Nat) O).bind λU=> (Av (4*(min p0 K))).bind λY=> (OR U Y).bind λZ=> some Z
theorem X0{p0:Int}{K:Int}{fu_:Nat}{r:Nat}(O:f106 fu_ p0 K=some r):AL J 106 [iV p0,iV K] E [] (λw E' B'=>w= .int .u32 ((r:Nat):Int)/\B'= []):=by
 refine Bi func106 λQ ak cs H U Y=>?_;unfold f106 at O;refine zg 8 rfl (Am (v:=iV (min p0 K)) rfl (λρ h=>Yl.min2 (h _ _ rfl) (h _ _ rfl)) ?_);refine zg 2 rfl (Am (v:=iV (max p0 K)) rfl (λρ h=>Yl.max2 (h _ _ rfl) (h _ _ rfl)) ?_);refine zg 5 rfl (Am (v:= .agg (([1,2,4,8]:List Nat).map λx=>Value.int .u32 ((x:Nat):Int)).toArray) rfl (λρ h=>Wp h underlying164 (CQ type164) (AQ type86) rfl rfl) ?_);obtain⟨al,Z,aa⟩:=bs O;refine zg 1 rfl (Cg Z rfl rfl rfl ?_);obtain⟨am,ab,ac⟩:=bs aa;refine SZ (Xj (E:=E) ([1,2,4,8]:List Nat)) ab rfl rfl rfl rfl rfl underlying164 (AQ type86) (Cp underlying86) ?_ (λ_=>rfl);rintro _ rfl;obtain⟨an,ae,ag⟩:=bs ac;refine zg 1 rfl (Am rfl (λρ h=>MH (h _ _ rfl) (h _ _ rfl) ae) ?_);obtain⟨ah,ai,aj⟩:=bs ag;refine Am (v:= .int .u32 ((ah:Nat):Int)) rfl (λρ h=>U5 (h _ _ rfl) (h _ _ rfl) ai) (zg 2 rfl ?_);obtain rfl:=oi aj;exact AX func106 rfl rfl (Y Aw rfl ⟨rfl,rfl⟩ U)
def f136(fu_:Nat)(p0:Nat)(K:Int)(p2:Int):Option Bool:= (f106 fu_ K p2).bind λO=> (ON p0 O).bind λU=> some (decide ((((U):Nat):Int)≠(((0):Nat):Int)))
theorem XU{p0:Nat}{K:Int}{p2:Int}{fu_:Nat}{r:Bool}(O:f136 fu_ p0 K p2=some r):AL J 136 [.int .u32 ((p0:Nat):Int),iV K,iV p2] E [] (λw E' B'=>w= .bool r/\B'= []):=by
 refine Bi func136 λQ ai cs H U Y=>?_;unfold f136 at O;obtain⟨aj,Z,aa⟩:=bs O;refine zg 9 rfl (CM (X0 Z) rfl rfl (A7 func106 rfl) U λak ab ac=>?_);obtain⟨ae,ag,ah⟩:=bs aa;refine Am (v:= .int .u32 ((ae:Nat):Int)) rfl (λρ h=>UK (h _ _ rfl) (h _ _ rfl) ag) (zg 3 rfl ?_);obtain rfl:=oi ah;exact AX func136 rfl rfl (Y ab rfl ⟨rfl,rfl⟩ ac)
def Rn(fu_:Nat)(O:(AF)×Int)(K:(AF)×Int):Option (Bj ((AF)×Int) ((AF))):= if K.2<O.2 then((room K.1 (K.2,O.2)).bind λU=> (Av (K.2+1)).bind λY=> some (.more (U,Y))) else(some (.done K.1))
def Rq(fu_:Nat)(p0:AY)(K:(AF)×Int):Option (Bj ((AF)×Int) ((AF))):= if K.2<(p0.1.length:Int) then(Option.bind (iter (Rn fu_ K) fu_ (K.1,0)) λO=> (Av (K.2+1)).bind λU=> some (.more (O,U))) else(some (.done K.1))
def f133(fu_:Nat)(p0:AY):Option ((AF)):= Option.bind (iter (Rq fu_ p0) fu_ ([],0)) λK=> some K
theorem X9{a1:Ao}{c2:Nat}{av:Ao}{aw:Nat}{p0:AY}(bz:Al (rL rI) E a1 c2 p0.1)(bA:Al Ax E av aw p0.2){fu_:Nat}{r:(AF)}(ay:f133 fu_ p0=some r):AL J 133 [.agg #[sV a1 p0.1 c2,sV av p0.2 aw]] E [] (λw E' B'=>∃(az:Ao) (aA:Nat),w= sV az r aA/\B'= []/\Al DL E' az aA r):=by
 refine Bi func133 λQ bB cs H aK aL=>?_;unfold f133 at ay;refine zg 2 rfl (Dg aK λbC an aM aN aO=>?_);refine zg 9 rfl (JL.fd underlying77 Db rfl rfl rfl ?_);refine B5 0 aN underlying25 Fs FM ?_;refine JL.ln underlying22 rfl rfl rfl ?_;obtain⟨aB,aP,aQ⟩:=bs ay;refine zg 2 rfl (Bq (λL s=>∃(ao:LH) (ag:Ao) (ah:Nat) (ap:Seg),Jn an H ao [ap] [(3,sV ag aB ah)] L s (OL 101 DL ao ag ah ap aB)) ?_ ?_)
 ·rintro _ _ ⟨ao,ag,ah,ap,rfl,rfl,aR,aS,aT⟩;refine zg 5 rfl (B8 0 aT aS rfl λbD aU aV aW=>?_);obtain rfl:=oi aQ;exact AX func133 rfl rfl (aL ((aM.Ad aR).Ad aU) rfl ⟨ag,ah,rfl,rfl,aV⟩ aW)
 ·intro aX;refine JL.block (Cj aP (λL s K=>∃(O:LH) (Y:Ao) (Z:Nat) (aa:Seg),Jn an H O [aa] [(3,sV Y K.1 Z),(9,iV (p0.1.length:Int)),(10,iV K.2)] L s (OL 101 DL O Y Z aa K.1)) ⟨an,none,0,[],rfl,rfl,Aw,aO,OL.nil⟩ ?_);rintro _ _ K ⟨O,Y,Z,aa,rfl,rfl,aC,aD,aE⟩ aY ⟨bE,aq⟩ aZ;have aF:=aq;unfold Rq at aF;refine zg 5 rfl (AS aF (λa0 a2=>?_) (λa0 a3=>?_))
  ·obtain⟨ar,a4,a5⟩:=bs a2;refine zg 13 rfl (Bq (λL s=>∃(ai:LH) (aj:Ao) (ak:Nat) (al:Seg),Jn O H ai [al] [(3,sV aj ar ak),(9,iV (p0.1.length:Int)),(10,iV K.2)] L s (OL 101 DL ai aj ak al ar)) ?_ ?_)
   ·rintro _ _ ⟨ai,aj,ak,al,rfl,rfl,a6,a7,a8⟩;obtain⟨a9,ba,bb⟩:=bs a5;refine zg 2 rfl (Bm ba rfl rfl rfl ?_);refine zg 2 rfl ?_;obtain rfl:=oi bb;exact AA (aZ _ _ (ar,a9) ⟨ai,aj,ak,al,rfl,rfl,(aC.Ad a6),a7,a8⟩ aq) rfl
   ·intro be;refine JL.block (Cj a4 (λL s U=>∃(ab:LH) (ac:Ao) (ae:Nat) (am:Seg),Jn O H ab [am] [(3,sV ac U.1 ae),(4,iV K.2),(9,iV (p0.1.length:Int)),(10,iV K.2),(13,iV K.2),(14,iV U.2)] L s (OL 101 DL ab ac ae am U.1)) ⟨O,Y,Z,aa,rfl,rfl,Aw,aD,aE⟩ ?_);rintro _ _ U ⟨ab,ac,ae,am,rfl,rfl,aG,aH,aI⟩ bf ⟨bF,au⟩ bg;have aJ:=au;unfold Rn at aJ;refine zg 5 rfl (AS aJ (λbh bi=>?_) (λbh bj=>?_))
    ·refine zg 12 rfl (Am (v:= .agg #[iV U.2,iV K.2]) rfl (λρ h=>Dc [(0,1),(1,1)] h IK underlying101 ⟨rfl,AQ type3,rfl,AQ type3,trivial⟩ rfl rfl) ?_);obtain⟨bl,bm,bn⟩:=bs bi;refine JS.app (pp:=DL) (v:= .agg #[iV U.2,iV K.2]) (a:=ac) (c:=ae) 0 bm rfl rfl rfl rfl (λ_=>rfl) rfl (λ_=>rfl) rfl rfl rfl underlying167 underlying167 underlying167 FO (C4 type101) IK rfl (by decide) (by decide) (by decide) (by decide) aI ⟨_,_,rfl,rfl,rfl⟩ aH rfl λbG bo bp bq br bu=>?_;obtain⟨bv,bw,bx⟩:=bs bn;refine zg 4 rfl (Bm bw rfl rfl rfl ?_);refine zg 2 rfl ?_;obtain rfl:=oi bx;exact AA (bg _ _ (bl,bv) ⟨ab,bo,bp,bq,rfl,rfl,aG,bu,br⟩ au) rfl
    ·refine JL.exit rfl ?_;obtain rfl:=oi bj;obtain rfl:=bf _ au;exact AA (be _ _ ⟨ab,ac,ae,am,rfl,rfl,aG,aH,aI⟩) rfl
  ·refine JL.exit rfl ?_;obtain rfl:=oi a3;obtain rfl:=aY _ aq;exact AA (aX _ _ ⟨O,Y,Z,aa,rfl,rfl,aC,aD,aE⟩) rfl
def f113(fu_:Nat)(p0:Int×Int×Int)(K:Int×Int×Int):Option Int:= if p0.1≠K.1 then((Av (p0.1 - K.1)).bind λO=> some O) else(if p0.2.1≠K.2.1 then((Av (p0.2.1 - K.2.1)).bind λU=> some U) else((Av (p0.2.2 - K.2.2)).bind λY=> some Y))
theorem Ss{p0:Int×Int×Int}{Y:Int×Int×Int}{fu_:Nat}{r:Int}(ac:f113 fu_ p0 Y=some r):AL J 113 [.agg #[iV p0.1,iV p0.2.1,iV p0.2.2],.agg #[iV Y.1,iV Y.2.1,iV Y.2.2]] E [] (λw E' B'=>w=iV r/\B'= []):=by
 refine Bi func113 λQ av cs H ae Z=>?_;unfold f113 at ac;refine zg 2 rfl (Dg ae λr2 aw aa O ag=>?_);refine Dg ag λay az K U ab=>?_;refine zg 6 rfl (B5 0 (O.Ag K) underlying27 Az A4 ?_);refine B5 0 U underlying27 Az A4 ?_;refine zg 3 rfl (AS ac (λah ai=>?_) (λah aj=>?_))
 ·refine zg 2 rfl (B5 0 (O.Ag K) underlying27 Az A4 ?_);refine B5 0 U underlying27 Az A4 ?_;obtain⟨aA,ak,al⟩:=bs ai;refine Cg ak rfl rfl rfl (zg 2 rfl ?_);obtain rfl:=oi al;exact AX func113 rfl rfl (Z (aa.Ad K) rfl ⟨rfl,rfl⟩ ab)
 ·refine zg 2 rfl (B5 1 (O.Ag K) underlying27 Az A4 ?_);refine B5 1 U underlying27 Az A4 ?_;refine zg 3 rfl (AS aj (λam an=>?_) (λam ao=>?_))
  ·refine zg 2 rfl (B5 1 (O.Ag K) underlying27 Az A4 ?_);refine B5 1 U underlying27 Az A4 ?_;obtain⟨aB,ap,aq⟩:=bs an;refine Cg ap rfl rfl rfl (zg 2 rfl ?_);obtain rfl:=oi aq;exact AX func113 rfl rfl (Z (aa.Ad K) rfl ⟨rfl,rfl⟩ ab)
  ·refine zg 4 rfl (B5 2 (O.Ag K) underlying27 Az A4 ?_);refine B5 2 U underlying27 Az A4 ?_;obtain⟨aC,ar,au⟩:=bs ao;refine Cg ar rfl rfl rfl (zg 2 rfl ?_);obtain rfl:=oi au;exact AX func113 rfl rfl (Z (aa.Ad K) rfl ⟨rfl,rfl⟩ ab)
def SA(fu_:Nat)(p0:List Int)(K:Int×Int):Option (Bj (Int×Int) Int):= if K.2<(p0.length:Int) then((ix p0 K.2).bind λO=> (Av (K.1+O)).bind λU=> (Av (K.2+1)).bind λY=> some (.more (U,Y))) else(some (.done K.1))
def f85(fu_:Nat)(p0:List Int):Option Int:= Option.bind (iter (SA fu_ p0) fu_ (0,0)) λK=> some K
theorem Hz{a1:Ao}{c2:Nat}{p0:List Int}(ab:Al rI E a1 c2 p0){fu_:Nat}{r:Int}(Y:f85 fu_ p0=some r):AL J 85 [sV a1 p0 c2] E [] (λw E' B'=>w=iV r/\B'= []):=by
 refine Bi func85 λQ aD cs H ac ae=>?_;unfold f85 at Y;refine zg 12 rfl (JL.ln underlying28 rfl rfl rfl ?_);obtain⟨ag,ah,ai⟩:=bs Y;refine zg 2 rfl (DF [] [(3,iV ag)] (λaE aj ak=>?_) (λal=>?_))
 ·refine zg 5 rfl ?_;obtain rfl:=oi ai;exact AX func85 rfl rfl (ae aj rfl ⟨rfl,rfl⟩ ak)
 ·refine JL.block (Dh ah (λK=> []) (λK=> [(3,iV K.1),(6,sV a1 p0 c2),(7,iV (p0.length:Int)),(8,iV K.2)]) Aw ac ?_);rintro K aF O Z am ⟨aG,U⟩ an;have aa:=U;unfold SA at aa;refine zg 5 rfl (AS aa (λao ap=>?_) (λao aq=>?_))
  ·obtain⟨aH,ar,au⟩:=bs ap;refine zg 5 rfl (JS.ix (ab.Ag O) ar underlying28 Az ?_);rintro aI aJ _ rfl av;refine Ch 0 av A4 rfl rfl rfl ?_;obtain⟨aw,ay,az⟩:=bs au;refine zg 5 rfl (Bm ay rfl rfl rfl ?_);obtain⟨aA,aB,aC⟩:=bs az;refine zg 4 rfl (Bm aB rfl rfl rfl ?_);refine zg 2 rfl ?_;obtain rfl:=oi aC;exact an (aw,aA) O Z rfl U
  ·refine JL.exit rfl ?_;obtain rfl:=oi aq;obtain rfl:=am _ U;exact al O Z rfl
end Pal
namespace Pal
open Go Go.Conc
section
variable {P:Program}{J:Judge P}{Q:Gs_}{b:Frame}{n:Nat}{ds:Ld_}{ops:Ao_}{k:Li_}{cs:Lf_}{L:Env}{E H:LH}{S:List Seg}
variable {d:Option Tmp}{x y w:Operand}{t u ty e:TypeId}{p:String}{af:Ae_}{g:On_}{i:Nat}{rest:List Nat}{s:St}{ρ:Operand->Value}
theorem Al.Z3{α:Type}{pp:Rp α}{kk bk o:Nat}{ws:Lv_}{xs ys:List α}{hi:Int}(U:At E bk o ws)(O:(rA kk pp).r E ws xs)(hC:Ic xs 0 hi=some ys):Al pp E (some ⟨bk,o,none⟩) kk ys:=by
 have ab:=O.1;unfold Ic at hC;split at hC
 ·rename_i hb;cases hC;refine⟨by simp;omega,.inr ⟨bk,o,rfl,λq z K=>?_⟩⟩;simp only [Int.toNat_zero,List.drop_zero,List.getElem?_take] at K;split at K
  ·have Y:ix xs (q:Int)=some z:=by unfold ix;rw [if_pos (by omega)];simpa using K
   obtain⟨us,Z,aa,_,_⟩:=S9 O U Y;exact⟨us,Z,by simpa using aa⟩
  ·cases K
 ·cases hC
theorem WB{α:Type}{pp:Rp α}{kk bk o:Nat}{ws:Lv_}{xs ys:List α}{hi:Int}(U:At E bk o ws)(K:(rA kk pp).r E ws xs)(hC:Ic xs 0 hi=some ys)
  (Y:ops[i]? =some ⟨d,.slice t x none (some w) none,ty,p,af,g⟩) (hw:AM L ops ⟨d,.slice t x none (some w) none,ty,p,af,g⟩=some true) (Z:BF b n ⟨d,.slice t x none (some w) none,ty,p,af,g⟩=true)
  (aa:ev L x=some (.pointer (some ⟨bk,o,none⟩))) (ab:ev L w=some (iV hi)) (ac:P.underlying t=some (.array kk e)) (ae:Bl P e=some pp.n)
  (h:Al pp E (some ⟨bk,o,none⟩) kk ys->JL J Q b n (Au L d (.slice (some ⟨bk,o,none⟩) ys.length kk)) ds (.inRegion ops rest::k) cs s):
  JL J Q b n L ds (.inRegion ops (i::rest)::k) cs s:=by
 have ag:=Al.Z3 U K hC;have aj:=K.1;refine A0 Y hw Z (λρ O=>?_) (h ag);refine Ft (sm:=Instr.sliceAt t (ρ x) none (some (ρ w)) none) rfl ?_;rw [O _ _ aa,O _ _ ab];unfold Ic at hC;split at hC
 ·rename_i hb;cases hC;obtain⟨ak,al,am⟩:=hb;unfold Instr.sliceAt;refine As _ _ (Ce ac ?_);simp only [Instr.sureAddr,bind,Sem.bind,pure];have ah:Instr.sliceBounds false kk kk none (some (iV hi)) none=(pure (0,hi.toNat,kk):Sem _):=by
   simp only [Instr.sliceBounds,Instr.sliceBound,asIntOf,bind,Sem.bind,pure];rw [if_pos (by omega)];rfl
  rw [ah];simp only [pure,Sem.bind];refine As (x:=Go.sizeOf e) _ (ED ae ?_);have ai:(if kk=0 then(⟨bk,o,none⟩:Addr) else Addr.add ⟨bk,o,none⟩ (0*pp.n))=⟨bk,o,none⟩:=by
   split
   ·rfl
   ·rw [Dm rfl];simp
  rw [ai];have e2:((xs.take hi.toNat).drop (0:Int).toNat).length=hi.toNat - 0:=by simp;omega
  rw [e2];exact⟨rfl,rfl⟩
 ·cases hC
theorem UH{a:Option Addr}{l c:Nat}(K:P.underlying t=some (.slice e))(O:ρ x= .slice a l c)(U:ρ (.const (.slice none 0 0))= .slice none 0 0):Yl P ⟨d,.binOp .neq t x (.const (.slice none 0 0)) u,ty,p,af,g⟩ ρ s (.bool (!a.isNone)):=by
 have Y:∀o,eqGuard o t x (.const (.slice none 0 0)) (.slice a l c) (.slice none 0 0)=Sem.pure ():=λo=>by cases o <;> rfl
 refine Ft (sm:=do eqGuard .neq t x (.const (.slice none 0 0)) (ρ x) (ρ (.const (.slice none 0 0)));binOp .neq t (ρ x) (ρ (.const (.slice none 0 0)))) rfl ?_
 rw [O,U,Y];simp only [bind,Sem.bind];have hb:binOp .neq t (.slice a l c) (.slice none 0 0)=(do pure (.bool (!(← Op.equal t (.slice a l c) (.slice none 0 0))))):=rfl
 rw [hb];refine As (x:=Op.equal t _ _) _ ?_;unfold Op.equal Op.maxDepth Op.equalIn;refine As _ _ (Ce K ?_);cases a with
 | none=>exact⟨rfl,rfl⟩
 | some ad=>exact⟨rfl,rfl⟩
end
end Pal
namespace Pal
open Go Go.Conc Go.Proofs
open Go.Proofs.Tryz
variable {J:Judge Tryz.prog}{E:LH}
def SV(fu_:Nat)(p0:AY)(O:List Int)(K:Int):Option (Bj Int ((AY×Int)⊕(Unit))):= if K<(O.length:Int) then((ix O K).bind λU=> (Av ((p0.1.length:Int) - 1)).bind λY=> (f91 fu_ U 0 Y).bind λZ=> if(!Z)=true then(some (.done (Sum.inl (([],[]),3)))) else((Av (K+1)).bind λaa=> some (.more aa))) else(some (.done (Sum.inr ())))
def f70(fu_:Nat)(p0:AY)(K:List Int):Option (AY×Int):= (f47 fu_ p0).bind λO=> if O≠0 then(some (([],[]),O)) else(Option.bind (iter (SV fu_ p0 K) fu_ 0) λU=> Sum.elim (λr=>some r) (λab=> Option.bind (if(K.length:Int)=2 then((ix K (0)).bind λY=> (ix K (1)).bind λZ=> some (decide (Y=Z))) else(some false)) λaa=> if aa=true then(some (([],[]),8)) else(some (p0,0))) U)
theorem Kc{a1:Ao}{c2:Nat}{Z:Ao}{aa:Nat}{ae:Ao}{ag:Nat}{p0:AY}{Y:List Int}(aq:Al (rL rI) E a1 c2 p0.1)(ar:Al Ax E Z aa p0.2)(ak:Al rI E ae ag Y){fu_:Nat}{r:AY×Int}(au:f70 fu_ p0 Y=some r):AL J 70 [.agg #[sV a1 p0.1 c2,sV Z p0.2 aa],sV ae Y ag] E [] (λw E' B'=>∃(av:Ao) (aw:Nat) (ay:Ao) (az:Nat),w= .tuple #[.agg #[sV av r.1.1 aw,sV ay r.1.2 az],iV r.2]/\B'= []/\Al (rL rI) E' av aw r.1.1/\Al Ax E' ay az r.1.2):=by
 refine Bi func70 λQ bM cs H aR ai=>?_;unfold f70 at au;refine zg 2 rfl (Dg aR λal bN K am aS=>?_);refine BI aS Hj λac aT=>?_;refine zg 5 rfl (Cw am FN Db rfl rfl ?_);obtain⟨aA,aU,aV⟩:=bs au;refine CM (YV (aq.Ag K) (ar.Ag K) aU) rfl rfl (A7 func47 rfl) aT λaW O aB=>zg 7 rfl (AS aV (λaX aY=>?_) (λaX aZ=>?_))
 ·refine zg 2 rfl (Am (v:= .agg #[nS,nS]) rfl (λρ h=>Dc [(0,2)] h Hj underlying77 ⟨rfl,AQ type25,trivial⟩ rfl rfl) ?_);refine zg 1 rfl (BB 2 aB Dl λaC=>?_);refine zg 2 rfl ?_;obtain rfl:=oi aY;refine JL.ret (v:= .tuple #[.agg #[nS,nS],iV aA]) rfl rfl (Bx.list func70 rfl (vs:= [.agg #[nS,nS],iV aA]) ⟨⟨_,rfl,Ld.many (vs:= [nS,nS]) FL Dl (GV (off:=0) 2 aC rfl rfl)⟩,rfl,trivial⟩) (Eg 2 aC rfl λa0=>?_);exact ai (K.Ad O) rfl ⟨none,0,none,0,rfl,rfl,Al.nil,Al.nil⟩ a0
 ·refine zg 5 rfl (JL.ln underlying28 rfl rfl rfl ?_);obtain⟨aD,a2,aE⟩:=bs aZ;refine zg 2 rfl (Bq (λL s=>∃(aF:Unit) (an:LH),aD=Sum.inr aF/\Jm aW H an [bX ac #[nS,nS] 77] [(1,sV ae Y ag),(2,Aj al 0),(4,Aj ac 0)] L s) ?_ ?_)
  ·rintro _ _ ⟨aF,an,rfl,rfl,rfl,ab,aG⟩;have a3:=elim_inr aE;refine zg 2 rfl (EX 12 λU=>?_);refine C5 0 U rfl rfl (AK 1 U rfl rfl (λρ h s' bO=>Yl.len rfl underlying28 (h _ _ rfl)) ?_);refine Ba U rfl [2,3] rfl ?_;obtain⟨a4,aH,a5⟩:=bs a3;refine Gg 0 #[true,true,true,true,true,true,true,true,true,true,true,true] (λL s=>L= [(2,Aj al 0),(4,Aj ac 0),(41,.bool a4)]/\s=Ak an H [bX ac #[nS,nS] 77]) ?_ ?_
   ·rintro _ _ ⟨rfl,rfl⟩;refine AN.fin (by decide+kernel) (CC a5 (λa6 a7=>?_) (λa6 a8=>?_))
    ·refine zg 2 rfl (Am (v:= .agg #[nS,nS]) rfl (λρ h=>Dc [(0,2)] h Hj underlying77 ⟨rfl,AQ type25,trivial⟩ rfl rfl) ?_);refine BB 0 aG Dl λaI=>?_;refine zg 2 rfl ?_;obtain rfl:=oi a7;refine JL.ret (v:= .tuple #[.agg #[nS,nS],iV 8]) rfl rfl (Bx.list func70 rfl (vs:= [.agg #[nS,nS],iV 8]) ⟨⟨_,rfl,Ld.many (vs:= [nS,nS]) FL Dl (GV (off:=0) 0 aI rfl rfl)⟩,rfl,trivial⟩) (Eg 0 aI rfl λa9=>?_);exact ai ((K.Ad O).Ad ab) rfl ⟨none,0,none,0,rfl,rfl,Al.nil,Al.nil⟩ a9
    ·refine zg 3 rfl (Cw (am.Ag (O.Ad ab)) FN Db rfl rfl ?_);refine Am (v:= .agg #[sV a1 p0.1 c2,sV Z p0.2 aa]) rfl (λρ h=>Dc [(0,2)] h Hj underlying77 ⟨rfl,AQ type25,trivial⟩ rfl rfl) (BB 0 aG Dl λaJ=>?_);refine zg 2 rfl ?_;obtain rfl:=oi a8;refine JL.ret (v:= .tuple #[.agg #[sV a1 p0.1 c2,sV Z p0.2 aa],iV 0]) rfl rfl (Bx.list func70 rfl (vs:= [.agg #[sV a1 p0.1 c2,sV Z p0.2 aa],iV 0]) ⟨⟨_,rfl,Ld.many (vs:= [sV a1 p0.1 c2,sV Z p0.2 aa]) FL Dl (GV (off:=0) 0 aJ rfl rfl)⟩,rfl,trivial⟩) (Eg 0 aJ rfl λba=>?_);exact ai ((K.Ad O).Ad ab) rfl ⟨a1,c2,Z,aa,rfl,rfl,(aq.Ag ((K.Ad O).Ad ab)),(ar.Ag ((K.Ad O).Ad ab))⟩ ba
   ·intro aK;refine GW (q:=(Y.length:Int)=2) (i:=33) rfl (λao=>?_) (λao=>?_)
    ·have bb:=ip aH ao;refine C5 4 U rfl rfl ?_;obtain⟨bP,be,bf⟩:=bs bb;refine Fz 5 (ak.Ag ((K.Ad O).Ad ab)) be U underlying28 Az ?_;rintro bQ bR _ rfl bg;refine Eu 6 U 0 bg A4 rfl rfl rfl rfl ?_;refine C5 7 U rfl rfl ?_;obtain⟨bS,bh,bi⟩:=bs bf;refine Fz 8 (ak.Ag ((K.Ad O).Ad ab)) bh U underlying28 Az ?_;rintro bT bU _ rfl bj;refine Eu 9 U 0 bj A4 rfl rfl rfl rfl ?_;refine Ba U rfl [10,11] rfl ?_;obtain rfl:=oi bi;refine DY ?_ (aK _ _ ⟨rfl,rfl⟩);exact⟨rfl,rfl,rfl,trivial⟩
    ·have bl:=im aH ao;refine Ba U rfl [4,5,6,7,8,9,10,11] rfl ?_;obtain rfl:=oi bl;refine DY ?_ (aK _ _ ⟨rfl,rfl⟩);exact⟨rfl,rfl,rfl,trivial⟩
  ·intro bm;refine JL.block (Dh a2 (λap=> [bX ac #[nS,nS] 77]) (λap=> [(1,sV ae Y ag),(2,Aj al 0),(4,Aj ac 0),(15,sV ae Y ag),(16,iV (Y.length:Int)),(17,iV ap)]) Aw aB ?_);rintro ap bn ah aL aM ⟨bV,aj⟩ bo;have aN:=aj;unfold SV at aN;refine zg 5 rfl (AS aN (λbp bq=>?_) (λbp br=>?_))
   ·obtain⟨bW,bu,bv⟩:=bs bq;refine zg 5 rfl (JS.ix (ak.Ag ((K.Ad O).Ad ah)) bu underlying28 Az ?_);rintro bY bZ _ rfl bw;refine Ch 0 bw A4 rfl rfl rfl (zg 5 rfl ?_);refine B5 0 (am.Ag (O.Ad ah)) underlying25 Fs FM ?_;refine JL.ln underlying22 rfl rfl rfl ?_;obtain⟨b0,bx,bz⟩:=bs bv;refine Cg bx rfl rfl rfl ?_;obtain⟨bA,bB,bC⟩:=bs bz;refine CM (LU bB) rfl rfl K9 aL λb1 aO aP=>Am (v:= .bool (!bA)) rfl (λρ h=>Yl.not (h _ _ rfl)) (JL.done ?_);refine CC bC (λbD bE=>?_) (λbD bF=>?_)
    ·refine zg 2 rfl (Am (v:= .agg #[nS,nS]) rfl (λρ h=>Dc [(0,2)] h Hj underlying77 ⟨rfl,AQ type25,trivial⟩ rfl rfl) ?_);refine BB 0 aP Dl λaQ=>?_;refine zg 2 rfl ?_;obtain rfl:=oi bE;obtain rfl:=aM _ aj;have bG:=elim_inl aE;obtain rfl:=oi bG;refine JL.ret (v:= .tuple #[.agg #[nS,nS],iV 3]) rfl rfl (Bx.list func70 rfl (vs:= [.agg #[nS,nS],iV 3]) ⟨⟨_,rfl,Ld.many (vs:= [nS,nS]) FL Dl (GV (off:=0) 0 aQ rfl rfl)⟩,rfl,trivial⟩) (Eg 0 aQ rfl λbH=>?_);exact ai (((K.Ad O).Ad ah).Ad aO) rfl ⟨none,0,none,0,rfl,rfl,Al.nil,Al.nil⟩ bH
    ·obtain⟨bI,bJ,bK⟩:=bs bF;refine zg 3 rfl (Bm bJ rfl rfl rfl ?_);refine zg 2 rfl ?_;obtain rfl:=oi bK;exact bo bI (ah.Ad aO) aP rfl aj
   ·refine JL.exit rfl ?_;obtain rfl:=oi br;have bL:aD=(Sum.inr ()):=(aM _ aj).symm;exact AA (bm _ _ ⟨(),bn,bL,rfl,rfl,ah,aL⟩) rfl
def NB(fu_:Nat)(p0:List Int):Option ((List Int)):= (Dp ([]:List Int) p0).bind λK=> some K
theorem Xx{ad:Addr}{c2:Nat}{p0:List Int}(Y:Al rI E (some ad) c2 p0){fu_:Nat}{r:(List Int)}(K:NB fu_ p0=some r):AL J 87 [.slice (some ad) p0.length c2] E [] (λw E' B'=>∃(O:Ao) (U:Nat) (g0:Seg),w= sV O r U/\B'=g0/\OL 3 rI E' O U g0 r):=by
 refine Bi func87 λQ am cs H Z aa=>?_;unfold NB at K;refine zg 8 rfl (Am (v:= .bool false) rfl (λρ h=>Mw (a:=(some ad)) underlying28 (h _ _ rfl) (h _ _ rfl)) ?_);refine zg 5 rfl (Oz (pp:=rI) rfl rfl rfl underlying28 Az Z λr1 g2 ab ac=>?_);obtain⟨an,ae,ag⟩:=bs K;refine zg 1 rfl (IW (pp:=rI) 1 ae rfl rfl rfl rfl rfl rfl rfl underlying28 underlying28 Az (C4 type3) Cd rfl (by decide) (by decide) ab Y ac rfl λah ai aj ak al=>?_);refine zg 2 rfl ?_;obtain rfl:=oi ag;exact AX func87 rfl rfl (aa Aw rfl ⟨ah,ai,aj,rfl,(by first | rfl | simp | (simp [Value.cells])),ak⟩ al)
def Tu(fu_:Nat)(p0:List Int):Option ((List Int)):= some ([])
theorem Xy{c2:Nat}{p0:List Int}(aa:Al rI E none c2 p0){fu_:Nat}{r:(List Int)}(K:Tu fu_ p0=some r):AL J 87 [sV none p0 c2] E [] (λw E' B'=>∃(O:Ao) (U:Nat) (g0:Seg),w= sV O r U/\B'=g0/\OL 3 rI E' O U g0 r):=by
 refine Bi func87 λQ ab cs H Y Z=>?_;unfold Tu at K;refine zg 8 rfl (Am (v:= .bool true) rfl (λρ h=>Mw (a:=none) underlying28 (h _ _ rfl) (h _ _ rfl)) ?_);refine zg 6 rfl ?_;obtain rfl:=oi K;exact AX func87 rfl rfl (Z Aw rfl ⟨none,0,[],rfl,rfl,OL.nil⟩ Y)
def f87(fu_:Nat)(p0:List Int):Option (List Int):=NB fu_ p0
theorem Y5{a1:Ao}{c2:Nat}{p0:List Int}(O:Al rI E a1 c2 p0){fu_:Nat}{r:List Int}(K:f87 fu_ p0=some r):AL J 87 [.slice a1 p0.length c2] E [] (λw E' B'=>∃(U:Ao) (Y:Nat) (g0:Seg),w= .slice U r.length Y/\B'=g0/\OL 3 rI E' U Y g0 r):=by
 cases a1 with
 | some ad=>exact Xx O K
 | none=>
  have Z:p0= []:=by
   rcases O.2 with h | ⟨_,_,h,_⟩
   ·exact h.1
   ·cases h
  subst Z;have aa:r= []:=by
   have ab:NB fu_ []=some []:=rfl;unfold f87 at K;rw [ab] at K;exact(Option.some.inj K).symm
  subst aa;exact Xy (fu_:=fu_) O rfl
def Nt(fu_:Nat)(p0:Ay):Option (Ay):= (Dp ([]:Ay) p0).bind λK=> some K
theorem W3{ad:Addr}{c2:Nat}{p0:Ay}(Y:Al Ax E (some ad) c2 p0){fu_:Nat}{r:Ay}(K:Nt fu_ p0=some r):AL J 129 [.slice (some ad) p0.length c2] E [] (λw E' B'=>∃(O:Ao) (U:Nat) (g0:Seg),w= sV O r U/\B'=g0/\OL 27 Ax E' O U g0 r):=by
 refine Bi func129 λQ am cs H Z aa=>?_;unfold Nt at K;refine zg 8 rfl (Am (v:= .bool false) rfl (λρ h=>Mw (a:=(some ad)) underlying80 (h _ _ rfl) (h _ _ rfl)) ?_);refine zg 5 rfl (Oz (pp:=Ax) rfl rfl rfl underlying80 Bp Z λr1 g2 ab ac=>?_);obtain⟨an,ae,ag⟩:=bs K;refine zg 1 rfl (IW (pp:=Ax) 1 ae rfl rfl rfl rfl rfl rfl rfl underlying80 underlying80 Bp (C4 type27) BK rfl (by decide) (by decide) ab Y ac rfl λah ai aj ak al=>?_);refine zg 2 rfl ?_;obtain rfl:=oi ag;exact AX func129 rfl rfl (aa Aw rfl ⟨ah,ai,aj,rfl,(by first | rfl | simp | (simp [Value.cells])),ak⟩ al)
def S3(fu_:Nat)(p0:Ay):Option (Ay):= some ([])
theorem W2{c2:Nat}{p0:Ay}(aa:Al Ax E none c2 p0){fu_:Nat}{r:Ay}(K:S3 fu_ p0=some r):AL J 129 [sV none p0 c2] E [] (λw E' B'=>∃(O:Ao) (U:Nat) (g0:Seg),w= sV O r U/\B'=g0/\OL 27 Ax E' O U g0 r):=by
 refine Bi func129 λQ ab cs H Y Z=>?_;unfold S3 at K;refine zg 8 rfl (Am (v:= .bool true) rfl (λρ h=>Mw (a:=none) underlying80 (h _ _ rfl) (h _ _ rfl)) ?_);refine zg 6 rfl ?_;obtain rfl:=oi K;exact AX func129 rfl rfl (Z Aw rfl ⟨none,0,[],rfl,rfl,OL.nil⟩ Y)
def f129(fu_:Nat)(p0:Ay):Option Ay:=Nt fu_ p0
theorem Yz{a1:Ao}{c2:Nat}{p0:Ay}(O:Al Ax E a1 c2 p0){fu_:Nat}{r:Ay}(K:f129 fu_ p0=some r):AL J 129 [.slice a1 p0.length c2] E [] (λw E' B'=>∃(U:Ao) (Y:Nat) (g0:Seg),w= .slice U r.length Y/\B'=g0/\OL 27 Ax E' U Y g0 r):=by
 cases a1 with
 | some ad=>exact W3 O K
 | none=>
  have Z:p0= []:=by
   rcases O.2 with h | ⟨_,_,h,_⟩
   ·exact h.1
   ·cases h
  subst Z;have aa:r= []:=by
   have ab:Nt fu_ []=some []:=rfl;unfold f129 at K;rw [ab] at K;exact(Option.some.inj K).symm
  subst aa;exact W2 (fu_:=fu_) O rfl
def f43(fu_:Nat)(p0:AY):Option ((List Int)×Int):= (f70 fu_ p0 ([])).bind λK=> if K.2≠0 then(some ([],K.2)) else((f84 fu_ K.1).bind λO=> (Ic O 0 (p0.1.length:Int)).bind λU=> (f87 fu_ U).bind λY=> some (Y,0))
theorem Zr{a1:Ao}{c2:Nat}{aa:Ao}{ab:Nat}{p0:AY}(ao:Al (rL rI) E a1 c2 p0.1)(ap:Al Ax E aa ab p0.2){fu_:Nat}{r:(List Int)×Int}(ac:f43 fu_ p0=some r):AL J 43 [.agg #[sV a1 p0.1 c2,sV aa p0.2 ab]] E [] (λw E' B'=>∃(ae:Ao) (ag:Nat),w= .tuple #[sV ae r.1 ag,iV r.2]/\B'= []/\Al rI E' ae ag r.1):=by
 refine Bi func43 λQ aZ cs H aq ah=>?_;unfold f43 at ac;refine zg 2 rfl (Dg aq λa0 a2 U ai ar=>?_);refine zg 5 rfl (Cw ai FN Db rfl rfl ?_);obtain⟨a3,au,av⟩:=bs ac;refine BT (Kc (ao.Ag U) (ap.Ag U) Al.nil au) rfl rfl JV ar ?_;rintro _ a4 _ Y ⟨a5,a6,a7,a8,rfl,rfl,aw,ay⟩ az;refine zg 3 rfl (BI az Hj λa9 aA=>?_);refine BB 3 aA Dl λaB=>?_;refine CP 3 aB rfl λba K aC aj=>zg 8 rfl (AS av (λaD aE=>?_) (λaD aF=>?_))
 ·refine zg 6 rfl ?_;obtain rfl:=oi aE;exact AX func43 rfl rfl (ah ((U.Ad Y).Ad K) rfl ⟨none,0,rfl,rfl,Al.nil⟩ aj)
 ·refine zg 3 rfl (Cw aC FL Dl rfl rfl ?_);obtain⟨bb,aG,aH⟩:=bs aF;refine BT (Ni (aw.Ag K) (ay.Ag K) aG) rfl rfl Mg aj ?_;rintro _ ak _ al ⟨Z,rfl,rfl,O⟩ aI;refine BI aI Im λbe aJ=>?_;refine Gd (v:= .agg Z.toArray) (l:= []) (ws:=(List.replicate 5 (iV 0):Lv_)) (us:=Z) (o:=0) 5 rfl rfl rfl aJ rfl rfl rfl (by rw [BO (kk:=5) (pp:=rI) O];exact AQ type105) ((rA 5 rI).one O) rfl (by rw [BO (kk:=5) (pp:=rI) O,BO (kk:=5) (pp:=rI) (EW (E:=ak) (pp:=rI) rfl)];omega) λam=>?_;rw [Iq (by rw [BO (kk:=5) (pp:=rI) O,BO (kk:=5) (pp:=rI) (EW (E:=ak) (pp:=rI) rfl)])] at am ⊢;refine zg 3 rfl (B5 0 (ai.Ag ((Y.Ad K).Ad al)) underlying25 Fs FM ?_);refine JL.ln underlying22 rfl rfl rfl (CP 5 am rfl λbf an aK aL=>?_);obtain⟨bg,aM,aN⟩:=bs aH;refine WB (ws:=Z) (pp:=rI) aK (Rp.Ag _ an O) aM rfl rfl rfl rfl rfl underlying105 Az λaO=>?_;obtain⟨bh,aP,aQ⟩:=bs aN;refine BT (Y5 aO aP) rfl rfl (A7 func87 rfl) aL ?_;rintro _ bi bj aR ⟨aS,aT,_,rfl,rfl,aU⟩ aV;refine zg 3 rfl (B8 6 aU aV rfl λbl aW aX aY=>?_);obtain rfl:=oi aQ;exact AX func43 rfl rfl (ah ((((((U.Ad Y).Ad K).Ad al).Ad an).Ad aR).Ad aW) rfl ⟨aS,aT,rfl,rfl,aX⟩ aY)
def R7(fu_:Nat)(p0:Ay)(O:Ay)(K:Int):Option (Bj Int ((Int)⊕(Unit))):= if K<(p0.length:Int) then((ix p0 K).bind λY=> if(O.length:Int)<=K then(some (.done (Sum.inl 1))) else((ix O K).bind λZ=> (f113 fu_ Y Z).bind λU=> if U≠0 then(some (.done (Sum.inl U))) else((Av (K+1)).bind λaa=> some (.more aa)))) else(some (.done (Sum.inr ())))
def f112(fu_:Nat)(p0:Ay)(K:Ay):Option Int:= Option.bind (iter (R7 fu_ p0 K) fu_ 0) λO=> Sum.elim (λr=>some r) (λU=> if(p0.length:Int)<(K.length:Int) then(some (-1)) else(some 0)) O
theorem XJ{a1:Ao}{c2:Nat}{Y:Ao}{Z:Nat}{p0:Ay}{O:Ay}(ay:Al Ax E a1 c2 p0)(az:Al Ax E Y Z O){fu_:Nat}{r:Int}(ak:f112 fu_ p0 O=some r):AL J 112 [sV a1 p0 c2,sV Y O Z,(fV 113)] E [] (λw E' B'=>w=iV r/\B'= []):=by
 refine Bi func112 λQ bg cs H aA aa=>?_;unfold f112 at ak;refine zg 8 rfl (JL.ln underlying80 rfl rfl rfl ?_);obtain⟨al,aB,ac⟩:=bs ak;refine zg 2 rfl (Bq (λL s=>∃(am:Unit) (an:LH),al=Sum.inr am/\Jm E H an [] [(0,sV a1 p0 c2),(1,sV Y O Z)] L s) ?_ ?_)
 ·rintro _ _ ⟨am,an,rfl,rfl,rfl,ao,ap⟩;have aC:=elim_inr ac;refine zg 4 rfl (JL.ln underlying80 rfl rfl rfl ?_);refine zg 1 rfl (JL.ln underlying80 rfl rfl rfl ?_);refine zg 2 rfl (AS aC (λaD aE=>?_) (λaD aF=>?_))
  ·refine zg 4 rfl ?_;obtain rfl:=oi aE;exact AX func112 rfl rfl (aa ao rfl ⟨rfl,rfl⟩ ap)
  ·refine zg 5 rfl ?_;obtain rfl:=oi aF;exact AX func112 rfl rfl (aa ao rfl ⟨rfl,rfl⟩ ap)
 ·intro aG;refine JL.block (Dh aB (λae=> []) (λae=> [(0,sV a1 p0 c2),(1,sV Y O Z),(2,(fV 113)),(11,sV a1 p0 c2),(12,iV (p0.length:Int)),(13,iV ae)]) Aw aA ?_);rintro ae aH K aq ag ⟨bh,U⟩ aI;have ar:=U;unfold R7 at ar;refine zg 5 rfl (AS ar (λaJ aK=>?_) (λaJ aL=>?_))
  ·obtain⟨ah,aM,aN⟩:=bs aK;refine zg 6 rfl (JS.ix (ay.Ag K) aM underlying80 Bp ?_);rintro bi bj _ ⟨_,_,rfl,rfl,⟨_,_,rfl,rfl,rfl⟩⟩ aO;refine Cw aO DX Bp rfl rfl (BI aq BK λbl aP=>?_);refine zg 1 rfl (BB 0 aP Bp λaQ=>?_);refine CP 0 aQ rfl λbm ab aR au=>zg 6 rfl (JL.ln underlying80 rfl rfl rfl ?_);refine zg 2 rfl (AS aN (λaS aT=>?_) (λaS aU=>?_))
   ·refine zg 4 rfl ?_;obtain rfl:=oi aT;obtain rfl:=ag _ U;have aV:=elim_inl ac;obtain rfl:=oi aV;exact AX func112 rfl rfl (aa (K.Ad ab) rfl ⟨rfl,rfl⟩ au)
   ·obtain⟨ai,aW,aX⟩:=bs aU;refine zg 5 rfl (JS.ix (az.Ag (K.Ad ab)) aW underlying80 Bp ?_);rintro bn bo _ ⟨_,_,rfl,rfl,⟨_,_,rfl,rfl,rfl⟩⟩ aY;refine Cw aY DX Bp rfl rfl (BI au BK λbp aZ=>?_);refine BB 1 aZ Bp λa0=>?_;refine CP 1 a0 rfl λbq aj a2 a3=>zg 4 rfl (Cw (aR.Ag aj) DX Bp rfl rfl ?_);refine Cw a2 DX Bp rfl rfl ?_;obtain⟨br,a4,a5⟩:=bs aX;refine J7 (vs:= [.agg #[iV ah.1,iV ah.2.1,iV ah.2.2],.agg #[iV ai.1,iV ai.2.1,iV ai.2.2]]) (Ss a4) rfl rfl rfl rfl (A7 func113 rfl) rfl a3 ?_;rintro _ bu _ av ⟨rfl,rfl⟩ aw;refine zg 7 rfl (AS a5 (λa6 a7=>?_) (λa6 a8=>?_))
    ·refine zg 5 rfl ?_;obtain rfl:=oi a7;obtain rfl:=ag _ U;have a9:=elim_inl ac;obtain rfl:=oi a9;exact AX func112 rfl rfl (aa (((K.Ad ab).Ad aj).Ad av) rfl ⟨rfl,rfl⟩ aw)
    ·obtain⟨ba,bb,be⟩:=bs a8;refine zg 3 rfl (Bm bb rfl rfl rfl ?_);refine zg 2 rfl ?_;obtain rfl:=oi be;exact aI ba (((K.Ad ab).Ad aj).Ad av) aw rfl U
  ·refine JL.exit rfl ?_;obtain rfl:=oi aL;have bf:al=(Sum.inr ()):=(ag _ U).symm;exact AA (aG _ _ ⟨(),aH,bf,rfl,rfl,K,aq⟩) rfl
def f74(fu_:Nat)(p0:Ay)(K:Ay):Option Int:= (f112 fu_ p0 K).bind λO=> some O
theorem H8{a1:Ao}{c2:Nat}{O:Ao}{U:Nat}{p0:Ay}{K:Ay}(Z:Al Ax E a1 c2 p0)(aa:Al Ax E O U K){fu_:Nat}{r:Int}(Y:f74 fu_ p0 K=some r):AL J 74 [sV a1 p0 c2,sV O K U] E [] (λw E' B'=>w=iV r/\B'= []):=by
 refine Bi func74 λQ aj cs H ab ac=>?_;unfold f74 at Y;obtain⟨ak,ae,ag⟩:=bs Y;refine zg 8 rfl (CM (XJ Z aa ae) rfl rfl (A7 func112 rfl) ab λal ah ai=>?_);refine zg 2 rfl ?_;obtain rfl:=oi ag;exact AX func74 rfl rfl (ac ah rfl ⟨rfl,rfl⟩ ai)
def f73(fu_:Nat)(p0:Ay)(K:Ay):Option Bool:= (f74 fu_ p0 K).bind λO=> some (decide (O<0))
theorem ZK{a1:Ao}{c2:Nat}{O:Ao}{U:Nat}{p0:Ay}{K:Ay}(Z:Al Ax E a1 c2 p0)(aa:Al Ax E O U K){fu_:Nat}{r:Bool}(Y:f73 fu_ p0 K=some r):AL J 73 [sV a1 p0 c2,sV O K U] E [] (λw E' B'=>w= .bool r/\B'= []):=by
 refine Bi func73 λQ aj cs H ab ac=>?_;unfold f73 at Y;obtain⟨ak,ae,ag⟩:=bs Y;refine zg 8 rfl (CM (H8 Z aa ae) rfl rfl HO ab λal ah ai=>?_);refine zg 3 rfl ?_;obtain rfl:=oi ag;exact AX func73 rfl rfl (ac ah rfl ⟨rfl,rfl⟩ ai)
def f72(fu_:Nat)(p0:Ay×Bool)(K:Ay):Option ((Ay×Bool)):= Option.bind (if(!p0.2)=true then(some true) else((f73 fu_ K p0.1).bind λO=> some O)) λU=> Option.bind (if U=true then(some (K,true)) else(some p0)) λY=> some Y
theorem Zf{bk:Nat}{a1:Ao}{c2:Nat}{K:Ao}{O:Nat}{p0:Ay×Bool}{U:Ay}(ah:Al Ax E a1 c2 p0.1)(ai:Al Ax E K O U){fu_:Nat}{r:(Ay×Bool)}(aj:f72 fu_ p0 U=some r):AL J 72 [Aj bk 0,sV K U O,(fV 73)] E [(bk,.cells #[sV a1 p0.1 c2,.bool p0.2] 82 (0,0))] (λw E' B'=>∃(ak:Ao) (al:Nat),w= .tuple #[]/\B'= [(bk,.cells #[sV ak r.1 al,.bool r.2] 82 (0,0))]/\Al Ax E' ak al r.1):=by
 refine Bi func72 λQ aO cs H Z ap=>?_;unfold f72 at aj;refine zg 4 rfl (JL.fd underlying82 Je rfl rfl rfl ?_);refine Am (v:= .bool p0.2) rfl (λρ h=>Yl.load Mb (h _ _ rfl) (BL (j:=0) (off:=1) Z rfl rfl)) (Am (v:= .bool (!p0.2)) rfl (λρ h=>Yl.not (h _ _ rfl)) ?_);obtain⟨aq,ar,au⟩:=bs aj;refine zg 1 rfl (Hp [] (λL s=>∃(Y:LH),Jm E H Y [bX bk #[sV a1 p0.1 c2,.bool p0.2] 82] [(0,Aj bk 0),(1,sV K U O),(19,.bool aq)] L s) ?_ ?_)
 ·rintro _ _ ⟨Y,rfl,rfl,ac,am⟩;obtain⟨ae,av,aw⟩:=bs au;refine JL.done (Bq (λL s=>∃(ag:LH) (aa:Ao) (ab:Nat),Jn Y H ag [bX bk #[sV aa ae.1 ab,.bool ae.2] 82] [] L s (Al Ax ag aa ab ae.1)) ?_ ?_)
  ·rintro _ _ ⟨ag,aa,ab,rfl,rfl,ay,az,aA⟩;obtain rfl:=oi aw;exact JL.fin (v:= .tuple #[]) rfl rfl (Bx.list func72 rfl (vs:= []) trivial) (ap (ac.Ad ay) rfl ⟨aa,ab,rfl,rfl,aA⟩ az)
  ·intro an;refine CC av (λaB aC=>?_) (λaB aD=>?_)
   ·refine zg 5 rfl (JL.fd underlying82 Bh rfl rfl rfl ?_);refine BB 0 am Bh λaE=>?_;refine zg 1 rfl (JL.fd underlying82 Je rfl rfl rfl ?_);refine BB 0 aE Je λaF=>?_;refine JL.done ?_;obtain rfl:=oi aC;exact AA (an _ _ ⟨Y,K,O,rfl,rfl,Aw,aF,(ai.Ag ac)⟩) rfl
   ·refine JL.skip ?_;obtain rfl:=oi aD;exact AA (an _ _ ⟨Y,a1,c2,rfl,rfl,Aw,am,(ah.Ag ac)⟩) rfl
 ·intro ao;refine Et 11 ar (λaG aH=>?_) (λaG aI=>?_)
  ·refine zg 8 rfl ?_;obtain rfl:=oi aH;exact AA (ao _ _ ⟨E,rfl,rfl,Aw,Z⟩) rfl
  ·refine zg 4 rfl (JL.fd underlying82 Bh rfl rfl rfl ?_);refine Am (v:= sV a1 p0.1 c2) rfl (λρ h=>Yl.load Bz (h _ _ rfl) (BL (j:=0) (off:=0) Z rfl rfl)) ?_;obtain⟨aP,aJ,aK⟩:=bs aI;refine J7 (vs:= [sV K U O,sV a1 p0.1 c2]) (ZK ai ah aJ) rfl rfl rfl rfl (A7 func73 rfl) rfl Z ?_;rintro _ aL _ aM ⟨rfl,rfl⟩ aN;refine zg 1 rfl ?_;obtain rfl:=oi aK;exact AA (ao _ _ ⟨aL,rfl,rfl,aM,aN⟩) rfl
end Pal
namespace Pal
open Go Go.Conc Go.Proofs
open Go.Proofs.Tryz
variable {J:Judge Tryz.prog}{E:LH}
def RA(fu_:Nat)(O:List Int)(K:(AF)×Int):Option (Bj ((AF)×Int) ((AF))):= if K.2<(O.length:Int) then((ix O K.2).bind λU=> (Av (((BC K.1 U).getD 0)+1)).bind λY=> (Av (K.2+1)).bind λZ=> some (.more ((C8 K.1 U Y),Z))) else(some (.done K.1))
def RO(fu_:Nat)(p0:AY)(K:(List AF)×Int):Option (Bj ((List AF)×Int) ((List AF))):= if K.2<(p0.1.length:Int) then((ix p0.1 K.2).bind λO=> Option.bind (iter (RA fu_ O) fu_ (([]:AF),0)) λU=> (room K.1 U).bind λY=> (Av (K.2+1)).bind λZ=> some (.more (Y,Z))) else(some (.done K.1))
def f120(fu_:Nat)(p0:AY):Option ((List AF)):= Option.bind (iter (RO fu_ p0) fu_ ([],0)) λK=> some K
theorem YI{a1:Ao}{c2:Nat}{ay:Ao}{az:Nat}{p0:AY}(aO:Al (rL rI) E a1 c2 p0.1)(bU:Al Ax E ay az p0.2){fu_:Nat}{r:(List AF)}(aA:f120 fu_ p0=some r):AL J 120 [.agg #[sV a1 p0.1 c2,sV ay p0.2 az]] E [] (λw E' B'=>∃(aB:Ao) (aC:Nat),w= sV aB r aC/\B'= []/\Al (rM rI false rI false) E' aB aC r):=by
 refine Bi func120 λQ bV cs H aP aQ=>?_;unfold f120 at aA;refine zg 2 rfl (Dg aP λbW ak aD aR aS=>?_);refine zg 9 rfl (JL.fd underlying77 Db rfl rfl rfl ?_);refine B5 0 aR underlying25 Fs FM ?_;refine JL.ln underlying22 rfl rfl rfl ?_;obtain⟨aE,aT,aU⟩:=bs aA;refine zg 2 rfl (Bq (λL s=>∃(al:LH) (ae:Ao) (ag:Nat) (am:Seg),Jn ak H al [am] [(3,sV ae aE ag)] L s (OL 197 (rM rI false rI false) al ae ag am aE)) ?_ ?_)
 ·rintro _ _ ⟨al,ae,ag,am,rfl,rfl,aV,aW,aX⟩;refine zg 5 rfl (B8 0 aX aW rfl λbY aY aZ a0=>?_);obtain rfl:=oi aU;exact AX func120 rfl rfl (aQ ((aD.Ad aV).Ad aY) rfl ⟨ae,ag,rfl,rfl,aZ⟩ a0)
 ·intro a2;refine JL.block (Cj aT (λL s K=>∃(O:LH) (U:Ao) (Y:Nat) (aa:Seg),Jn ak H O [aa] [(3,sV U K.1 Y),(11,sV a1 p0.1 c2),(12,iV (p0.1.length:Int)),(13,iV K.2)] L s (OL 197 (rM rI false rI false) O U Y aa K.1)) ⟨ak,none,0,[],rfl,rfl,Aw,aS,OL.nil⟩ ?_);rintro _ _ K ⟨O,U,Y,aa,rfl,rfl,an,aF,aG⟩ a3 ⟨bZ,ao⟩ a4;have aH:=ao;unfold RO at aH;refine zg 5 rfl (AS aH (λa5 a6=>?_) (λa5 a7=>?_))
  ·obtain⟨aI,a8,a9⟩:=bs a6;refine zg 5 rfl (JS.ix (aO.Ag (aD.Ad an)) a8 underlying22 Dy ?_);rintro b0 b1 _ ⟨ba,bb,rfl,be⟩ bf;refine Ch 0 bf Gc rfl rfl rfl (zg 4 rfl ?_);refine JS.makeMap rfl rfl rfl aF λab bg=>zg 6 rfl (JL.ln underlying28 rfl rfl rfl ?_);obtain⟨aJ,bh,bi⟩:=bs a9;refine zg 2 rfl (Bq (λL s=>∃(ap:LH) (ah:Obj),Jn O H ap [aa,[(ab,ah)]] [(3,sV U K.1 Y),(6,.map (some ab)),(11,sV a1 p0.1 c2),(12,iV (p0.1.length:Int)),(13,iV K.2)] L s (BA rI false rI false ap ah aJ)) ?_ ?_)
   ·rintro _ _ ⟨ap,ah,rfl,rfl,aK,bj,bl⟩;refine zg 3 rfl (NZ 1 bj rfl λaL aq bm bn=>?_);have bo:BA rI false rI false aL ah aJ:=(bl.Ag aq);obtain⟨bp,bq,br⟩:=bs bi;refine JS.app (pp:=(rM rI false rI false)) (v:= .map (some ab)) (a:=U) (c:=Y) 0 bq rfl rfl rfl rfl (λ_=>rfl) rfl (λ_=>rfl) rfl rfl rfl underlying156 underlying156 underlying156 Hl (C4 type197) (CQ type197) rfl (by decide) (by decide) (by decide) (by decide) (aG.Ag (aK.Ad aq)) ⟨_,_,rfl,bm,bo⟩ bn rfl λb2 bu bv bw bx bz=>?_;obtain⟨bA,bB,bC⟩:=bs br;refine zg 4 rfl (Bm bB rfl rfl rfl ?_);refine zg 2 rfl ?_;obtain rfl:=oi bC;exact AA (a4 _ _ (bp,bA) ⟨aL,bu,bv,bw,rfl,rfl,((an.Ad aK).Ad aq),bz,bx⟩ ao) rfl
   ·intro bD;refine JL.block (Cj bh (λL s Z=>∃(ac:LH) (ai:Obj),Jn O H ac [aa,[(ab,ai)]] [(3,sV U K.1 Y),(6,.map (some ab)),(11,sV a1 p0.1 c2),(12,iV (p0.1.length:Int)),(13,iV K.2),(18,sV ba aI bb),(19,iV (aI.length:Int)),(20,iV Z.2)] L s (BA rI false rI false ac ai Z.1)) ⟨O,(.map #[] 0),rfl,rfl,Aw,bg,BA.nil⟩ ?_);rintro _ _ Z ⟨ac,ai,rfl,rfl,ar,au,av⟩ bE ⟨b3,aw⟩ bF;have aM:=aw;unfold RA at aM;refine zg 5 rfl (AS aM (λbG bH=>?_) (λbG bI=>?_))
    ·obtain⟨aj,bJ,bK⟩:=bs bH;refine zg 5 rfl (JS.ix (be.Ag ar) bJ underlying28 Az ?_);rintro b4 b5 _ rfl bL;refine Ch 0 bL A4 rfl rfl rfl (zg 5 rfl ?_);refine Am (v:=iV ((BC Z.1 aj).getD 0)) rfl (λρ h=>Yl.lookup (ok:=false) (xs:=Z.1) (x0:=aj) (z0:=0) IB underlying197 Cd ⟨_,rfl,rfl⟩ av ⟨_,rfl,rfl⟩ (by rintro _ ⟨_,rfl,rfl⟩;rfl) (h _ _ rfl) (h _ _ rfl) (Dw (j:=1) (i:=0) au rfl rfl)) ?_;obtain⟨aN,bM,bN⟩:=bs bK;refine Bm bM rfl rfl rfl (JS.mapUpdate (xs:=Z.1) (x0:=aj) (v0:=aN) 1 IB underlying197 av ⟨_,rfl,rfl⟩ ⟨_,rfl,rfl⟩ au rfl rfl rfl rfl rfl rfl rfl λbO bP bQ=>?_);obtain⟨bR,bS,bT⟩:=bs bN;refine zg 3 rfl (Bm bS rfl rfl rfl ?_);refine zg 2 rfl ?_;obtain rfl:=oi bT;exact AA (bF _ _ ((C8 Z.1 aj aN),bR) ⟨ac,bO,rfl,rfl,ar,bQ,bP⟩ aw) rfl
    ·refine JL.exit rfl ?_;obtain rfl:=oi bI;obtain rfl:=bE _ aw;exact AA (bD _ _ ⟨ac,ai,rfl,rfl,ar,au,av⟩) rfl
  ·refine JL.exit rfl ?_;obtain rfl:=oi a7;obtain rfl:=a3 _ ao;exact AA (a2 _ _ ⟨O,U,Y,aa,rfl,rfl,an,aF,aG⟩) rfl
def SI(fu_:Nat)(p0:AY)(O:(List Int))(K:(List Int)×Int):Option (Bj ((List Int)×Int) ((List Int))):= if K.2<5 then((ix O K.2).bind λU=> Option.bind (if K.2<(p0.1.length:Int) then((ix p0.1 K.2).bind λY=> (f85 fu_ Y).bind λZ=> (Av (-(U))).bind λaa=> some (decide (Z<aa))) else(some false)) λab=> Option.bind (if ab=true then((room K.1 K.2).bind λac=> some ac) else(some K.1)) λae=> (Av (K.2+1)).bind λag=> some (.more (ae,ag))) else(some (.done K.1))
def f39(fu_:Nat)(p0:AY):Option ((List Int)×Int):= (f70 fu_ p0 ([])).bind λK=> if K.2≠0 then(some ([],K.2)) else((f84 fu_ K.1).bind λO=> Option.bind (iter (SI fu_ p0 O) fu_ ([],0)) λU=> some (U,0))
theorem Y6{a1:Ao}{c2:Nat}{aC:Ao}{aD:Nat}{p0:AY}(aE:Al (rL rI) E a1 c2 p0.1)(aP:Al Ax E aC aD p0.2){fu_:Nat}{r:(List Int)×Int}(aF:f39 fu_ p0=some r):AL J 39 [.agg #[sV a1 p0.1 c2,sV aC p0.2 aD]] E [] (λw E' B'=>∃(aG:Ao) (aH:Nat),w= .tuple #[sV aG r.1 aH,iV r.2]/\B'= []/\Al rI E' aG aH r.1):=by
 refine Bi func39 λQ b5 cs H aQ aI=>?_;unfold f39 at aF;refine zg 2 rfl (Dg aQ λao b6 ac ap aR=>?_);refine zg 5 rfl (Cw ap FN Db rfl rfl ?_);obtain⟨b7,aS,aT⟩:=bs aF;refine BT (Kc (aE.Ag ac) (aP.Ag ac) Al.nil aS) rfl rfl JV aR ?_;rintro _ b8 _ ae ⟨b9,ca,cb,cc,rfl,rfl,aU,aV⟩ aW;refine zg 3 rfl (BI aW Hj λcd aX=>?_);refine BB 3 aX Dl λaY=>?_;refine CP 3 aY rfl λce O aZ aJ=>zg 8 rfl (AS aT (λa0 a2=>?_) (λa0 a3=>?_))
 ·refine zg 6 rfl ?_;obtain rfl:=oi a2;exact AX func39 rfl rfl (aI ((ac.Ad ae).Ad O) rfl ⟨none,0,rfl,rfl,Al.nil⟩ aJ)
 ·refine zg 8 rfl (Cw aZ FL Dl rfl rfl ?_);obtain⟨cf,a4,a5⟩:=bs a3;refine BT (Ni (aU.Ag O) (aV.Ag O) a4) rfl rfl Mg aJ ?_;rintro _ aq _ ah ⟨ar,rfl,rfl,a6⟩ a7;obtain⟨aK,a8,a9⟩:=bs a5;refine zg 2 rfl (Bq (λL s=>∃(au:LH) (ai:Ao) (aj:Nat) (av:Seg),Jn aq H au [av] [(6,sV ai aK aj)] L s (OL 3 rI au ai aj av aK)) ?_ ?_)
  ·rintro _ _ ⟨au,ai,aj,av,rfl,rfl,ba,bb,be⟩;refine zg 6 rfl (B8 0 be bb rfl λcg bf bg bh=>?_);obtain rfl:=oi a9;exact AX func39 rfl rfl (aI (((((ac.Ad ae).Ad O).Ad ah).Ad ba).Ad bf) rfl ⟨ai,aj,rfl,rfl,bg⟩ bh)
  ·intro bi;refine JL.block (Cj a8 (λL s K=>∃(Z:LH) (U:Ao) (Y:Nat) (aa:Seg),Jn aq H Z [aa] [(1,Aj ao 0),(6,sV U K.1 Y),(18,.agg ar.toArray),(19,iV K.2)] L s (OL 3 rI Z U Y aa K.1)) ⟨aq,none,0,[],rfl,rfl,Aw,a7,OL.nil⟩ ?_);rintro _ _ K ⟨Z,U,Y,aa,rfl,rfl,ab,aw,ay⟩ bj ⟨ci,az⟩ bl;have aL:=az;unfold SI at aL;refine zg 5 rfl (AS aL (λbm bn=>?_) (λbm bo=>?_))
   ·obtain⟨ck,bp,bq⟩:=bs bn;refine zg 6 rfl (SZ (Rp.Ag _ ab a6) bp rfl rfl rfl rfl rfl underlying105 Az A4 ?_ (λ_=>rfl));rintro _ rfl;refine zg 6 rfl (B5 0 (ap.Ag (((ae.Ad O).Ad ah).Ad ab)) underlying25 Fs FM ?_);refine JL.ln underlying22 rfl rfl rfl ?_;obtain⟨br,bu,bv⟩:=bs bq;refine zg 2 rfl (Hp [] (λL s=>∃(ag:LH),Jm Z H ag [aa] [(1,Aj ao 0),(6,sV U K.1 Y),(7,iV K.2),(18,.agg ar.toArray),(19,iV K.2),(38,.bool br)] L s) ?_ ?_)
    ·rintro _ _ ⟨ag,rfl,rfl,aA,aM⟩;obtain⟨aB,bw,bx⟩:=bs bv;refine JL.done (Bq (λL s=>∃(ak:LH) (al:Ao) (am:Nat) (an:Seg),Jn ag H ak [an] [(1,Aj ao 0),(6,sV al aB am),(18,.agg ar.toArray),(19,iV K.2)] L s (OL 3 rI ak al am an aB)) ?_ ?_)
     ·rintro _ _ ⟨ak,al,am,an,rfl,rfl,bz,bA,bB⟩;obtain⟨bC,bD,bE⟩:=bs bx;refine zg 2 rfl (Bm bD rfl rfl rfl ?_);refine zg 2 rfl ?_;obtain rfl:=oi bE;exact AA (bl _ _ (aB,bC) ⟨ak,al,am,an,rfl,rfl,((ab.Ad aA).Ad bz),bA,bB⟩ az) rfl
     ·intro aN;refine CC bw (λbF bG=>?_) (λbF bH=>?_)
      ·obtain⟨cm,bI,bJ⟩:=bs bG;refine zg 3 rfl (JS.app (pp:=rI) (v:=iV K.2) (a:=U) (c:=Y) 0 bI rfl rfl rfl rfl (λ_=>rfl) rfl (λ_=>rfl) rfl rfl rfl underlying28 underlying28 underlying28 Az (C4 type3) Cd rfl (by decide) (by decide) (by decide) (by decide) (ay.Ag aA) rfl aM rfl λcn bK bL bM bN bO=>?_);refine zg 2 rfl ?_;obtain rfl:=oi bJ;exact AA (aN _ _ ⟨ag,bK,bL,bM,rfl,rfl,Aw,bO,bN⟩) rfl
      ·refine JL.skip ?_;obtain rfl:=oi bH;exact AA (aN _ _ ⟨ag,U,Y,aa,rfl,rfl,Aw,aM,(ay.Ag aA)⟩) rfl
    ·intro aO;refine I1 28 bu (λbP bQ=>?_) (λbP bR=>?_)
     ·refine B5 0 (ap.Ag (((ae.Ad O).Ad ah).Ad ab)) underlying25 Fs FM ?_;obtain⟨co,bS,bT⟩:=bs bQ;refine zg 1 rfl (JS.ix (aE.Ag ((((ac.Ad ae).Ad O).Ad ah).Ad ab)) bS underlying22 Dy ?_);rintro cp cq _ ⟨cr,ct,rfl,bU⟩ bV;refine Ch 0 bV Gc rfl rfl rfl ?_;obtain⟨cu,bW,bY⟩:=bs bT;refine CM (Hz bU bW) rfl rfl Hi aw λbZ b0 b1=>?_;obtain⟨b2,b3,b4⟩:=bs bY;refine zg 1 rfl (Am (v:=iV b2) rfl (λρ h=>Hs (h _ _ rfl) b3) ?_);refine zg 2 rfl ?_;obtain rfl:=oi b4;exact AA (aO _ _ ⟨bZ,rfl,rfl,b0,b1⟩) rfl
     ·refine zg 10 rfl ?_;obtain rfl:=oi bR;exact AA (aO _ _ ⟨Z,rfl,rfl,Aw,aw⟩) rfl
   ·refine JL.exit rfl ?_;obtain rfl:=oi bo;obtain rfl:=bj _ az;exact AA (bi _ _ ⟨Z,U,Y,aa,rfl,rfl,ab,aw,ay⟩) rfl
def R3(fu_:Nat)(p0:List Int)(O:Int)(K:Int):Option (Bj Int ((Int)⊕(Unit))):= if K<(p0.length:Int) then((ix p0 K).bind λU=> if O=U then(some (.done (Sum.inl K))) else((Av (K+1)).bind λY=> some (.more Y))) else(some (.done (Sum.inr ())))
def f128(fu_:Nat)(p0:List Int)(K:Int):Option Int:= Option.bind (iter (R3 fu_ p0 K) fu_ 0) λO=> Sum.elim (λr=>some r) (λU=> some (-1)) O
theorem YP{a1:Ao}{c2:Nat}{p0:List Int}{U:Int}(ak:Al rI E a1 c2 p0){fu_:Nat}{r:Int}(aa:f128 fu_ p0 U=some r):AL J 128 [sV a1 p0 c2,iV U] E [] (λw E' B'=>w=iV r/\B'= []):=by
 refine Bi func128 λQ aK cs H al ab=>?_;unfold f128 at aa;refine zg 8 rfl (JL.ln underlying28 rfl rfl rfl ?_);obtain⟨ac,am,ae⟩:=bs aa;refine zg 2 rfl (Bq (λL s=>∃(ag:Unit) (ah:LH),ac=Sum.inr ag/\Jm E H ah [] [] L s) ?_ ?_)
 ·rintro _ _ ⟨ag,ah,rfl,rfl,rfl,an,ao⟩;have ap:=elim_inr ae;refine zg 4 rfl ?_;obtain rfl:=oi ap;exact AX func128 rfl rfl (ab an rfl ⟨rfl,rfl⟩ ao)
 ·intro aq;refine JL.block (Dh am (λY=> []) (λY=> [(0,sV a1 p0 c2),(1,iV U),(7,iV (p0.length:Int)),(8,iV Y)]) Aw al ?_);rintro Y ar K Z ai ⟨aL,O⟩ au;have aj:=O;unfold R3 at aj;refine zg 5 rfl (AS aj (λav aw=>?_) (λav ay=>?_))
  ·obtain⟨aM,az,aA⟩:=bs aw;refine zg 13 rfl (JS.ix (ak.Ag K) az underlying28 Az ?_);rintro aN aO _ rfl aB;refine Ch 0 aB A4 rfl rfl rfl (zg 2 rfl ?_);refine AS aA (λaC aD=>?_) (λaC aE=>?_)
   ·refine zg 5 rfl ?_;obtain rfl:=oi aD;obtain rfl:=ai _ O;have aF:=elim_inl ae;obtain rfl:=oi aF;exact AX func128 rfl rfl (ab K rfl ⟨rfl,rfl⟩ Z)
   ·obtain⟨aG,aH,aI⟩:=bs aE;refine zg 3 rfl (Bm aH rfl rfl rfl ?_);refine zg 2 rfl ?_;obtain rfl:=oi aI;exact au aG K Z rfl O
  ·refine JL.exit rfl ?_;obtain rfl:=oi ay;have aJ:ac=(Sum.inr ()):=(ai _ O).symm;exact AA (aq _ _ ⟨(),ar,aJ,rfl,rfl,K,Z⟩) rfl
def f82(fu_:Nat)(p0:List Int)(K:Int):Option Bool:= (f128 fu_ p0 K).bind λO=> some (decide (0<=O))
theorem Y3{a1:Ao}{c2:Nat}{p0:List Int}{K:Int}(U:Al rI E a1 c2 p0){fu_:Nat}{r:Bool}(O:f82 fu_ p0 K=some r):AL J 82 [sV a1 p0 c2,iV K] E [] (λw E' B'=>w= .bool r/\B'= []):=by
 refine Bi func82 λQ ag cs H Y Z=>?_;unfold f82 at O;obtain⟨ah,aa,ab⟩:=bs O;refine zg 8 rfl (CM (YP U aa) rfl rfl (A7 func128 rfl) Y λai ac ae=>?_);refine zg 3 rfl ?_;obtain rfl:=oi ab;exact AX func82 rfl rfl (Z ac rfl ⟨rfl,rfl⟩ ae)
def Sv(fu_:Nat)(O:AY×Int)(K:(List ((Int×Int)×Bool))×Int):Option (Bj ((List ((Int×Int)×Bool))×Int) ((List ((Int×Int)×Bool)))):= if K.2<(O.1.2.length:Int) then((ix O.1.2 K.2).bind λU=> (Av (K.2+1)).bind λY=> some (.more ((C8 K.1 (U.1,U.2.1) true),Y))) else(some (.done K.1))
def SE(fu_:Nat)(U:AY×Int)(Y:(List ((Int×Int)×Bool)))(O:List Int)(K:A1×Int):Option (Bj (A1×Int) (A1)):= if K.2<(U.1.1.length:Int) then(Option.bind ((f82 fu_ O K.2).bind λZ=> Option.bind (if Z=true then(some true) else(if 0<(O.length:Int) then((Av ((O.length:Int) - 1)).bind λaa=> (ix O aa).bind λab=> some (!((BC Y (ab,K.2)).getD false))) else(some false))) λac=> if ac=true then(some K.1) else((Dp O ([K.2]:List Int)).bind λae=> (room K.1 ae).bind λag=> some ag)) λah=> (Av (K.2+1)).bind λai=> some (.more (ah,ai))) else(some (.done K.1))
def SW(fu_:Nat)(Z:AY×Int)(U:(List ((Int×Int)×Bool)))(Y:A1)(O:A1×Int):Option (Bj (A1×Int) (((List Int)×Int)⊕(A1))):= if O.2<(Y.length:Int) then((ix Y O.2).bind λK=> Option.bind (if 1<(K.length:Int) then((Av ((K.length:Int) - 1)).bind λaa=> (ix K aa).bind λab=> (ix K (0)).bind λac=> some ((BC U (ab,ac)).getD false)) else(some false)) λae=> if ae=true then(some (.done (Sum.inl (K,0)))) else(Option.bind (iter (SE fu_ Z U K) fu_ (O.1,0)) λag=> (Av (O.2+1)).bind λah=> some (.more (ag,ah)))) else(some (.done (Sum.inr O.1)))
def SK(fu_:Nat)(U:AY×Int)(Y:(List ((Int×Int)×Bool)))(K:A1):Option (Bj (A1) (((List Int)×Int)⊕(Unit))):= if 0<(K.length:Int) then(Option.bind (iter (SW fu_ U Y K) fu_ ([],0)) λZ=> Sum.elim (λr=>some (.done (Sum.inl r))) (λO=> if(O.length:Int)=0 then(some (.done (Sum.inr ()))) else(some (.more O))) Z) else(some (.done (Sum.inr ())))
def f33(fu_:Nat)(p0:AY):Option ((List Int)×Int):= (f70 fu_ p0 ([])).bind λK=> if K.2≠0 then(some ([],K.2)) else(Option.bind (iter (Sv fu_ K) fu_ (([]:List ((Int×Int)×Bool)),0)) λO=> Option.bind (iter (SK fu_ K O) fu_ ([[]]:A1)) λU=> Sum.elim (λr=>some r) (λY=> some ([],11)) U)
theorem ZB{a1:Ao}{c2:Nat}{br:Ao}{bu:Nat}{p0:AY}(b2:Al (rL rI) E a1 c2 p0.1)(b3:Al Ax E br bu p0.2){fu_:Nat}{r:(List Int)×Int}(bv:f33 fu_ p0=some r):AL J 33 [.agg #[sV a1 p0.1 c2,sV br p0.2 bu]] E [] (λw E' B'=>∃(bw:Ao) (bx:Nat),w= .tuple #[sV bw r.1 bx,iV r.2]/\B'= []/\Al rI E' bw bx r.1):=by
 refine Bi func33 λQ eX cs H b4 a8=>?_;unfold f33 at bv;refine zg 2 rfl (Dg b4 λeY eZ aF b5 b6=>?_);refine zg 6 rfl (Cw b5 FN Db rfl rfl ?_);obtain⟨aG,b7,b8⟩:=bs bv;refine BT (Kc (b2.Ag aF) (b3.Ag aF) Al.nil b7) rfl rfl JV b6 ?_;rintro _ e0 _ a9 ⟨e1,e3,b9,ca,rfl,rfl,e4,cb⟩ cc;refine zg 3 rfl (BI cc Hj λab cd=>?_);refine BB 3 cd Dl λce=>?_;refine CP 3 ce rfl λba aN bz bA=>zg 8 rfl (AS b8 (λcf cg=>?_) (λcf ci=>?_))
 ·refine zg 6 rfl ?_;obtain rfl:=oi cg;exact AX func33 rfl rfl (a8 ((aF.Ad a9).Ad aN) rfl ⟨none,0,rfl,rfl,Al.nil⟩ bA)
 ·refine zg 3 rfl (JS.makeMap rfl rfl rfl bA λK ck=>?_);refine zg 5 rfl (JL.fd underlying77 Db rfl rfl rfl ?_);refine B5 1 bz underlying25 GU IJ ?_;refine JL.ln underlying23 rfl rfl rfl ?_;obtain⟨aw,cm,cn⟩:=bs ci;refine zg 2 rfl (Bq (λL s=>∃(ay:LH) (aa:Obj),Jn ba H ay [[(K,aa)]] [(4,Aj ab 0),(6,.map (some K))] L s (BA DL true rB false ay aa aw)) ?_ ?_)
  ·rintro _ _ ⟨ay,aa,rfl,rfl,bb,co,bB⟩;refine zg 2 rfl (Fx (pp:=(rL rI)) [nS] [[]] rfl rfl rfl underlying22 Dy JW (by decide) rfl rfl rfl ⟨⟨_,_,rfl,Al.nil⟩,trivial⟩ co λcp cq cr ct=>?_);refine zg 3 rfl (JL.label ?_);obtain⟨be,cu,bC⟩:=bs cn;refine JL.seq (Bq (λL s=>∃(bD:Unit) (bE:LH),be=Sum.inr bD/\Jm ay H bE [] [] L s) ?_ ?_)
   ·rintro _ _ ⟨bD,bE,rfl,rfl,rfl,cv,cw⟩;have cy:=elim_inr bC;refine zg 5 rfl ?_;obtain rfl:=oi cy;exact AX func33 rfl rfl (a8 ((((aF.Ad a9).Ad aN).Ad bb).Ad cv) rfl ⟨none,0,rfl,rfl,Al.nil⟩ cw)
   ·intro bF;refine JL.block (Cj cu (λL s O=>∃(am:LH) (ac:Ao) (ae:Nat) (ag:Seg),Jn ay H am [[(K,aa)],ag] [(4,Aj ab 0),(6,.map (some K)),(9,sV ac O ae)] L s (OL 28 (rL rI) am ac ae ag O)) ⟨ay,(AP cp),1,cq,rfl,rfl,Aw,ct,cr⟩ ?_);rintro _ _ O ⟨am,ac,ae,ag,rfl,rfl,an,bG,cz⟩ bf ⟨e5,aH⟩ cA;have bH:=aH;unfold SK at bH;refine zg 4 rfl (JL.ln underlying22 rfl rfl rfl ?_);refine zg 2 rfl (AS bH (λcB cC=>?_) (λcB cD=>?_))
    ·refine zg 10 rfl (JL.ln underlying22 rfl rfl rfl ?_);obtain⟨bI,cE,bJ⟩:=bs cC;refine zg 2 rfl (Bq (λL s=>∃(aI:A1) (aJ:LH) (aO:Ao) (aP:Nat) (aQ:Seg),bI=Sum.inr aI/\Jn am H aJ [[(K,aa)],aQ] [(4,Aj ab 0),(6,.map (some K)),(10,sV aO aI aP)] L s (OL 28 (rL rI) aJ aO aP aQ aI)) ?_ ?_)
     ·rintro _ _ ⟨aI,aJ,aO,aP,aQ,rfl,rfl,rfl,bK,bL,cF⟩;have cG:=elim_inr bJ;refine zg 8 rfl (JL.ln underlying22 rfl rfl rfl ?_);refine zg 2 rfl (AS cG (λcH cI=>?_) (λcH cJ=>?_))
      ·refine JL.exit rfl (JS.drop 0 bL rfl λcK=>?_);refine JS.drop 1 cK rfl λcM=>?_;obtain rfl:=oi cI;have cN:be=(Sum.inr ()):=(bf _ aH).symm;exact AA (bF _ _ ⟨(),aJ,cN,rfl,rfl,(an.Ad bK),cM⟩) rfl
      ·refine zg 2 rfl ?_;obtain rfl:=oi cJ;exact AA (cA _ _ aI ⟨aJ,aO,aP,aQ,rfl,rfl,(an.Ad bK),bL,cF⟩ aH) rfl
     ·intro cO;refine JL.block (Cj cE (λL s Y=>∃(ai:LH) (az:Ao) (aA:Nat) (aB:Seg),Jn am H ai [[(K,aa)],ag,aB] [(4,Aj ab 0),(6,.map (some K)),(10,sV az Y.1 aA),(43,sV ac O ae),(44,iV (O.length:Int)),(45,iV Y.2)] L s (OL 28 (rL rI) ai az aA aB Y.1)) ⟨am,none,0,[],rfl,rfl,Aw,bG,OL.nil⟩ ?_);rintro _ _ Y ⟨ai,az,aA,aB,rfl,rfl,ao,aK,bM⟩ bN ⟨e6,aR⟩ cP;have bO:=aR;unfold SW at bO;refine zg 5 rfl (AS bO (λcQ cR=>?_) (λcQ cT=>?_))
      ·obtain⟨aj,cV,cW⟩:=bs cR;refine zg 5 rfl (KM 1 (cz.Ag ao) cV rfl rfl rfl rfl rfl rfl underlying22 Dy ?_);rintro e7 e8 f155 _ cX ⟨ap,aC,rfl,ak⟩ cY e9 fa fb fc;refine Am (v:= sV ap aj aC) rfl (λρ h=>Yl.load Gc (h _ _ rfl) (BL (j:=1) aK cX (cY 0 _ rfl))) (zg 6 rfl ?_);refine JL.ln underlying28 rfl rfl rfl (zg 3 rfl ?_);refine Pr 15 λZ=>Ba Z rfl [0,1,2] rfl ?_;obtain⟨cZ,bP,c0⟩:=bs cW;refine Gg 0 #[true,true,true,true,true,true,true,true,true,true,true,true,true,true,true] (λL s=>L= [(4,Aj ab 0),(6,.map (some K)),(10,sV az Y.1 aA),(12,sV ap aj aC),(43,sV ac O ae),(44,iV (O.length:Int)),(45,iV Y.2),(65,.bool cZ)]/\s=Ak ai H [[(K,aa)],ag,aB]) ?_ ?_
       ·rintro _ _ ⟨rfl,rfl⟩;refine AN.fin (by decide+kernel) (CC c0 (λc1 c3=>?_) (λc1 c4=>?_))
        ·refine zg 6 rfl (JS.drop 0 aK rfl λc5=>?_);refine JS.drop 1 c5 rfl λc6=>JS.drop 2 c6 rfl λc7=>?_;obtain rfl:=oi c3;obtain rfl:=bN _ aR;have c8:=elim_inl bJ;obtain rfl:=oi c8;obtain rfl:=bf _ aH;have c9:=elim_inl bC;obtain rfl:=oi c9;exact AX func33 rfl rfl (a8 (((((aF.Ad a9).Ad aN).Ad bb).Ad an).Ad ao) rfl ⟨ap,aC,rfl,rfl,ak⟩ c7)
        ·refine zg 3 rfl (JL.fd underlying77 Db rfl rfl rfl ?_);refine B5 0 (bz.Ag ((bb.Ad an).Ad ao)) underlying25 Fs FM ?_;refine JL.ln underlying22 rfl rfl rfl ?_;obtain⟨bg,da,db⟩:=bs c4;refine zg 2 rfl (Bq (λL s=>∃(aS:LH) (aT:Ao) (aU:Nat) (aV:Seg),Jn ai H aS [[(K,aa)],ag,aV] [(4,Aj ab 0),(6,.map (some K)),(10,sV aT bg aU),(43,sV ac O ae),(44,iV (O.length:Int)),(45,iV Y.2)] L s (OL 28 (rL rI) aS aT aU aV bg)) ?_ ?_)
         ·rintro _ _ ⟨aS,aT,aU,aV,rfl,rfl,dc,dd,de⟩;obtain⟨df,dg,dh⟩:=bs db;refine zg 2 rfl (Bm dg rfl rfl rfl ?_);refine zg 2 rfl ?_;obtain rfl:=oi dh;exact AA (cP _ _ (bg,df) ⟨aS,aT,aU,aV,rfl,rfl,(ao.Ad dc),dd,de⟩ aR) rfl
         ·intro di;refine JL.block (Cj da (λL s U=>∃(aL:LH) (aq:Ao) (ar:Nat) (aD:Seg),Jn ai H aL [[(K,aa)],ag,aD] [(4,Aj ab 0),(6,.map (some K)),(10,sV aq U.1 ar),(12,sV ap aj aC),(43,sV ac O ae),(44,iV (O.length:Int)),(45,iV Y.2),(70,iV (aG.1.1.length:Int)),(71,iV U.2)] L s (OL 28 (rL rI) aL aq ar aD U.1)) ⟨ai,az,aA,aB,rfl,rfl,Aw,aK,bM⟩ ?_);rintro _ _ U ⟨aL,aq,ar,aD,rfl,rfl,al,bQ,bh⟩ dj ⟨fe,bi⟩ dk;have bR:=bi;unfold SE at bR;refine zg 5 rfl (AS bR (λdn dp=>?_) (λdn dq=>?_))
          ·obtain⟨bj,dr,dt⟩:=bs dp;refine zg 2 rfl (Bq (λL s=>∃(aW:LH) (aX:Ao) (aY:Nat) (aZ:Seg),Jn aL H aW [[(K,aa)],ag,aZ] [(4,Aj ab 0),(6,.map (some K)),(10,sV aX bj aY),(12,sV ap aj aC),(43,sV ac O ae),(44,iV (O.length:Int)),(45,iV Y.2),(70,iV (aG.1.1.length:Int)),(71,iV U.2)] L s (OL 28 (rL rI) aW aX aY aZ bj)) ?_ ?_)
           ·rintro _ _ ⟨aW,aX,aY,aZ,rfl,rfl,du,dv,dw⟩;obtain⟨dx,dy,dz⟩:=bs dt;refine JL.region (Bm dy rfl rfl rfl ?_);refine zg 2 rfl ?_;obtain rfl:=oi dz;exact AA (dk _ _ (bj,dx) ⟨aW,aX,aY,aZ,rfl,rfl,(al.Ad du),dv,dw⟩ bi) rfl
           ·intro bS;obtain⟨ff,dA,dB⟩:=bs dr;refine zg 11 rfl (CM (Y3 (ak.Ag al) dA) rfl rfl (A7 func82 rfl) bQ λa0 ah a2=>?_);obtain⟨dC,dD,dE⟩:=bs dB;refine zg 1 rfl (Hp [] (λL s=>∃(bl:LH),Jm a0 H bl [[(K,aa)],ag,aD] [(4,Aj ab 0),(6,.map (some K)),(10,sV aq U.1 ar),(12,sV ap aj aC),(14,iV U.2),(43,sV ac O ae),(44,iV (O.length:Int)),(45,iV Y.2),(70,iV (aG.1.1.length:Int)),(71,iV U.2),(94,.bool dC)] L s) ?_ ?_)
            ·rintro _ _ ⟨bl,rfl,rfl,au,bT⟩;refine JL.done (CC dE (λdF dG=>?_) (λdF dH=>?_))
             ·refine JL.exit rfl ?_;obtain rfl:=oi dG;exact AA (bS _ _ ⟨bl,aq,ar,aD,rfl,rfl,(ah.Ad au),bT,(bh.Ag (ah.Ad au))⟩) rfl
             ·refine zg 5 rfl (JL.ln underlying28 rfl rfl rfl ?_);refine zg 1 rfl (JL.ln underlying28 rfl rfl rfl ?_);refine Am (v:= .slice ap aj.length aj.length) rfl (λρ h=>N2 (Al.spot (ak.Ag ((al.Ad ah).Ad au))) (And.left (ak.Ag ((al.Ad ah).Ad au))) underlying28 Az (h _ _ rfl) (h _ _ rfl) (h _ _ rfl)) (zg 1 rfl ?_);refine Fx (pp:=rI) [iV U.2] [U.2] rfl rfl rfl underlying28 Az Cd (by decide) rfl rfl rfl ⟨rfl,trivial⟩ bT λfg fh dI dJ=>B8 3 dI dJ rfl λfj bm dK dL=>?_;obtain⟨dM,dN,dO⟩:=bs dH;refine Uq (pp:=rI) dN rfl rfl rfl rfl rfl rfl rfl underlying28 underlying28 Az (C4 type3) Cd rfl (by decide) (by decide) (ak.Ag (((al.Ad ah).Ad au).Ad bm)) dK dL λdP dQ dR bU dS dT=>?_;obtain⟨fk,dU,dV⟩:=bs dO;refine JS.app (pp:=(rL rI)) (v:= sV dQ dM dR) (a:=aq) (c:=ar) 2 dU rfl rfl rfl rfl (λ_=>rfl) rfl (λ_=>rfl) rfl rfl rfl underlying22 underlying22 underlying22 Dy (C4 type28) JW rfl (by decide) (by decide) (by decide) (by decide) (bh.Ag (((ah.Ad au).Ad bm).Ad bU)) ⟨_,_,rfl,dS⟩ dT rfl λfl dW dX dY dZ ea=>zg 3 rfl ?_;obtain rfl:=oi dV;exact AA (bS _ _ ⟨dP,dW,dX,dY,rfl,rfl,(((ah.Ad au).Ad bm).Ad bU),ea,dZ⟩) rfl
            ·intro bn;refine Et 77 dD (λeb ec=>?_) (λeb ed=>?_)
             ·refine zg 17 rfl ?_;obtain rfl:=oi ec;exact AA (bn _ _ ⟨a0,rfl,rfl,Aw,a2⟩) rfl
             ·refine zg 1 rfl (JL.ln underlying28 rfl rfl rfl ?_);refine zg 2 rfl (I1 81 ed (λee ef=>?_) (λee eg=>?_))
              ·refine zg 3 rfl (JL.ln underlying28 rfl rfl rfl ?_);obtain⟨fm,eh,ei⟩:=bs ef;refine Cg eh rfl rfl rfl ?_;obtain⟨a3,ej,ek⟩:=bs ei;refine JS.ix (ak.Ag (al.Ad ah)) ej underlying28 Az ?_;rintro fo fp _ rfl el;refine Ch 0 el A4 rfl rfl rfl (zg 1 rfl ?_);refine Am (v:= .agg #[iV a3,iV U.2]) rfl (λρ h=>Dc [(0,1),(1,1)] h IK underlying101 ⟨rfl,AQ type3,rfl,AQ type3,trivial⟩ rfl rfl) (Am (v:= .bool (((BC aw (a3,U.2)).getD false))) rfl (λρ h=>Yl.lookup (ok:=false) (xs:=aw) (x0:=(a3,U.2)) (z0:=false) O2 underlying99 La ⟨_,rfl,rfl⟩ (bB.Ag (((an.Ad ao).Ad al).Ad ah)) ⟨_,⟨_,_,rfl,rfl,rfl⟩,rfl⟩ (by rintro _ ⟨_,rfl,rfl⟩;rfl) (h _ _ rfl) (h _ _ rfl) (Dw (j:=0) (i:=0) a2 rfl rfl)) ?_);refine Am (v:= .bool ((!((BC aw (a3,U.2)).getD false)))) rfl (λρ h=>Yl.not (h _ _ rfl)) (zg 2 rfl ?_);obtain rfl:=oi ek;exact AA (bn _ _ ⟨a0,rfl,rfl,Aw,a2⟩) rfl
              ·refine zg 13 rfl ?_;obtain rfl:=oi eg;exact AA (bn _ _ ⟨a0,rfl,rfl,Aw,a2⟩) rfl
          ·refine JL.exit rfl ?_;obtain rfl:=oi dq;obtain rfl:=dj _ bi;exact AA (di _ _ ⟨aL,aq,ar,aD,rfl,rfl,al,bQ,bh⟩) rfl
       ·intro bV;refine GW (q:=1<(aj.length:Int)) (i:=53) rfl (λbo=>?_) (λbo=>?_)
        ·have em:=ip bP bo;refine Ba Z rfl [3,4,5] rfl ?_;obtain⟨fq,en,eo⟩:=bs em;refine AK 6 Z rfl rfl (λρ h s' av=>Dz (h _ _ rfl) (h _ _ rfl) en) ?_;obtain⟨a4,ep,er⟩:=bs eo;refine Fz 7 ak ep Z underlying28 Az ?_;rintro fs fu _ rfl et;refine AK (v:=iV a4) 8 Z rfl rfl (λρ h s' av=>Yl.load A4 (h _ _ rfl) (LR av (At.KZ (j:=0) et rfl))) ?_;refine C5 9 Z rfl rfl ?_;obtain⟨a5,eu,ew⟩:=bs er;refine Fz 10 ak eu Z underlying28 Az ?_;rintro fv fw _ rfl ex;refine AK (v:=iV a5) 11 Z rfl rfl (λρ h s' av=>Yl.load A4 (h _ _ rfl) (LR av (At.KZ (j:=0) ex rfl))) ?_;refine AK (v:= .agg #[iV a4,iV a5]) 12 Z rfl rfl (λρ h s' av=>Dc [(0,1),(1,1)] h IK underlying101 ⟨rfl,AQ type3,rfl,AQ type3,trivial⟩ rfl rfl) ?_;refine AK (v:= .bool (((BC aw (a4,a5)).getD false))) 13 Z rfl rfl (λρ h s' av=>Yl.lookup (ok:=false) (xs:=aw) (x0:=(a4,a5)) (z0:=false) O2 underlying99 La ⟨_,rfl,rfl⟩ (bB.Ag (an.Ad ao)) ⟨_,⟨_,_,rfl,rfl,rfl⟩,rfl⟩ (by rintro _ ⟨_,rfl,rfl⟩;rfl) (h _ _ rfl) (h _ _ rfl) (PF av (Dw (j:=0) (i:=0) aK rfl rfl))) ?_;refine C5 14 Z rfl rfl ?_;obtain rfl:=oi ew;refine DY ?_ (bV _ _ ⟨rfl,rfl⟩);exact⟨rfl,rfl,rfl,rfl,rfl,rfl,rfl,rfl,trivial⟩
        ·have ey:=im bP bo;refine Ba Z rfl [3,4,5,6,7,8,9,10,11,12,13,14] rfl ?_;obtain rfl:=oi ey;refine DY ?_ (bV _ _ ⟨rfl,rfl⟩);exact⟨rfl,rfl,rfl,rfl,rfl,rfl,rfl,rfl,trivial⟩
      ·refine JL.exit rfl (JS.drop 1 aK rfl λez=>?_);obtain rfl:=oi cT;have eA:bI=(Sum.inr Y.1):=(bN _ aR).symm;exact AA (cO _ _ ⟨Y.1,ai,az,aA,aB,eA,rfl,rfl,ao,ez,bM⟩) rfl
    ·refine JL.exit rfl (JS.drop 0 bG rfl λeB=>?_);refine JS.drop 1 eB rfl λeC=>?_;obtain rfl:=oi cD;have eD:be=(Sum.inr ()):=(bf _ aH).symm;exact AA (bF _ _ ⟨(),am,eD,rfl,rfl,an,eC⟩) rfl
  ·intro eE;refine JL.block (Cj cm (λL s aM=>∃(a6:LH) (a7:Obj),Jn ba H a6 [[(K,a7)]] [(4,Aj ab 0),(6,.map (some K)),(26,sV b9 aG.1.2 ca),(27,iV (aG.1.2.length:Int)),(28,iV aM.2)] L s (BA DL true rB false a6 a7 aM.1)) ⟨ba,(.map #[] 0),rfl,rfl,Aw,ck,BA.nil⟩ ?_);rintro _ _ aM ⟨a6,a7,rfl,rfl,bp,bW,bY⟩ eF ⟨fx,bq⟩ eG;have bZ:=bq;unfold Sv at bZ;refine zg 5 rfl (AS bZ (λeH eI=>?_) (λeH eJ=>?_))
   ·obtain⟨aE,eK,eL⟩:=bs eI;refine zg 5 rfl (JS.ix (cb.Ag (aN.Ad bp)) eK underlying23 Bp ?_);rintro fy fz _ ⟨_,_,rfl,rfl,⟨_,_,rfl,rfl,rfl⟩⟩ eM;refine Cw eM DX Bp rfl rfl (BI bW BK λfA eN=>?_);refine BB 1 eN Bp λeO=>?_;refine CP 1 eO rfl λeP b0 b1 eQ=>zg 3 rfl (B5 0 b1 underlying27 Az A4 ?_);refine B5 1 b1 underlying27 Az A4 ?_;refine Am (v:= .agg #[iV aE.1,iV aE.2.1]) rfl (λρ h=>Dc [(0,1),(1,1)] h IK underlying101 ⟨rfl,AQ type3,rfl,AQ type3,trivial⟩ rfl rfl) (JS.mapUpdate (xs:=aM.1) (x0:=(aE.1,aE.2.1)) (v0:=true) 0 O2 underlying99 (bY.Ag b0) ⟨_,⟨_,_,rfl,rfl,rfl⟩,rfl⟩ ⟨_,rfl,rfl⟩ eQ rfl rfl rfl rfl rfl rfl rfl λeR eS eT=>?_);obtain⟨eU,eV,eW⟩:=bs eL;refine zg 3 rfl (Bm eV rfl rfl rfl ?_);refine zg 2 rfl ?_;obtain rfl:=oi eW;exact AA (eG _ _ ((C8 aM.1 (aE.1,aE.2.1) true),eU) ⟨eP,eR,rfl,rfl,(bp.Ad b0),eT,eS⟩ bq) rfl
   ·refine JL.exit rfl ?_;obtain rfl:=oi eJ;obtain rfl:=eF _ bq;exact AA (eE _ _ ⟨a6,a7,rfl,rfl,bp,bW,bY⟩) rfl
end Pal
namespace Pal
open Go Go.Conc Go.Proofs
open Go.Proofs.Tryz
variable {J:Judge Tryz.prog}{E:LH}
def Sf:List Nat:= [0,1,2,2,3,3,3,3,4,4,4,4,4,4,4,4,5,5,5,5,5,5,5,5,5,5,5,5,5,5,5,5,6,6,6,6,6,6,6,6,6,6,6,6,6,6,6,6,6,6,6,6,6,6,6,6,6,6,6,6,6,6,6,6,7,7,7,7,7,7,7,7,7,7,7,7,7,7,7,7,7,7,7,7,7,7,7,7,7,7,7,7,7,7,7,7,7,7,7,7,7,7,7,7,7,7,7,7,7,7,7,7,7,7,7,7,7,7,7,7,7,7,7,7,7,7,7,7,8,8,8,8,8,8,8,8,8,8,8,8,8,8,8,8,8,8,8,8,8,8,8,8,8,8,8,8,8,8,8,8,8,8,8,8,8,8,8,8,8,8,8,8,8,8,8,8,8,8,8,8,8,8,8,8,8,8,8,8,8,8,8,8,8,8,8,8,8,8,8,8,8,8,8,8,8,8,8,8,8,8,8,8,8,8,8,8,8,8,8,8,8,8,8,8,8,8,8,8,8,8,8,8,8,8,8,8,8,8,8,8,8,8,8,8,8,8,8,8,8,8,8,8,8,8,8,8]
def f146(fu_:Nat)(p0:Nat):Option Int:= Option.bind (if(((4294967296):Nat):Int)<=(((p0):Nat):Int) then(some (p0>>>32,32)) else(some (p0,0))) λK=> Option.bind (if(((65536):Nat):Int)<=(((K.1):Nat):Int) then((Av (K.2+16)).bind λY=> some (K.1>>>16,Y)) else(some K)) λO=> Option.bind (if(((256):Nat):Int)<=(((O.1):Nat):Int) then((Av (O.2+8)).bind λZ=> some (O.1>>>8,Z)) else(some O)) λU=> (PC Sf (((((U.1) % 256):Nat):Int))).bind λaa=> (Av (((aa):Nat):Int)).bind λab=> (Av (U.2+ab)).bind λac=> some ac
theorem Xz{p0:Nat}{fu_:Nat}{r:Int}(Y:f146 fu_ p0=some r):AL J 146 [.int .u64 ((p0:Nat):Int)] E [] (λw E' B'=>w=iV r/\B'= []):=by
 refine Bi func146 λQ aQ cs H Z ah=>?_;unfold f146 at Y;obtain⟨K,ai,aj⟩:=bs Y;refine zg 10 rfl (DF [] [(0,.int .u64 ((K.1:Nat):Int)),(2,iV K.2)] (λaR ak aa=>?_) (λab=>?_))
 ·obtain⟨O,al,am⟩:=bs aj;refine zg 6 rfl (DF [] [(0,.int .u64 ((O.1:Nat):Int)),(2,iV O.2)] (λaS an ac=>?_) (λae=>?_))
  ·obtain⟨U,ao,ap⟩:=bs am;refine zg 6 rfl (DF [] [(0,.int .u64 ((U.1:Nat):Int)),(2,iV U.2)] (λaT aq ar=>?_) (λag=>?_))
   ·refine zg 4 rfl (Am (v:= .int .u8 (((U.1) % 256:Nat):Int)) rfl (λρ h=>WT underlying72 underlying5 (h _ _ rfl)) ?_);obtain⟨au,av,aw⟩:=bs ap;refine Am (v:= .int .u8 ((au:Nat):Int)) rfl (λρ h=>UG (l:=Sf) (by decide+kernel) underlying9 (h _ _ rfl) (h _ _ rfl) av) ?_;obtain⟨ay,az,aA⟩:=bs aw;refine Am (v:=iV ay) rfl (λρ h=>WX underlying5 underlying3 (h _ _ rfl) az) ?_;obtain⟨aU,aB,aC⟩:=bs aA;refine Bm aB rfl rfl rfl (zg 2 rfl ?_);obtain rfl:=oi aC;exact AX func146 rfl rfl (ah ((ak.Ad an).Ad aq) rfl ⟨rfl,rfl⟩ ar)
   ·refine AS ao (λaD aE=>?_) (λaD aF=>?_)
    ·refine zg 3 rfl (Am (v:= .int .u64 ((O.1>>>8:Nat):Int)) rfl (λρ h=>KL 8 (h _ _ rfl) (h _ _ rfl) (by decide)) ?_);obtain⟨aV,aG,aH⟩:=bs aE;refine zg 4 rfl (Bm aG rfl rfl rfl ?_);refine zg 2 rfl ?_;obtain rfl:=oi aH;exact ag Aw ac rfl
    ·refine JL.skip ?_;obtain rfl:=oi aF;exact ag Aw ac rfl
  ·refine AS al (λaI aJ=>?_) (λaI aK=>?_)
   ·refine zg 3 rfl (Am (v:= .int .u64 ((K.1>>>16:Nat):Int)) rfl (λρ h=>KL 16 (h _ _ rfl) (h _ _ rfl) (by decide)) ?_);obtain⟨aW,aL,aM⟩:=bs aJ;refine zg 4 rfl (Bm aL rfl rfl rfl ?_);refine zg 2 rfl ?_;obtain rfl:=oi aM;exact ae Aw aa rfl
   ·refine JL.skip ?_;obtain rfl:=oi aK;exact ae Aw aa rfl
 ·refine AS ai (λaN aO=>?_) (λaN aP=>?_)
  ·refine zg 3 rfl (Am (v:= .int .u64 ((p0>>>32:Nat):Int)) rfl (λρ h=>KL 32 (h _ _ rfl) (h _ _ rfl) (by decide)) ?_);refine zg 5 rfl ?_;obtain rfl:=oi aO;exact ab Aw Z rfl
  ·refine JL.skip ?_;obtain rfl:=oi aP;exact ab Aw Z rfl
def f115(fu_:Nat)(p0:Nat):Option Int:= (f146 fu_ p0).bind λK=> some K
theorem Nf{p0:Nat}{fu_:Nat}{r:Int}(K:f115 fu_ p0=some r):AL J 115 [.int .u64 ((p0:Nat):Int)] E [] (λw E' B'=>w=iV r/\B'= []):=by
 refine Bi func115 λQ ac cs H O U=>?_;unfold f115 at K;obtain⟨ae,Y,Z⟩:=bs K;refine zg 10 rfl (CM (Xz Y) rfl rfl (A7 func146 rfl) O λag aa ab=>?_);refine zg 2 rfl ?_;obtain rfl:=oi Z;exact AX func115 rfl rfl (U aa rfl ⟨rfl,rfl⟩ ab)
def R9(fu_:Nat)(Y:Int)(K:Int×Ay):Option (Bj (Int×Ay) (Ay)):= Option.bind (if Y<K.1 then((ix K.2 K.1).bind λZ=> (Av (K.1 - 1)).bind λaa=> (ix K.2 aa).bind λab=> (f113 fu_ Z ab).bind λac=> some (decide (ac<0))) else(some false)) λae=> if ae=true then((Av (K.1 - 1)).bind λO=> (Av (K.1 - 1)).bind λag=> (ix K.2 ag).bind λU=> (ix K.2 K.1).bind λah=> (ix (K.2.set (Int.toNat K.1) U) O).bind λaj=> (Av (K.1 - 1)).bind λai=> some (.more (ai,((K.2.set (Int.toNat K.1) U).set (Int.toNat O) ah)))) else(some (.done K.2))
def Rr(fu_:Nat)(O:Int)(p2:Int)(K:Int×Ay):Option (Bj (Int×Ay) (Ay)):= if K.1<p2 then(Option.bind (iter (R9 fu_ O) fu_ K) λU=> (Av (K.1+1)).bind λY=> some (.more (Y,U))) else(some (.done K.2))
def f193(fu_:Nat)(p0:Ay)(K:Int)(p2:Int):Option (Ay):= (Av (K+1)).bind λO=> Option.bind (iter (Rr fu_ K p2) fu_ (O,p0)) λU=> some U
theorem XD{K:Nat}{U:Nat}{nw:Nat}{ar:Av_}{p0:Ay}{ac:Int}{p2:Int}(hW:WL 27 Ax E K U nw ar p0){fu_:Nat}{r:Ay}(aA:f193 fu_ p0 ac p2=some r):AL J 193 [.slice (AP K) nw U,iV ac,iV p2,(fV 113)] E [(K,.cells ar 27 (0,0))] (λw E' B'=>∃(aB:Av_),w= .tuple #[]/\B'= [(K,.cells aB 27 (0,0))]/\WL 27 Ax E' K U nw aB r):=by
 refine Bi func193 λQ bU cs H aR aS=>?_;unfold f193 at aA;obtain⟨bV,aT,aU⟩:=bs aA;refine zg 3 rfl (Bm aT rfl rfl rfl ?_);obtain⟨aV,aW,aX⟩:=bs aU;refine zg 2 rfl (Bq (λL s=>∃(au:LH) (f17:Av_),Jn E H au [bX K f17 27] [] L s (WL 27 Ax au K U nw f17 aV)) ?_ ?_)
 ·rintro _ _ ⟨au,f17,rfl,rfl,aY,aZ,a0⟩;obtain rfl:=oi aX;exact JL.fin (v:= .tuple #[]) rfl rfl (Bx.list func193 rfl (vs:= []) trivial) (aS aY rfl ⟨f17,rfl,(by first | rfl | simp | (simp [Value.cells])),a0⟩ aZ)
 ·intro a1;refine JL.block (Cj aW (λL s ag=>∃(ae:LH) (f25:Av_),Jn E H ae [bX K f25 27] [(0,.slice (AP K) nw U),(1,iV ac),(2,iV p2),(3,(fV 113)),(8,iV ag.1)] L s (WL 27 Ax ae K U nw f25 ag.2)) ⟨E,ar,rfl,rfl,Aw,aR,hW⟩ ?_);rintro _ _ ag ⟨ae,f25,rfl,rfl,aC,aD,aE⟩ a2 ⟨bW,av⟩ a3;have aF:=av;unfold Rr at aF;refine zg 7 rfl (AS aF (λa4 a5=>?_) (λa4 a6=>?_))
  ·obtain⟨aG,a7,a8⟩:=bs a5;refine zg 8 rfl (Bq (λL s=>∃(an:LH) (f48:Av_),Jn ae H an [bX K f48 27] [(0,.slice (AP K) nw U),(1,iV ac),(2,iV p2),(3,(fV 113)),(8,iV ag.1)] L s (WL 27 Ax an K U nw f48 aG)) ?_ ?_)
   ·rintro _ _ ⟨an,f48,rfl,rfl,a9,ba,bb⟩;obtain⟨be,bf,bg⟩:=bs a8;refine zg 3 rfl (Bm bf rfl rfl rfl ?_);refine zg 2 rfl ?_;obtain rfl:=oi bg;exact AA (a3 _ _ (be,aG) ⟨an,f48,rfl,rfl,(aC.Ad a9),ba,bb⟩ av) rfl
   ·intro bh;refine JL.block (Cj a7 (λL s ab=>∃(ak:LH) (f58:Av_),Jn ae H ak [bX K f58 27] [(0,.slice (AP K) nw U),(1,iV ac),(2,iV p2),(3,(fV 113)),(8,iV ag.1),(9,iV ab.1)] L s (WL 27 Ax ak K U nw f58 ab.2)) ⟨ae,f25,rfl,rfl,Aw,aD,aE⟩ ?_);rintro _ _ ab ⟨ak,f58,rfl,rfl,aH,al,O⟩ bi ⟨bY,aw⟩ bj;have aI:=aw;unfold R9 at aI;refine zg 2 rfl (EY 17 [K] ⟨⟨0,_,rfl⟩,trivial⟩ al λaa=>?_);refine Ba aa rfl [0,1,2,3] rfl ?_;obtain⟨bl,aJ,bm⟩:=bs aI;refine Gg 0 #[true,true,true,true,true,true,true,true,true,true,true,true,true,true,true,true,true] (λL s=>∃(ao:LH),Jm ak H ao [bX K f58 27] [(0,.slice (AP K) nw U),(1,iV ac),(2,iV p2),(3,(fV 113)),(8,iV ag.1),(9,iV ab.1),(34,.bool bl)] L s) ?_ ?_
    ·rintro _ _ ⟨ao,rfl,rfl,ah,ap⟩;refine AN.fin (by decide+kernel) (CC bm (λbn bo=>?_) (λbn bp=>?_))
     ·refine zg 3 rfl (Hr [15,17] [K] mixed rfl ?_);refine Bc 0 rfl rfl (Bc 1 rfl rfl ?_);refine Bc 2 rfl rfl (Bc 3 rfl rfl ?_);obtain⟨aK,bq,br⟩:=bs bo;refine EN 4 true rfl rfl (λρ h s' aL=>Dz (h _ _ rfl) (h _ _ rfl) bq) (Bc 5 rfl rfl ?_);refine Bc 6 rfl rfl ?_;obtain⟨bZ,bu,bv⟩:=bs br;refine EN 7 true rfl rfl (λρ h s' aL=>Dz (h _ _ rfl) (h _ _ rfl) bu) ?_;obtain⟨Y,aM,bw⟩:=bs bv;obtain⟨_,⟨_,_,rfl,rfl,⟨_,_,rfl,rfl,rfl⟩⟩,bx⟩:=WL.at (O.Ag ah) aM;refine JB.ix 8 O.2 aM underlying23 Bp ?_;refine Ta 9 [iV Y.1,iV Y.2.1,iV Y.2.2] 0 ap bx DX Bp ?_;refine Bc 10 rfl rfl (Bc 11 rfl rfl ?_);obtain⟨Z,aq,bz⟩:=bs bw;obtain⟨_,⟨_,_,rfl,rfl,⟨_,_,rfl,rfl,rfl⟩⟩,bA⟩:=WL.at (O.Ag ah) aq;refine JB.ix 12 O.2 aq underlying23 Bp ?_;refine Ta 13 [iV Z.1,iV Z.2.1,iV Z.2.2] 0 ap bA DX Bp ?_;refine JB.ix 14 O.2 aq underlying23 Bp ?_;have am:=WL.put (x':=Y) (ws':= [iV Y.1,iV Y.2.1,iV Y.2.2]) (O.Ag ah) O.2 aq ⟨_,_,rfl,rfl,⟨_,_,rfl,rfl,rfl⟩⟩;refine Es 15 0 ap Bp am.2 λbB=>?_;obtain⟨b0,ay,bC⟩:=bs bz;obtain⟨_,⟨_,_,rfl,rfl,⟨_,_,rfl,rfl,rfl⟩⟩,b1⟩:=WL.at am.1 ay;refine JB.ix 16 (am.1).2 ay underlying23 Bp ?_;have aN:=WL.put (x':=Z) (ws':= [iV Z.1,iV Z.2.1,iV Z.2.2]) am.1 (am.1).2 ay ⟨_,_,rfl,rfl,⟨_,_,rfl,rfl,rfl⟩⟩;refine Es 17 0 bB Bp aN.2 λbD=>?_;refine JB.fin (by decide+kernel) ?_;obtain⟨bE,bF,bG⟩:=bs bC;refine zg 3 rfl (Cg bF rfl rfl rfl ?_);refine zg 2 rfl ?_;obtain rfl:=oi bG;exact AA (bj _ _ (bE,((ab.2.set (Int.toNat ab.1) Y).set (Int.toNat aK) Z)) ⟨ao,(Bb (Bb f58 (Int.toNat (ab.1)*3) [iV Y.1,iV Y.2.1,iV Y.2.2]) (Int.toNat (aK)*3) [iV Z.1,iV Z.2.1,iV Z.2.2]),rfl,rfl,(aH.Ad ah),bD,aN.1⟩ aw) rfl
     ·refine JL.exit rfl ?_;obtain rfl:=oi bp;obtain rfl:=bi _ aw;exact AA (bh _ _ ⟨ao,f58,rfl,rfl,(aH.Ad ah),ap,(O.Ag ah)⟩) rfl
    ·intro aO;refine GW (q:=ac<ab.1) (i:=21) rfl (λaz=>?_) (λaz=>?_)
     ·have bH:=ip aJ az;refine Ba aa rfl [4,5,6] rfl ?_;obtain⟨ai,aP,bI⟩:=bs bH;obtain⟨_,⟨_,_,rfl,rfl,⟨_,_,rfl,rfl,rfl⟩⟩,bJ⟩:=WL.at O aP;refine JG.ix 7 aa (O).2 aP underlying23 Bp ?_;refine Tg 8 aa [iV ai.1,iV ai.2.1,iV ai.2.2] 0 al bJ DX Bp ?_;refine Ba aa rfl [9,10] rfl ?_;obtain⟨b2,bK,bL⟩:=bs bI;refine AK 11 aa rfl rfl (λρ h s' aL=>Dz (h _ _ rfl) (h _ _ rfl) bK) ?_;obtain⟨aj,aQ,bM⟩:=bs bL;obtain⟨_,⟨_,_,rfl,rfl,⟨_,_,rfl,rfl,rfl⟩⟩,bN⟩:=WL.at O aQ;refine JG.ix 12 aa (O).2 aQ underlying23 Bp ?_;refine Tg 13 aa [iV aj.1,iV aj.2.1,iV aj.2.2] 0 al bN DX Bp ?_;obtain⟨b3,bO,bP⟩:=bs bM;refine Jh (i:=14) ⟨⟨0,_,rfl⟩,trivial⟩ (vs:= [.agg #[iV ai.1,iV ai.2.1,iV ai.2.2],.agg #[iV aj.1,iV aj.2.1,iV aj.2.2]]) (Ss bO) (by decide+kernel) rfl rfl rfl rfl (A7 func113 rfl) rfl al ?_;rintro _ bQ _ bR ⟨rfl,rfl⟩ bS;refine Ba aa rfl [15,16] rfl ?_;obtain rfl:=oi bP;refine DY ?_ (aO _ _ ⟨bQ,rfl,rfl,bR,bS⟩);exact⟨rfl,rfl,rfl,rfl,rfl,rfl,rfl,trivial⟩
     ·have bT:=im aJ az;refine Ba aa rfl [4,5,6,7,8,9,10,11,12,13,14,15,16] rfl ?_;obtain rfl:=oi bT;refine DY ?_ (aO _ _ ⟨ak,rfl,rfl,Aw,al⟩);exact⟨rfl,rfl,rfl,rfl,rfl,rfl,rfl,trivial⟩
  ·refine JL.exit rfl ?_;obtain rfl:=oi a6;obtain rfl:=a2 _ av;exact AA (a1 _ _ ⟨ae,f25,rfl,rfl,aC,aD,aE⟩) rfl
def Rh(fu_:Nat)(p0:Ay)(K:Int)(p2:Int)(p3:Int)(Y:Unit):Option (Bj Unit ((Ay)⊕(Unit))):= (Av (p2 - K)).bind λO=> if O<=12 then((f193 fu_ p0 K p2).bind λU=> some (.done (Sum.inl U))) else(if p3=0 then(none) else(none))
def f169(fu_:Nat)(p0:Ay)(K:Int)(p2:Int)(p3:Int):Option (Ay):= Option.bind (iter (Rh fu_ p0 K p2 p3) fu_ ()) λO=> Sum.elim (λr=>some r) (λU=> none) O
theorem Yd{K:Nat}{O:Nat}{nw:Nat}{U:Av_}{p0:Ay}{Y:Int}{p2:Int}{p3:Int}(hW:WL 27 Ax E K O nw U p0){fu_:Nat}{r:Ay}(Z:f169 fu_ p0 Y p2 p3=some r):AL J 169 [.slice (AP K) nw O,iV Y,iV p2,iV p3,(fV 113)] E [(K,.cells U 27 (0,0))] (λw E' B'=>∃(aa:Av_),w= .tuple #[]/\B'= [(K,.cells aa 27 (0,0))]/\WL 27 Ax E' K O nw aa r):=by
 refine Bi func169 λQ aF cs H ah ai=>?_;unfold f169 at Z;obtain⟨aG,aj,ak⟩:=bs Z;refine zg 8 rfl (Bq (λL s=>False) ?_ ?_)
 ·intro _ _ al;exact al.elim
 ·intro aH;refine JL.block (Dh aj (λab=> [bX K U 27]) (λab=> [(0,.slice (AP K) nw O),(1,iV Y),(2,iV p2),(3,iV p3),(4,(fV 113)),(10,.bool true),(11,.bool true)]) Aw ah ?_);rintro ab aI ac am an ⟨aJ,ae⟩ aK;have ag:=ae;unfold Rh at ag;obtain⟨aL,ao,ap⟩:=bs ag;refine zg 5 rfl (Cg ao rfl rfl rfl ?_);refine zg 8 rfl (AS ap (λaq ar=>?_) (λaq au=>?_))
  ·obtain⟨aM,av,aw⟩:=bs ar;refine zg 6 rfl (Cq 0 (XD (hW.Ag ac) av) rfl rfl (A7 func193 rfl) am rfl ?_);rintro _ aN _ ay ⟨f32,rfl,rfl,az⟩ aA;refine JL.done ?_;obtain rfl:=oi aw;obtain rfl:=an _ ae;have aB:=elim_inl ak;obtain rfl:=oi aB;exact AX func169 rfl rfl (ai (ac.Ad ay) rfl ⟨f32,rfl,(by first | rfl | simp | (simp [Value.cells])),az⟩ aA)
  ·refine zg 7 rfl (AS au (λaC aD=>?_) (λaC aE=>?_))
   ·refine zg 6 rfl ?_;cases aD
   ·refine zg 5 rfl (Am (v:= .bool false) rfl (λρ h=>Yl.not (c:=true) (h _ _ rfl)) ?_);refine zg 9 rfl ?_;cases aE
def f130(fu_:Nat)(p0:Ay):Option (Ay):= (f115 fu_ (CN (p0.length:Int))).bind λK=> (f169 fu_ p0 0 (p0.length:Int) K).bind λO=> some O
theorem Yy{K:Nat}{O:Nat}{nw:Nat}{U:Av_}{p0:Ay}(hW:WL 27 Ax E K O nw U p0){fu_:Nat}{r:Ay}(Y:f130 fu_ p0=some r):AL J 130 [.slice (AP K) nw O,(fV 113)] E [(K,.cells U 27 (0,0))] (λw E' B'=>∃(Z:Av_),w= .tuple #[]/\B'= [(K,.cells Z 27 (0,0))]/\WL 27 Ax E' K O nw Z r):=by
 refine Bi func130 λQ an cs H ab ac=>?_;unfold f130 at Y;refine zg 3 rfl (Am (v:=iV (p0.length:Int)) rfl (λρ h=>RI (hW).2 rfl underlying80 (h _ _ rfl)) ?_);refine zg 6 rfl (Am (v:= .int .u64 ((CN (p0.length:Int):Nat):Int)) rfl (λρ h=>Yl.CN underlying3 underlying136 (h _ _ rfl)) ?_);obtain⟨ao,ae,ag⟩:=bs Y;refine CM (Nf ae) rfl rfl Md ab λap aa ah=>?_;obtain⟨aq,ai,aj⟩:=bs ag;refine zg 1 rfl (Cq 0 (Yd (hW.Ag aa) ai) rfl rfl (A7 func169 rfl) ah rfl ?_);rintro _ ar _ ak ⟨f12,rfl,rfl,al⟩ am;refine JL.done ?_;obtain rfl:=oi aj;exact JL.fin (v:= .tuple #[]) rfl rfl (Bx.list func130 rfl (vs:= []) trivial) (ac (aa.Ad ak) rfl ⟨f12,rfl,(by first | rfl | simp | (simp [Value.cells])),al⟩ am)
def QJ(fu_:Nat)(O:Int)(K:Int)(Y:Unit):Option (Bj Unit Unit):= Option.bind (if O<K then(none) else(some false)) λU=> if U=true then((Av (K - 1)).bind λZ=> (Av (K - 1)).bind λaa=> none) else(some (.done ()))
def QK(fu_:Nat)(O:Int)(p2:Int)(K:Int):Option (Bj Int Unit):= if K<p2 then(Option.bind (iter (QJ fu_ O K) fu_ ()) λY=> (Av (K+1)).bind λU=> some (.more U)) else(some (.done ()))
def Pu(fu_:Nat)(K:Int)(p2:Int):Option Unit:= (Av (K+1)).bind λO=> Option.bind (iter (QK fu_ K p2) fu_ O) λU=> some ()
theorem WW{U:Int}{p2:Int}{fu_:Nat}{r:Unit}(aa:Pu fu_ U p2=some r):AL J 193 [nS,iV U,iV p2,(fV 113)] E [] (λw E' B'=>w= .tuple #[]/\B'= []):=by
 refine Bi func193 λQ a3 cs H am an=>?_;unfold Pu at aa;obtain⟨a4,ao,ap⟩:=bs aa;refine zg 3 rfl (Bm ao rfl rfl rfl ?_);obtain⟨a5,aq,ar⟩:=bs ap;refine zg 2 rfl (DF [] [] (λa6 au av=>?_) (λaw=>?_))
 ·obtain rfl:=oi ar;exact JL.fin (v:= .tuple #[]) rfl rfl (Bx.list func193 rfl (vs:= []) trivial) (an au rfl ⟨rfl,rfl⟩ av)
 ·refine JL.block (Dh aq (λK=> []) (λK=> [(0,.slice none 0 0),(1,iV U),(2,iV p2),(3,(fV 113)),(8,iV K)]) Aw am ?_);rintro K a7 ab ac ay ⟨a8,Y⟩ az;have ae:=Y;unfold QK at ae;refine zg 7 rfl (AS ae (λaA aB=>?_) (λaA aC=>?_))
  ·obtain⟨a9,aD,aE⟩:=bs aB;refine zg 8 rfl (DF [] [(0,.slice none 0 0),(1,iV U),(2,iV p2),(3,(fV 113)),(8,iV K)] (λba aF aG=>?_) (λaH=>?_))
   ·obtain⟨aI,aJ,aK⟩:=bs aE;refine zg 3 rfl (Bm aJ rfl rfl rfl ?_);refine zg 2 rfl ?_;obtain rfl:=oi aK;exact az aI (ab.Ad aF) aG rfl Y
   ·refine JL.block (Dh aD (λag=> []) (λag=> [(0,.slice none 0 0),(1,iV U),(2,iV p2),(3,(fV 113)),(8,iV K),(9,iV K)]) Aw ac ?_);rintro ag ah aL aM aN ⟨bb,ai⟩ be;have aj:=ai;unfold QJ at aj;refine zg 2 rfl (EX 17 λO=>?_);refine Ba O rfl [0,1,2,3] rfl ?_;obtain⟨aO,ak,aP⟩:=bs aj;refine Gg 0 #[true,true,true,true,true,true,true,true,true,true,true,true,true,true,true,true,true] (λL s=>∃(al:LH),Jm ah H al [] [(0,.slice none 0 0),(1,iV U),(2,iV p2),(3,(fV 113)),(8,iV K),(9,iV K),(34,.bool aO)] L s) ?_ ?_
    ·rintro _ _ ⟨al,rfl,rfl,aQ,aR⟩;refine AN.fin (by decide+kernel) (CC aP (λaS aT=>?_) (λaS aU=>?_))
     ·refine zg 3 rfl (EX 16 λO=>?_);refine Ba O rfl [0,1,2,3] rfl ?_;obtain⟨bf,aV,aW⟩:=bs aT;refine AK 4 O rfl rfl (λρ h s' aX=>Dz (h _ _ rfl) (h _ _ rfl) aV) (Ba O rfl [5,6] rfl ?_);obtain⟨bg,aY,aZ⟩:=bs aW;refine AK 7 O rfl rfl (λρ h s' aX=>Dz (h _ _ rfl) (h _ _ rfl) aY) ?_;cases aZ
     ·refine JL.exit rfl ?_;obtain rfl:=oi aU;obtain rfl:=aN _ ai;exact aH (aL.Ad aQ) aR rfl
    ·intro a0;refine GW (q:=U<K) (i:=21) rfl (λZ=>?_) (λZ=>?_)
     ·have a1:=ip ak Z;refine Ba O rfl [4,5,6] rfl ?_;cases a1
     ·have a2:=im ak Z;refine Ba O rfl [4,5,6,7,8,9,10,11,12,13,14,15,16] rfl ?_;obtain rfl:=oi a2;refine DY ?_ (a0 _ _ ⟨ah,rfl,rfl,Aw,aM⟩);exact⟨rfl,rfl,rfl,rfl,rfl,rfl,rfl,trivial⟩
  ·refine JL.exit rfl ?_;obtain rfl:=oi aC;obtain rfl:=ay _ Y;exact aw ab ac rfl
def Q0(fu_:Nat)(K:Int)(p2:Int)(p3:Int)(U:Unit):Option (Bj Unit ((Unit)⊕(Unit))):= (Av (p2 - K)).bind λO=> if O<=12 then((Pu fu_ K p2).bind λY=> some (.done (Sum.inl ()))) else(if p3=0 then(none) else(none))
def Pp(fu_:Nat)(K:Int)(p2:Int)(p3:Int):Option Unit:= Option.bind (iter (Q0 fu_ K p2 p3) fu_ ()) λO=> Sum.elim (λr=>some r) (λU=> none) O
theorem WR{K:Int}{p2:Int}{p3:Int}{fu_:Nat}{r:Unit}(O:Pp fu_ K p2 p3=some r):AL J 169 [nS,iV K,iV p2,iV p3,(fV 113)] E [] (λw E' B'=>w= .tuple #[]/\B'= []):=by
 refine Bi func169 λQ aA cs H aa ab=>?_;unfold Pp at O;obtain⟨aB,ac,ae⟩:=bs O;refine zg 8 rfl (Bq (λL s=>False) ?_ ?_)
 ·intro _ _ ag;exact ag.elim
 ·intro aC;refine JL.block (Dh ac (λU=> []) (λU=> [(0,.slice none 0 0),(1,iV K),(2,iV p2),(3,iV p3),(4,(fV 113)),(10,.bool true),(11,.bool true)]) Aw aa ?_);rintro U aD ah ai aj ⟨aE,Y⟩ aF;have Z:=Y;unfold Q0 at Z;obtain⟨aG,ak,al⟩:=bs Z;refine zg 5 rfl (Cg ak rfl rfl rfl ?_);refine zg 8 rfl (AS al (λam an=>?_) (λam ao=>?_))
  ·obtain⟨aH,ap,aq⟩:=bs an;refine zg 6 rfl (CM (WW ap) rfl rfl (A7 func193 rfl) ai λaI ar au=>?_);refine JL.done ?_;obtain rfl:=oi aq;obtain rfl:=aj _ Y;have av:=elim_inl ae;obtain rfl:=oi av;exact AX func169 rfl rfl (ab (ah.Ad ar) rfl ⟨rfl,rfl⟩ au)
  ·refine zg 7 rfl (AS ao (λaw ay=>?_) (λaw az=>?_))
   ·refine zg 6 rfl ?_;cases ay
   ·refine zg 5 rfl (Am (v:= .bool false) rfl (λρ h=>Yl.not (c:=true) (h _ _ rfl)) ?_);refine zg 9 rfl ?_;cases az
def S7(fu_:Nat):Option Unit:= (f115 fu_ (CN ((0:Nat):Int))).bind λK=> (Pp fu_ 0 ((0:Nat):Int) K).bind λO=> some ()
theorem Xd{fu_:Nat}{r:Unit}(K:S7 fu_=some r):AL J 130 [nS,(fV 113)] E [] (λw E' B'=>w= .tuple #[]/\B'= []):=by
 refine Bi func130 λQ ai cs H O U=>?_;unfold S7 at K;refine zg 3 rfl (JL.ln underlying80 rfl rfl rfl ?_);refine zg 6 rfl (Am (v:= .int .u64 ((CN ((0:Nat):Int):Nat):Int)) rfl (λρ h=>Yl.CN underlying3 underlying136 (h _ _ rfl)) ?_);obtain⟨aj,Y,Z⟩:=bs K;refine CM (Nf Y) rfl rfl Md O λak aa ab=>?_;obtain⟨al,ac,ae⟩:=bs Z;refine zg 1 rfl (CM (WR ac) rfl rfl (A7 func169 rfl) ab λam ag ah=>?_);refine JL.done ?_;obtain rfl:=oi ae;exact JL.fin (v:= .tuple #[]) rfl rfl (Bx.list func130 rfl (vs:= []) trivial) (U (aa.Ad ag) rfl ⟨rfl,rfl⟩ ah)
theorem WU{J:Judge Tryz.prog}{E:LH}{a:Ao}{c:Nat}{g:Seg}{p0:Ay}(Y:OL 27 Ax E a c g p0){fu_:Nat}{r:Ay}(K:f130 fu_ p0=some r):
  AL J 130 [.slice a p0.length c,.func (.func 113) #[] #[]] E g (λw E' B'=>w= .tuple #[]/\OL 27 Ax E' a c B' r/\r.length=p0.length):=by
 rcases Y.cases with⟨rfl,rfl,rfl,rfl⟩ | ⟨bk,f,rfl,rfl,hW⟩
 ·have Z:r= []:=by
   cases fu_ with
   | zero=>exact absurd K (by simp [f130,f169,f193,iter])
   | succ fu_=>
    cases fu_ with
    | zero=>exact(Option.some.inj (K.symm.trans (by rfl:f130 1 []=some []))).trans rfl
    | succ fu_=>exact(Option.some.inj (K.symm.trans (by rfl:f130 (fu_+2) []=some []))).trans rfl
  subst Z;refine(Xd (fu_:=10) (r:=()) rfl).Ag ?_;rintro w E' B' hle ⟨O,rfl⟩;exact⟨O,OL.nil,rfl⟩
 ·refine(Yy hW K).Ag ?_;rintro w E' B' hle ⟨aa,O,rfl,U⟩;exact⟨O,U.1,U.2⟩
def f90(fu_:Nat)(p0:Ay):Option (Ay):= (f129 fu_ p0).bind λK=> (f130 fu_ K).bind λO=> some O
theorem Za{a1:Ao}{c2:Nat}{p0:Ay}(ac:Al Ax E a1 c2 p0){fu_:Nat}{r:Ay}(Z:f90 fu_ p0=some r):AL J 90 [sV a1 p0 c2] E [] (λw E' B'=>∃(aa:Ao) (ab:Nat),w= sV aa r ab/\B'= []/\Al Ax E' aa ab r):=by
 refine Bi func90 λQ aw cs H ae ag=>?_;unfold f90 at Z;obtain⟨ay,ah,ai⟩:=bs Z;refine zg 7 rfl (BT (Yz ac ah) rfl rfl (A7 func129 rfl) ae ?_);rintro _ az aA aj ⟨K,O,_,rfl,rfl,ak⟩ al;obtain⟨U,am,an⟩:=bs ai;refine zg 5 rfl (Cq 1 (WU ak am) rfl rfl (A7 func130 rfl) al rfl ?_);rintro _ aB aC ao ⟨rfl,ap,Y⟩ aq;refine EK (L':= [(6,.tuple #[]),(0,.slice K U.length O),(2,.slice none 0 0),(3,.slice a1 p0.length c2),(4,.slice K U.length O),(5,.slice K U.length O)]) ⟨rfl,by rw [Y];rfl,rfl,rfl,by rw [Y];rfl,by rw [Y];rfl,trivial⟩ ?_;refine zg 6 rfl (B8 1 ap aq rfl λaD ar au av=>?_);obtain rfl:=oi an;exact AX func90 rfl rfl (ag ((aj.Ad ao).Ad ar) rfl ⟨K,O,rfl,rfl,au⟩ av)
end Pal
namespace Pal
open Go Go.Conc
section
variable {P:Program}{J:Judge P}{Q:Gs_}{b:Frame}{n:Nat}{ds:Ld_}{ops:Ao_}{k:Li_}{cs:Lf_}{m fuel:Nat}{listed:Array Bool}{L:Env}{s:St}{E H:LH}{S:List Seg}
variable {d:Option Tmp}{x y:Operand}{t ty e:TypeId}{p:String}{af:Ae_}{g:On_}{v:Value}{i:Nat}
theorem Take.y0{oi:Oper}(hi:ops[i]? =some oi)(K:(!DG oi.op&&Bg n oi.dst)=true)(hw:AM L ops oi=some true)(O:∀ρ,EG L ρ->Yl P oi ρ s v)
  (h:AN J Q b n ds ops k cs m C6 fuel (A6 listed i) (Au L oi.dst v) s):Take J Q b n ds ops k cs m C6 fuel listed L s i:=
 Take.L3 hi K hw λρ U=>by
  have:=O ρ U
  unfold Yl at this
  refine Ec _ this ?_ (λ_ _ h=>h)
  rintro Y s' ⟨rfl,rfl⟩
  exact h
end
end Pal
namespace Pal
open Go Go.Conc
def Gp{P:Program}(J:Judge P)(f:FuncId)(args:Lv_)(E:LH)(B:Seg)(p:Bool)(pv:Value)(R:Value->LH->Seg->Prop):Prop:=
 ∀(Q:Gs_) (bc:Frame) (Tc:Av_) (dsc:Ld_) (K:Li_) (cs:Lf_) (H:LH),Nd E H B->
  (p=false->∀v E' B',Le E E'->R v E' B'->Nd E' H B'->J.ok Q (G ((fr bc Tc dsc K).finish v) cs) (mk E' H B'))->
  (p=true->∀E' B',Le E E'->Nd E' H B'->J.ok Q (G (GH bc Tc dsc K (raised pv)) cs) (mk E' H B'))->
  J.ok Q (G (Frame.enter P f args.toArray .normal) (fr bc Tc dsc K::cs)) (mk E H B)
section
variable {P:Program}{J:Judge P}{Q:Gs_}{b bc:Frame}{n:Nat}{L:Env}{ds dsc:Ld_}{k:Li_}{cs:Lf_}{E H:LH}{S:List Seg}{i:Nat}{rest:List Nat}{d:Option Tmp}{ty e t:TypeId}{pp:String}{af:Ae_}{g:On_}{ops:Ao_}{pv:Value}
theorem Gp.enter{f:FuncId}{fn:Func}{c:Code}{vs:Lv_}{B:Seg}{R:Value->LH->Seg->Prop}{p:Bool}(aa:P.funcs[f]? =some fn)(hb:fn.body=some c)(ak:vs.length<=fn.ntmps)
  (h:∀(Q:Gs_) (bc:Frame) (Tc:Av_) (dsc:Ld_) (O:Li_) (cs:Lf_) (H:LH),Aq E H [B]->
   (p=false->∀v E' S' B',Le E E'->S'.flatten=B'->R v E' B'->Aq E' H S'->J.ok Q (G ((fr bc Tc dsc O).finish v) cs) (Ak E' H S'))->
   (p=true->∀E' S',Le E E'->Aq E' H S'->J.ok Q (G (GH bc Tc dsc O (raised pv)) cs) (Ak E' H S'))->
   JL J Q (base f) fn.ntmps (F2 0 vs) [] [.code c] (fr bc Tc dsc O::cs) (Ak E H [B])):Gp J f vs E B p pv R:=λQ bc Tc dsc O cs H ab ac K=>by
 have he:Frame.enter P f vs.toArray .normal=fr (base f) (vs.toArray++Array.replicate (fn.ntmps - vs.length) undef) [] [.code c]:=by
  simp [Frame.enter,fr,aa,hb,base];rfl
 have ae:mk E H B=Ak E H [B]:=by unfold Ak;simp
 rw [he,ae];refine h Q bc Tc dsc O cs H (by unfold Aq;simpa using ab) (λU v E' S' B' hle ag ah Y=>?_) (λU E' S' hle Y=>?_) _ ⟨by simp;omega,λt v ai=>?_⟩
 ·subst ag;exact ac U v E' S'.flatten hle ah Y
 ·exact K U E' S'.flatten hle Y
 ·obtain⟨_,K⟩:=Jf ai;have aj:t<vs.length:=by
   rcases Nat.lt_or_ge t vs.length with Z | Z
   ·exact Z
   ·simp at K;have:=(List.getElem?_eq_some_iff.1 K).1;omega
  rw [Array.getD_eq_getD_getElem?,Array.getElem?_append_left (by simpa using aj)];simp at K;simp [K]
theorem Uz{x:Operand}{f:FuncId}{caps:Lv_}{args:Array Operand}{ats:Array TypeId}{s:St}{vs:Lv_}(hb:De P f=true)
  (U:ops[i]? =some ⟨d,.call ⟨.value x,args,ats⟩,ty,pp,af,g⟩) (hw:AM L ops ⟨d,.call ⟨.value x,args,ats⟩,ty,pp,af,g⟩=some true) (O:((b.kind != .early)&&Bg n d)=true)
  (Y:ev L x=some (.func (.func f) #[] caps.toArray)) (Z:evs L args.toList=some vs)
  (h:∀T,Has n L T->J.ok Q (G (Frame.enter P f (vs++caps).toArray .normal) (fr b T ds (.inRegion ops (i::rest)::k)::cs)) s):
  JL J Q b n L ds (.inRegion ops (i::rest)::k) cs s:=λT K=>by
 simp only [Bool.and_eq_true] at O
 have aa:args.map (Bs T)=vs.toArray:=by
  rw [← Gf K.FU Z];apply Array.ext';simp
 refine Judge.oper U (BX K hw) (by simpa using O.1) (.inr λc ab=>by cases ab) ?_;have hd:lp P (execOp (Bs T) ⟨d,.call ⟨.value x,args,ats⟩,ty,pp,af,g⟩) s (upon J Q b T ds ops i rest k cs d) (K0 J Q b T ds ops i rest k cs):=by
  have ac:execOp (Bs T) ⟨d,.call ⟨.value x,args,ats⟩,ty,pp,af,g⟩=(do let d ← Deferred.ofValue (.func (.func f) #[] caps.toArray) vs.toArray;invoke d.target d.args):=by
   simp only [execOp,resolve,aa,K.FU _ _ Y]
  rw [ac];simp only [Deferred.ofValue,bind,Sem.bind,pure,invoke];have e: #[]++vs.toArray++caps.toArray=(vs++caps).toArray:=by simp
  rw [e];exact Io hb (h T K)
 exact hd
theorem UO{f:FuncId}{args:Array Operand}{ats:Array TypeId}{s:St}{vs:Lv_}(hb:De P f=true)
  (U:ops[i]? =some ⟨d,.call ⟨.value (.func f),args,ats⟩,ty,pp,af,g⟩) (hw:AM L ops ⟨d,.call ⟨.value (.func f),args,ats⟩,ty,pp,af,g⟩=some true) (O:((b.kind != .early)&&Bg n d)=true)
  (Y:evs L args.toList=some vs)
  (h:∀T,Has n L T->J.ok Q (G (Frame.enter P f vs.toArray .normal) (fr b T ds (.inRegion ops (i::rest)::k)::cs)) s):
  JL J Q b n L ds (.inRegion ops (i::rest)::k) cs s:=λT K=>by
 simp only [Bool.and_eq_true] at O
 have Z:args.map (Bs T)=vs.toArray:=by
  rw [← Gf K.FU Y];apply Array.ext';simp
 refine Judge.oper U (BX K hw) (by simpa using O.1) (.inr λc aa=>by cases aa) ?_;have hd:lp P (execOp (Bs T) ⟨d,.call ⟨.value (.func f),args,ats⟩,ty,pp,af,g⟩) s (upon J Q b T ds ops i rest k cs d) (K0 J Q b T ds ops i rest k cs):=by
  simp only [execOp,resolve,bind,Sem.bind,Deferred.ofValue,Bs,pure,invoke];have e: #[]++args.map (Bs T)++ #[]=vs.toArray:=by rw [Z];simp
  rw [e];exact Io hb (h T K)
 exact hd
theorem Xn{g:Frame}{s:St}(O:s.q=false)(h:(∃w,Fits s w)->J.ok Q (G g cs) s):J.ok Q (G g cs) s:=by
 by_cases K:∃w,Fits s w
 ·exact h K
 ·exact J.step ⟨rfl,λw f=>absurd ⟨w,f⟩ K,λe=>by subst e;cases O⟩
theorem Gp.use{f:FuncId}{vs:Lv_}{B:Seg}{R:Value->LH->Seg->Prop}{p:Bool}{Tc:Av_}{Y:Li_}(j:Nat)(ag:Gp J f vs E B p pv R)(aa:Aq E H S)(ab:S[j]? =some B)
  (Z:p=false->∀v E' B',Le E E'->R v E' B'->Aq E' H (S.set j B')->J.ok Q (G ((fr bc Tc dsc Y).finish v) cs) (Ak E' H (S.set j B')))
  (ah:p=true->∀E' B',Le E E'->Aq E' H (S.set j B')->J.ok Q (G (GH bc Tc dsc Y (raised pv)) cs) (Ak E' H (S.set j B'))):
  J.ok Q (G (Frame.enter P f vs.toArray .normal) (fr bc Tc dsc Y::cs)) (Ak E H S):=by
 have K:S.flatten.Perm (B++(S.set j []).flatten):=(DZ (seg':=B) ab).1.trans List.perm_append_comm;have ac:Nd E H (B++(S.set j []).flatten):=Nd.perm aa K;have ai:Ak E H S=mk E (Bf (S.set j []).flatten H) B:=by
  rw [show Ak E H S=mk E H S.flatten from rfl,EV aa K];unfold mk;rw [FQ]
 have aj:Nd E H (S.set j []).flatten:=by
  have:=ac;rw [Nd.iff] at this ⊢;rw [List.map_append,List.nodup_append] at this;exact⟨this.1.2.1,λq ak=>this.2 q (List.mem_append_right _ ak)⟩
 have back:∀(g:Frame) (E':LH) (B':Seg),Le E E'->Nd E' (Bf (S.set j []).flatten H) B'->(Aq E' H (S.set j B')->J.ok Q (G g cs) (Ak E' H (S.set j B')))->J.ok Q (G g cs) (mk E' (Bf (S.set j []).flatten H) B'):=λg E' B' hle U al=>by
  have e2:mk E' (Bf (S.set j []).flatten H) B'=mk E' H (B'++(S.set j []).flatten):=by unfold mk;rw [FQ]
  refine Xn rfl λ⟨w,am⟩=>?_;have an:Nd E' H (S.set j []).flatten:=aj.grow λx ao=>by
   have ap:=am.d x ao;have Z:Bf B' (Bf (S.set j []).flatten H) x=none:=ap;exact(HP Z).1
  have O:Nd E' H (B'++(S.set j []).flatten):=Nd.glue U an;rw [e2];have ae:(B'++(S.set j []).flatten).Perm (S.set j B').flatten:=List.perm_append_comm.trans (DZ ab).2.symm;rw [EV O ae];exact al (Nd.perm O ae)
 rw [ai];refine ag Q bc Tc dsc Y cs _ (Nd.front ac) (λK v E' B' hle aq U=>back _ E' B' hle U λO=>Z K v E' B' hle aq O) (λK E' B' hle U=>back _ E' B' hle U λO=>ah K E' B' hle O)
theorem Qx{x:Operand}{f:FuncId}{caps:Lv_}{args:Array Operand}{ats:Array TypeId}{vs:Lv_}{seg:Seg}{R:Value->LH->Seg->Prop}{p:Bool}(j:Nat)(hb:De P f=true)
  (aa:Gp J f (vs++caps) E seg p pv R) (Y:ops[i]? =some ⟨d,.call ⟨.value x,args,ats⟩,ty,pp,af,g⟩) (hw:AM L ops ⟨d,.call ⟨.value x,args,ats⟩,ty,pp,af,g⟩=some true) (K:((b.kind != .early)&&Bg n d)=true)
  (ab:ev L x=some (.func (.func f) #[] caps.toArray)) (ac:evs L args.toList=some vs) (ae:Aq E H S) (ag:S[j]? =some seg)
  (ah:p=true->∀E' seg',Le E E'->Aq E' H (S.set j seg')->JP J Q b n L ds cs (raised pv) (Ak E' H (S.set j seg')))
  (ai:p=false->∀v E' seg',Le E E'->R v E' seg'->Aq E' H (S.set j seg')->JL J Q b n (Au L d v) ds (.inRegion ops rest::k) cs (Ak E' H (S.set j seg'))):
  JL J Q b n L ds (.inRegion ops (i::rest)::k) cs (Ak E H S):=
 Uz hb Y hw K ab ac λT Z=>Gp.use j aa ae ag
  (λO v E' B' hle aj U=>by
   rw [Ge (o:=⟨d,.call ⟨.value x,args,ats⟩,ty,pp,af,g⟩) _ _ _ _ _ Y]
   simp only [Bool.and_eq_true] at K
   exact ai O v E' B' hle aj U _ (Z.put K.2 v))
  (λO E' B' hle U=>ah O E' B' hle U T Z _)
theorem UT{f:FuncId}{args:Array Operand}{ats:Array TypeId}{vs:Lv_}{seg:Seg}{R:Value->LH->Seg->Prop}{p:Bool}(j:Nat)(hb:De P f=true)
  (aa:Gp J f vs E seg p pv R) (Y:ops[i]? =some ⟨d,.call ⟨.value (.func f),args,ats⟩,ty,pp,af,g⟩) (hw:AM L ops ⟨d,.call ⟨.value (.func f),args,ats⟩,ty,pp,af,g⟩=some true) (K:((b.kind != .early)&&Bg n d)=true)
  (ab:evs L args.toList=some vs) (ac:Aq E H S) (ae:S[j]? =some seg)
  (ag:p=true->∀E' seg',Le E E'->Aq E' H (S.set j seg')->JP J Q b n L ds cs (raised pv) (Ak E' H (S.set j seg')))
  (ah:p=false->∀v E' seg',Le E E'->R v E' seg'->Aq E' H (S.set j seg')->JL J Q b n (Au L d v) ds (.inRegion ops rest::k) cs (Ak E' H (S.set j seg'))):
  JL J Q b n L ds (.inRegion ops (i::rest)::k) cs (Ak E H S):=
 UO hb Y hw K ab λT Z=>Gp.use j aa ac ae
  (λO v E' B' hle ai U=>by
   rw [Ge (o:=⟨d,.call ⟨.value (.func f),args,ats⟩,ty,pp,af,g⟩) _ _ _ _ _ Y]
   simp only [Bool.and_eq_true] at K
   exact ah O v E' B' hle ai U _ (Z.put K.2 v))
  (λO E' B' hle U=>ag O E' B' hle U T Z _)
theorem Vu{ρ:Operand->Value}{x y z1:Operand}{s:St}{p:String}{a:Option Addr}{l c K m:Nat}{hi:Int}(O:∀ad,a=some ad->ad.spot=none∨c=0)(U:m<=c)(he:hi=(m:Int))(Y:P.underlying t=some (.slice e))(Z:Bl P e=some K)(aa:ρ x= .slice a l c)(ab:ρ y=iV hi)(ac:ρ z1=iV hi):
  Yl P ⟨d,.slice t x none (some y) (some z1),ty,p,af,g⟩ ρ s (.slice a m m):=by
 subst he;have h:=Yl.slice (P:=P) (s:=s) (d:=d) (ty:=ty) (p:=p) (af:=af) (g:=g) (olo:=none) (ohi:=some y) (omx:=some z1) (lo:=0) (hi:=m) (mx:=m) Y Z aa ac ab rfl U (Nat.le_refl _) (Nat.zero_le _);have ae:(if m=0 then a else a.map (·.add (0*K)))=a:=by
  split
  ·rfl
  ·cases a with
   | none=>rfl
   | some ad=>
    have:=(O ad rfl).resolve_right (by omega);simp only [Option.map_some,Nat.zero_mul];rw [Dm this];obtain⟨b,o,sp⟩:=ad;simp only at this;subst this;simp
 rw [ae] at h;simpa using h
theorem Al.Zi{α:Type}{q:Rp α}{a:Option Addr}{c:Nat}{xs ys:List α}{hi:Int}(U:Al q E a c xs)(hC:Ic xs 0 hi=some ys):Al q E a c ys/\ys.length<=c/\hi=(ys.length:Int):=by
 unfold Ic at hC;split at hC
 rotate_left
 ·cases hC
 rename_i hb;obtain⟨Z,aa,ab⟩:=hb;cases hC;have ac:=U.1;have hlen:(((xs.take hi.toNat).drop (0:Int).toNat)).length=hi.toNat:=by simp;omega
 refine⟨⟨by rw [hlen];omega,?_⟩,by rw [hlen];omega,by rw [hlen];omega⟩;rcases U.2 with⟨h,O⟩ | ⟨bk,off,Y,O⟩
 ·exact .inl ⟨by rw [h];simp,O⟩
 ·refine .inr ⟨bk,off,Y,λi x K=>O i x ?_⟩;simp only [Int.toNat_zero,List.drop_zero] at K;rw [List.getElem?_take] at K;split at K
  ·exact K
  ·cases K
theorem Take.Oq{m fuel:Nat}{listed:Array Bool}{x y:Operand}{p:String}{α:Type}{q:Rp α}{t1:TypeId}{Y c cx:Nat}{a ax:Option Addr}{xs ys Z:List α}{ats:Array TypeId}{z:Value}(U:Dp xs ys=some Z)
  (aj:ops[i]? =some ⟨d,.call ⟨.builtin .append,#[x,y],ats⟩,ty,p,af,g⟩) (hw:AM L ops ⟨d,.call ⟨.builtin .append,#[x,y],ats⟩,ty,p,af,g⟩=some true) (ak:Bg n d=true)
  (al:ev L x=some (.slice a xs.length xs.length)) (am:ev L y=some (.slice ax ys.length cx)) (an:ats[0]? =some t) (ao:ats[1]? =some t1) (ap:P.underlying t=some (.slice e)) (aq:P.underlying t1=some (.slice e)) (ar:Bl P e=some q.n) (hb:FB P e=some Y) (au:zeroOf P e=some z) (av:z.cells.size=q.n)
  (aw:0<Y) (ay:Y<=64) (aa:Al q E a c xs) (az:Al q E ax cx ys) (ab:Aq E H S)
  (h:∀E' ac K,Le E E'->Al q E' ac K Z->Aq E' H (S++ [[]])->AN J Q b n ds ops k cs m C6 fuel (A6 listed i) (Au L d (.slice ac Z.length K)) (Ak E' H (S++ [[]]))):
  Take J Q b n ds ops k cs m C6 fuel listed L (Ak E H S) i:=by
 unfold Dp at U;split at U
 rotate_left
 ·cases U
 rename_i aA;cases U;obtain⟨wss,ae,aB,aC,aS⟩:=Al.Ls (H:=H) (B:=S.flatten) aa.full;obtain⟨aD,aE,aF,aG,aH⟩:=Al.Ls (H:=H) (B:=S.flatten) az;have hlen:(xs++ys).length=xs.length+ys.length:=by simp
 show Take J Q b n ds ops k cs m C6 fuel listed L (mk E H S.flatten) i;refine Take.L3 aj (by simp [DG,ak]) hw λρ ag=>?_;rw [Lb,ag x _ al,ag y _ am];refine As _ _ (PS an ao aq ap ar hb au av ab aC aG aH aw aA ay ?_ ?_)
 ·intro hm;have aI:ys= []:=List.eq_nil_of_length_eq_zero hm;subst aI;have aJ:Aq E H (S++ [[]]):=by unfold Aq at*;rw [GY,List.append_nil];exact ab
  have aK:mk E H S.flatten=Ak E H (S++ [[]]):=by unfold Ak;rw [GY,List.append_nil]
  rw [aK];have:=h E a xs.length (Le.refl _) (by rw [List.append_nil];exact aa.full) aJ;rw [hlen] at this;exact this
 ·intro r O K aL aM aN aO;have aP:OL e q E (some ⟨r,0,none⟩) K [(r,.cells O e (0,0))] (xs++ys):=
   ⟨wss++aD,.inr ⟨r,O,rfl,rfl,aM,by rw [hlen];exact aL,by rw [hlen,List.flatten_append];exact aN.symm⟩,by simp [ae,aE],Mq ae aB aF⟩
  have ah:=Fv (S:=S) (seg:= [(r,.cells O e (0,0))]) aO;show AN J Q b n ds ops k cs m C6 fuel _ _ (mk E H (S.flatten++ [(r,.cells O e (0,0))]));rw [ah.1];refine FP S.length aP ah.2 (by simp) λE' hle aQ ai=>?_;have aR:(S++ [[(r,Obj.cells O e (0,0))]]).set S.length []=S++ [[]]:=IY _ _ _ _;rw [aR] at ai ⊢;have:=h E' (some ⟨r,0,none⟩) K hle aQ ai;rw [hlen] at this;exact this
theorem TV{ρ:Operand->Value}{x:Operand}{s:St}{p:String}{v:Value}{xt t1:TypeId}{f1:Array Field}(K:P.underlying t1=some (.struct f1))(O:ρ x= .iface t1 v):Yl P ⟨d,.typeAssert x xt t1 true,ty,p,af,g⟩ ρ s (.tuple #[v,.bool true]):=by
 refine Ft (sm:=Instr.typeAssert (ρ x) xt t1 true) rfl ?_;rw [O];unfold Instr.typeAssert;refine As _ _ (Ce K ?_);simp [lp,pure]
theorem TR{ρ:Operand->Value}{x:Operand}{s:St}{p:String}{z:Value}{xt t1:TypeId}{f1:Array Field}(K:P.underlying t1=some (.struct f1))(O:zeroOf P t1=some z)(U:ρ x= .nilIface):Yl P ⟨d,.typeAssert x xt t1 true,ty,p,af,g⟩ ρ s (.tuple #[z,.bool false]):=by
 refine Ft (sm:=Instr.typeAssert (ρ x) xt t1 true) rfl ?_;rw [U];unfold Instr.typeAssert;refine As _ _ (Ce K ?_);exact As (x:=zeroValue t1) _ (Hm O ⟨rfl,rfl⟩)
end
end Pal
