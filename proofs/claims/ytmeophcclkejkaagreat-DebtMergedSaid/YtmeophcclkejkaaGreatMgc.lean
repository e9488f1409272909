/- DebtMerged: merged debts have the same nets and settlements: a part (3 of 8) of the proof of its row. -/
import Derived.Test.YtmeophcclkejkaaGreatMga
import Derived.Test.YtmeophcclkejkaaGreatMgb
import Derived.Test.YtmeophcclkejkaaGreatRows
import Derived.Test.YtmeophcclkejkaaGreatChecked
import Derived.Conc.LeavingOf
import Derived.Conc.HoldsTime
import Derived.Carry
import Derived.ChangeSame
import Derived.ChangeVars
import Derived.ChangeSlices
import Derived.JoinedOf
import Derived.RowKit
import Derived.Deep.Strs
import Derived.Stop.Joined
import Derived.Test.YtmeophcclkejkaaGreatProg
set_option linter.all false
set_option maxRecDepth 100000
namespace Pal
open Go Go.Conc
open Go.ConcN (sumTo upd sumTo_upd upd_ne upd_same)
def L5(P:Program)(R:Value->St->Prop):GP:=λg s=>
 g.status= .running/\∃v,R v s/\∀w,stepG P true g w= .ended (.done v) w #[]
variable {P:Program}{R:Value->St->Prop}{J:Judge P}{n:Nat}{L:Env}{s:St}{b:Frame}
theorem JO.end{fn:Func}{t:Tmp}{v:Value}(K:b.kind= .normal)(hi:P.inits.idxOf? b.fn=none)(O:P.funcs[b.fn]? =some fn)(U:fn.results= #[.tmp t])(Y:look L t=some v)(Z:R v s):JO J (L5 P R) b n L [] [] s:=λT ac todo=>by
 refine J.stop ⟨rfl,v,Z,λw=>?_⟩
 have e:results fn T=Sem.pure v:=by
  have:=ac.at_ t v Y;simp only [results,U,Array.mapM_eq_mapM_toList];show Sem.pure (T.getD t undef)=_;rw [this]
 have ag:(results fn T).run P w= .ok v w:=by rw [e];rfl
 have e2:(results fn T).events P w #[]= #[]:=by rw [e];simp [Sem.events_pure']
 simp [G,stepG,unwind,Et,O,ag,e2,doReturn,K,GStep.after,hi,seen_none]
def After(P:Program)(R:Value->St->Prop)(K:World)(s₀:St)(v:Value)(w':World):Prop:=
 ∃s,R v s/\Fits s w'/\(∀b o,s₀.E b=some o->s.E b=some o)/\w'.tape=K.tape/\Gh K.os w'.os/\w'.output=K.output
def QI(P:Program)(R:Value->St->Prop)(K:World)(s₀:St)(O:Nat)(m:Machine)(t:Trace):Prop:=
 ∃gs w sl q Sh g s,m=crowd gs w sl/\Hn P gs w t q Sh g s/\L5 P R g s/\O=sumTo gs.size q/\(∀b o,s₀.E b=some o->s.E b=some o)/\w.tape=K.tape/\Gh K.os w.os/\w.output=K.output
theorem XM{ap:World}{s₀:St}(ay:Nat)(m:Machine)(t:Trace)(h:QI P R ap s₀ ay m t):
  (∃o w ops,stepT P m=(.ended o w,ops)/\Good P (After P R ap s₀) m o w (t++ops))∨(∃m' ops az,stepT P m=(.next m',ops)/\az<ay/\QI P R ap s₀ az m' (t++ops)):=by
 obtain⟨gs,w,sl,q,Sh,g,s,rfl,hC,bi,rfl,a0,a1,a2,a3⟩:=h;obtain⟨ac,v,a4,a5⟩:=bi;have bn:∀x∈gs,awake x:=by
  intro x Y;obtain⟨i,hi,rfl⟩:=Array.mem_iff_getElem.1 Y;rcases Nat.eq_zero_or_pos i with rfl | aq
  ·have:gs[0]=g:=by simpa [Array.getElem?_eq_getElem hi] using hC.main
   rw [this];exact awake_of (.inl ac)
  ·exact awake_of ((hC.lv.old i _ aq (Array.getElem?_eq_getElem hi)).status.elim .inl λx=> .inr (.inr x))
 obtain⟨i,x,d,a6,hi,Y,a7⟩:=crowd_pick (P:=P) (w:=w) (sl:=sl) bn ⟨0,g,hC.main,ac⟩;have a8:=hC.at_ d;have bo:0<gs.size:=(Array.getElem?_eq_some_iff.1 hC.main).1;have bv:∀(a:Nat) (fn:FuncId) (pos:String),MemOp.ofEvents a fn pos #[]= #[]:=λa fn pos=>by rw [ofEvents_eq];simp
 rcases Nat.eq_zero_or_pos i with rfl | aq
 ·obtain rfl:x=g:=by rw [hC.main] at hi;exact(Option.some.inj hi).symm
  have ag:=runT_many_ended (P:=P) (sl:=a6) (i:=0) hi (show stepG P (0==0) x (w.at d)=_ from a5 (w.at d));rw [bv] at ag;refine .inl ⟨_,_,_,a7.trans ag,v,V,⟨s,a4,a8.B8.fits 0 bo,a0,a1,a2,a3⟩,?_,?_,⟨λy K=>?_,V⟩,λj y K O=>?_⟩
  ·simpa using hC.B8.clean
  ·simpa using hC.over
  ·obtain⟨j,O⟩:=List.mem_iff_getElem?.1 K;rw [List.getElem?_drop] at O;exact⟨_,(hC.lv.old (1+j) y (by omega) (by simpa [crowd] using O)).leaves⟩
  ·have Z:=hC.lv.old j y (by omega) K;exact⟨q j,by simp only [Array.append_empty];exact Z.hears w⟩
 ·have Z:=hC.lv.old i x aq hi;have bw:(i==0)=false:=by simp;omega
  have a9:i<gs.size:=(Array.getElem?_eq_some_iff.1 hi).1;cases av:q i with
  | zero=>rw [av] at Z;rw [Z.1] at Y;cases Y
  | succ k=>
   rw [av] at Z;rcases Z with⟨bx,_⟩ | ⟨_,x',es,hm,bz,b0⟩
   ·rw [bx] at Y;cases Y
   have b4:sumTo gs.size (upd q i k)+(k+1)=sumTo gs.size q+k:=by
    have:=sumTo_upd q k id a9;simpa [av] using this
   have ag:=runT_crowd_go (P:=P) (sl:=a6) (i:=i) hi (by rw [bw];exact bz (w.at d));have aw:((gs.map (woken P x x' (w.at d))).setIfInBounds i x').size=gs.size:=by simp
   have al:∀op∈MemOp.ofEvents i x.frame.fn x.frame.place es,op.g=i:=λop U=>by obtain⟨e,_,rfl⟩:=mem_ofEvents U;rfl
   have bb:∀op∈MemOp.ofEvents i x.frame.fn x.frame.place es,op.act.touch? =none:=λop U=>by obtain⟨e,he,rfl⟩:=mem_ofEvents U;exact touch_mute (hm e he)
   have b1:Hn P ((gs.map (woken P x x' (w.at d))).setIfInBounds i x') (w.at d) (t++MemOp.ofEvents i x.frame.fn x.frame.place es) (upd q i k) Sh g s:=by
    refine⟨?_,⟨λj y O K=>?_,λj O=>?_⟩,?_,?_,?_⟩
    ·have b2:i≠0:=by omega
     rw [Array.getElem?_setIfInBounds_ne b2,Array.getElem?_map,hC.main];simp [woken_run ac]
    ·by_cases am:i=j
     ·subst am;rw [Array.getElem?_setIfInBounds_self_of_lt (by simpa using a9)] at K;obtain rfl:=Option.some.inj K;rw [upd_same,Deaf_own];exact b0
     ·rw [Array.getElem?_setIfInBounds_ne am,Array.getElem?_map] at K;obtain⟨z,b3,rfl⟩:=Option.map_eq_some_iff.1 K;have be:=hC.lv.old j z O b3;rw [woken_quitsD be,upd_ne q k (Ne.symm am),Deaf_other t am _ al];exact be
    ·rw [Deaf_other t (g':=i) (by simp at O;omega) _ al];exact hC.lv.above j (by simpa using O)
    ·rw [aw];exact a8.B8.mute al bb (λop U=>by obtain⟨e,he,rfl⟩:=mem_ofEvents U;exact low_mute (hm e he) _) V
    ·exact handedOver_app hC.over λop U=> .inr (bb op U)
    ·rw [Deaf_other t (by omega) _ al];exact hC.hears
   exact .inr ⟨_,_,_,a7.trans ag,by rw [← aw];rw [aw];omega,_,_,_,_,_,_,_,V,b1,⟨ac,v,a4,a5⟩,V,a0,a1,a2,a3⟩
theorem ends{gs:Array Goroutine}{w:World}{sl:Option (Nat×Nat)}{t:Trace}{q:Nat->Nat}{Sh:Nat->Prop}{g:Goroutine}{s:St}(hC:Hn P gs w t q Sh g s)(O:L5 P R g s):
  ∃N last o w' K,runNT P (N+1) (crowd gs w sl) t=(.ended o w',K)/\runN P N (crowd gs w sl)= .next last/\step P last= .ended o w'/\Good P (After P R w s) last o w' K:=
 run_of_inv Nat.lt_wfRel.wf (QI P R w s) (Good P (After P R w s)) XM _ _ _ ⟨gs,w,sl,q,Sh,g,s,V,hC,O,V,λ_ _ h=>h,V,.refl _,V⟩
theorem VS{m m':Machine}{t K:Trace}{n:Nat}(h:runNT P n m t=(.next m',K)):runN P n m= .next m':=by rw [← runNT_fst P n m t,h]
def GY(W:World):St:=⟨λb=>W.heap[b]?,λ_=>none,false⟩
theorem Xa{W:World}{g:Goroutine}(h:(GK P).ok (L5 P R) g (GY W)):
  ∃M last o w' K,runNT P (M+1) (solo g W) #[]=(.ended o w',K)/\runN P M (solo g W)= .next last/\step P last= .ended o w'/\Good P (After P R W (GY W)) last o w' K:=by
 have hC:Hn P #[g] W #[] (λ_=>0) (λ_=>False) g (GY W):=by
  have Y:∀{i:Nat} {a:Touch},touchAt #[] i=some a->False:=λ{i a} h=>by simp [touchAt,Trace.act?] at h
  refine⟨V,leavers_one P g,⟨λi hi=>?_,λi j hi ac bi=>by simp at hi ac;omega,λi hi b hb=>hb.elim,λb hb=>hb.elim,λsaid=>?_,by simp,λi _ b _ x a O=>(Y O).elim,λi _ b _ x a O=>(Y O).elim⟩,λi g ag=>by simp [Trace.g?] at ag,V⟩
  ·have:i=0:=by simp at hi;exact hi
   subst this;exact⟨λb o U=>U,λb o U=>(by cases U),λb _=>V⟩
  ·rintro⟨i,j,_,⟨a,b,al,_⟩,_⟩;simp [Trace.act?] at al
 obtain⟨n,gs',w',am,K,q',bn,g',s',Z,ap,aq,av,aw,ay,az⟩:=h #[g] W none #[] _ _ hC;obtain⟨N,last,o,a0,a2,k1,a3,a4,a5⟩:=ends (sl:=am) ap aq;refine⟨n+N,last,o,a0,a2,?_,?_,a4,?_⟩
 ·rw [solo_eq_crowd,Nat.add_assoc,runNT_add,Z];exact k1
 ·have a6:=VS Z;rw [solo_eq_crowd,runN_add,a6];exact a3
 ·obtain⟨v,e,⟨s2,a1,a7,a8,a9,bb,be⟩,r⟩:=a5;exact⟨v,e,⟨s2,a1,a7,λb o hb=>a8 b o (av b o hb),a9.trans aw,ay.trans bb,be.trans az⟩,r⟩
end Pal
namespace Pal
open Go Go.Conc
theorem Wo{P:Program}{Q:Gs_}{E H:LH}{f:FuncId}{fn:Func}{c:Code}{vs:Lv_}(U:P.funcs[f]? =some fn)(hb:fn.body=some c)(ag:fn.ntmps=fn.ntmps)(al:vs.length<=fn.ntmps)
  (h:JL (GK P) Q (base f) fn.ntmps (Ga 0 vs) [] [.code c] [] (Aj E H [[]])):(GK P).ok Q (G (Frame.enter P f vs.toArray .normal) []) (mk E H []):=by
 have he:Frame.enter P f vs.toArray .normal=fr (base f) (vs.toArray++Array.replicate (fn.ntmps - vs.length) undef) [] [.code c]:=by
  simp [Frame.enter,fr,U,hb,base];rfl
 rw [he];have Y:mk E H []=Aj E H [[]]:=by unfold Aj;simp
 rw [Y];refine h _ ⟨by simp;omega,λt v Z=>?_⟩;obtain⟨_,K⟩:=JD Z;have ac:t<vs.length:=by
  rcases Nat.lt_or_ge t vs.length with O | O
  ·exact O
  ·simp at K;have:=(List.getElem?_eq_some_iff.1 K).1;omega
 rw [Array.getD_eq_getD_getElem?,Array.getElem?_append_left (by simpa using ac)];simp at K;simp [K]
open Go.ChangeAt Go.ChangeShapes Go.Proofs Go.Proofs.YtmeophcclkejkaaGreat Go.RowKit Go.WideShapes
theorem Tryz.own:ownKnob Tryz.prog.godebug=none:=by kernel_rfl
theorem Tryz.laidOut:laidOutB Tryz.prog=true:=by kernel_rfl
theorem Tryz.Zu:Tryz.prog.cellsOf 3=1:=by kernel_rfl
theorem Vi{R:Value->St->Prop}{W w':World}{v:Value}(h:After Tryz.prog R W (GY W) v w'):(∃s,R v s)/\Below W.heap.size W {w' with os:=W.os}/\Go.ConcM.OsLater W.os w'.os:=by
 obtain⟨s,Y,Z,ac,ag,al,am⟩:=h;have hb:∀k,k<W.heap.size->w'.heap[k]? =W.heap[k]? :=λk O=>by
  have K:(GY W).E k=some W.heap[k]:=Array.getElem?_eq_getElem O;have U:=Z.e k _ (ac k _ K);rw [U,Array.getElem?_eq_getElem O]
 refine⟨⟨s,Y⟩,⟨V,ag,am,?_,hb⟩,al⟩;show W.heap.size<=w'.heap.size;rcases Nat.eq_zero_or_pos W.heap.size with ap | ap
 ·omega
 ·have K:=hb (W.heap.size - 1) (by omega);have aq:W.heap[W.heap.size - 1]? =some W.heap[W.heap.size - 1]:=Array.getElem?_eq_getElem (by omega);rw [aq] at K;have U:=(Array.getElem?_eq_some_iff.1 K).1;omega
theorem RQ(a:Addr):a.add 0=a:=by unfold Addr.add;rw [if_pos rfl]
variable {H:Type}{enc:TypeId×Value->H}{W:World}{cs:Lv_}
section
variable {fuel:Nat}{x:DataW H×List MemPlace}
theorem Xs{b off:Nat}{v:Value}(h:W.cell? ⟨b,off,none⟩=some v):At (GY W).E b off [v]:=by
 unfold World.cell? at h;split at h
 ·rename_i c e f hW;simp only [Option.isSome_none,Bool.false_eq_true,if_false] at h;refine⟨c,e,f,hW,λj w K=>?_⟩
  match j,K with
  | 0,K=>simp at K;subst K;simpa using h
  | j+1,K=>simp at K
 ·cases h
theorem V4{b off:Nat}(O:0<cs.length)(h:∀j,j<cs.length->W.cell? ⟨b,off+j,none⟩=cs[j]?):At (GY W).E b off cs:=by
 have U:=h 0 O;rw [List.getElem?_eq_getElem O] at U;obtain⟨f,e,fr,Y,_⟩:=Xs U;have hW:W.heap[b]? =some (.cells f e fr):=Y;refine⟨f,e,fr,Y,λj w Z=>?_⟩;have ac:=(List.getElem?_eq_some_iff.1 Z).1;have K:=h j ac;rw [Z] at K;unfold World.cell? at K;simp only [hW] at K;simpa using K
theorem Z1{α:Type}{p:Rp α}{t e:TypeId}(a1:Tryz.prog.underlying t=some (.slice e))(a2:Tryz.prog.cellsOf e=p.n)(a3:0<p.n)
  (a4:∀n cs x,DataW.trod enc Tryz.prog W 0 (λ_=>true) true n e cs=some x->∃v,p.r (GY W).E cs v)
  (a5:DataW.trod enc Tryz.prog W 0 (λ_=>true) true fuel t cs=some x):∃(a:Option Addr) (c:Nat) (aq:List α),cs= [.slice a aq.length c]/\Al p (GY W).E a c aq:=by
 rcases DataW.trod_slice a1 a5 with⟨ac,a6⟩ | ⟨a,len,cap,elems,rest,n,_,ac,a6,_,a7,_,hlen,av,aw,_⟩
 ·exact⟨none,0,[],ac,Al.nil⟩
 ·rw [a2] at av aw;rcases Nat.eq_zero_or_pos cap with ay | ay
  ·have:len=0:=by omega
   subst this;subst ay;exact⟨some a,0,[],ac,Nat.le_refl _,.inl ⟨V,λ_ _=> .inr V⟩⟩
  ·have az:∀i,i<len->∃vs y,vs.length=p.n/\(∀j,j<p.n->W.cell? ((a.add (i*p.n)).add j)=vs[j]?)/\DataW.trod enc Tryz.prog W 0 (λ_=>true) true n e vs=some y:=λi hi=>by
    have K:=av i hi;rw [List.getElem?_eq_getElem (by omega)] at K;obtain⟨vs,al,Y⟩:=Option.bind_eq_some_iff.1 K;obtain⟨_,O,am⟩:=World.cells?_some al;exact⟨vs,_,O,am,Y⟩
   have ap:a.spot=none:=by
    have key:∀vs:Lv_,vs.length=p.n->(∀j,j<p.n->W.cell? ((a.add (0*p.n)).add j)=vs[j]?)->a.spot=none:=λvs ag U=>by
     have:=U 0 a3;rw [List.getElem?_eq_getElem (by omega),RQ,Nat.zero_mul,RQ] at this;exact World.cell?_spot this
    rcases Nat.eq_zero_or_pos len with K | K
    ·obtain⟨al,Y⟩:=aw V;have O:=Y 0 (by omega);rw [List.getElem?_eq_getElem (by omega)] at O;obtain⟨vs,am,_⟩:=Option.bind_eq_some_iff.1 O;obtain⟨_,ag,U⟩:=World.cells?_some am;rw [K] at U;exact key vs ag U
    ·obtain⟨vs,y,ag,U,_⟩:=az 0 K;exact key vs ag U
   have a0:∀i:Fin len,∃z:α,∃vs,p.r (GY W).E vs z/\At (GY W).E a.block (a.off+i*p.n) vs:=λi=>by
    obtain⟨vs,y,al,Y,O⟩:=az i i.2;obtain⟨z,Z⟩:=a4 _ _ _ O;refine⟨z,vs,Z,V4 (by omega) λj a8=>?_⟩;have:=Y j (by omega);rw [DO ap,DO rfl] at this;exact this
   refine⟨some a,cap,List.ofFn λi=>Classical.choose (a0 i),by simpa using ac,by simpa using a7,.inr ⟨a.block,a.off,?_,λi z Z=>?_⟩⟩
   ·obtain⟨b,o,s⟩:=a;simp only at ap;subst ap;rfl
   ·have hi:i<len:=by have:=(List.getElem?_eq_some_iff.1 Z).1;simpa using this
    simp [hi] at Z;have:=Classical.choose_spec (a0 ⟨i,hi⟩);rw [Z] at this;exact this
theorem Yy(h:DataW.trod enc Tryz.prog W 0 (λ_=>true) true fuel 3 cs=some x):∃z:Int,cs= [iV z]:=by
 obtain⟨n1,K,_⟩:=DataW.trod_int Tryz.underlying3 h;exact⟨n1,K⟩
theorem X0(O:DataW.trod enc Tryz.prog W 0 (λ_=>true) true fuel 28 cs=some x):∃(a:Option Addr) (c:Nat) (K:List Int),cs= [.slice a K.length c]/\Al rI (GY W).E a c K:=
 Z1 (p:=rI) Tryz.underlying28 Tryz.Zu Nat.one_pos (λn cs x h=>by
  obtain⟨z,rfl⟩:=Yy h
  exact⟨z,rfl⟩) O
theorem XL{v:Value}{O:Nat}{d:DataW H}{p:List MemPlace}(U:Value.okWide Tryz.prog W .any O 28 v)(hd:DataW.Trod enc Tryz.prog W 0 (λ_=>true) true 28 v d p):
  ∃(a:Option Addr) (c:Nat) (K:List Int),v= .slice a K.length c/\Al rI (GY W).E a c K:=by
 obtain⟨Z,len,cap,rfl⟩:=okWide_slice Tryz.underlying28 U;obtain⟨fuel,Y⟩:=hd;obtain⟨a,c,K,e,g⟩:=X0 Y;simp [Value.cells] at e;obtain⟨rfl,rfl,rfl⟩:=e;exact⟨_,_,_,V,g⟩
end
end Pal
namespace Pal
open Go Go.Conc
def Hl(K:Bool)(ws:Lv_):Value:=if K then .agg ws.toArray else ws.headD undef
def Vr{α:Type}(pp:Rp α)(K:Bool)(E:LH)(v:Value)(x:α):Prop:=∃ws,pp.r E ws x/\v=Hl K ws
theorem Vr.Ah{α:Type}{pp:Rp α}{K:Bool}{E E':LH}{v:Value}{x:α}(h:Vr pp K E v x)(hle:Le E E'):Vr pp K E' v x:=
 let ⟨ws,O,U⟩:=h;⟨ws,pp.Ah hle O,U⟩
structure FJ (P:Program) (t:TypeId) {κ:Type} [DecidableEq κ] (pk:Rp κ) (ka:Bool):Prop where
 BK:∀{em:Bool} {E:LH} {v:Value} {x:κ} {s:St} {Q:Unit->St->Prop} {X:Halt->St->Prop},Vr pk ka E v x->Q () s->lp P (Instr.checkKey em 10000 t v) s Q X
 kind:∃kd,P.underlying t=some kd/\((∀v w,Instr.sameNow kd v w=none)∨∀{E:LH} {v w:Value} {x y:κ},Vr pk ka E v x->Vr pk ka E w y->Instr.sameNow kd v w=some (decide (x=y)))
 eq:∀{E:LH} {v w:Value} {x y:κ} {s:St} {Q:Bool->St->Prop} {X:Halt->St->Prop},Vr pk ka E v x->Vr pk ka E w y->Q (decide (x=y)) s->lp P (Op.equal t v w) s Q X
 same:∀{E:LH} {v:Value} {x:κ},Vr pk ka E v x->Instr.sameBits 10000 v v=true
 uniq:∀{E:LH} {v w:Value} {x:κ},Vr pk ka E v x->Vr pk ka E w x->v=w
variable {κ ν:Type}{pk:Rp κ}{pv:Rp ν}{ka va:Bool}{E E':LH}
variable {P:Program}{s:St}{t tm te:TypeId}{X:Halt->St->Prop}
section
variable [DecidableEq κ]
def C5(pk:Rp κ)(ka:Bool)(pv:Rp ν)(va:Bool)(E:LH):List MapEntry->List (κ×ν)->Prop
 | [],[]=>True
 | e::es,x::xs=>Vr pk ka E e.key x.1/\Vr pv va E e.val x.2/\C5 pk ka pv va E es xs
 | _,_=>False
theorem C5.Ah(hle:Le E E'):∀{es:List MapEntry} {xs:List (κ×ν)},C5 pk ka pv va E es xs->C5 pk ka pv va E' es xs
 | [],[],_=>trivial
 | e::es,x::xs,h=>⟨h.1.Ah hle,h.2.1.Ah hle,C5.Ah hle h.2.2⟩
 | [],_::_,h=>h.elim
 | _::_,[],h=>h.elim
theorem C5.len:∀{es:List MapEntry} {xs:List (κ×ν)},C5 pk ka pv va E es xs->es.length=xs.length
 | [],[],_=>rfl
 | e::es,x::xs,h=>by simp [C5.len h.2.2]
 | [],_::_,h=>h.elim
 | _::_,[],h=>h.elim
def DX(x:κ):List MapEntry->List (κ×ν)->Nat->Option (Nat×Value)
 | e::es,y::ys,i=>if x=y.1 then some (i,e.val) else DX x es ys (i+1)
 | _,_,_=>none
def AZ(xs:List (κ×ν))(x:κ):Option ν:=(xs.find? λy=>decide (x=y.1)).map (·.2)
def Be(xs:List (κ×ν))(x:κ)(v:ν):List (κ×ν):=match xs with
 | []=> [(x,v)]
 | y::ys=>if x=y.1 then(x,v)::ys else y::Be ys x v
theorem PS{x:κ}:∀{es:List MapEntry} {xs:List (κ×ν)} {i:Nat},C5 pk ka pv va E es xs->(DX x es xs i=none/\AZ xs x=none)∨∃j w v0,DX x es xs i=some (j,w)/\AZ xs x=some v0/\Vr pv va E w v0
 | [],[],i,_=> .inl ⟨rfl,rfl⟩
 | e::es,y::ys,i,h=>by
  unfold DX AZ
  by_cases K:x=y.1
  ·exact .inr ⟨i,e.val,y.2,by rw [if_pos K],by simp [K],h.2.1⟩
  ·rcases PS (x:=x) (i:=i+1) h.2.2 with⟨O,U⟩ | ⟨j,w,v0,O,U,Y⟩
   ·exact .inl ⟨by rw [if_neg K];exact O,by simpa [K,AZ] using U⟩
   ·exact .inr ⟨j,w,v0,by rw [if_neg K];exact O,by simpa [K,AZ] using U,Y⟩
 | [],_::_,_,h=>h.elim
 | _::_,[],_,h=>h.elim
theorem C5.put{x:κ}{v0:ν}{O w:Value}(U:Vr pk ka E O x)(hw:Vr pv va E w v0)(Z:Nat):∀{es:List MapEntry} {xs:List (κ×ν)} {i:Nat},C5 pk ka pv va E es xs->
  (DX x es xs i=none/\C5 pk ka pv va E (es++ [{key:=O,val:=w,born:=Z}]) (Be xs x v0))∨
  ∃j u,DX x es xs i=some (i+j,u)/\j<es.length/\(∀e,es[j]? =some e->Vr pk ka E e.key x)/\C5 pk ka pv va E (es.modify j λe=>{e with key:=O,val:=w}) (Be xs x v0)
 | [],[],i,_=> .inl ⟨rfl,U,hw,trivial⟩
 | e::es,y::ys,i,h=>by
  unfold DX Be
  by_cases K:x=y.1
  ·refine .inr ⟨0,e.val,by rw [if_pos K];rfl,by simp,λac he=>?_,?_⟩
   ·simp at he;subst he;rw [K];exact h.1
   ·rw [if_pos K];exact⟨U,hw,h.2.2⟩
  ·rcases C5.put U hw Z (i:=i+1) h.2.2 with⟨Y,ag⟩ | ⟨j,u,Y,ag,al,am⟩
   ·exact .inl ⟨by rw [if_neg K];exact Y,by rw [if_neg K];exact⟨h.1,h.2.1,ag⟩⟩
   ·refine .inr ⟨j+1,u,by rw [if_neg K,Y];congr 2;omega,by simp;omega,λac he=>al ac (by simpa using he),?_⟩;rw [if_neg K];exact⟨h.1,h.2.1,am⟩
 | [],_::_,_,h=>h.elim
 | _::_,[],_,h=>h.elim
def KD(pk:Rp κ)(ka:Bool)(pv:Rp ν)(va:Bool)(E:LH)(o:Obj)(xs:List (κ×ν)):Prop:=
 ∃es clock,o= .map es clock/\C5 pk ka pv va E es.toList xs/\(es.toList.map (·.born)).Pairwise (·<·)/\∀e∈es.toList,e.born<clock
theorem KD.Ah{o:Obj}{xs:List (κ×ν)}(h:KD pk ka pv va E o xs)(hle:Le E E'):KD pk ka pv va E' o xs:=
 let ⟨es,c,K,O,U⟩:=h;⟨es,c,K,O.Ah hle,U⟩
theorem Q1(U:FJ P t pk ka){k:Value}{x:κ}(Y:Vr pk ka E k x){Q:Option (Nat×Value)->St->Prop}:∀{es:List MapEntry} {xs:List (κ×ν)} {i:Nat},C5 pk ka pv va E es xs->Q (DX x es xs i) s->lp P (Instr.findAsking t k es i) s Q X
 | [],[],i,_,h=>h
 | e::es,y::ys,i,h,K=>by
  unfold Instr.findAsking
  refine As _ _ (U.eq Y h.1 ?_)
  unfold DX at K
  by_cases O:x=y.1
  ·rw [decide_eq_true O]
   rw [if_pos O] at K;exact K
  ·rw [decide_eq_false O];rw [if_neg O] at K;exact Q1 U Y h.2.2 K
 | [],_::_,_,h,_=>h.elim
 | _::_,[],_,h,_=>h.elim
theorem Re{kd:TypeDesc}{k:Value}{x:κ}(O:Vr pk ka E k x)(U:∀{E:LH} {v w:Value} {x y:κ},Vr pk ka E v x->Vr pk ka E w y->Instr.sameNow kd v w=some (decide (x=y))):∀{es:List MapEntry} {xs:List (κ×ν)} {i:Nat},C5 pk ka pv va E es xs->Instr.findNow kd k es i=some (DX x es xs i)
 | [],[],i,_=>rfl
 | e::es,y::ys,i,h=>by
  unfold Instr.findNow DX
  rw [U O h.1]
  by_cases K:x=y.1
  ·simp [K]
  ·simp only [decide_eq_false K,if_neg K];exact Re O U h.2.2
 | [],_::_,_,h=>h.elim
 | _::_,[],_,h=>h.elim
theorem M9(O:FJ P t pk ka){k:Value}{x:κ}(U:Vr pk ka E k x){Q:Option (Nat×Value)->St->Prop}{es:List MapEntry}{xs:List (κ×ν)}(h:C5 pk ka pv va E es xs)(K:Q (DX x es xs 0) s):lp P (Instr.findKey t k es) s Q X:=by
 unfold Instr.findKey;obtain⟨kd,Y,Z | ac⟩:=O.kind
 ·refine As _ _ (Cl Y ?_);cases es with
  | nil=>
   cases xs with
   | nil=>exact K
   | cons y ys=>exact h.elim
  | cons e es=>
   have ag:Instr.findNow kd k (e::es) 0=none:=by unfold Instr.findNow;rw [Z]
   rw [ag];exact Q1 O U h K
 ·refine As _ _ (Cl Y ?_);rw [Re U ac h];exact K
theorem Wi(O:FJ P t pk ka)(hm:P.underlying tm=some (.map t te)){z:Value}{z0:ν}(Z:zeroOf P te=some z)(ac:Vr pv va E z z0){bk:Nat}{o:Obj}{xs:List (κ×ν)}{k:Value}{x:κ}(ag:s.get bk=some o)(al:KD pk ka pv va E o xs)(U:Vr pk ka E k x)(ok:Bool){Q:Value->St->Prop}
  (h:∀w,Vr pv va E w ((AZ xs x).getD z0)->Q (if ok then .tuple #[w,.bool (AZ xs x).isSome] else w) s):lp P (Instr.lookup tm (.map (some bk)) k ok) s Q X:=by
 obtain⟨es,c,rfl,Y,ap,aq⟩:=al;unfold Instr.lookup;refine As _ _ (Cl hm ?_);refine As _ _ ?_;unfold getObj;simp only [bind,Sem.bind,lp];refine⟨_,ag,V,?_⟩;refine As (x:=Instr.checkKey _ 10000 t k) _ (O.BK U ?_);refine As (x:=Instr.findKey t k es.toList) _ (M9 O U Y ?_);rcases PS (x:=x) (i:=0) Y with⟨K,e2⟩ | ⟨j,w,v0,K,e2,am⟩
 ·rw [K];simp only;refine As (x:=zeroValue te) _ (G4 Z ?_);have:=h z (by rw [e2];exact ac);rw [e2] at this;exact this
 ·rw [K];have:=h w (by rw [e2];exact am);rw [e2] at this;exact this
theorem Vh(O:FJ P t pk ka)(hm:P.underlying tm=some (.map t te)){bk:Nat}{o:Obj}{xs:List (κ×ν)}{k w:Value}{x:κ}{v0:ν}(am:s.get bk=some o)(Z:s.H bk=some o)(ap:KD pk ka pv va E o xs)(K:Vr pk ka E k x)(hw:Vr pv va E w v0){Q:Unit->St->Prop}
  (h:∀o',KD pk ka pv va E o' (Be xs x v0)->Q () (s.upd bk o')):lp P (Instr.mapUpdate tm (.map (some bk)) k w) s Q X:=by
 obtain⟨es,c,rfl,ac,ag,U⟩:=ap;unfold Instr.mapUpdate;refine As _ _ (Cl hm ?_);unfold getObj;simp only [bind,Sem.bind,lp];refine⟨_,am,V,?_⟩;refine As (x:=Instr.checkKey false 10000 t k) _ (O.BK K ?_);refine As (x:=Instr.findKey t k es.toList) _ (M9 O K ac ?_);rcases C5.put K hw c (i:=0) ac with⟨Y,e2⟩ | ⟨j,u,Y,e2,aq,av⟩
 ·rw [Y];simp only [setObj,lp];refine⟨⟨_,Z,V⟩,V,h _ ⟨es.push {key:=k,val:=w,born:=c},c+1,V,by simpa using e2,?_,?_⟩⟩
  ·rw [Array.toList_push,List.map_append,List.pairwise_append];refine⟨ag,by simp,λa aw b hb=>?_⟩;simp at hb;subst hb;obtain⟨e,he,rfl⟩:=List.mem_map.1 aw;exact U e he
  ·intro e he;rw [Array.toList_push] at he;rcases List.mem_append.1 he with he | he
   ·have:=U e he;omega
   ·simp at he;subst he;simp
 ·rw [Y];have al:es[j]? =some (es[j]'(by simpa using e2)):=Array.getElem?_eq_getElem (by simpa using e2);have ay:(es[j]'(by simpa using e2)).key=k:=O.uniq (aq _ (by rw [Array.getElem?_toList];exact al)) K;simp only [Nat.zero_add,al,Option.map_some,Option.getD_some,ay];refine As (x:=Instr.keyThatStays k k) _ ?_;unfold Instr.keyThatStays;rw [if_pos (O.same K)];simp only [lp,pure,setObj];refine⟨⟨_,Z,V⟩,V,h _ ⟨_,c,V,by simpa using av,?_,?_⟩⟩
  ·have:(es.modify j λe=>{e with key:=k,val:=w}).toList.map (·.born)=es.toList.map (·.born):=by
    rw [Array.toList_modify];apply List.ext_getElem?;intro q;simp only [List.getElem?_map,List.getElem?_modify];split <;> cases es.toList[q]? <;> rfl
   rw [this];exact ag
  ·intro e he;rw [Array.toList_modify] at he;obtain⟨q,az,rfl⟩:=List.mem_iff_getElem.1 he;rw [List.getElem_modify];have a0:q<es.toList.length:=by simpa using az
   split
   ·show(es.toList[q]'a0).born<c;exact U _ (List.getElem_mem _)
   ·exact U _ (List.getElem_mem _)
end
theorem SO{l us r:Lv_}:∀j w,us[j]? =some w->(l++us++r).toArray[l.length+j]? =some w:=λj w h=>by
 have K:j<us.length:=(List.getElem?_eq_some_iff.1 h).1
 rw [List.getElem?_toArray,List.append_assoc,List.getElem?_append_right (by omega),show l.length+j - l.length=j by omega,List.getElem?_append_left K]
 exact h
section
variable {e:TypeId}
theorem KY{c:Av_}{off:Nat}{us:Lv_}{O:Bool}(Y:Dj P e=some O)(Z:Bj P e=some us.length)(ac:O=false->us.length=1)(hw:∀j w,us[j]? =some w->c[off+j]? =some w)
  {Q:Value->St->Prop} (k:Q (Hl O us) s):lp P (Go.part e c off) s Q X:=by
 unfold Go.part;refine As (x:=isAgg e) _ (Nl Y ?_);cases O with
 | true=>
  simp only [if_true];refine As (x:=Go.sizeOf e) _ (EP Z ?_);have ag:c.extract off (off+us.length)=us.toArray:=by
   apply Array.ext_getElem?;intro j;by_cases U:j<us.length
   ·have K:=hw j us[j] (List.getElem?_eq_getElem U);have al:off+j<c.size:=(Array.getElem?_eq_some_iff.1 K).1;simp only [Array.getElem?_extract];rw [if_pos (by omega),K];simp [U]
   ·simp only [Array.getElem?_extract];rw [if_neg (by omega)];simp;omega
  show Q (.agg (c.extract off (off+us.length))) s;rw [ag];exact k
 | false=>
  obtain⟨w,rfl⟩:∃w,us= [w]:=by
   match us,ac rfl with
   | [w],_=>exact⟨w,rfl⟩
  have K:=hw 0 w V;rw [Nat.add_zero] at K;simp only [Bool.false_eq_true,if_false,K];exact k
end
structure B5 (P:Program) (t:TypeId) {α:Type} [DecidableEq α] (pp:Rp α) (K:Bool) (dep:Nat):Prop where
 agg:Dj P t=some K
 size:Bj P t=some pp.n
 one:K=false->pp.n=1
 eq:∀{n:Nat} {E E':LH} {ws ws':Lv_} {x y:α} {s:St} {Q:Bool->St->Prop} {X:Halt->St->Prop},dep<=n->pp.r E ws x->pp.r E' ws' y->Q (decide (x=y)) s->lp P (Op.equalIn n t (Hl K ws) (Hl K ws')) s Q X
 BK:∀{n:Nat} {em:Bool} {E:LH} {ws:Lv_} {x:α} {s:St} {Q:Unit->St->Prop} {X:Halt->St->Prop},dep<=n->pp.r E ws x->Q () s->lp P (Instr.checkKey em n t (Hl K ws)) s Q X
 uniq:∀{E E':LH} {ws ws':Lv_} {x:α},pp.r E ws x->pp.r E' ws' x->ws=ws'
 same:∀{E:LH} {ws:Lv_} {x:α},pp.r E ws x->∀w∈ws,∀m,Instr.sameBits (m+1) w w=true
 now:∃kd,P.underlying t=some kd/\((∀v w,Instr.sameNow kd v w=none)∨∀{E E':LH} {ws ws':Lv_} {x y:α},pp.r E ws x->pp.r E' ws' y->Instr.sameNow kd (Hl K ws) (Hl K ws')=some (decide (x=y)))
variable {ρ:Operand->Value}{d:Option Tmp}{u ty:TypeId}{p:String}{af:Ae_}{g:On_}{ws ws':Lv_}
section
variable {e:TypeId}
theorem B5.int{kd:IntKind}(U:P.underlying t=some (.int kd))(Y:Bj P t=some 1):B5 P t (rK kd) false 1 where
 agg:=by unfold Dj;rw [U]
 size:=Y
 one _:=rfl
 eq {n E E' ws ws' x y s Q X} Z K O k:=by
  obtain⟨m,rfl⟩:∃m,n=m+1:=⟨n - 1,by omega⟩;have K:ws= [.int kd x]:=K;have O:ws'= [.int kd y]:=O;subst K O;refine TU U ?_;have e:(x==y)=decide (x=y):=by by_cases h:x=y <;> simp [h]
  rw [e];exact k
 BK {n em E ws x s Q X} Z K k:=by
  obtain⟨m,rfl⟩:∃m,n=m+1:=⟨n - 1,by omega⟩;have K:ws= [.int kd x]:=K;subst K;unfold Instr.checkKey;refine As _ _ (Cl U ?_);exact k
 uniq K O:=by
  have K:_= [Value.int kd _]:=K;have O:_= [Value.int kd _]:=O;rw [K,O]
 same {E ws x} h w hw m:=by
  have h:ws= [Value.int kd x]:=h;subst h;simp at hw;subst hw;simp [Instr.sameBits]
 now:=⟨_,U,.inr λ{E E' ws ws' x y} K O=>by
  have K:ws= [.int kd x]:=K
  have O:ws'= [.int kd y]:=O
  subst K O
  have e:(x==y)=decide (x=y):=by by_cases h:x=y <;> simp [h]
  show(if kd=kd then some (x==y) else none)=_
  rw [if_pos rfl,e]⟩
theorem B5.nat{kd:IntKind}(U:P.underlying t=some (.int kd))(Z:Bj P t=some 1):B5 P t (rN kd) false 1 where
 agg:=by unfold Dj;rw [U]
 size:=Z
 one _:=rfl
 eq {n E E' ws ws' x y s Q X} ac K O k:=by
  obtain⟨m,rfl⟩:∃m,n=m+1:=⟨n - 1,by omega⟩;have K:ws= [.int kd ((x:Nat):Int)]:=K;have O:ws'= [.int kd ((y:Nat):Int)]:=O;subst K O;refine TU U ?_;have e:((x:Int)==(y:Int))=decide (x=y):=by
   by_cases h:x=y
   ·simp [h]
   ·have Y:¬(x:Int)=(y:Int):=by omega
    simp [h,Y]
  rw [e];exact k
 BK {n em E ws x s Q X} ac K k:=by
  obtain⟨m,rfl⟩:∃m,n=m+1:=⟨n - 1,by omega⟩;have K:ws= [.int kd ((x:Nat):Int)]:=K;subst K;unfold Instr.checkKey;refine As _ _ (Cl U ?_);exact k
 uniq K O:=by
  have K:_= [Value.int kd _]:=K;have O:_= [Value.int kd _]:=O;rw [K,O]
 same {E ws x} h w hw m:=by
  have h:ws= [Value.int kd ((x:Nat):Int)]:=h;subst h;simp at hw;subst hw;simp [Instr.sameBits]
 now:=⟨_,U,.inr λ{E E' ws ws' x y} K O=>by
  have K:ws= [.int kd ((x:Nat):Int)]:=K
  have O:ws'= [.int kd ((y:Nat):Int)]:=O
  subst K O
  have e:((x:Int)==(y:Int))=decide (x=y):=by
   by_cases h:x=y
   ·simp [h]
   ·have Y:¬(x:Int)=(y:Int):=by omega
    simp [h,Y]
  show(if kd=kd then some ((x:Int)==(y:Int)) else none)=_
  rw [if_pos rfl,e]⟩
theorem B5.up{α:Type} [DecidableEq α] {pp:Rp α}{O:Bool}{dep U:Nat}(h:B5 P t pp O dep)(hd:dep<=U):B5 P t pp O U:=
 ⟨h.agg,h.size,h.one,λK=>h.eq (Nat.le_trans hd K),λK=>h.BK (Nat.le_trans hd K),h.uniq,h.same,h.now⟩
theorem PE{α:Type}{kk:Nat}{pp:Rp α}{E:LH}{ws:Lv_}{xs:List α}(K:(rA kk pp).r E ws xs){i:Nat}(hi:i<kk):∃x us,xs[i]? =some x/\pp.r E us x/\us.length=pp.n/\∀j w,us[j]? =some w->ws.toArray[i*pp.n+j]? =some w:=by
 have O:xs[i]? =some (xs[i]'(by rw [K.1];exact hi)):=List.getElem?_eq_getElem (by rw [K.1];exact hi);have Y:ix xs (i:Int)=some (xs[i]'(by rw [K.1];exact hi)):=by unfold ix;rw [if_pos (by omega)];simpa using O
 obtain⟨us,U,_,_,Z⟩:=HA (m:=(i:Int)) K Y;exact⟨_,us,O,U,pp.len U,λj w ac=>by have:=Z j w ac;rw [List.getElem?_toArray];simpa using this⟩
theorem B5.arr{α:Type} [DecidableEq α] {pp:Rp α}{a6:Bool}{dep kk:Nat}(h:B5 P e pp a6 dep)(Z:P.underlying t=some (.array kk e))(a7:Bj P t=some (kk*pp.n)):B5 P t (rA kk pp) true (dep+1) where
 agg:=by unfold Dj;rw [Z]
 size:=a7
 one:=λh=>by cases h
 eq {n E E' ws ws' xs ys s Q X} a8 ac a0 k:=by
  obtain⟨n,rfl⟩:∃m,n=m+1:=⟨n - 1,by omega⟩;have bx:=ac.1;have bz:=a0.1;unfold Op.equalIn;refine As _ _ (Cl Z ?_);refine As (x:=Go.sizeOf e) _ (EP h.size ?_);simp only [Hl,if_true];simp only [Std.Legacy.Range.forIn_eq_forIn_range',Std.Legacy.Range.size,Nat.sub_zero,Nat.add_one_sub_one,Nat.div_one];let bd:Nat->Option Bool×Unit->Sem (ForInStep (Option Bool×Unit)):=λi _=>do
   if !(← Op.equalIn n e (← Go.part e ws.toArray (i*pp.n)) (← Go.part e ws'.toArray (i*pp.n))) then pure (ForInStep.done (some false,())) else pure (ForInStep.yield (none,()))
  have key:∀(m st:Nat),st+m=kk->(∀i,i<st->xs[i]? =ys[i]?)->∀{K:Option Bool×Unit->St->Prop},K (if xs=ys then(none,()) else(some false,())) s->lp P (forIn (List.range' st m) (none,()) bd:Sem _) s K X:=by
   intro m
   induction m with
   | zero=>
    intro st al am K O;have U:xs=ys:=by
     apply List.ext_getElem?;intro i;rcases Nat.lt_or_ge i st with hi | hi
     ·exact am i hi
     ·rw [List.getElem?_eq_none (by omega),List.getElem?_eq_none (by omega)]
    rw [if_pos U] at O;simp only [List.range'_zero,List.forIn_nil];exact O
   | succ m ap=>
    intro st al am K O;simp only [List.range'_succ,List.forIn_cons];obtain⟨a,us,ag,aq,Y,av⟩:=PE ac (i:=st) (by omega);obtain⟨c,b0,aw,a9,a2,bb⟩:=PE a0 (i:=st) (by omega);refine As _ _ (As _ _ (KY h.agg (by rw [Y];exact h.size) (λq=>by rw [Y];exact h.one q) av ?_));refine As _ _ (KY h.agg (by rw [a2];exact h.size) (λq=>by rw [a2];exact h.one q) bb ?_);refine As _ _ (h.eq (by omega) aq a9 ?_);by_cases ay:a=c
    ·subst ay;simp only [decide_true,Bool.not_true,Bool.false_eq_true,if_false,lp,pure];exact ap (st+1) (by omega) (λi hi=>by
      rcases Nat.lt_or_ge i st with a3 | a3
      ·exact am i a3
      ·obtain rfl:i=st:=by omega
       rw [ag,aw]) O
    ·have be:¬xs=ys:=λq=>ay (by rw [q] at ag;rw [ag] at aw;exact Option.some.inj aw);rw [if_neg be] at O;simp only [ay,decide_false,Bool.not_false,if_true,lp,pure];exact O
  refine As _ _ (key kk 0 (by omega) (λi hi=>by omega) ?_);by_cases U:xs=ys
  ·rw [if_pos U];simpa [lp,pure,U] using k
  ·rw [if_neg U];simpa [lp,pure,U] using k
 BK {n em E ws xs s Q X} a8 ac k:=by
  obtain⟨n,rfl⟩:∃m,n=m+1:=⟨n - 1,by omega⟩;unfold Instr.checkKey;refine As _ _ (Cl Z ?_);simp only [Hl,if_true];simp only [Std.Legacy.Range.forIn_eq_forIn_range',Std.Legacy.Range.size,Nat.sub_zero,Nat.add_one_sub_one,Nat.div_one];let bd:Nat->Unit->Sem (ForInStep Unit):=λi _=>do
   Instr.checkKey em n e (← Go.part e ws.toArray (i*(← Go.sizeOf e)))
   pure (ForInStep.yield ())
  have key:∀(m st:Nat),st+m=kk->∀{K:Unit->St->Prop},K () s->lp P (forIn (List.range' st m) () bd:Sem _) s K X:=by
   intro m
   induction m with
   | zero=>
    intro st al K O;simp only [List.range'_zero,List.forIn_nil];exact O
   | succ m ap=>
    intro st al K O;simp only [List.range'_succ,List.forIn_cons];obtain⟨a,us,ag,aq,Y,av⟩:=PE ac (i:=st) (by omega);refine As _ _ (As (x:=Go.sizeOf e) _ (EP h.size ?_));refine As _ _ (KY h.agg (by rw [Y];exact h.size) (λq=>by rw [Y];exact h.one q) av ?_);refine As _ _ (h.BK (by omega) aq ?_);exact ap (st+1) (by omega) O
  exact As _ _ (key kk 0 (by omega) k)
 uniq {E E' ws ws' xs} az bi:=by
  obtain⟨a1,wss,rfl,a4,c1⟩:=az;obtain⟨b1,bn,rfl,b2,c2⟩:=bi;have:wss=bn:=by
   apply List.ext_getElem (by omega);intro i hi bo;have a5:xs[i]? =some (xs[i]'(by omega)):=List.getElem?_eq_getElem (by omega);exact h.uniq (c1 i _ _ a5 (List.getElem?_eq_getElem hi)) (c2 i _ _ a5 (List.getElem?_eq_getElem bo))
  rw [this]
 same {E ws xs} az w hw m:=by
  obtain⟨a1,wss,rfl,a4,c1⟩:=az;obtain⟨us,bv,hw⟩:=List.mem_flatten.1 hw;obtain⟨i,hi⟩:=List.mem_iff_getElem?.1 bv;have bw:i<xs.length:=by rw [a1,← a4];exact(List.getElem?_eq_some_iff.1 hi).1
  exact h.same (c1 i _ us (List.getElem?_eq_getElem bw) hi) w hw m
 now:=⟨_,Z,.inl λv w=>rfl⟩
theorem B5.field{α:Type} [DecidableEq α] {pp:Rp α}{ac:Bool}{dep n:Nat}{f:Field}{s:St}{X:Halt->St->Prop}(h:B5 P f.type pp ac dep)(hd:dep<=n)(ag:f.name≠ "_"){E E':LH}{us Y:Lv_}{x y:α}(r1:pp.r E us x)(r2:pp.r E' Y y){cx Z:Av_}
  (w1:∀j w,us[j]? =some w->cx[f.offset+j]? =some w) (w2:∀j w,Y[j]? =some w->Z[f.offset+j]? =some w) {K:ForInStep (Option Bool×Unit)->St->Prop} (O:K (if x=y then .yield (none,()) else .done (some false,())) s):
  lp P (if f.name≠ "_" then do
   if !(← Op.equalIn n f.type (← Go.part f.type cx f.offset) (← Go.part f.type Z f.offset)) then pure (ForInStep.done (some false,())) else pure (ForInStep.yield (none,()))
   else pure (ForInStep.yield (none,()))) s K X:=by
 rw [if_pos ag]
 refine As _ _ (KY h.agg (by rw [pp.len r1];exact h.size) (λq=>by rw [pp.len r1];exact h.one q) w1 ?_)
 refine As _ _ (KY h.agg (by rw [pp.len r2];exact h.size) (λq=>by rw [pp.len r2];exact h.one q) w2 ?_)
 refine As _ _ (h.eq hd r1 r2 ?_)
 by_cases U:x=y
 ·rw [if_pos U] at O;simpa [lp,pure,U] using O
 ·rw [if_neg U] at O;simpa [lp,pure,U] using O
theorem B5.Mb{α:Type} [DecidableEq α] {pp:Rp α}{O em:Bool}{dep n:Nat}{f:Field}{s:St}{X:Halt->St->Prop}(h:B5 P f.type pp O dep)(hd:dep<=n)(U:f.name≠ "_"){E:LH}{us:Lv_}{x:α}(r1:pp.r E us x){cx:Av_}
  (w1:∀j w,us[j]? =some w->cx[f.offset+j]? =some w) {K:ForInStep Unit->St->Prop} (Y:K (.yield ()) s):
  lp P (if f.name≠ "_" then do
   Instr.checkKey em n f.type (← Go.part f.type cx f.offset)
   pure (ForInStep.yield ())
   else pure (ForInStep.yield ())) s K X:=by
 rw [if_pos U]
 refine As _ _ (KY h.agg (by rw [pp.len r1];exact h.size) (λq=>by rw [pp.len r1];exact h.one q) w1 ?_)
 refine As _ _ (h.BK hd r1 ?_)
 exact Y
theorem Lj{us r:Lv_}{o:Nat}(K:o=0):∀j w,us[j]? =some w->(us++r).toArray[o+j]? =some w:=λj w h=>by subst K;exact SO (l:= []) j w h
theorem Om{l us r:Lv_}{o:Nat}(K:o=l.length):∀j w,us[j]? =some w->(l++(us++r)).toArray[o+j]? =some w:=λj w h=>by
 subst K
 have:=SO (l:=l) (r:=r) j w h
 rwa [List.append_assoc] at this
theorem Oo{l us:Lv_}{o:Nat}(K:o=l.length):∀j w,us[j]? =some w->(l++us).toArray[o+j]? =some w:=λj w h=>by
 have:=Om (r:= []) K j w h
 rwa [List.append_nil] at this
theorem Qc{l m us:Lv_}{o:Nat}(K:o=l.length+m.length):∀j w,us[j]? =some w->(l++(m++us)).toArray[o+j]? =some w:=λj w h=>by
 have:=Oo (l:=l++m) (o:=o) (by simp [K]) j w h
 rwa [List.append_assoc] at this
theorem B5.two{α β:Type} [DecidableEq α] [DecidableEq β] {p1:Rp α}{p2:Rp β}{a1 av:Bool}{dep:Nat}{f1 f2:Field}(K:P.underlying t=some (.struct #[f1,f2]))(O:B5 P f1.type p1 a1 dep)(U:B5 P f2.type p2 av dep)(aw:P.stoodInHeld t=false)
  (n1:f1.name≠ "_") (n2:f2.name≠ "_") (ac:f1.offset=0) (ag:f2.offset=p1.n) (ay:Bj P t=some (p1.n+p2.n)):B5 P t (rP p1 p2) true (dep+1) where
 agg:=by unfold Dj;rw [K]
 size:=ay
 one:=λh=>by cases h
 eq {n E E' ws ws' x y s Q X} az al a0 k:=by
  obtain⟨n,rfl⟩:∃m,n=m+1:=⟨n - 1,by omega⟩;obtain⟨am,ap,rfl,r1,r2⟩:=al;obtain⟨v1,v2,rfl,Y,aq⟩:=a0;simp only [Hl,if_true];unfold Op.equalIn;refine As _ _ (Cl K ?_);refine As (x:=program) _ ?_;show lp P (if P.stoodInHeld t=true then _ else _) s _ _
  rw [if_neg (by rw [aw];exact Bool.false_ne_true)]
  dsimp only;rw [← Array.forIn_toList];simp only [List.forIn_cons,List.forIn_nil];refine As _ _ (As _ _ (O.field (by omega) n1 r1 Y (Lj ac) (Lj ac) ?_));by_cases Z:x.1=y.1
  ·rw [if_pos Z];refine As _ _ (U.field (by omega) n2 r2 aq (Oo (ag.trans (p1.len r1).symm)) (Oo (ag.trans (p1.len Y).symm)) ?_);by_cases e2:x.2=y.2
   ·have e:x=y:=Prod.ext Z e2;rw [if_pos e2];simpa [lp,pure,e] using k
   ·have e:¬x=y:=λq=>e2 (by rw [q]);rw [if_neg e2];simpa [lp,pure,e] using k
  ·have e:¬x=y:=λq=>Z (by rw [q]);rw [if_neg Z];simpa [lp,pure,e] using k
 BK {n em E ws x s Q X} az al k:=by
  obtain⟨n,rfl⟩:∃m,n=m+1:=⟨n - 1,by omega⟩;obtain⟨am,ap,rfl,r1,r2⟩:=al;simp only [Hl,if_true];unfold Instr.checkKey;refine As _ _ (Cl K ?_)
  dsimp only;rw [← Array.forIn_toList];simp only [List.forIn_cons,List.forIn_nil];refine As _ _ (As _ _ (O.Mb (by omega) n1 r1 (Lj ac) ?_));refine As _ _ (U.Mb (by omega) n2 r2 (Oo (ag.trans (p1.len r1).symm)) ?_);exact k
 uniq {E E' ws ws' x} a b:=by
  obtain⟨am,ap,rfl,r1,r2⟩:=a;obtain⟨v1,v2,rfl,Y,aq⟩:=b;rw [O.uniq r1 Y,U.uniq r2 aq]
 same {E ws x} a w hw m:=by
  obtain⟨am,ap,rfl,r1,r2⟩:=a;rcases List.mem_append.1 hw with hw | hw
  ·exact O.same r1 w hw m
  ·exact U.same r2 w hw m
 now:=⟨_,K,.inl λv w=>rfl⟩
theorem B5.three{α β a2:Type} [DecidableEq α] [DecidableEq β] [DecidableEq a2] {p1:Rp α}{p2:Rp β}{p3:Rp a2}{a1 a4 a5:Bool}{dep:Nat}{f1 f2 f3:Field}(O:P.underlying t=some (.struct #[f1,f2,f3]))(U:B5 P f1.type p1 a1 dep)(Y:B5 P f2.type p2 a4 dep)(Z:B5 P f3.type p3 a5 dep)(a6:P.stoodInHeld t=false)
  (n1:f1.name≠ "_") (n2:f2.name≠ "_") (a3:f3.name≠ "_") (am:f1.offset=0) (ap:f2.offset=p1.n) (aq:f3.offset=p1.n+p2.n) (a7:Bj P t=some (p1.n+(p2.n+p3.n))):B5 P t (rP p1 (rP p2 p3)) true (dep+1) where
 agg:=by unfold Dj;rw [O]
 size:=a7
 one:=λh=>by cases h
 eq {n E E' ws ws' x y s Q X} a8 av a9 k:=by
  obtain⟨n,rfl⟩:∃m,n=m+1:=⟨n - 1,by omega⟩;obtain⟨aw,_,rfl,r1,ay,az,rfl,r2,r3⟩:=av;obtain⟨v1,_,rfl,K,v2,bb,rfl,ac,a0⟩:=a9;simp only [Hl,if_true];unfold Op.equalIn;refine As _ _ (Cl O ?_);refine As (x:=program) _ ?_;show lp P (if P.stoodInHeld t=true then _ else _) s _ _
  rw [if_neg (by rw [a6];exact Bool.false_ne_true)]
  dsimp only;rw [← Array.forIn_toList];simp only [List.forIn_cons,List.forIn_nil];refine As _ _ (As _ _ (U.field (by omega) n1 r1 K (Lj am) (Lj am) ?_));by_cases ag:x.1=y.1
  ·rw [if_pos ag];refine As _ _ (Y.field (by omega) n2 r2 ac (Om (ap.trans (p1.len r1).symm)) (Om (ap.trans (p1.len K).symm)) ?_);by_cases e2:x.2.1=y.2.1
   ·rw [if_pos e2];refine As _ _ (Z.field (by omega) a3 r3 a0 (Qc (by rw [aq,p1.len r1,p2.len r2])) (Qc (by rw [aq,p1.len K,p2.len ac])) ?_);by_cases al:x.2.2=y.2.2
    ·have e:x=y:=Prod.ext ag (Prod.ext e2 al);rw [if_pos al];simpa [lp,pure,e] using k
    ·have e:¬x=y:=λq=>al (by rw [q]);rw [if_neg al];simpa [lp,pure,e] using k
   ·have e:¬x=y:=λq=>e2 (by rw [q]);rw [if_neg e2];simpa [lp,pure,e] using k
  ·have e:¬x=y:=λq=>ag (by rw [q]);rw [if_neg ag];simpa [lp,pure,e] using k
 BK {n em E ws x s Q X} a8 av k:=by
  obtain⟨n,rfl⟩:∃m,n=m+1:=⟨n - 1,by omega⟩;obtain⟨aw,_,rfl,r1,ay,az,rfl,r2,r3⟩:=av;simp only [Hl,if_true];unfold Instr.checkKey;refine As _ _ (Cl O ?_)
  dsimp only;rw [← Array.forIn_toList];simp only [List.forIn_cons,List.forIn_nil];refine As _ _ (As _ _ (U.Mb (by omega) n1 r1 (Lj am) ?_));refine As _ _ (Y.Mb (by omega) n2 r2 (Om (ap.trans (p1.len r1).symm)) ?_);refine As _ _ (Z.Mb (by omega) a3 r3 (Qc (by rw [aq,p1.len r1,p2.len r2])) ?_);exact k
 uniq {E E' ws ws' x} a b:=by
  obtain⟨aw,_,rfl,r1,ay,az,rfl,r2,r3⟩:=a;obtain⟨v1,_,rfl,K,v2,bb,rfl,ac,a0⟩:=b;rw [U.uniq r1 K,Y.uniq r2 ac,Z.uniq r3 a0]
 same {E ws x} a w hw m:=by
  obtain⟨aw,_,rfl,r1,ay,az,rfl,r2,r3⟩:=a;rcases List.mem_append.1 hw with hw | hw
  ·exact U.same r1 w hw m
  ·rcases List.mem_append.1 hw with hw | hw
   ·exact Y.same r2 w hw m
   ·exact Z.same r3 w hw m
 now:=⟨_,O,.inl λv w=>rfl⟩
theorem B5.key{α:Type} [DecidableEq α] {pp:Rp α}{K:Bool}{dep:Nat}(h:B5 P t pp K dep)(hd:dep<=10000):FJ P t pp K where
 BK:=by
  rintro em E v x s Q X ⟨ws,Y,rfl⟩ k;exact h.BK hd Y k
 kind:=by
  obtain⟨kd,O,Z⟩:=h.now;refine⟨kd,O,Z.imp id λac=>?_⟩;rintro E v w x y ⟨ws,r1,rfl⟩ ⟨ws',r2,rfl⟩;exact ac r1 r2
 eq:=by
  rintro E v w x y s Q X ⟨ws,r1,rfl⟩ ⟨ws',r2,rfl⟩ k;exact h.eq hd r1 r2 k
 same:=by
  rintro E v x ⟨ws,r1,rfl⟩;cases K with
  | false=>
   obtain⟨w,rfl⟩:∃w,ws= [w]:=by
    have:=(pp.len r1).trans (h.one V)
    match ws,this with
    | [w],_=>exact⟨w,rfl⟩
   exact h.same r1 w (by simp) 9999
  | true=>
   show(ws.toArray.size==ws.toArray.size&&(ws.toArray.toList.zip ws.toArray.toList).all λ(x,y)=>Instr.sameBits 9999 x y)=true;rw [Bool.and_eq_true];refine⟨by simp,List.all_eq_true.2 ?_⟩;rintro⟨a,b⟩ ag;have O:∀(l:Lv_) a b,(a,b)∈l.zip l->a=b/\a∈l:=by
    intro l
    induction l with
    | nil=>intro a b h;simp at h
    | cons c l U=>
     intro a b h;simp only [List.zip_cons_cons,List.mem_cons,Prod.mk.injEq] at h;rcases h with⟨rfl,rfl⟩ | h
     ·exact⟨V,by simp⟩
     ·exact⟨(U a b h).1,List.mem_cons_of_mem _ (U a b h).2⟩
   obtain⟨rfl,hm⟩:=O _ a b ag;exact h.same r1 a (by simpa using hm) 9998
 uniq:=by
  rintro E v w x ⟨ws,r1,rfl⟩ ⟨ws',r2,rfl⟩;rw [h.uniq r1 r2]
section
variable {x y:Operand}
theorem Td{α:Type} [DecidableEq α] {pp:Rp α}{dep:Nat}{a b:α}(h:B5 P t pp true dep)(hd:dep<=10000)(K:P.eqGuardType P.depth t=false)(r1:pp.r E ws a)(r2:pp.r E' ws' b)(O:ρ x= .agg ws.toArray)(U:ρ y= .agg ws'.toArray):Yl P ⟨d,.binOp .neq t x y u,ty,p,af,g⟩ ρ s (.bool (decide (a≠b))):=by
 refine FR (sm:=do eqGuard .neq t x y (ρ x) (ρ y);binOp .neq t (ρ x) (ρ y)) V ?_
 rw [O,U];refine As _ _ (V7 (.inr V) K ?_);have hb:binOp .neq t (.agg ws.toArray) (.agg ws'.toArray)=(do pure (.bool (!(← Op.equal t (.agg ws.toArray) (.agg ws'.toArray))))):=V
 rw [hb];exact As (x:=Op.equal t _ _) _ (h.eq hd r1 r2 ⟨by simp,V⟩)
end
end
theorem Vb{E H:LH}{B:List (Nat×Obj)}(i:Nat){bk:Nat}{o:Obj}(K:Nd E H B)(h:B[i]? =some (bk,o)):∃E',Le E E'/\E' bk=some o/\Nd E' H (B.eraseIdx i)/\Cd (mk E H B) (mk E' H (B.eraseIdx i)):=by
 have ap:=List.mem_of_getElem? h;have aq:E bk=none/\H bk=none:=by
  have:∀{B:List (Nat×Obj)},Nd E H B->(bk,o)∈B->E bk=none/\H bk=none:=by
   intro B K O
   induction B with
   | nil=>simp at O
   | cons q B Y=>
    rcases List.mem_cons.1 O with rfl | O
    ·exact⟨K.1,K.2.1⟩
    ·exact Y K.2.2.2 O
  exact this K ap
 let E':LH:=λx=>if x=bk then some o else E x
 have ag:E' bk=some o:=by simp [E']
 have hle:Le E E':=λx u U=>by
  have:x≠bk:=λe=>by subst e;rw [aq.1] at U;cases U
  simp [E',this,U]
 have av:Nd E' H (B.eraseIdx i):=by
  have:∀{B:List (Nat×Obj)} {i:Nat},Nd E H B->B[i]? =some (bk,o)->Nd E' H (B.eraseIdx i)/\∀p∈B.eraseIdx i,p.1≠bk:=by
   intro B
   induction B with
   | nil=>intro i _ h;simp at h
   | cons q B Y=>
    obtain⟨c,v⟩:=q;intro i K h;have up:∀{B:List (Nat×Obj)},Nd E H B->(∀p∈B,p.1≠bk)->Nd E' H B:=by
     intro B K al
     induction B with
     | nil=>trivial
     | cons q B aw=>exact⟨by simpa [E',al q (by simp)] using K.1,K.2.1,K.2.2.1,aw K.2.2.2 λp O=>al p (List.mem_cons_of_mem _ O)⟩
    cases i with
    | zero=>
     simp at h;obtain⟨rfl,rfl⟩:=h;exact⟨up K.2.2.2 K.2.2.1,K.2.2.1⟩
    | succ i=>
     simp at h;obtain⟨Z,ac⟩:=Y K.2.2.2 h;have am:c≠bk:=λe=>K.2.2.1 (bk,o) (List.mem_of_getElem? h) e.symm;refine⟨⟨by simpa [E',am] using K.1,K.2.1,λp O=>K.2.2.1 p (List.mem_of_mem_eraseIdx O),Z⟩,λp O=>?_⟩;rcases List.mem_cons.1 O with rfl | O
     ·exact am
     ·exact ac p O
  exact(this K h).1
 refine⟨E',hle,ag,av,⟨λx u U=>hle x u U,λx u U=>(LQ K h U).2,λx u U=>?_,V⟩⟩;by_cases e:x=bk
 ·subst e;right;have:u=o:=by have:E' x=some u:=U;rw [ag] at this;exact(Option.some.inj this).symm
  subst this;refine⟨Jb K h,?_⟩;cases ay:(mk E' H (B.eraseIdx i)).H x with
  | none=>rfl
  | some y=>exact absurd rfl (LQ K h ay).1
 ·left;have Z:E' x=some u:=U;have ac:E' x=E x:=by simp [E',e]
  show E x=some u;rw [← ac];exact Z
theorem U3{E H:LH}{B0:List (Nat×Obj)}{e:TypeId}{K l c:Nat}{a:Option Addr}{blk:List (Nat×Obj)}{xs:Lv_}(ag:GS e K a l c blk xs)(U:Nd E H (B0++blk)):∃E',Le E E'/\OC E' K (.slice a l c) l xs/\Nd E' H B0/\Cd (mk E H (B0++blk)) (mk E' H B0):=by
 rcases ag with⟨rfl,rfl,rfl,rfl,rfl⟩ | ⟨bk,f,rfl,rfl,al,Y,rfl⟩
 ·simp only [List.append_nil] at U ⊢;exact⟨E,Le.refl _,.nil,U,.refl _⟩
 ·have am:(B0++ [(bk,Obj.cells f e (0,0))])[B0.length]? =some (bk,Obj.cells f e (0,0)):=by simp
  obtain⟨E',hle,ap,Z,ac⟩:=Vb B0.length U am;have aq:(B0++ [(bk,Obj.cells f e (0,0))]).eraseIdx B0.length=B0:=by rw [List.eraseIdx_append_of_length_le (Nat.le_refl _)];simp
  rw [aq] at Z ac;refine⟨E',hle,⟨_,c,V,Y,?_,.inr ⟨bk,0,f,e,(0,0),V,ap,λj w O=>?_⟩⟩,Z,ac⟩
  ·have:l*K<=c*K:=Nat.mul_le_mul_right _ Y;simp [al,Nat.min_eq_left this]
  ·rw [List.getElem?_take] at O;split at O
   ·simpa using O
   ·cases O
theorem U9{α:Type}{pp:Rp α}{E H:LH}{S:List Seg}{e:TypeId}{a:Option Addr}{c:Nat}{seg:Seg}{xs:List α}(j:Nat)(U:OL e pp E a c seg xs)(ap:Ap E H S)(aq:S[j]? =some seg):∃E',Le E E'/\Al pp E' a c xs/\Ap E' H (S.set j [])/\Cd (Aj E H S) (Aj E' H (S.set j [])):=by
 obtain⟨wss,U,ac,ag⟩:=U;have av:∀ad:Addr,a=some ad->ad.spot=none:=λad K=>by
  rcases U with⟨O,_⟩ | ⟨bk,f,O,_⟩
  ·rw [O] at K;cases K
  ·rw [O] at K;cases K;rfl
 obtain⟨O,aw⟩:=Hb ap aq;obtain⟨E',hle,ay,az,al⟩:=U3 U aw;rw [← O] at al;refine⟨E',hle,?_,az,al⟩;obtain⟨a0,a1,Y,a2,a7,Z⟩:=ay;obtain⟨rfl,-,rfl⟩:a=a0/\xs.length=xs.length/\c=a1:=by
  simp only [Value.slice.injEq] at Y;exact⟨Y.1,V,Y.2.2⟩
 refine⟨a2,?_⟩;rcases Z with Z | ⟨bk,off,f,a3,fr,a4,g2,a5⟩
 ·exact .inl ⟨List.eq_nil_of_length_eq_zero Z,λad K=> .inl (av ad K)⟩
 ·refine .inr ⟨bk,off,a4,λi x am=>?_⟩;have a6:i<wss.length:=by rw [ac];exact(List.getElem?_eq_some_iff.1 am).1
  have hw:=List.getElem?_eq_getElem a6;refine⟨wss[i],pp.Ah hle (ag i x _ am hw),f,a3,fr,g2,λm w hm=>?_⟩;rw [Nat.add_assoc];exact a5 _ w (Ki (H7 ac ag) hw m w hm)
theorem Cd.get{s s₀:St}(h:Cd s s₀){b:Nat}{o:Obj}(K:s₀.get b=some o):s.get b=some o:=by
 unfold St.get at K ⊢;cases O:s₀.E b with
 | some o'=>
  rw [O] at K;simp only at K;cases K;rcases h.EL _ _ O with U | ⟨U,_⟩
  ·rw [U]
  ·cases he:s.E b with
   | none=>exact U
   | some Y=>
    have:=h.ext _ _ he;rw [O] at this;cases this;rfl
 | none=>
  rw [O] at K;simp only at K;cases he:s.E b with
  | none=>exact h.own _ _ K
  | some Y=>
   have:=h.ext _ _ he;rw [O] at this;cases this
theorem Cd.upd{s s₀:St}(h:Cd s s₀){b:Nat}(o:Obj)(hb:(∃u,s₀.H b=some u)∨s₀.E b=none):Cd (s.upd b o) (s₀.upd b o):=by
 refine⟨h.ext,λx u K=>?_,λx u K=>?_,h.q⟩
 ·simp only [St.upd] at K ⊢;by_cases e:x=b
  ·rw [if_pos e] at K ⊢;exact K
  ·rw [if_neg e] at K ⊢;exact h.own _ _ K
 ·have O:s₀.E x=some u:=K;rcases h.EL _ _ O with U | ⟨U,Y⟩
  ·exact .inl U
  ·refine .inr ?_;have e:x≠b:=λe=>by
    subst e;rcases hb with⟨w,hw⟩ | hb
    ·rw [hw] at Y;cases Y
    ·rw [hb] at O;cases O
   simp only [St.upd,if_neg e];exact⟨U,Y⟩
theorem Cd.none{s s₀:St}(h:Cd s s₀){b:Nat}(U:s.E b=none)(O:s.H b=none):s₀.E b=none/\s₀.H b=none:=by
 constructor
 ·cases he:s₀.E b with
  | none=>rfl
  | some o=>
   rcases h.EL _ _ he with K | ⟨K,_⟩
   ·rw [U] at K;cases K
   ·rw [O] at K;cases K
 ·cases he:s₀.H b with
  | none=>rfl
  | some o=>have:=h.own _ _ he;rw [O] at this;cases this
theorem Xy{P:Program}{α:Type}(x:Sem α):∀{s s₀:St} {Q:α->St->Prop} {X:Halt->St->Prop},Cd s s₀->lp P x s₀ Q X->lp P x s (λa s'=>∃Z,Cd s' Z/\Q a Z) (λh s'=>∃Z,Cd s' Z/\X h Z):=by
 induction x with
 | pure a=>intro s s₀ Q X g h;exact⟨s₀,g,h⟩
 | load m a k K=>
  intro s s₀ Q X g h;obtain⟨O,v,U,Y⟩:=h;obtain⟨o,al,am⟩:=Option.bind_eq_some_iff.1 U;exact⟨O,v,by unfold St.cell?;rw [g.get al];exact am,K v g Y⟩
 | store m a v k K=>
  intro s s₀ Q X g h;obtain⟨O,U,o,Y,ap,aq,av⟩:=h;exact⟨O,U,o,g.own _ _ Y,ap,aq,K (g.upd _ (.inl ⟨o,Y⟩)) av⟩
 | new o k K=>
  intro s s₀ Q X g h;refine⟨by rw [← g.q];exact h.1,λr O U=>?_⟩;obtain⟨ag,e2⟩:=g.none O U;exact K r (g.upd _ (.inr ag)) (h.2 r ag e2)
 | shape r k K=>intro s s₀ Q X g h;obtain⟨o,O,U⟩:=h;exact⟨o,g.get O,K _ g U⟩
 | freeze a n k K=>intro s s₀ Q X g h;exact h.elim
 | frozen a k K=>intro s s₀ Q X g h;obtain⟨o,O,U⟩:=h;exact⟨o,g.get O,K _ g U⟩
 | getObj r k K=>intro s s₀ Q X g h;obtain⟨o,O,U,Y⟩:=h;exact⟨o,g.get O,U,K _ g Y⟩
 | setObj r o k K=>
  intro s s₀ Q X g h;obtain⟨⟨o',O,aw⟩,U,Y⟩:=h;exact⟨⟨o',g.own _ _ O,aw⟩,U,K (g.upd _ (.inl ⟨o',O⟩)) Y⟩
 | choose q k K=>
  intro s s₀ Q X g h;simp only [lp] at h ⊢;split
  ·rename_i ac;rw [if_pos ac] at h;exact K _ g h
  ·rename_i ac;rw [if_neg ac] at h;exact⟨by rw [← g.q];exact h.1,λt=>K _ g (h.2 t)⟩
 | sys c k K=>intro s s₀ Q X g h;exact h.elim
 | program k K=>intro s s₀ Q X g h;exact K _ g h
 | mark m k K=>
  intro s s₀ Q X g h;refine⟨?_,K g h.2⟩;rcases h.1 with⟨O,U⟩ | O
  ·exact .inl ⟨by rw [← g.q];exact O,U⟩
  ·exact .inr O
 | halt h=>intro s s₀ Q X g ay;exact⟨s₀,g,ay⟩
variable {J:Judge P}{Q:Gs_}{b:Frame}{n:Nat}{ds:Ld_}{ops:Ao_}{k:Li_}{cs:Lf_}{m:Nat}{D:Nat->Bool}{L:Env}{H:LH}{S:List Seg}
variable {v:Value}{kd:IntKind}
section
variable {fuel:Nat}{listed:Array Bool}
variable {x y:Operand}{e:TypeId}{i:Nat}
theorem RF{f:FuncId}{args:Array Operand}{ats:Array TypeId}{vs:Lv_}{seg:Seg}{R:Value->LH->Seg->Prop}(j:Nat)(a0:∀x,D x=true->∃(O:Nat) (o:Obj),(S.set j [])[O]? =some [(x,o)])(a1:AQ J f vs E seg R)(a2:Region.ready .any ops listed= [i])
  (a3:ops[i]? =some ⟨d,.call ⟨.value (.func f),args,ats⟩,ty,p,af,g⟩) (a4:Bc n d=true) (hw:AJ L ops ⟨d,.call ⟨.value (.func f),args,ats⟩,ty,p,af,g⟩=some true) (hb:Dy P f=true) (a5:evs L args.toList=some vs) (Z:Ap E H S) (ac:S[j]? =some seg)
  (a6:∀v E' seg',Le E E'->R v E' seg'->Ap E' H (S.set j seg')->AL J Q b n ds ops k cs m D fuel (A4 listed i) (Au L d v) (Aj E' H (S.set j seg'))):
  AL J Q b n ds ops k cs m D (fuel+1) listed L (Aj E H S):=by
 have al:S.flatten.Perm (seg++(S.set j []).flatten):=(Eo (seg':=seg) ac).1.trans List.perm_append_comm;have am:Nd E H (seg++(S.set j []).flatten):=Nd.perm Z al;have a7:Aj E H S=mk E (Bd (S.set j []).flatten H) seg:=by
  rw [show Aj E H S=mk E H S.flatten from rfl,Ff Z al];unfold mk;rw [FT]
 have ap:=EM.Ls (a1 (Bd (S.set j []).flatten H) (Nd.front am)) (by rintro v s' ⟨E',B',_,_,_,rfl⟩;rfl);rw [← a7] at ap;refine AL.call V a2 a3 a4 hw hb a5 ap ?_;rintro v bw ⟨⟨E',B',hle,a8,a9,rfl⟩,w,bb⟩;have e2:mk E' (Bd (S.set j []).flatten H) B'=mk E' H (B'++(S.set j []).flatten):=by unfold mk;rw [FT]
 have be:Nd E H (S.set j []).flatten:=by
  have:=am;rw [Nd.iff] at this ⊢;rw [List.map_append,List.nodup_append] at this;exact⟨this.1.2.1,λq bi=>this.2 q (List.mem_append_right _ bi)⟩
 have bn:Nd E' H (S.set j []).flatten:=be.grow λx U=>by
  have bo:=bb.d x U;have ag:Bd B' (Bd (S.set j []).flatten H) x=none:=bo;exact(H2 ag).1
 have aq:Nd E' H (B'++(S.set j []).flatten):=Nd.glue a9 bn;have av:(B'++(S.set j []).flatten).Perm (S.set j B').flatten:=List.perm_append_comm.trans (Eo ac).2.symm;have aw:Ap E' H (S.set j B'):=Nd.perm aq av;rw [e2,Ff aq av];refine⟨V,λx o U=>?_,a6 v E' B' hle a8 aw⟩;by_cases hd:D x=true
 ·obtain⟨O,o',Y⟩:=a0 x hd;have ay:j≠O:=λh=>by
   subst h;rw [List.getElem?_set_self (List.getElem?_eq_some_iff.1 ac).1] at Y;cases Y
  have az:S[O]? =some [(x,o')]:=by rw [List.getElem?_set_ne ay] at Y;exact Y
  have ag:(Aj E H S).get x=some o':=Dg (i:=0) Z az V;have bv:(Aj E' H (S.set j B')).get x=some o':=Dg (i:=0) aw (by rw [List.getElem?_set_ne ay];exact az) rfl;have K:(if D x then(Aj E H S).get x else E x)=some o:=U
  show(if D x then(Aj E' H (S.set j B')).get x else E' x)=some o
  rw [if_pos hd] at K ⊢;rw [bv,← ag];exact K
 ·have K:(if D x then(Aj E H S).get x else E x)=some o:=U
  show(if D x then(Aj E' H (S.set j B')).get x else E' x)=some o
  rw [if_neg hd] at K ⊢;exact hle _ _ K
theorem AL.perm{S':List Seg}(K:S.flatten.Perm S'.flatten)(O:Ap E H S)(h:Ap E H S'->AL J Q b n ds ops k cs m D fuel listed L (Aj E H S')):AL J Q b n ds ops k cs m D fuel listed L (Aj E H S):=by
 have e:Aj E H S=Aj E H S':=Ff O K;rw [e];exact h (Nd.perm O K)
theorem JA.ghost:∀(fuel:Nat) {listed:Array Bool} {T:Av_} {s s₀:St},Cd s s₀->JA J Q b ds ops k cs m CV fuel listed T s₀->JA J Q b ds ops k cs m CV fuel listed T s
 | 0,listed,T,s,s₀,g,h=>⟨h.1,J.ghost g h.2⟩
 | fuel+1,listed,T,s,s₀,g,h=>by
  rcases h with⟨O,U⟩ | ⟨O,U,ac⟩
  ·exact .inl ⟨O,λt=>J.ghost g (U t)⟩
  ·refine .inr ⟨O,by rw [← g.q];exact U,λi hi o ag=>?_⟩;obtain⟨a1,al,am⟩:=ac i hi o ag;refine⟨a1,λe=>JA.ghost fuel g (al e),λe=>?_⟩;have ap:=Xy _ (s:=Bm CV s) (s₀:=Bm CV s₀) g (am e);refine Er _ ap ?_ (λ_ s' ⟨_,_,h⟩=>h);intro aq s' K;obtain⟨Y,Z,K⟩:=K;cases aq with
   | value v=>exact JA.ghost fuel (s:=s') (s₀:=Y) Z K
   | skip=>exact JA.ghost fuel (s:=s') (s₀:=Y) Z K
   | enter f args=>
    obtain⟨R,av,aw⟩:=K;refine⟨R,λQ c cs ay=>J.ghost (s:=s') (s₀:=Y) Z (av Q c cs ay),λv az a0=>?_⟩;obtain⟨a2,a3,a4⟩:=aw v az a0;exact⟨a2,λx o K=>a3 x o (g.ext x o K),a4⟩
   | _=>exact K.elim
theorem F7{α:Type}{pp:Rp α}{a:Option Addr}{c:Nat}{seg:Seg}{xs:List α}(j:Nat)(K:OL e pp E a c seg xs)(O:Ap E H S)(U:S[j]? =some seg)
  (h:∀E',Le E E'->Al pp E' a c xs->Ap E' H (S.set j [])->AL J Q b n ds ops k cs m CV fuel listed L (Aj E' H (S.set j []))):AL J Q b n ds ops k cs m CV fuel listed L (Aj E H S):=λT Y=>by
 obtain⟨E',Z,ac,ag,al⟩:=U9 j K O U
 exact JA.ghost _ al (h E' Z ac ag T Y)
end
theorem oi{α:Type}{a b:α}(h:some a=some b):a=b:=Option.some.inj h
theorem bs{α β:Type}{o:Option α}{f:α->Option β}{r:β}(h:o.bind f=some r):∃x,o=some x/\f x=some r:=bind_some h
def Ih(L:Env):Env->List (Option Value)
 | []=> []
 | (t,_)::L'=>look L t::Ih L L'
def Il:Env->List (Option Value)
 | []=> []
 | (_,v)::L'=>some v::Il L'
theorem Ob{L:Env}:∀{L':Env},Ih L L'=Il L'->Sub L' L
 | [],_=>trivial
 | (t,v)::L',h=>by
  simp only [Ih,Il,List.cons.injEq] at h
  exact⟨h.1,Ob h.2⟩
variable {L':Env}{k':Li_}{rest:List Nat}
variable {op:Op}
section
variable {i:Nat}
theorem Eu(L':Env)(h:Ih L L'=Il L')(k':JL J Q b n L' ds k cs s):JL J Q b n L ds k cs s:=Fg (Ob h) k'
theorem AB(k':JL J Q b n L' ds k cs s)(h:Ih L L'=Il L'):JL J Q b n L ds k cs s:=Fg (Ob h) k'
def Fl(b:Frame)(n:Nat)(L:Env)(ops:Ao_)(i:Nat):Option Oper:=
 match Jq ops.toList i with
 | some ⟨d,op,ty,p,af,g⟩=>match AJ L ops ⟨d,op,ty,p,af,g⟩ with
  | some true=>match BK b n ⟨d,op,ty,p,af,g⟩ with
   | true=>some ⟨d,op,ty,p,af,g⟩
   | false=>none
  | _=>none
 | none=>none
theorem Ko{o:Oper}(h:Fl b n L ops i=some o):ops[i]? =some o/\AJ L ops o=some true/\BK b n o=true:=by
 unfold Fl at h;split at h
 ·rename_i K;rw [K8,Array.getElem?_toList] at K;split at h
  ·rename_i hw;split at h
   ·rename_i O;cases h;exact⟨K,hw,O⟩
   ·cases h
  ·cases h
 ·cases h
theorem Am(K:Fl b n L ops i=some ⟨d,op,ty,p,af,g⟩)(h:∀ρ,EX L ρ->Yl P ⟨d,op,ty,p,af,g⟩ ρ s v)(O:JL J Q b n (Au L d v) ds (.inRegion ops rest::k) cs s):
  JL J Q b n L ds (.inRegion ops (i::rest)::k) cs s:=
 let ⟨U,Y,Z⟩:=Ko K
 AY U Y Z h O
theorem NY{f:FuncId}{fn:Func}{c:Code}{E:LH}{vs:Lv_}{B:Seg}{R:Value->LH->Seg->Prop}(O:P.funcs[f]? =some fn)(hb:fn.body=some c)(U:Nat.ble vs.length fn.ntmps=true)
  (h:∀(Q:Gs_) (K:Frame) (cs:Lf_) (H:LH),Ap E H [B]->(∀v E' S' B',Le E E'->S'.flatten=B'->R v E' B'->Ap E' H S'->J.ok Q (G (K.finish v) cs) (Aj E' H S'))->JL J Q (base f) fn.ntmps (Ga 0 vs) [] [.code c] (K::cs) (Aj E H [B])):AQ J f vs E B R:=
 AQ.enter O hb (Nat.le_of_ble_eq_true U) h
def OE(n:Nat)(L:Env)(ops:Ao_)(i:Nat):Option Env:=
 match Jq ops.toList i with
 | some ⟨d,op,ty,p,af,g⟩=>match AJ L ops ⟨d,op,ty,p,af,g⟩ with
  | some true=>match Bc n d with
   | true=>match Kx L op with
    | some v=>match d with
     | some d=>some ((d,v)::L)
     | none=>some L
    | none=>none
   | false=>none
  | some false=>match Bc n d with
   | true=>match d with
    | some d=>some ((d,undef)::L)
    | none=>some L
   | false=>none
  | none=>none
 | none=>none
def GQ(n:Nat)(L:Env)(ops:Ao_)(i:Nat):Option Oper:=
 match Jq ops.toList i with
 | some ⟨d,op,ty,p,af,g⟩=>match AJ L ops ⟨d,op,ty,p,af,g⟩ with
  | some true=>match Bc n d with
   | true=>some ⟨d,op,ty,p,af,g⟩
   | false=>none
  | _=>none
 | none=>none
theorem Pb{o:Oper}(h:GQ n L ops i=some o):ops[i]? =some o/\AJ L ops o=some true/\Bc n o.dst=true:=by
 unfold GQ at h;split at h
 ·rename_i K;rw [K8,Array.getElem?_toList] at K;split at h
  ·rename_i hw;split at h
   ·rename_i O;cases h;exact⟨K,hw,O⟩
   ·cases h
  ·cases h
 ·cases h
theorem Xm(h:OE n L ops i=some L'):∃o,ops[i]? =some o/\Bc n o.dst=true/\((∃v,AJ L ops o=some true/\Kx L o.op=some v/\L'=Au L o.dst v)∨(AJ L ops o=some false/\L'=Au L o.dst undef)):=by
 unfold OE at h;split at h
 ·rename_i d op ty p af g O;rw [K8,Array.getElem?_toList] at O;refine⟨_,O,?_⟩;split at h
  ·rename_i hw;split at h
   ·rename_i K;refine⟨K,.inl ?_⟩;split at h
    ·rename_i v U;refine⟨v,hw,U,?_⟩;cases d with
     | none=>cases h;rfl
     | some d=>cases h;rfl
    ·cases h
   ·cases h
  ·rename_i hw;split at h
   ·rename_i K;refine⟨K,.inr ⟨hw,?_⟩⟩;cases d with
    | none=>cases h;rfl
    | some d=>cases h;rfl
   ·cases h
  ·cases h
 ·cases h
variable {fuel:Nat}{listed:Array Bool}
theorem C8(i:Nat)(K:DU ops m=true)(O:s.q=false)(h:OE n L ops i=some L')
  (U:AL J Q b n ds ops k cs m D fuel (A4 listed i) L' s) (Y:Gf ops listed m i=true:=by decide+kernel):AL J Q b n ds ops k cs m D (fuel+1) listed L s:=by
 obtain⟨o,Z,ac,⟨v,hw,ag,rfl⟩ | ⟨hw,rfl⟩⟩:=Xm h
 ·exact JG.val i Z K Y O hw ac (λρ al s' _=>NH al ag) U
 ·exact cg i Z K Y O hw ac U
theorem AK(i:Nat)(K:DU ops m=true)(O:s.q=false)(U:GQ n L ops i=some ⟨d,op,ty,p,af,g⟩)
  (Y:∀ρ,EX L ρ->∀s':St,(∀x o,(Bm D s).E x=some o->s'.E x=some o)->Yl P ⟨d,op,ty,p,af,g⟩ ρ s' v)
  (Z:AL J Q b n ds ops k cs m D fuel (A4 listed i) (Au L d v) s) (ac:Gf ops listed m i=true:=by decide+kernel):AL J Q b n ds ops k cs m D (fuel+1) listed L s:=by
 obtain⟨ag,al,am⟩:=Pb U;exact JG.val i ag K ac O al am Y Z
end
abbrev Jn(E H E':LH)(S:List Seg)(K L:Env)(s:St)(R:Prop):Prop:=L=K/\s=Aj E' H S/\Le E E'/\Ap E' H S/\R
abbrev Jm(E H E':LH)(S:List Seg)(K L:Env)(s:St):Prop:=L=K/\s=Aj E' H S/\Le E E'/\Ap E' H S
def OA(L:Env):List ResultVar->Option (Lv_)
 | []=>some []
 | .tmp t::rs=>match look L t with
  | some v=>match OA L rs with
   | some vs=>some (v::vs)
   | none=>none
  | none=>none
 | _=>none
theorem SM{P:Program}{L:Env}{s:St}:∀{rs:List ResultVar} {vs:Lv_},OA L rs=some vs->RV P L s rs vs
 | [],vs,h=>by cases h;trivial
 | .tmp t::rs,vs,h=>by
  unfold OA at h
  split at h
  ·rename_i v K
   split at h
   ·rename_i ws hw;cases h;exact⟨K,SM hw⟩
   ·cases h
  ·cases h
 | .cell _ _::_,_,h=>by cases h
variable {ft:TypeId}
section
variable {i:Nat}
variable {x y:Operand}{e:TypeId}
theorem A2{c:Frame}{fn:Func}{vs:Lv_}(O:P.funcs[b.fn]? =some fn)(K:(b.kind== .normal&&b.roundOf.isNone)=true)(U:OA L fn.results.toList=some vs)(h:J.ok Q (G (c.finish (NC vs)) cs) s):JL J Q b n L [] (.code .ret::k) (c::cs) s:=by
 simp only [Bool.and_eq_true,beq_iff_eq,Option.isNone_iff_eq_none] at K;exact JL.ret K.1 K.2 (BB.list O V (SM U)) h
theorem BU{f:FuncId}{args:Array Operand}{ats:Array TypeId}{vs:Lv_}{R:Value->LH->Seg->Prop}
  (O:AQ J f vs E [] R) (U:Fl b n L ops i=some ⟨d,.call ⟨.value (.func f),args,ats⟩,ty,p,af,g⟩) (Y:evs L args.toList=some vs) (hb:Dy P f=true)
  (Z:Ap E H S) (ac:∀v E' seg',Le E E'->R v E' seg'->Ap E' H (S++ [seg'])->JL J Q b n (Au L d v) ds (.inRegion ops rest::k) cs (Aj E' H (S++ [seg']))):
  JL J Q b n L ds (.inRegion ops (i::rest)::k) cs (Aj E H S):=by
 obtain⟨ag,al,K⟩:=Ko U;refine JS.call O ag al ?_ hb Y Z ac;simp only [BK,Bool.and_eq_true] at K ⊢;exact⟨K.1,K.2.1⟩
theorem Cy{f:FuncId}{args:Array Operand}{ats:Array TypeId}{vs:Lv_}{v:Value}
  (O:AQ J f vs E [] (λw E' B'=>w=v/\B'= [])) (U:Fl b n L ops i=some ⟨d,.call ⟨.value (.func f),args,ats⟩,ty,p,af,g⟩) (Y:evs L args.toList=some vs) (hb:Dy P f=true)
  (K:Ap E H S) (Z:∀E',Le E E'->Ap E' H (S++ [[]])->JL J Q b n (Au L d v) ds (.inRegion ops rest::k) cs (Aj E' H (S++ [[]]))):
  JL J Q b n L ds (.inRegion ops (i::rest)::k) cs (Aj E H S):=BU O U Y hb K (by rintro _ E' _ hle ⟨rfl,rfl⟩ K;exact Z E' hle K)
theorem Cx{f:FuncId}{args:Array Operand}{ats:Array TypeId}{vs:Lv_}{seg:Seg}{R:Value->LH->Seg->Prop}(j:Nat)
  (O:AQ J f vs E seg R) (U:Fl b n L ops i=some ⟨d,.call ⟨.value (.func f),args,ats⟩,ty,p,af,g⟩) (Y:evs L args.toList=some vs) (hb:Dy P f=true)
  (Z:Ap E H S) (ac:S[j]? =some seg) (ag:∀v E' seg',Le E E'->R v E' seg'->Ap E' H (S.set j seg')->JL J Q b n (Au L d v) ds (.inRegion ops rest::k) cs (Aj E' H (S.set j seg'))):
  JL J Q b n L ds (.inRegion ops (i::rest)::k) cs (Aj E H S):=by
 obtain⟨al,am,K⟩:=Ko U;refine Sz j O al am ?_ hb Y Z ac ag;simp only [BK,Bool.and_eq_true] at K ⊢;exact⟨K.1,K.2.1⟩
def Mg(K:Array Field)(i:Nat):Option (Nat×TypeId):=match K[i]? with
 | some f=>some (f.offset,f.type)
 | none=>none
theorem Bx{r m m':Int}{u:TypeId}(h:Av (m+m')=some r)(K:Fl b n L ops i=some ⟨d,.binOp .add t x y u,ty,p,af,g⟩)(O:ev L x=some (iV m))(U:ev L y=some (iV m'))
  (Y:JL J Q b n (Au L d (iV r)) ds (.inRegion ops rest::k) cs s):JL J Q b n L ds (.inRegion ops (i::rest)::k) cs s:=Am K (λ_ q=>FC (q _ _ O) (q _ _ U) h) Y
theorem Cq{r m m':Int}{u:TypeId}(h:Av (m - m')=some r)(K:Fl b n L ops i=some ⟨d,.binOp .sub t x y u,ty,p,af,g⟩)(O:ev L x=some (iV m))(U:ev L y=some (iV m'))
  (Y:JL J Q b n (Au L d (iV r)) ds (.inRegion ops rest::k) cs s):JL J Q b n L ds (.inRegion ops (i::rest)::k) cs s:=Am K (λ_ q=>DL (q _ _ O) (q _ _ U) h) Y
theorem JL.ln{a:Option Addr}{e:TypeId}{l c:Nat}{ats:Array TypeId}(K:P.underlying t=some (.slice e))(O:Fl b n L ops i=some ⟨d,.call ⟨.builtin .len,#[x],ats⟩,ty,p,af,g⟩)(U:ats[0]? =some t)(Y:ev L x=some (.slice a l c))
  (Z:JL J Q b n (Au L d (.int .i64 l)) ds (.inRegion ops rest::k) cs s):JL J Q b n L ds (.inRegion ops (i::rest)::k) cs s:=Am O (λ_ q=>Yl.len U K (q _ _ Y)) Z
theorem JL.fd{bk o O off:Nat}{U:Array Field}{Y:Nat}(Z:P.underlying t=some (.struct U))(ac:Bj P ft=some (O+1))(ag:Fl b n L ops i=some ⟨d,.fieldAddr t x Y,ty,p,af,g⟩)(al:ev L x=some (.pointer (some ⟨bk,o,none⟩)))(K:Mg U Y=some (off,ft))
  (am:JL J Q b n (Au L d (.pointer (some ⟨bk,o+off,none⟩))) ds (.inRegion ops rest::k) cs s):
  JL J Q b n L ds (.inRegion ops (i::rest)::k) cs s:=by
 unfold Mg at K;split at K
 ·rename_i f ap;cases K;refine Am ag (λρ h=>Jk (a:=⟨bk,o,none⟩) O f.offset Z ac ap V V (h _ _ al)) ?_;rw [DO rfl];exact am
 ·cases K
theorem Di{bk o:Nat}{ws:Lv_}(j:Nat)(K:At E bk o ws)(O:Dj P t=some false)(U:Fl b n L ops i=some ⟨d,.load t x,ty,p,af,g⟩)(Y:ev L x=some (.pointer (some ⟨bk,o+j,none⟩)))(Z:ws[j]? =some v)
  (ac:JL J Q b n (Au L d v) ds (.inRegion ops rest::k) cs (Aj E H S)):
  JL J Q b n L ds (.inRegion ops (i::rest)::k) cs (Aj E H S):=
 Am U (λ_ h=>Yl.load O (h _ _ Y) (At.Lk K Z)) ac
theorem bL{bk off:Nat}{c:Av_}(j:Nat)(K:Ap E H S)(O:Bj P t=some v.cells.size)(U:Fl b n L ops i=some ⟨d,.store t x y,ty,p,af,g⟩)
  (Y:ev L x=some (.pointer (some ⟨bk,off,none⟩))) (Z:ev L y=some v) (ac:S[j]? =some [(bk,.cells c e (0,0))])
  (h:Ap E H (S.set j [(bk,.cells (A9 c off v.cells.toList) e (0,0))])->JL J Q b n (Au L d undef) ds (.inRegion ops rest::k) cs (Aj E H (S.set j [(bk,.cells (A9 c off v.cells.toList) e (0,0))])))
  (hle:off+v.cells.size<=c.size:=by exact Nat.le_of_ble_eq_true rfl) (ag:∀u∈v.cells.toList,De u=true:=by simp [Value.cells,De]):
  JL J Q b n L ds (.inRegion ops (i::rest)::k) cs (Aj E H S):=by
 obtain⟨al,am,ap⟩:=Ko U;exact JS.store j al am ap K Y Z O ag ac hle h
theorem B9{bk o:Nat}{ws:Lv_}(K:At E bk o ws)(O:Dj P t=some true)(U:Bj P t=some ws.length)(Y:Fl b n L ops i=some ⟨d,.load t x,ty,p,af,g⟩)(Z:ev L x=some (.pointer (some ⟨bk,o,none⟩)))
  (ac:JL J Q b n (Au L d (.agg ws.toArray)) ds (.inRegion ops rest::k) cs (Aj E H S)):
  JL J Q b n L ds (.inRegion ops (i::rest)::k) cs (Aj E H S):=
 Am Y (λ_ h=>Jd O U (h _ _ Z) (At.Qa K)) ac
variable {fuel:Nat}{listed:Array Bool}
theorem JG.fd{bk o O off:Nat}{U:Array Field}{Y:Nat}(i:Nat)(Z:DU ops m=true)(ac:P.underlying t=some (.struct U))(ag:Bj P ft=some (O+1))(al:s.q=false)(am:GQ n L ops i=some ⟨d,.fieldAddr t x Y,ty,p,af,g⟩)(ap:ev L x=some (.pointer (some ⟨bk,o,none⟩)))(K:Mg U Y=some (off,ft))
  (aq:AL J Q b n ds ops k cs m D fuel (A4 listed i) (Au L d (.pointer (some ⟨bk,o+off,none⟩))) s) (av:Gf ops listed m i=true:=by decide+kernel):AL J Q b n ds ops k cs m D (fuel+1) listed L s:=by
 unfold Mg at K;split at K
 ·rename_i f aw;cases K;refine AK i Z al am (λρ h _ _=>Jk (a:=⟨bk,o,none⟩) O f.offset ac ag aw V V (h _ _ ap)) ?_ av;rw [DO rfl];exact aq
 ·cases K
theorem Dz{bk o:Nat}{ws:Lv_}(i:Nat)(K:DU ops m=true)(j:Nat)(O:At (Bm D s).E bk o ws)(U:Dj P t=some false)(Y:s.q=false)(Z:GQ n L ops i=some ⟨d,.load t x,ty,p,af,g⟩)(ac:ev L x=some (.pointer (some ⟨bk,o+j,none⟩)))(ag:ws[j]? =some v)
  (al:AL J Q b n ds ops k cs m D fuel (A4 listed i) (Au L d v) s) (am:Gf ops listed m i=true:=by decide+kernel):AL J Q b n ds ops k cs m D (fuel+1) listed L s:=
 AK i K Y Z (λ_ h _ ap=>Yl.load U (h _ _ ac) (At.Qx O ap ag)) al am
theorem JN{bk o:Nat}{ws:Lv_}(i:Nat)(K:DU ops m=true)(O:At (Bm D s).E bk o ws)(U:Dj P t=some true)(Y:Bj P t=some ws.length)(Z:s.q=false)(ac:GQ n L ops i=some ⟨d,.load t x,ty,p,af,g⟩)(ag:ev L x=some (.pointer (some ⟨bk,o,none⟩)))
  (al:AL J Q b n ds ops k cs m D fuel (A4 listed i) (Au L d (.agg ws.toArray)) s) (am:Gf ops listed m i=true:=by decide+kernel):AL J Q b n ds ops k cs m D (fuel+1) listed L s:=
 AK i K Z ac (λ_ h _ ap=>Jd U Y (h _ _ ag) (At.ZY O ap)) al am
end
abbrev QQ:=Int×List Int×Nat
abbrev AE:=List (Int×Int)
abbrev CW:=List Int×Int×Nat
abbrev Aq:=Option Addr
abbrev Dl:Rp (Int×Int):=rP rI rI
theorem ip{α:Type}{p:Prop} [Decidable p] {A B:Option α}{r:α}(h:(if p then A else B)=some r)(c:p):A=some r:=by rwa [if_pos c] at h
theorem im{α:Type}{p:Prop} [Decidable p] {A B:Option α}{r:α}(h:(if p then A else B)=some r)(c:¬p):B=some r:=by rwa [if_neg c] at h
theorem ib{α:Type}{c:Bool}{A B:Option α}{r:α}(h:(if c=true then A else B)=some r)(K:c=false):B=some r:=by subst K;simpa using h
def QG(n:Nat)(ops:Ao_):List Nat->Nat->Env->Option (Nat×Env)
 | [],f,L=>some (f,L)
 | i::l,f+1,L=>match OE n L ops i with
  | some L'=>QG n ops l f L'
  | none=>none
 | _::_,0,_=>none
def QA(ops:Ao_)(m:Nat):Array Bool->List Nat->Bool
 | _,[]=>true
 | listed,i::l=>Gf ops listed m i&&QA ops m (A4 listed i) l
def UB:Array Bool->List Nat->Array Bool
 | listed,[]=>listed
 | listed,i::l=>UB (A4 listed i) l
theorem Ba{P:Program}{J:Judge P}{Q:Gs_}{b:Frame}{n:Nat}{ds:Ld_}{k:Li_}{cs:Lf_}{s:St}{ops:Ao_}{m:Nat}{D:Nat->Bool}{L':Env}{U:Nat}(Y:DU ops m=true)(Z:s.q=false):
  ∀(l:List Nat) {fuel:Nat} {listed:Array Bool} {L:Env},QG n ops l fuel L=some (U,L')->AL J Q b n ds ops k cs m D U (UB listed l) L' s->(K:QA ops m listed l=true:=by decide+kernel)->AL J Q b n ds ops k cs m D fuel listed L s
 | [],fuel,listed,L,h,O,_=>by cases h;exact O
 | i::l,fuel,listed,L,h,O,K=>by
  cases fuel with
  | zero=>cases h
  | succ fuel=>
   unfold QA at K;rw [Bool.and_eq_true] at K;unfold QG at h;split at h
   ·rename_i ac e;exact C8 i Y Z e (Ba Y Z l h O K.2) K.1
   ·cases h
theorem zg{P:Program}{J:Judge P}{Q:Gs_}{b:Frame}{n:Nat}{L L':Env}{ds:Ld_}{k k':Li_}{cs:Lf_}{s:St}(m:Nat)(h:N1 b n m k L=some (k',L'))(K:JL J Q b n L' ds k' cs s):JL J Q b n L ds k cs s:=JL.go m h K
abbrev C:=@zg
abbrev bX(r:Nat)(c:Av_)(t:TypeId):Seg:= [(r,.cells c t (0,0))]
variable {α:Type}{A B:Option α}{r:α}
section
theorem A0{c:Operand}{x y:Code}{p:Prop} [Decidable p] (K:(if p then A else B)=some r)(O:p->A=some r->JL J Q b n L ds (.code x::k) cs s)(U:¬p->B=some r->JL J Q b n L ds (.code y::k) cs s)
  (Y:ev L c=some (.bool (decide p)):=by exact rfl):JL J Q b n L ds (.code (.cond c x y)::k) cs s:=FU Y (λh=>O h (ip K h)) λh=>U h (im K h)
theorem CF{c:Operand}{x y:Code}{t:Bool}(K:(if t=true then A else B)=some r)(O:t=true->A=some r->JL J Q b n L ds (.code x::k) cs s)(U:t=false->B=some r->JL J Q b n L ds (.code y::k) cs s)
  (Y:ev L c=some (.bool t):=by exact rfl):JL J Q b n L ds (.code (.cond c x y)::k) cs s:=Pv Y (λh=>O h (ip K h)) λh=>U h (ib K h)
theorem GN{q:Prop} [Decidable q] (i:Nat)(K:(if q then A else B)=some r)(O:q->A=some r->JL J Q b n (Au L (some i) (.bool true)) ds k cs s)(U:¬q->B=some r->JL J Q b n (Au L (some i) (.bool false)) ds k cs s)
  (Y:look L i=some (.bool (decide q)):=by exact rfl):JL J Q b n L ds k cs s:=LV Y (λh=>O h (ip K h)) λh=>U h (im K h)
theorem DD{t:Bool}(i:Nat)(K:(if t=true then A else B)=some r)(O:t=true->A=some r->JL J Q b n (Au L (some i) (.bool true)) ds k cs s)(U:t=false->B=some r->JL J Q b n (Au L (some i) (.bool false)) ds k cs s)
  (Y:look L i=some (.bool t):=by exact rfl):JL J Q b n L ds k cs s:=Km Y (λh=>O h (ip K h)) λh=>U h (ib K h)
theorem C4{K O:Type}{c:Code}{body:K->Option (Br K O)}{f:Nat}{U:K}{a:O}(Z:iter body f U=some a)(I:Env->St->K->Prop)(ac:I L' s U)
  (round:∀L s x,I L s x->(∀Y,body x=some (.done Y)->Y=a)->(∃st,body x=some st)->(∀L' s' x',I L' s' x'->body x=some (.more x')->JL J Q b n L' ds (.inLoop c::k) cs s')->JL J Q b n L ds (.code c:: .inLoop c::k) cs s)
  (ag:Ih L L'=Il L':=by exact rfl):JL J Q b n L ds (.code (.loop c)::k) cs s:=Eu L' ag (R8 Z I ac round)
variable {fuel:Nat}{listed:Array Bool}
def Og(ops:Ao_):Array Bool->List Nat->Bool
 | _,[]=>true
 | l,i::t=>Region.ready .any ops l== [i]&&Og ops (A4 l i) t
theorem Tg:∀{t:List Nat} {l:Array Bool},Og ops l t=true->∀u,Region.linearise.go .any ops t.length u l []=t
 | [],_,_,_=>rfl
 | i::t,l,h,u=>by
  unfold Og at h
  rw [Bool.and_eq_true,beq_iff_eq] at h
  exact aW h.1 (Tg h.2) u
theorem Dd(t:List Nat)(O:JL J Q b n L ds (.inRegion ops t::k) cs s)(K:(Qn m listed&&Og ops listed t&&(fuel+1==t.length))=true:=by decide+kernel):AL J Q b n ds ops k cs m D (fuel+1) listed L s:=by
 rw [Bool.and_eq_true,Bool.and_eq_true,beq_iff_eq] at K;exact AL.leaf K.1.1 (by rw [K.2];exact Tg K.1.2) O
theorem EV(m:Nat){id:Nat}(h:DU ops m=true->AL J Q b n ds ops k cs m CV ops.size (Array.replicate ops.size false) L (Aj E H S))(hm:P.follows .mixedOrders=true:=by exact rfl)(K:(b.kind != .early)=true:=by exact rfl)(O:DU ops m=true:=by decide+kernel):
  JL J Q b n L ds (.code (.region id ops true)::k) cs (Aj E H S):=XB m hm K O h
theorem Fu(m:Nat)(bks:List Nat){id:Nat}(K:HK S bks)(O:Ap E H S)(h:DU ops m=true->AL J Q b n ds ops k cs m (AG bks) ops.size (Array.replicate ops.size false) L (Aj E H S))(hm:P.follows .mixedOrders=true:=by exact rfl)(U:(b.kind != .early)=true:=by exact rfl)(Y:DU ops m=true:=by decide+kernel):
  JL J Q b n L ds (.code (.region id ops true)::k) cs (Aj E H S):=XZ m bks K O hm U Y h
theorem FG{α:Type}{pp:Rp α}{a:Option Addr}{c:Nat}{xs:List α}{xv:α}{K:Int}{d:Option Tmp}{x y:Operand}{t ty e:TypeId}{p:String}{af:Ae_}{g:On_}{kd:IntKind}(i:Nat)(O:Al pp E a c xs)(U:ix xs K=some xv)(Y:DU ops m=true)(Z:P.underlying t=some (.slice e))(ac:Bj P e=some pp.n)
  (h:∀bk o ws,pp.r E ws xv->At E bk o ws->AL J Q b n ds ops k cs m D fuel (A4 listed i) (Au L d (.pointer (some ⟨bk,o,none⟩))) s)
  (ag:ops[i]? =some ⟨d,.indexAddr t x y,ty,p,af,g⟩:=by exact rfl) (al:Gf ops listed m i=true:=by decide+kernel) (am:s.q=false:=by exact rfl)
  (hw:AJ L ops ⟨d,.indexAddr t x y,ty,p,af,g⟩=some true:=by exact rfl) (ap:Bc n d=true:=by exact rfl)
  (aq:ev L x=some (.slice a xs.length c):=by exact rfl) (av:ev L y=some (.int kd K):=by exact rfl):
  AL J Q b n ds ops k cs m D (fuel+1) listed L s:=aS i O U ag Y al am hw ap aq av Z ac h
end
theorem EA{P:Program}{J:Judge P}{Q:Gs_}{b:Frame}{n:Nat}{ds:Ld_}{ops:Ao_}{k:Li_}{cs:Lf_}{m fuel:Nat}{D:Nat->Bool}{listed:Array Bool}{L L':Env}{s:St}(k':AL J Q b n ds ops k cs m D fuel listed L' s)(h:Ih L L'=Il L'):AL J Q b n ds ops k cs m D fuel listed L s:=Ep (Ob h) k'
instance {α:Type} [DecidableEq α] (xs:List α):Decidable (xs= []):=inferInstance
variable {w:Value}
section
variable {i:Nat}
variable {x y:Operand}{e:TypeId}
end
section
variable {fuel:Nat}{listed:Array Bool}
variable {x y:Operand}{e:TypeId}{i:Nat}
theorem Nk{s:St}{D:Nat->Bool}{i j l:Nat}(K:s.q=false)(O:Region.ready .any ops listed= [i,j,l])(hi:Take J Q b n ds ops k cs m D fuel listed L s i)(U:Take J Q b n ds ops k cs m D fuel listed L s j)(Y:Take J Q b n ds ops k cs m D fuel listed L s l):AL J Q b n ds ops k cs m D (fuel+1) listed L s:=
 O5 K O (by simp) (by intro q K;simp at K;rcases K with rfl | rfl | rfl <;> assumption)
end
theorem Al.cut{α:Type}{pp:Rp α}{E:LH}{a:Option Addr}{c:Nat}{xs ys:List α}{lo hi:Int}(Y:Al pp E a c xs)(hC:GR xs lo hi=some ys):
  ∃Z ac,Al pp E Z ac ys/\∀{P:Program} {ρ:Operand->Value} {s:St} {d:Option Tmp} {x:Operand} {t ty e:TypeId} {p:String} {af:Ae_} {g:On_} {olo ohi:Option Operand},P.underlying t=some (.slice e)->Bj P e=some pp.n->ρ x= .slice a xs.length c->
   (match ohi with | some w=>ρ w=iV hi | none=>hi=xs.length)->(match olo with | some w=>ρ w=iV lo | none=>lo=0)->Yl P ⟨d,.slice t x olo ohi none,ty,p,af,g⟩ ρ s (.slice Z ys.length ac):=by
 unfold GR at hC;split at hC
 rotate_left
 ·cases hC
 rename_i hb;obtain⟨a1,a2,ap⟩:=hb;cases hC;obtain⟨lo,rfl⟩:∃l:Nat,lo=l:=⟨lo.toNat,by omega⟩;obtain⟨hi,rfl⟩:∃l:Nat,hi=l:=⟨hi.toNat,by omega⟩;simp only [Int.toNat_natCast] at*;have a3:=Y.1;have hlen:((xs.take hi).drop lo).length=hi - lo:=by simp;omega
 have ag:∀ad:Addr,a=some ad->ad.spot=none∨c=0:=λad K=>by
  rcases Y.2 with⟨_,h⟩ | ⟨bk,off,h,_⟩
  ·exact h ad K
  ·rw [h] at K;cases K;exact .inl V
 refine⟨if c=lo then a else a.map (·.add (lo*pp.n)),c - lo,⟨by rw [hlen];omega,?_⟩,?_⟩
 ·by_cases aq:hi - lo=0
  ·left;refine⟨List.eq_nil_of_length_eq_zero (by rw [hlen];exact aq),λad K=>?_⟩;split at K
   ·exact(ag ad K).imp id λh=>by omega
   ·cases a with
    | none=>cases K
    | some av=>
     simp only [Option.map_some,Option.some.injEq] at K;subst K;exact .inl (by rw [DO ((ag av rfl).resolve_right (by omega))])
  ·right;rcases Y.2 with⟨h,_⟩ | ⟨bk,off,rfl,O⟩
   ·subst h;simp at ap;omega
   ·refine⟨bk,off+lo*pp.n,?_,λq z U=>?_⟩
    ·rw [if_neg (by omega),Option.map_some,DO rfl]
    ·rw [List.getElem?_drop,List.getElem?_take] at U;split at U
     ·obtain⟨ws,aw,al⟩:=O _ z U;refine⟨ws,aw,?_⟩;rw [Nat.add_mul] at al;rw [Nat.add_assoc];exact al
     ·cases U
 ·intro P ρ s d x t ty e p af g olo ohi ay az a0 O am;rw [hlen];refine Yl.slice (mx:=c) (hi:=hi) (lo:=lo) ay az a0 V ?_ ?_ (Nat.le_refl _) (by omega) (by omega)
  ·cases ohi with
   | none=>exact⟨by simp only at O;omega,rfl⟩
   | some w=>exact O
  ·cases olo with
   | none=>simp only at am;show lo=0;omega
   | some w=>exact am
section
variable {fuel:Nat}{listed:Array Bool}
theorem Hz{S1 S':List Seg}(K:S=S1)(O:S1.Perm S')(U:Ap E H S)(h:Ap E H S'->AL J Q b n ds ops k cs m D fuel listed L (Aj E H S')):AL J Q b n ds ops k cs m D fuel listed L (Aj E H S):=by
 subst K;exact AL.perm O.flatten U h
end
variable {e2:TypeId}
section
variable {i:Nat}
variable {x y:Operand}{e:TypeId}
def J2(E:LH):Nat->Bool:=λx=>(E x).isNone
theorem aa(x:Nat):(Bm (J2 E) (Aj E H S)).E x=(Aj E H S).get x:=by
 show(if J2 E x then(Aj E H S).get x else E x)=_
 unfold J2;cases h:E x with
 | none=>simp
 | some o=>
  rw [if_neg (by simp)];unfold St.get;rw [show(Aj E H S).E x=some o from h]
theorem QJ{s':St}(K:∀x o,(Bm (J2 E) (Aj E H S)).E x=some o->s'.E x=some o){x:Nat}{o:Obj}(h:(Aj E H S).get x=some o):s'.get x=some o:=by
 have:=K x o (by rw [aa];exact h);unfold St.get;rw [this]
theorem Mw{s':St}(K:∀x o,(Bm (J2 E) (Aj E H S)).E x=some o->s'.E x=some o){a:Addr}{v:Value}(h:(Aj E H S).cell? a=some v):s'.cell? a=some v:=by
 obtain⟨o,O,U⟩:=Option.bind_eq_some_iff.1 h;unfold St.cell?;rw [QJ K O];exact U
theorem TP{s':St}(K:∀x o,(Bm (J2 E) (Aj E H S)).E x=some o->s'.E x=some o){a:Addr}{vs:Lv_}(h:∀(i:Nat) v,vs[i]? =some v->(Aj E H S).cell? (Addr.add a i)=some v):∀(i:Nat) v,vs[i]? =some v->s'.cell? (Addr.add a i)=some v:=λi v O=>Mw K (h i v O)
theorem Qu(m:Nat){id:Nat}(h:DU ops m=true->AL J Q b n ds ops k cs m (J2 E) ops.size (Array.replicate ops.size false) L (Aj E H S))(hm:P.follows .mixedOrders=true:=by exact rfl)(K:(b.kind != .early)=true:=by exact rfl)(O:DU ops m=true:=by decide+kernel):
  JL J Q b n L ds (.code (.region id ops true)::k) cs (Aj E H S):=Px m (J2 E) V hm K (h O)
abbrev rs(q:Nat×Obj)(K:Seg)(p:Nat×Obj)(g2:Seg):Seg:=q::(K++ [p]++g2)
end
variable {bk:Nat}{o:Obj}{xs:List (κ×ν)}{v0:ν}
variable {kk:Li_}
variable {z:Operand}{x0:κ}
section
variable [DecidableEq κ]
def KN(xs:List (κ×ν)):Prop:=(xs.map (·.1)).Nodup
theorem KN.perm{xs ys:List (κ×ν)}(h:KN xs)(p:ys.Perm xs):KN ys:=((p.map (λq:κ×ν=>q.1)).nodup_iff).2 h
theorem Pq{xs:List (κ×ν)}(h:KN xs){x:κ}{v:ν}:AZ xs x=some v↔(x,v)∈xs:=by
 induction xs with
 | nil=>simp [AZ]
 | cons y ys U=>
  have O:y.1 ∉ ys.map (·.1)/\KN ys:=by simpa [KN] using h
  by_cases e:x=y.1
  ·subst e;have K:AZ (y::ys) y.1=some y.2:=by simp [AZ]
   rw [K];constructor
   ·intro q;cases q;simp
   ·intro q;rcases List.mem_cons.1 q with q | q
    ·rw [← q]
    ·exact absurd (List.mem_map.2 ⟨_,q,V⟩) O.1
  ·have K:AZ (y::ys) x=AZ ys x:=by simp [AZ,e]
   rw [K,U O.2];constructor
   ·intro q;exact List.mem_cons_of_mem _ q
   ·intro q;rcases List.mem_cons.1 q with q | q
    ·exact absurd (by rw [← q]) e
    ·exact q
theorem Pa{xs ys:List (κ×ν)}(h:KN xs)(p:ys.Perm xs)(x:κ):AZ ys x=AZ xs x:=by
 apply Option.ext;intro v;rw [Pq h,Pq (h.perm p),p.mem_iff]
def Ei(xs:List (κ×ν))(x:κ):List (κ×ν):=xs.filter λy=>decide (x≠y.1)
theorem RE{xs:List (κ×ν)}{x:κ}(h:∀y∈xs,x≠y.1):Ei xs x=xs:=List.filter_eq_self.2 λy K=>by simpa using h y K
theorem Na{x:κ}{v:ν}:∀{xs:List (κ×ν)},KN xs->(Be xs x v).Perm ((x,v)::Ei xs x)
 | [],_=> .refl _
 | y::ys,h=>by
  have K:y.1 ∉ ys.map (·.1)/\KN ys:=by simpa [KN] using h
  unfold Be;by_cases e:x=y.1
  ·rw [if_pos e];have e2:Ei (y::ys) x=ys:=by
    have:Ei (y::ys) x=Ei ys x:=by simp [Ei,e]
    rw [this];exact RE λz O q=>K.1 (List.mem_map.2 ⟨z,O,by rw [← q,e]⟩)
   rw [e2]
  ·rw [if_neg e];have e2:Ei (y::ys) x=y::Ei ys x:=by simp [Ei,e]
   rw [e2];exact((Na K.2).cons y).trans (List.Perm.swap _ _ _)
theorem Pf{xs ys:List (κ×ν)}(p:ys.Perm xs)(x:κ):(Ei ys x).Perm (Ei xs x):=p.filter _
theorem M6{xs ys:List (κ×ν)}(h:KN xs)(p:ys.Perm xs)(x:κ)(v:ν):(Be ys x v).Perm (Be xs x v):=
 (Na (h.perm p)).trans (((Pf p x).cons _).trans (Na h).symm)
theorem KN.del{xs:List (κ×ν)}(h:KN xs)(x:κ):KN (Ei xs x):=by
 unfold KN Ei;exact List.Nodup.sublist (List.Sublist.map _ List.filter_sublist) h
theorem KN.put{xs:List (κ×ν)}(h:KN xs)(x:κ)(v:ν):KN (Be xs x v):=by
 refine KN.perm ?_ (Na h);unfold KN;simp only [List.map_cons,List.nodup_cons];refine⟨λq=>?_,h.del x⟩;obtain⟨z,K,e⟩:=List.mem_map.1 q;have:=(List.mem_filter.1 K).2;simp at this;exact this e.symm
def Bt(pk:Rp κ)(ka:Bool)(pv:Rp ν)(va:Bool)(E:LH)(o:Obj)(xs:List (κ×ν)):Prop:=KN xs/\∃ys,ys.Perm xs/\KD pk ka pv va E o ys
theorem Bt.Ah{o:Obj}{xs:List (κ×ν)}(h:Bt pk ka pv va E o xs)(hle:Le E E'):Bt pk ka pv va E' o xs:=
 let ⟨K,ys,O,U⟩:=h;⟨K,ys,O,U.Ah hle⟩
theorem Bt.perm{o:Obj}{xs ys:List (κ×ν)}(h:Bt pk ka pv va E o xs)(p:ys.Perm xs):Bt pk ka pv va E o ys:=
 let ⟨K,O,U,Y⟩:=h;⟨K.perm p,O,U.trans p.symm,Y⟩
theorem Bt.nil:Bt pk ka pv va E (.map #[] 0) []:=⟨List.nodup_nil,[],.refl _,⟨#[],0,V,trivial,.nil,by simp⟩⟩
def rM(pk:Rp κ)(ka:Bool)(pv:Rp ν)(va:Bool):Rp (List (κ×ν)):=⟨1,λE ws xs=>∃bk o,ws= [.map (some bk)]/\E bk=some o/\Bt pk ka pv va E o xs,
 λhle ⟨bk,o,h,K,O⟩=>⟨bk,o,h,hle _ _ K,O.Ah hle⟩,λ⟨bk,o,h,_,_⟩=>by subst h;rfl,λ⟨bk,o,h,_,_⟩ w hw=>by subst h;simp at hw;subst hw;rfl⟩
section
variable {k:Value}{x:κ}
theorem Rv(K:FJ P t pk ka)(hm:P.underlying tm=some (.map t te)){z:Value}{z0:ν}(O:zeroOf P te=some z)(U:Vr pv va E z z0)(Y:s.get bk=some o)(Z:Bt pk ka pv va E o xs)(ac:Vr pk ka E k x)(ok:Bool){Q:Value->St->Prop}
  (h:∀w,Vr pv va E w ((AZ xs x).getD z0)->Q (if ok then .tuple #[w,.bool (AZ xs x).isSome] else w) s):lp P (Instr.lookup tm (.map (some bk)) k ok) s Q X:=by
 obtain⟨ag,ys,al,am⟩:=Z;refine Wi K hm O U Y am ac ok ?_;rw [Pa ag al];exact h
theorem U5(O:FJ P t pk ka)(hm:P.underlying tm=some (.map t te))(U:s.get bk=some o)(Y:s.H bk=some o)(Z:Bt pk ka pv va E o xs)(ac:Vr pk ka E k x)(hw:Vr pv va E w v0){Q:Unit->St->Prop}
  (h:∀o',Bt pk ka pv va E o' (Be xs x v0)->Q () (s.upd bk o')):lp P (Instr.mapUpdate tm (.map (some bk)) k w) s Q X:=by
 obtain⟨K,ys,ag,al⟩:=Z;exact Vh O hm U Y al ac hw λo' am=>h o' ⟨K.put _ _,_,M6 K ag _ _,am⟩
theorem C5.erase(Y:Vr pk ka E k x):∀{es:List MapEntry} {ys:List (κ×ν)} {i:Nat},C5 pk ka pv va E es ys->KN ys->
  (DX x es ys i=none/\Ei ys x=ys)∨∃j u,DX x es ys i=some (i+j,u)/\C5 pk ka pv va E (es.eraseIdx j) (Ei ys x)
 | [],[],i,_,_=> .inl ⟨rfl,rfl⟩
 | e::es,y::ys,i,h,Z=>by
  have U:y.1 ∉ ys.map (·.1)/\KN ys:=by simpa [KN] using Z
  unfold DX;by_cases K:x=y.1
  ·refine .inr ⟨0,e.val,by rw [if_pos K];rfl,?_⟩;have e2:Ei (y::ys) x=ys:=by
    have:Ei (y::ys) x=Ei ys x:=by simp [Ei,K]
    rw [this];exact RE λz ac q=>U.1 (List.mem_map.2 ⟨z,ac,by rw [← q,K]⟩)
   rw [e2];exact h.2.2
  ·have e2:Ei (y::ys) x=y::Ei ys x:=by simp [Ei,K]
   rcases C5.erase Y (i:=i+1) h.2.2 U.2 with⟨a1,O⟩ | ⟨j,u,a1,O⟩
   ·exact .inl ⟨by rw [if_neg K];exact a1,by rw [e2,O]⟩
   ·refine .inr ⟨j+1,u,by rw [if_neg K,a1];congr 2;omega,?_⟩;rw [e2];exact⟨h.1,h.2.1,O⟩
 | [],_::_,_,h,_=>h.elim
 | _::_,[],_,h,_=>h.elim
theorem VZ(ag:FJ P t pk ka)(hm:P.underlying tm=some (.map t te))(av:s.get bk=some o)(al:s.H bk=some o)(aw:Bt pk ka pv va E o xs)(K:Vr pk ka E k x){u:TypeId}{Q:Value->St->Prop}
  (h:∀o',Bt pk ka pv va E o' (Ei xs x)->Q (.tuple #[]) (s.upd bk o')):lp P (Builtin.delete_ #[tm,t] u #[.map (some bk),k]) s Q X:=by
 obtain⟨O,ys,U,es,c,rfl,Y,am,ap⟩:=aw;unfold Builtin.delete_;simp only [List.getElem?_toArray,List.getElem?_cons_zero,List.getElem?_cons_succ];refine As _ _ (Cl hm ?_)
 dsimp only;refine As _ _ ?_;unfold getObj;simp only [bind,Sem.bind,lp];refine⟨_,av,V,?_⟩;refine As (x:=Instr.checkKey _ 10000 t k) _ (ag.BK K ?_);refine As (x:=Instr.findKey t k es.toList) _ (M9 ag K Y ?_);rcases C5.erase K (i:=0) Y (O.perm U) with⟨Z,e2⟩ | ⟨j,u,Z,e2⟩
 ·rw [Z];simp only [setObj,lp,pure];refine⟨⟨_,al,V⟩,V,h _ ⟨O.del _,_,Pf U x,es,c,V,by rw [e2];exact Y,am,ap⟩⟩
 ·rw [Z];simp only [setObj,lp,pure];have aq:(es.toList.eraseIdx j).Sublist es.toList:=List.eraseIdx_sublist _ _;have ac:(es.eraseIdxIfInBounds (0+j)).toList=es.toList.eraseIdx j:=by rw [Nat.zero_add];simp
  refine⟨⟨_,al,V⟩,V,h _ ⟨O.del _,_,Pf U x,_,c,V,by rw [ac];exact e2,?_,?_⟩⟩
  ·rw [ac];exact am.sublist (aq.map _)
  ·rw [ac];exact λe he=>ap e (aq.subset he)
end
section
variable {x y:Operand}{e:TypeId}{i:Nat}{k:Value}
theorem Yl.lookup{zv v:Value}{z0:ν}{ok:Bool}(K:FJ P t pk ka)(hm:P.underlying tm=some (.map t te))(O:zeroOf P te=some zv)(U:Vr pv va E zv z0)(Y:Bt pk ka pv va E o xs)(Z:Vr pk ka E k x0)
  (ac:∀w,Vr pv va E w ((AZ xs x0).getD z0)->(if ok then .tuple #[w,.bool (AZ xs x0).isSome] else w)=v) (ag:ρ x= .map (some bk)) (al:ρ y=k) (am:s.get bk=some o):Yl P ⟨d,.lookup tm x y ok,ty,p,af,g⟩ ρ s v:=by
 refine FR (sm:=Instr.lookup tm (ρ x) (ρ y) ok) V ?_;rw [ag,al];exact Rv K hm O U am Y Z ok λw hw=>⟨ac w hw,V⟩
theorem JS.makeMap(K:ops[i]? =some ⟨d,.makeMap t none,ty,p,af,g⟩)(hw:AJ L ops ⟨d,.makeMap t none,ty,p,af,g⟩=some true)(O:BK b n ⟨d,.makeMap t none,ty,p,af,g⟩=true)(U:Ap E H S)
  (h:∀r,Ap E H (S++ [[(r,.map #[] 0)]])->JL J Q b n (Au L d (.map (some r))) ds (.inRegion ops rest::kk) cs (Aj E H (S++ [[(r,.map #[] 0)]]))):
  JL J Q b n L ds (.inRegion ops (i::rest)::kk) cs (Aj E H S):=
 JL.op K hw O λρ am=>by
  show lp P (do pure (Next.value (← Instr.makeMap t none))) _ _ _
  refine As _ _ ?_
  unfold Instr.makeMap
  simp only [newObj,bind,Sem.bind,pure,lp]
  refine⟨rfl,λr Y Z=>?_⟩
  obtain⟨ac,ag⟩:=Kp Y Z (.map #[] 0) U
  obtain⟨p1,p2⟩:=FB ac
  have al:(Aj E H S).upd r (.map #[] 0)=Aj E H (S++ [[(r,.map #[] 0)]]):=by rw [← p1,← ag];rfl
  show JL J Q b n (Au L d (.map (some r))) ds (.inRegion ops rest::kk) cs ((Aj E H S).upd r (.map #[] 0));rw [al];exact h r p2
theorem JS.mapUpdate(j:Nat)(Y:FJ P t pk ka)(hm:P.underlying tm=some (.map t te))(Z:Bt pk ka pv va E o xs)(ac:Vr pk ka E k x0)(ag:Vr pv va E w v0)(K:Ap E H S)(O:S[j]? =some [(bk,o)])
  (al:ops[i]? =some ⟨d,.mapUpdate tm x y z,ty,p,af,g⟩) (hw:AJ L ops ⟨d,.mapUpdate tm x y z,ty,p,af,g⟩=some true) (am:BK b n ⟨d,.mapUpdate tm x y z,ty,p,af,g⟩=true) (ap:ev L x=some (.map (some bk))) (aq:ev L y=some k) (av:ev L z=some w)
  (h:∀o',Bt pk ka pv va E o' (Be xs x0 v0)->Ap E H (S.set j [(bk,o')])->JL J Q b n (Au L d undef) ds (.inRegion ops rest::kk) cs (Aj E H (S.set j [(bk,o')]))):
  JL J Q b n L ds (.inRegion ops (i::rest)::kk) cs (Aj E H S):=
 JL.op al hw am λρ U=>by
  show lp P (do Instr.mapUpdate tm (ρ x) (ρ y) (ρ z);pure Next.skip) _ _ _
  rw [U _ _ ap,U _ _ aq,U _ _ av]
  refine As _ _ (U5 Y hm (Dg (i:=0) K O rfl) (IY K O) Z ac ag λo' aw=>?_)
  obtain⟨ay,az⟩:=Jg K O o'
  rw [ay]
  exact h o' aw az
theorem Vf{at1:TypeId}(j:Nat)(Y:FJ P t pk ka)(hm:P.underlying tm=some (.map t te))(Z:Bt pk ka pv va E o xs)(ac:Vr pk ka E k x0)(K:Ap E H S)(O:S[j]? =some [(bk,o)])
  (ag:ops[i]? =some ⟨d,.call ⟨.builtin .delete,#[x,y],#[tm,t]⟩,ty,p,af,g⟩) (hw:AJ L ops ⟨d,.call ⟨.builtin .delete,#[x,y],#[tm,t]⟩,ty,p,af,g⟩=some true) (al:BK b n ⟨d,.call ⟨.builtin .delete,#[x,y],#[tm,t]⟩,ty,p,af,g⟩=true) (am:ev L x=some (.map (some bk))) (ap:ev L y=some k)
  (h:∀o',Bt pk ka pv va E o' (Ei xs x0)->Ap E H (S.set j [(bk,o')])->JL J Q b n (Au L d (.tuple #[])) ds (.inRegion ops rest::kk) cs (Aj E H (S.set j [(bk,o')]))):
  JL J Q b n L ds (.inRegion ops (i::rest)::kk) cs (Aj E H S):=
 JL.op ag hw al λρ U=>by
  have aq:execOp ρ ⟨d,.call ⟨.builtin .delete,#[x,y],#[tm,t]⟩,ty,p,af,g⟩=(do pure (Next.value (← Builtin.delete_ #[tm,t] ty #[ρ x,ρ y]))):=by
   simp [execOp,resolve,Deferred.ofValue,invoke,bind,Sem.bind,pure,Go.builtin]
  rw [aq,U _ _ am,U _ _ ap];refine As _ _ (VZ Y hm (Dg (i:=0) K O rfl) (IY K O) Z ac λo' av=>?_);obtain⟨aw,ay⟩:=Jg K O o';rw [aw];exact h o' av ay
theorem M1{todo:Li_}(j:Nat)(O:Ap E H S)(U:S[j]? =some [(bk,o)])
  (h:∀E',Le E E'->E' bk=some o->Ap E' H (S.set j [])->JL J Q b n L ds todo cs (Aj E' H (S.set j []))):JL J Q b n L ds todo cs (Aj E H S):=by
 obtain⟨Y,Z⟩:=Hb O U;rw [Y];have ac:((S.set j []).flatten++ [(bk,o)])[(S.set j []).flatten.length]? =some (bk,o):=by simp
 refine JL.freeze (S.set j []).flatten.length Z ac λE' hle ag K=>?_;have al:((S.set j []).flatten++ [(bk,o)]).eraseIdx (S.set j []).flatten.length=(S.set j []).flatten:=by rw [List.eraseIdx_append_of_length_le (Nat.le_refl _)];simp
 rw [al] at K ⊢;exact h E' hle ag K
theorem RZ{α:Type}{m:Nat}{f:Nat->Sem α}{s:St}{Q:α->St->Prop}{X:Halt->St->Prop}(hm:0<m)(K:s.q=false)(h:∀i,i<m->lp P (f i) s Q X):lp P ((choose (.mapNext m)).bind f) s Q X:=by
 simp only [choose,Sem.bind,lp];split
 ·exact h 0 hm
 ·exact⟨K,λt=>h _ (Nat.mod_lt _ hm)⟩
theorem JS.range{es:Array MapEntry}{c:Nat}(hm:P.underlying tm=some (.map t te))(K:(Aj E H S).get bk=some (.map es c))(O:ops[i]? =some ⟨d,.range tm x,ty,p,af,g⟩)(hw:AJ L ops ⟨d,.range tm x,ty,p,af,g⟩=some true)(U:BK b n ⟨d,.range tm x,ty,p,af,g⟩=true)(Y:Ap E H S)
  (Z:ev L x=some (.map (some bk)))
  (h:∀r,Ap E H (S++ [[(r,.mapIter (some bk) c #[] c)]])->JL J Q b n (Au L d (.pointer (some ⟨r,0,none⟩))) ds (.inRegion ops rest::kk) cs (Aj E H (S++ [[(r,.mapIter (some bk) c #[] c)]]))):
  JL J Q b n L ds (.inRegion ops (i::rest)::kk) cs (Aj E H S):=
 JL.op O hw U λρ ac=>by
  show lp P (do pure (Next.value (← Instr.range tm (ρ x)))) _ _ _
  rw [ac _ _ Z]
  refine As _ _ ?_
  unfold Instr.range
  refine As _ _ (Cl hm ?_)
  simp only [getObj,newObj,bind,Sem.bind,pure,lp]
  refine⟨_,K,rfl,rfl,λr ag al=>?_⟩
  obtain⟨am,ap⟩:=Kp ag al (.mapIter (some bk) c #[] c) Y
  obtain⟨p1,p2⟩:=FB am
  have aq:(Aj E H S).upd r (.mapIter (some bk) c #[] c)=Aj E H (S++ [[(r,.mapIter (some bk) c #[] c)]]):=by rw [← p1,← ap];rfl
  show JL J Q b n (Au L d (.pointer (some ⟨r,0,none⟩))) ds (.inRegion ops rest::kk) cs ((Aj E H S).upd r (.mapIter (some bk) c #[] c));rw [aq];exact h r p2
theorem JS.next{es:Array MapEntry}{c r:Nat}{seen:Array Nat}(j:Nat)(am:(Aj E H S).get bk=some (.map es c))(hb:∀e∈es.toList,e.born<c)(K:Ap E H S)(O:S[j]? =some [(r,.mapIter (some bk) c seen c)])
  (ap:ops[i]? =some ⟨d,.next x false,ty,p,af,g⟩) (hw:AJ L ops ⟨d,.next x false,ty,p,af,g⟩=some true) (aq:BK b n ⟨d,.next x false,ty,p,af,g⟩=true) (U:ev L x=some (.pointer (some ⟨r,0,none⟩)))
  (av:∀e∈es.toList,e.born ∉ seen->Ap E H (S.set j [(r,.mapIter (some bk) c (seen.push e.born) c)])->JL J Q b n (Au L d (.tuple #[.bool true,e.key,e.val])) ds (.inRegion ops rest::kk) cs (Aj E H (S.set j [(r,.mapIter (some bk) c (seen.push e.born) c)])))
  (aw:(∀e∈es.toList,e.born∈seen)->JL J Q b n (Au L d (.tuple #[.bool false])) ds (.inRegion ops rest::kk) cs (Aj E H S)):
  JL J Q b n L ds (.inRegion ops (i::rest)::kk) cs (Aj E H S):=
 JL.op ap hw aq λρ ay=>by
  show lp P (do pure (Next.value (← Instr.next (ρ x) false ty))) _ _ _
  rw [ay _ _ U]
  refine As _ _ ?_
  unfold Instr.next
  simp only [getObj,setObj,bind,Sem.bind,pure,lp]
  refine⟨_,Dg (i:=0) K O rfl,rfl,?_⟩
  simp only [lp]
  refine⟨_,am,rfl,?_⟩
  have az:(!seen.isEmpty&& !es.isEmpty&&es.all (λe=>decide (e.born>=c)))=false:=by
   by_cases he:es.toList= []
   ·have:es.isEmpty=true:=by simpa [Array.isEmpty_iff] using he
    simp [this]
   ·obtain⟨e,ag⟩:=List.exists_mem_of_ne_nil _ he;have bi:=hb e ag;have:es.all (λe=>decide (e.born>=c))=false:=by
     cases U:es.all (λe=>decide (e.born>=c)) with
     | false=>rfl
     | true=>
      have:=Array.all_eq_true'.1 U e (Array.mem_toList_iff.1 ag);simp at this;omega
    simp [this]
  have a0:Array.filter (λx:MapEntry=>decide (x.born<c)) (Array.filter (λe=> !seen.contains e.born) es)=Array.filter (λe=> !seen.contains e.born) es:=by
   apply Array.toList_inj.1;rw [Array.toList_filter,List.filter_eq_self];intro e he;rw [Array.toList_filter] at he;simpa using hb e (List.mem_filter.1 he).1
  have e2:Array.filter (λx:MapEntry=>decide (x.born>=c)) (Array.filter (λe=> !seen.contains e.born) es)= #[]:=by
   apply Array.toList_inj.1;rw [Array.toList_filter,List.filter_eq_nil_iff];intro e he;rw [Array.toList_filter] at he;have:=hb e (List.mem_filter.1 he).1;simp;omega
  dsimp only;rw [if_neg (by rw [az];exact Bool.false_ne_true),a0,e2];have Y:∀e,e∈(Array.filter (λe=> !seen.contains e.born) es).toList↔e∈es.toList/\e.born ∉ seen:=by
   intro e;rw [Array.toList_filter,List.mem_filter];simp
  generalize Array.filter (λe:MapEntry=> !seen.contains e.born) es=left at Y ⊢;by_cases Z:left.toList= []
  ·have a1:left= #[]:=Array.toList_inj.1 Z;subst a1;refine RZ (by simp) rfl λi hi=>?_;obtain rfl:i=0:=by simp at hi;exact hi
   have a2:((if(#[]:Array MapEntry).isEmpty=true then #[none] else #[])++Array.map some ((#[]:Array MapEntry)++ #[]))[0]? =some none:=by simp
   rw [a2];refine aw λe he=>?_;by_cases al:e.born∈seen
   ·exact al
   ·have:=(Y e).2 ⟨he,al⟩;simp at this
  ·have a3:left.isEmpty=false:=by
    cases a4:left.isEmpty with
    | false=>rfl
    | true=>exact absurd (by simpa [Array.isEmpty_iff] using a4) Z
   rw [a3];simp only [Bool.false_eq_true,if_false,Array.append_empty,Array.empty_append];have a5:0<left.size:=by
    rcases Nat.eq_zero_or_pos left.size with ac | ac
    ·exact absurd (by simpa using Array.eq_empty_of_size_eq_zero ac) Z
    ·exact ac
   refine RZ (by simpa using a5) rfl λi hi=>?_;have a6:i<left.size:=by simpa using hi
   have a7:(Array.map some left)[i]? =some (some left[i]):=by simp [a6]
   rw [a7];simp only [lp];obtain⟨a8,a9⟩:=(Y left[i]).1 (Array.getElem_mem_toList _);refine⟨⟨_,IY K O,rfl⟩,rfl,?_⟩;obtain⟨bb,be⟩:=Jg K O (.mapIter (some bk) c (seen.push left[i].born) c);rw [bb];exact av _ a8 a9 be
theorem JS.entry{es:Array MapEntry}{c r:Nat}{seen:Array Nat}{e:MapEntry}(j:Nat)(U:(Aj E H S).get bk=some (.map es c))(he:e∈es.toList)(hb:(es.toList.map (·.born)).Pairwise (·<·))(Y:Ap E H S)(Z:S[j]? =some [(r,.mapIter (some bk) c (seen.push e.born) c)])
  (ac:ops[i]? =some ⟨d,.entry x,ty,p,af,g⟩) (hw:AJ L ops ⟨d,.entry x,ty,p,af,g⟩=some true) (ag:BK b n ⟨d,.entry x,ty,p,af,g⟩=true) (al:ev L x=some (.pointer (some ⟨r,0,none⟩)))
  (h:JL J Q b n (Au L d (.tuple #[e.key,e.val])) ds (.inRegion ops rest::kk) cs (Aj E H S)):
  JL J Q b n L ds (.inRegion ops (i::rest)::kk) cs (Aj E H S):=
 JL.op ac hw ag λρ am=>by
  show lp P (do pure (Next.value (← Instr.entry (ρ x)))) _ _ _
  rw [am _ _ al]
  refine As _ _ ?_
  unfold Instr.entry
  simp only [getObj,bind,Sem.bind,pure,lp]
  refine⟨_,Dg (i:=0) Y Z rfl,rfl,?_⟩
  simp only [Array.back?_push,bne_self_eq_false,lp]
  refine⟨_,U,rfl,?_⟩
  have ap:es.find? (λx=>x.born==e.born)=some e:=by
   rw [← Array.find?_toList];have key:∀(l:List MapEntry),e∈l->(l.map (·.born)).Pairwise (·<·)->l.find? (λx=>x.born==e.born)=some e:=by
    intro l
    induction l with
    | nil=>intro h;cases h
    | cons y l aq=>
     intro hm K;rw [List.map_cons,List.pairwise_cons] at K;by_cases O:y.born=e.born
     ·rcases List.mem_cons.1 hm with rfl | hm
      ·simp
      ·have:=K.1 e.born (List.mem_map.2 ⟨e,hm,rfl⟩);omega
     ·rw [List.find?_cons_of_neg (by simpa using O)];rcases List.mem_cons.1 hm with rfl | hm
      ·exact absurd rfl O
      ·exact aq hm K.2
   exact key _ he hb
  simp only [bne_self_eq_false,Bool.false_eq_true,if_false,ap,lp];exact h
end
end
theorem IJ{E H:LH}{S:List Seg}{bk:Nat}{o:Obj}(h:E bk=some o):(Aj E H S).get bk=some o:=by
 show(match E bk with | some o=>some o | none=>_)=some o
 rw [h]
theorem OY{α β:Type}(f:α->β){l:List α}(h:(l.map f).Nodup):l.Nodup:=by
 unfold List.Nodup at h ⊢;rw [List.pairwise_map] at h;exact h.imp λh e=>h (by rw [e])
theorem SJ{α:Type}:∀{l l':List α},l.Nodup->(∀x∈l,x∈l')->l.length<=l'.length
 | [],_,_,_=>Nat.zero_le _
 | x::l,l',h,O=>by
  obtain⟨a,b,rfl⟩:=List.append_of_mem (O x (by simp))
  have U:=List.nodup_cons.1 h
  have:=SJ (l:=l) (l':=a++b) U.2 (λy Y=>by
   have K:=O y (List.mem_cons_of_mem _ Y)
   have Z:y≠x:=λe=>U.1 (e▸Y)
   simp at K ⊢
   rcases K with K | K | K
   ·exact .inl K
   ·exact absurd K Z
   ·exact .inr K)
  simp at this ⊢;omega
variable {ys:List (κ×ν)}
section
variable [DecidableEq κ]
def HD(es:Array MapEntry)(ys:List (κ×ν))(seen:Array Nat)(done:List (κ×ν)):Prop:=
 ∃K:List (MapEntry×(κ×ν)),done=K.map (·.2)/\seen.toList=K.map (·.1.born)/\K.Nodup/\∀q∈K,q∈es.toList.zip ys
theorem HD.nil{es:Array MapEntry}{ys:List (κ×ν)}:HD es ys #[] []:=⟨[],V,V,.nil,by simp⟩
theorem Si:∀{es:List MapEntry} {ys:List (κ×ν)},(es.map (·.born)).Pairwise (·<·)->∀{p q:MapEntry×(κ×ν)},p∈es.zip ys->q∈es.zip ys->p.1.born=q.1.born->p=q
 | [],_,_,_,_,h,_,_=>by simp at h
 | _::_,[],_,_,_,h,_,_=>by simp at h
 | e::es,y::ys,U,p,q,K,O,hb=>by
  rw [List.map_cons,List.pairwise_cons] at U
  rw [List.zip_cons_cons] at K O
  have Y:∀{z:MapEntry×(κ×ν)},z∈es.zip ys->z.1.born∈es.map (·.born):=λ{z} Z=>by
   have:=(List.of_mem_zip Z).1
   exact List.mem_map.2 ⟨z.1,this,V⟩
  rcases List.mem_cons.1 K with rfl | K <;> rcases List.mem_cons.1 O with rfl | O
  ·rfl
  ·have:=U.1 _ (Y O);simp at hb;omega
  ·have:=U.1 _ (Y K);simp at hb;omega
  ·exact Si U.2 K O hb
theorem C5.zip:∀{es:List MapEntry} {ys:List (κ×ν)},C5 pk ka pv va E es ys->∀{q:MapEntry×(κ×ν)},q∈es.zip ys->Vr pk ka E q.1.key q.2.1/\Vr pv va E q.1.val q.2.2
 | [],[],_,_,h=>by simp at h
 | e::es,y::ys,h,q,K=>by
  rw [List.zip_cons_cons] at K
  rcases List.mem_cons.1 K with rfl | K
  ·exact⟨h.1,h.2.1⟩
  ·exact C5.zip h.2.2 K
 | [],_::_,h,_,_=>h.elim
 | _::_,[],h,_,_=>h.elim
theorem Sk:∀{es:List MapEntry} {ys:List (κ×ν)},KN ys->(es.map (·.born)).Pairwise (·<·)->∀{p q:MapEntry×(κ×ν)},p∈es.zip ys->q∈es.zip ys->p.2.1=q.2.1->p=q
 | [],_,_,_,_,_,h,_,_=>by simp at h
 | _::_,[],_,_,_,_,h,_,_=>by simp at h
 | e::es,y::ys,ac,Y,p,q,K,O,hb=>by
  have U:y.1 ∉ ys.map (·.1)/\KN ys:=by simpa [KN] using ac
  rw [List.map_cons,List.pairwise_cons] at Y;rw [List.zip_cons_cons] at K O;have Z:∀{z:MapEntry×(κ×ν)},z∈es.zip ys->z.2.1∈ys.map (·.1):=λ{z} ag=>List.mem_map.2 ⟨z.2,(List.of_mem_zip ag).2,rfl⟩;rcases List.mem_cons.1 K with rfl | K <;> rcases List.mem_cons.1 O with rfl | O
  ·rfl
  ·have:=Z O;simp only at hb;rw [← hb] at this;exact absurd this U.1
  ·have:=Z K;simp only at hb;rw [hb] at this;exact absurd this U.1
  ·exact Sk U.2 Y.2 K O hb
theorem HD.len{es:Array MapEntry}{ys:List (κ×ν)}{seen:Array Nat}{done:List (κ×ν)}(h:HD es ys seen done):done.length<=ys.length:=by
 obtain⟨Y,rfl,Z,K,O⟩:=h;rw [List.length_map];have U:=SJ K O;exact Nat.le_trans U (by rw [List.length_zip];exact Nat.min_le_right _ _)
section
variable {x y:Operand}{e:TypeId}{i:Nat}
theorem Pt{es:Array MapEntry}{c r:Nat}{seen:Array Nat}{done:List (κ×ν)}(j:Nat)(ag:C5 pk ka pv va E es.toList ys)(Z:(es.toList.map (·.born)).Pairwise (·<·))(hb:∀e∈es.toList,e.born<c)(av:KN ys)(aw:HD es ys seen done)(ay:(Aj E' H S).get bk=some (.map es c))(az:Ap E' H S)(a0:S[j]? =some [(r,.mapIter (some bk) c seen c)])
  (a2:ops[i]? =some ⟨d,.next x false,ty,p,af,g⟩) (hw:AJ L ops ⟨d,.next x false,ty,p,af,g⟩=some true) (a3:BK b n ⟨d,.next x false,ty,p,af,g⟩=true) (a4:ev L x=some (.pointer (some ⟨r,0,none⟩)))
  (a5:∀e O,Vr pk ka E e.key O.1->Vr pv va E e.val O.2->O∈ys->O.1 ∉ done.map (·.1)->e∈es.toList->HD es ys (seen.push e.born) (done++ [O])->Ap E' H (S.set j [(r,.mapIter (some bk) c (seen.push e.born) c)])->
   JL J Q b n (Au L d (.tuple #[.bool true,e.key,e.val])) ds (.inRegion ops rest::kk) cs (Aj E' H (S.set j [(r,.mapIter (some bk) c (seen.push e.born) c)])))
  (a6:done.Perm ys->JL J Q b n (Au L d (.tuple #[.bool false])) ds (.inRegion ops rest::kk) cs (Aj E' H S)):
  JL J Q b n L ds (.inRegion ops (i::rest)::kk) cs (Aj E' H S):=by
 obtain⟨ac,rfl,a1,al,Y⟩:=aw;have hlen:=ag.len;refine JS.next j ay hb az a0 a2 hw a3 a4 (λe he a7 a8=>?_) (λa9=>?_)
 ·obtain⟨m,hm,bb⟩:=List.mem_iff_getElem.1 he;have U:(e,ys[m]'(by omega))∈es.toList.zip ys:=by
   rw [← bb];have:(es.toList.zip ys)[m]'(by rw [List.length_zip];omega)=(es.toList[m],ys[m]'(by omega)):=List.getElem_zip;rw [← this];exact List.getElem_mem _
  obtain⟨k1,be⟩:=ag.zip U;have am:(e,ys[m]'(by omega)) ∉ ac:=λq=>a7 (by
   rw [← Array.mem_toList_iff,a1]
   exact List.mem_map.2 ⟨_,q,V⟩)
  refine a5 e _ k1 be (List.getElem_mem _) (λq=>?_) he ⟨ac++ [(e,ys[m]'(by omega))],by simp,by simp [a1],?_,λq K=>?_⟩ a8
  ·obtain⟨O,bi,bn⟩:=List.mem_map.1 q;obtain⟨z,ap,rfl⟩:=List.mem_map.1 bi;have:=Sk av Z (Y z ap) U bn;exact am (this▸ap)
  ·rw [List.nodup_append];exact⟨al,by simp,by intro q K z aq bo;simp at aq;subst aq bo;exact am K⟩
  ·rcases List.mem_append.1 K with K | K
   ·exact Y q K
   ·simp at K;subst K;exact U
 ·refine a6 ?_;have bv:ac.Perm (es.toList.zip ys):=by
   have bw:(es.toList.zip ys).Nodup:=by
    have:((es.toList.zip ys).map (·.1)).Nodup:=by
     rw [List.map_fst_zip (by omega)];exact OY (λe:MapEntry=>e.born) (Z.imp (λh=>Nat.ne_of_lt h))
    exact OY _ this
   refine(List.perm_ext_iff_of_nodup al bw).2 λq=>⟨λK=>Y q K,λK=>?_⟩;have:=a9 q.1 (List.of_mem_zip K).1;rw [← Array.mem_toList_iff,a1] at this;obtain⟨z,U,bx⟩:=List.mem_map.1 this;have:=Si Z (Y z U) K bx;exact this▸U
  have:=bv.map (·.2)
  rwa [List.map_snd_zip (by omega)] at this
end
end
variable {l0 bks:List Nat}{xl:List Nat}
section
variable {fuel:Nat}{listed:Array Bool}
theorem HQ(i:Nat)(pure:Bool)(K:s.q=false)(O:GQ n L ops i=some ⟨d,op,ty,p,af,g⟩)
  (U:∀ρ,EX L ρ->∀s':St,(pure=false->∀x o,(Bm (AG (l0++bks)) s).E x=some o->s'.E x=some o)->Yl P ⟨d,op,ty,p,af,g⟩ ρ s' v)
  (Y:Gj J Q b n ds ops k cs (AG xl) (AG (l0++bks)) (AG l0) fuel (A4 listed i) (Au L d v) s) (Z:Lx ops listed xl pure i=true:=by decide+kernel):Gj J Q b n ds ops k cs (AG xl) (AG (l0++bks)) (AG l0) (fuel+1) listed L s:=by
 obtain⟨ac,ag,al⟩:=Pb O;exact JB.val i pure ac Z K ag al U Y
def QS(n:Nat)(L:Env)(ops:Ao_)(i:Nat):Option Env:=
 match Jq ops.toList i with
 | some ⟨d,op,ty,p,af,g⟩=>match AJ L ops ⟨d,op,ty,p,af,g⟩ with
  | some true=>match Bc n d with
   | true=>match Kx L op with
    | some v=>match d with
     | some d=>some ((d,v)::L)
     | none=>some L
    | none=>none
   | false=>none
  | _=>none
 | none=>none
theorem Xv{i:Nat}(h:QS n L ops i=some L'):∃o v,ops[i]? =some o/\Bc n o.dst=true/\AJ L ops o=some true/\Kx L o.op=some v/\L'=Au L o.dst v:=by
 unfold QS at h;split at h
 ·rename_i d op ty p af g K;rw [K8,Array.getElem?_toList] at K;split at h
  ·rename_i hw;split at h
   ·rename_i O;split at h
    ·rename_i v U;refine⟨_,v,K,O,hw,U,?_⟩;cases d with
     | none=>cases h;rfl
     | some d=>cases h;rfl
    ·cases h
   ·cases h
  ·cases h
 ·cases h
theorem Bp(i:Nat)(K:s.q=false)(h:QS n L ops i=some L')
  (O:Gj J Q b n ds ops k cs (AG xl) (AG (l0++bks)) (AG l0) fuel (A4 listed i) L' s) (U:Lx ops listed xl true i=true:=by decide+kernel):Gj J Q b n ds ops k cs (AG xl) (AG (l0++bks)) (AG l0) (fuel+1) listed L s:=by
 obtain⟨o,v,Y,Z,hw,ac,rfl⟩:=Xv h;exact JB.val i true Y U K hw Z (λρ ag s' _=>NH ag ac) O
end
variable {i2:Nat}
variable {d2:Option Tmp}{x2:Operand}{t2 ty2:TypeId}{p2:String}{af2:Ae_}{g2:On_}
section
variable {i:Nat}
variable {x y:Operand}{e:TypeId}
theorem Du(O:Ap E H S)(h:∀r E',Le E E'->At E' r 0 v.cells.toList->Ap E' H (S++ [[]])->JL J Q b n (Au L d (.pointer (some ⟨r,0,none⟩))) ds (.inRegion ops rest::k) cs (Aj E' H (S++ [[]])))
  (U:Fl b n L ops i=some ⟨d,.box e x,ty,p,af,g⟩:=by exact rfl) (Y:ev L x=some v:=by exact rfl):JL J Q b n L ds (.inRegion ops (i::rest)::k) cs (Aj E H S):=by
 obtain⟨Z,ac,ag⟩:=Ko U;refine JS.box Z ac ag O Y λr al=>Dp (bk:=r) (c:=v.cells) (e:=e) (f:=(0,0)) S.length al (by simp) λE' hle am K=>?_;have ap:(S++ [[(r,Obj.cells v.cells e (0,0))]]).set S.length []=S++ [[]]:=by simp
 rw [ap] at K ⊢;exact h r E' hle am K
theorem BT{z:Value}(K:Ap E H S)(O:zeroOf P e=some z)(h:∀r,Ap E H (S++ [[(r,.cells z.cells e (0,0))]])->JL J Q b n (Au L d (.pointer (some ⟨r,0,none⟩))) ds (.inRegion ops rest::k) cs (Aj E H (S++ [[(r,.cells z.cells e (0,0))]])))
  (U:Fl b n L ops i=some ⟨d,.alloc e,ty,p,af,g⟩:=by exact rfl):JL J Q b n L ds (.inRegion ops (i::rest)::k) cs (Aj E H S):=by
 obtain⟨Y,Z,ac⟩:=Ko U;exact JS.alloc Y Z ac K O h
theorem BL{bk off K:Nat}{c:Av_}(j:Nat)(O:Ap E H S)(U:Bj P t=some K)
  (h:Ap E H (S.set j [(bk,.cells (A9 c off v.cells.toList) e (0,0))])->JL J Q b n (Au L d undef) ds (.inRegion ops rest::k) cs (Aj E H (S.set j [(bk,.cells (A9 c off v.cells.toList) e (0,0))])))
  (Y:Fl b n L ops i=some ⟨d,.store t x y,ty,p,af,g⟩:=by exact rfl) (Z:ev L x=some (.pointer (some ⟨bk,off,none⟩)):=by exact rfl) (ac:ev L y=some v:=by exact rfl) (ag:S[j]? =some [(bk,.cells c e (0,0))]:=by exact rfl)
  (al:K=v.cells.size:=by exact rfl) (hle:off+v.cells.size<=c.size:=by exact Nat.le_of_ble_eq_true rfl) (am:v.cells.toList.all De=true:=by first | exact rfl | simp [Value.cells,De]):
  JL J Q b n L ds (.inRegion ops (i::rest)::k) cs (Aj E H S):=bL j O (by rw [← al];exact U) Y Z ac ag h hle (List.all_eq_true.1 am)
theorem Cb{bk o K Y off:Nat}{O:Array Field}{U:Nat}{ws:Lv_}(j:Nat)(Z:At E bk o ws)(ac:P.underlying t=some (.struct O))(ag:Bj P ft=some (Y+1))(al:Dj P t2=some false)
  (am:JL J Q b n (Au (Au L d (.pointer (some ⟨bk,K+off,none⟩))) d2 v) ds (.inRegion ops rest::k) cs (Aj E H S))
  (ap:Fl b n L ops i=some ⟨d,.fieldAddr t x U,ty,p,af,g⟩:=by exact rfl) (aq:ev L x=some (.pointer (some ⟨bk,K,none⟩)):=by exact rfl) (av:Mg O U=some (off,ft):=by exact rfl)
  (aw:Fl b n (Au L d (.pointer (some ⟨bk,K+off,none⟩))) ops i2=some ⟨d2,.load t2 x2,ty2,p2,af2,g2⟩:=by exact rfl) (ay:ev (Au L d (.pointer (some ⟨bk,K+off,none⟩))) x2=some (.pointer (some ⟨bk,o+j,none⟩)):=by exact rfl) (az:ws[j]? =some v:=by exact rfl):
  JL J Q b n L ds (.inRegion ops (i::i2::rest)::k) cs (Aj E H S):=JL.fd ac ag ap aq av (Di j Z al aw ay az am)
theorem JS.ix{α:Type}{pp:Rp α}{a:Option Addr}{c:Nat}{xs:List α}{xv:α}{m:Int}{kd:IntKind}(K:Al pp E a c xs)(hm:ix xs m=some xv)(O:P.underlying t=some (.slice e))(U:Bj P e=some pp.n)
  (h:∀bk o ws,pp.r E ws xv->At E bk o ws->JL J Q b n (Au L d (.pointer (some ⟨bk,o,none⟩))) ds (.inRegion ops rest::k) cs (Aj E H S))
  (Y:Fl b n L ops i=some ⟨d,.indexAddr t x y,ty,p,af,g⟩:=by exact rfl) (Z:ev L x=some (.slice a xs.length c):=by exact rfl) (ac:ev L y=some (.int kd m):=by exact rfl):
  JL J Q b n L ds (.inRegion ops (i::rest)::k) cs (Aj E H S):=by
 obtain⟨ag,al,am⟩:=Ko Y;exact S3 K hm ag al am Z ac O U h
theorem EW(K:List Seg)(O:Env){todo:Li_}{c:Code}(U:∀E',Le E E'->Ap E' H K->JL J Q b n O ds todo cs (Aj E' H K))
  (h:(∀{E':LH} {L:Env},Le E E'->Ap E' H K->Ih L O=Il O->JL J Q b n L ds todo cs (Aj E' H K))->JL J Q b n L ds (.code c::todo) cs (Aj E H S)):JL J Q b n L ds (.code c::todo) cs (Aj E H S):=
 h λY Z ac=>AB (U _ Y Z) ac
theorem Eg{U:List Nat}(Y Z:Nat)(K:List Seg)(O:Env){todo:Li_}(ac:∀E',Le E E'->Ap E' H K->JL J Q b n O ds (.inRegion ops (List.range' Y Z)::todo) cs (Aj E' H K))
  (h:(∀{E':LH} {L:Env},Le E E'->Ap E' H K->Ih L O=Il O->JL J Q b n L ds (.inRegion ops (List.range' Y Z)::todo) cs (Aj E' H K))->JL J Q b n L ds (.inRegion ops U::todo) cs (Aj E H S)):JL J Q b n L ds (.inRegion ops U::todo) cs (Aj E H S):=
 h λag al am=>AB (ac _ ag al) am
theorem Ef{O ag:Type}{c:Code}{body:O->Option (Br O ag)}{f:Nat}{Y:O}{a:ag}{Z:LH}{k:Li_}(am:iter body f Y=some a)(K:O->List Seg)(U:O->Env)(hle:Le Z E)(ap:Ap E H (K Y))
  (round:∀x E',Le Z E'->Ap E' H (K x)->(∀al,body x=some (.done al)->al=a)->(∃st,body x=some st)->(∀{L':Env} {ac:LH} (x':O),Le Z ac->Ap ac H (K x')->Ih L' (U x')=Il (U x')->body x=some (.more x')->JL J Q b n L' ds (.inLoop c::k) cs (Aj ac H (K x')))->JL J Q b n (U x) ds (.code c:: .inLoop c::k) cs (Aj E' H (K x)))
  (aq:Ih L (U Y)=Il (U Y):=by exact rfl) (av:Aj E H S=Aj E H (K Y):=by exact rfl):JL J Q b n L ds (.code (.loop c)::k) cs (Aj E H S):=by
 rw [av];refine Eu _ aq (R8 am (λL s x=>∃E',Jm Z H E' (K x) (U x) L s) ⟨E,V,V,hle,ap⟩ ?_);rintro _ _ x ⟨E',rfl,rfl,aw,ay⟩ hd hb az;exact round x E' aw ay hd hb λx' a0 g2 a1 a2=>AB (az _ _ x' ⟨_,V,V,a0,g2⟩ a2) a1
theorem Bo{f:FuncId}{fn:Func}{c:Code}{E:LH}{vs:Lv_}{B:Seg}{R:Value->LH->Seg->Prop}(O:P.funcs[f]? =some fn)
  (h:∀(Q:Gs_) (K:Frame) (cs:Lf_) (H:LH),Ap E H [B]->(∀{v:Value} {E':LH} {S':List Seg} {B':Seg},Le E E'->S'.flatten=B'->R v E' B'->Ap E' H S'->J.ok Q (G (K.finish v) cs) (Aj E' H S'))->JL J Q (base f) fn.ntmps (Ga 0 vs) [] [.code c] (K::cs) (Aj E H [B]))
  (hb:fn.body=some c:=by exact rfl) (U:Nat.ble vs.length fn.ntmps=true:=by exact rfl):AQ J f vs E B R:=
 NY O hb U λQ K cs H Y Z=>h Q K cs H Y λac ag al am=>Z _ _ _ _ ac ag al am
variable {fuel:Nat}{listed:Array Bool}
theorem Kv{bk:Nat}{c:Av_}{f:Nat×Nat}(i:Nat)(K:DU ops m=true)(o:Nat)(j:Nat)(O:Ap E H S)(U:Dj P t=some false)
  (Y:AL J Q b n ds ops k cs m (AG bks) fuel (A4 listed i) (Au L d w) (Aj E H S)) (Z:GQ n L ops i=some ⟨d,.load t x,ty,p,af,g⟩:=by exact rfl) (ac:ev L x=some (.pointer (some ⟨bk,o,none⟩)):=by exact rfl)
  (ag:S[j]? =some [(bk,.cells c e f)]:=by exact rfl) (hw:c[o]? =some w:=by exact rfl) (al:AG bks bk=true:=by simp [AG]) (am:Gf ops listed m i=true:=by decide+kernel):AL J Q b n ds ops k cs m (AG bks) (fuel+1) listed L (Aj E H S):=
 AK i K V Z (λρ h s' ap=>Yl.load U (h _ _ ac) (Cf (o:=o) j O ag al ap hw)) Y am
theorem JG.lp{bk o:Nat}{ws:Lv_}(i:Nat)(K:DU ops m=true)(j:Nat)(O:At E bk o ws)(U:Ap E H S)(Y:HK S bks)(Z:Dj P t=some false)
  (ac:AL J Q b n ds ops k cs m (AG bks) fuel (A4 listed i) (Au L d w) (Aj E H S)) (ag:GQ n L ops i=some ⟨d,.load t x,ty,p,af,g⟩:=by exact rfl) (al:ev L x=some (.pointer (some ⟨bk,o+j,none⟩)):=by exact rfl)
  (hw:ws[j]? =some w:=by exact rfl) (am:Gf ops listed m i=true:=by decide+kernel):AL J Q b n ds ops k cs m (AG bks) (fuel+1) listed L (Aj E H S):=
 AK i K V ag (λρ h s' ap=>Yl.load Z (h _ _ al) (At.Qx (j:=j) O (bq U ap Y) hw)) ac am
theorem Uz{bk o K:Nat}{c:Av_}{f:Nat×Nat}(i:Nat)(O:DU ops m=true)(vs:Lv_)(j:Nat)(U:Ap E H S)(hw:∀(q:Nat) w,vs[q]? =some w->c[o+q]? =some w)(Y:Dj P t=some true)(Z:Bj P t=some K)
  (ac:AL J Q b n ds ops k cs m (AG bks) fuel (A4 listed i) (Au L d (.agg vs.toArray)) (Aj E H S)) (ag:GQ n L ops i=some ⟨d,.load t x,ty,p,af,g⟩:=by exact rfl) (al:ev L x=some (.pointer (some ⟨bk,o,none⟩)):=by exact rfl)
  (am:S[j]? =some [(bk,.cells c e f)]:=by exact rfl) (ap:K=vs.length:=by exact rfl) (aq:AG bks bk=true:=by simp [AG]) (av:Gf ops listed m i=true:=by decide+kernel):AL J Q b n ds ops k cs m (AG bks) (fuel+1) listed L (Aj E H S):=
 AK i O V ag (λρ h s' aw=>Jd (vs:=vs) Y (by rw [← ap];exact Z) (h _ _ al) (λq w ay=>by rw [DO rfl];exact Cf j U am aq aw (hw q w ay))) ac av
theorem JG.ix{D:Nat->Bool}{α:Type}{xs:List α}{xv:α}{K:Int}{bk c O U:Nat}{kd:IntKind}(i:Nat)(Y:DU ops m=true)(Z:xs.length=U)(hm:ix xs K=some xv)(ac:P.underlying t=some (.slice e))(ag:Bj P e=some O)
  (al:AL J Q b n ds ops k cs m D fuel (A4 listed i) (Au L d (.pointer (some ⟨bk,K.toNat*O,none⟩))) s) (am:s.q=false:=by exact rfl) (ap:GQ n L ops i=some ⟨d,.indexAddr t x y,ty,p,af,g⟩:=by exact rfl)
  (aq:ev L x=some (.slice (some ⟨bk,0,none⟩) U c):=by exact rfl) (av:ev L y=some (.int kd K):=by exact rfl) (aw:Gf ops listed m i=true:=by decide+kernel):AL J Q b n ds ops k cs m D (fuel+1) listed L s:=
 AK i Y am ap (λρ h s' ay=>Fq Z hm ac ag (h _ _ aq) (h _ _ av)) al aw
theorem JB.ix{l0 bks:List Nat}{α:Type}{xs:List α}{xv:α}{K:Int}{bk c O U:Nat}{kd:IntKind}(i:Nat)(Y:xs.length=U)(hm:ix xs K=some xv)(Z:P.underlying t=some (.slice e))(ac:Bj P e=some O)
  (ag:Gj J Q b n ds ops k cs (AG xl) (AG (l0++bks)) (AG l0) fuel (A4 listed i) (Au L d (.pointer (some ⟨bk,K.toNat*O,none⟩))) s) (al:s.q=false:=by exact rfl) (am:GQ n L ops i=some ⟨d,.indexAddr t x y,ty,p,af,g⟩:=by exact rfl)
  (ap:ev L x=some (.slice (some ⟨bk,0,none⟩) U c):=by exact rfl) (aq:ev L y=some (.int kd K):=by exact rfl) (av:Lx ops listed xl true i=true:=by decide+kernel):Gj J Q b n ds ops k cs (AG xl) (AG (l0++bks)) (AG l0) (fuel+1) listed L s:=
 HQ i true al am (λρ h s' aw=>Fq Y hm Z ac (h _ _ ap) (h _ _ aq)) ag av
theorem UE{l0:List Nat}{bk o K:Nat}{c:Av_}{f:Nat×Nat}(i:Nat)(vs:Lv_)(j:Nat)(O:Ap E H S)(hw:∀(q:Nat) w,vs[q]? =some w->c[o+q]? =some w)(U:Dj P t=some true)(Y:Bj P t=some K)
  (Z:Gj J Q b n ds ops k cs (AG xl) (AG (l0++bks)) (AG l0) fuel (A4 listed i) (Au L d (.agg vs.toArray)) (Aj E H S)) (ac:GQ n L ops i=some ⟨d,.load t x,ty,p,af,g⟩:=by exact rfl) (ag:ev L x=some (.pointer (some ⟨bk,o,none⟩)):=by exact rfl)
  (al:S[j]? =some [(bk,.cells c e f)]:=by exact rfl) (am:K=vs.length:=by exact rfl) (ap:AG (l0++bks) bk=true:=by simp [AG]) (aq:Lx ops listed xl false i=true:=by decide+kernel):Gj J Q b n ds ops k cs (AG xl) (AG (l0++bks)) (AG l0) (fuel+1) listed L (Aj E H S):=
 HQ i false V ac (λρ h s' av=>Jd (vs:=vs) U (by rw [← am];exact Y) (h _ _ ag) (λq w aw=>by rw [DO rfl];exact Cf j O al ap (av rfl) (hw q w aw))) Z aq
theorem Fi{l0 bks:List Nat}{bk off K:Nat}{c:Av_}(i j:Nat)(O:Ap E H S)(U:Bj P t=some K)(Y:MC S j l0)(hle:off+K<=c.size)
  (h:Ap E H (S.set j [(bk,.cells (A9 c off v.cells.toList) e (0,0))])->Gj J Q b n ds ops k cs (AG xl) (AG (l0++bks)) (AG l0) fuel (A4 listed i) (Au L d undef) (Aj E H (S.set j [(bk,.cells (A9 c off v.cells.toList) e (0,0))])))
  (Z:GQ n L ops i=some ⟨d,.store t x y,ty,p,af,g⟩:=by exact rfl) (ac:ev L x=some (.pointer (some ⟨bk,off,none⟩)):=by exact rfl) (ag:ev L y=some v:=by exact rfl) (al:S[j]? =some [(bk,.cells c e (0,0))]:=by exact rfl)
  (am:K=v.cells.size:=by exact rfl) (ap:v.cells.toList.all De=true:=by first | exact rfl | simp [Value.cells,De]) (aq:Region.ready .any ops listed= [i]:=by decide+kernel) (av:AG xl i=true:=by decide+kernel):
  Gj J Q b n ds ops k cs (AG xl) (AG (l0++bks)) (AG l0) (fuel+1) listed L (Aj E H S):=by
 obtain⟨aw,ay,az⟩:=Pb Z;subst am;exact JB.store i j aq av aw ay az O ac ag U (List.all_eq_true.1 ap) al Y hle h
end
abbrev s8(s:Nat):Value:= .int .u8 (s:Int)
def Oi(a:Nat)(n:Int):Option Nat:=if 0<=n/\n<=8 then some (a>>>n.toNat) else none
def Lu(a b:Nat):Option Nat:=if a<256/\b<256 then some (a ||| b) else none
def Oe(a b:Nat):Option Nat:=if a<256/\b<256 then some (a&&& b) else none
variable {a c:Nat}
section
variable {x y:Operand}{b r:Nat}{m:Int}
theorem Ur{m:Nat}(h:m<256):IntKind.u8.wrap (m:Int)=m:=by
 simp only [IntKind.wrap,IntKind.bits,IntKind.signed];simp;omega
theorem OD{m:Nat}(h:m<256):(BitVec.ofInt IntKind.u8.bits (m:Int)).toNat=m:=by
 simp [IntKind.bits,BitVec.toNat_ofInt];omega
theorem cb{k:Nat}(a c:Nat)(K:c<=k):((a:Int).fdiv (2 ^ (min c k)))=((a>>>c:Nat):Int):=by
 rw [Nat.min_eq_left K,Nat.shiftRight_eq_div_pow,Int.fdiv_eq_ediv_of_nonneg _ (Int.pow_nonneg (by decide)),Int.natCast_ediv]
 rfl
theorem SI(K:ρ x=s8 a)(O:ρ y=iV m)(h:Oi a m=some r):Yl P ⟨d,.binOp .shr t x y u,ty,p,af,g⟩ ρ s (s8 r):=by
 unfold Oi at h;split at h
 ·rename_i U;cases h;have h:=Yl.shr (P:=P) (s:=s) (d:=d) (t:=t) (u:=u) (ty:=ty) (p:=p) (af:=af) (g:=g) K O U.1;rw [show IntKind.u8.bits=8 from rfl,cb a m.toNat (by omega)] at h;exact h
 ·cases h
theorem NG(O:ρ x=s8 a)(U:ρ y=s8 b)(h:Lu a b=some r):Yl P ⟨d,.binOp .or t x y u,ty,p,af,g⟩ ρ s (s8 r):=by
 unfold Lu at h;split at h
 ·rename_i K;cases h;have h:=Yl.or (P:=P) (s:=s) (d:=d) (t:=t) (u:=u) (ty:=ty) (p:=p) (af:=af) (g:=g) O U;rw [BitVec.toNat_or,OD K.1,OD K.2,Ur (Nat.or_lt_two_pow (n:=8) K.1 K.2)] at h;exact h
 ·cases h
theorem Sy(O:ρ x=s8 a)(U:ρ y=s8 b)(h:Oe a b=some r):Yl P ⟨d,.binOp .and t x y u,ty,p,af,g⟩ ρ s (s8 r):=by
 unfold Oe at h;split at h
 ·rename_i K;cases h;have h:=Yl.and (P:=P) (s:=s) (d:=d) (t:=t) (u:=u) (ty:=ty) (p:=p) (af:=af) (g:=g) O U;rw [BitVec.toNat_and,OD K.1,OD K.2,Ur (Nat.lt_of_le_of_lt Nat.and_le_left K.1)] at h;exact h
 ·cases h
end
def Qd(a b:Nat):Option Nat:=if a<4294967296/\b<4294967296 then some (a&&& b) else none
def P7(a:Nat)(n:Int):Option Nat:=if 0<=n/\n<=32/\a*2 ^ n.toNat<4294967296 then some (a*2 ^ n.toNat) else none
def KC(n:Int):Option Nat:=if 0<=n/\n<=8 then some ((1<<<n.toNat) % 256) else none
section
variable {e:TypeId}{x y:Operand}{b r:Nat}{m:Int}
theorem wrap32{m:Nat}(h:m<4294967296):IntKind.u32.wrap (m:Int)=m:=by
 simp only [IntKind.wrap,IntKind.bits,IntKind.signed];simp;omega
theorem UJ{m:Nat}(h:m<4294967296):(BitVec.ofInt IntKind.u32.bits (m:Int)).toNat=m:=by
 simp [IntKind.bits,BitVec.toNat_ofInt];omega
theorem W1(O:ρ x= .int .u32 (a:Int))(U:ρ y= .int .u32 (b:Int))(h:Qd a b=some r):Yl P ⟨d,.binOp .and t x y u,ty,p,af,g⟩ ρ s (.int .u32 (r:Int)):=by
 unfold Qd at h;split at h
 ·rename_i K;cases h;have h:=Yl.and (P:=P) (s:=s) (d:=d) (t:=t) (u:=u) (ty:=ty) (p:=p) (af:=af) (g:=g) O U;rw [BitVec.toNat_and,UJ K.1,UJ K.2,wrap32 (Nat.lt_of_le_of_lt Nat.and_le_left K.1)] at h;exact h
 ·cases h
theorem WB(O:ρ x= .int .u32 (a:Int))(U:ρ y=iV m)(h:P7 a m=some r):Yl P ⟨d,.binOp .shl t x y u,ty,p,af,g⟩ ρ s (.int .u32 (r:Int)):=by
 unfold P7 at h;split at h
 ·rename_i K;cases h;have h:=Yl.shl (P:=P) (s:=s) (d:=d) (t:=t) (u:=u) (ty:=ty) (p:=p) (af:=af) (g:=g) O U K.1;have e:IntKind.u32.wrap ((a:Int)*2 ^ (min m.toNat IntKind.u32.bits))=((a*2 ^ m.toNat:Nat):Int):=by
   have Y:min m.toNat IntKind.u32.bits=m.toNat:=by simp [IntKind.bits];omega
   rw [Y,← wrap32 K.2.2];simp
  rw [e] at h;exact h
 ·cases h
theorem LZ(K:ρ x=s8 1)(O:ρ y=iV m)(h:KC m=some r):Yl P ⟨d,.binOp .shl t x y u,ty,p,af,g⟩ ρ s (s8 r):=by
 unfold KC at h;split at h
 ·rename_i U;cases h;have h:=Yl.shl (P:=P) (s:=s) (d:=d) (t:=t) (u:=u) (ty:=ty) (p:=p) (af:=af) (g:=g) K O U.1;have e:IntKind.u8.wrap (((1:Nat):Int)*2 ^ (min m.toNat IntKind.u8.bits))=(((1<<<m.toNat) % 256:Nat):Int):=
   (by decide:∀k:Fin 9,IntKind.u8.wrap (((1:Nat):Int)*2 ^ (min k.1 IntKind.u8.bits))=(((1<<<k.1) % 256:Nat):Int)) ⟨m.toNat,by omega⟩
  rw [e] at h;exact h
 ·cases h
theorem Xp(K:ρ x=s8 a)(O:ρ y=s8 b)(hb:b<=256):Yl P ⟨d,.binOp .sub t x y u,ty,p,af,g⟩ ρ s (s8 ((a+(256 - b)) % 256)):=by
 have h:=Yl.sub (P:=P) (s:=s) (d:=d) (t:=t) (u:=u) (ty:=ty) (p:=p) (af:=af) (g:=g) K O;have e:IntKind.u8.wrap ((a:Int) - (b:Int))=(((a+(256 - b)) % 256:Nat):Int):=by
  simp only [IntKind.wrap,IntKind.bits,IntKind.signed];simp;omega
 rw [e] at h;exact h
theorem Yt{kd:IntKind}{E:LH}(xs:List Nat):(rA xs.length (rN kd)).r E (xs.map λx=>Value.int kd ((x:Nat):Int)) xs:=by
 refine⟨V,xs.map λx=> [Value.int kd ((x:Nat):Int)],?_,by simp,λi x us K hu=>?_⟩
 ·induction xs with
  | nil=>rfl
  | cons x xs O=>simp [← O]
 ·rw [List.getElem?_map,K] at hu;exact(Option.some.inj hu).symm
theorem NL{α:Type}{kk:Nat}{pp:Rp α}{E:LH}{us:Lv_}{x:α}(h:pp.r E us x):(rA kk pp).r E (List.replicate kk us).flatten (List.replicate kk x):=
 ⟨by simp,List.replicate kk us,V,by simp,λi y ws K hw=>by
  rw [List.getElem?_replicate] at K hw
  split at K
  ·rename_i O
   rw [if_pos O] at hw
   cases K;cases hw
   exact h
  ·cases K⟩
theorem XG{k K:Nat}{z v:Value}(O:P.underlying t=some (.array k e))(U:zeroOf P t=some z)(Y:Bj P e=some K)(Z: .agg z.cells=v):Yl P ⟨d,.build t #[],ty,p,af,g⟩ ρ s v:=by
 refine FR O9 ?_;unfold Instr.build;refine As (x:=zeroValue t) _ (G4 U ?_);refine As _ _ (Cl O ?_);refine As (x:=Go.sizeOf e) _ (EP Y ?_);subst Z;simp [Instr.fill,lp,pure]
theorem Y5{k K:Nat}{z v:Value}{L:Env}{U:Array (Nat×Operand)}{vs:List (Nat×Value)}(h:EX L ρ)(Z:P.underlying t=some (.array k e))(ac:zeroOf P t=some z)(ag:Bj P e=some K)(al:U.toList.mapM (λq=>(ev L q.2).map λv=>(q.1,v))=some vs)(O:(Instr.fill (λi=>some (i*K,K)) z.cells vs).map Value.agg=some v):Yl P ⟨d,.build t U,ty,p,af,g⟩ ρ s v:=by
 refine FR O9 ?_;unfold Instr.build;refine As (x:=zeroValue t) _ (G4 ac ?_);refine As _ _ (Cl Z ?_);refine As (x:=Go.sizeOf e) _ (EP ag ?_);have am:=Pj h al;have ap:(U.map λ(j,x)=>(j,ρ x)).toList=vs:=by rw [← am,Array.toList_map]
 rw [ap];cases Y:Instr.fill (λi=>some (i*K,K)) z.cells vs with
 | none=>rw [Y] at O;cases O
 | some cells=>rw [Y] at O;cases O;exact⟨rfl,rfl⟩
end
section
variable {e:TypeId}
end
section
variable {fuel:Nat}{listed:Array Bool}
variable {x y:Operand}{e:TypeId}{i:Nat}
end
def GW(b:Frame)(T:Av_)(ds:Ld_)(todo:Li_)(ch:List PanicEntry):Frame:={b with tmps:=T,todo:=todo,defers:=ds,mode:= .panicking ch}
def raised(v:Value):List PanicEntry:= [{v,recovered:=false}]
def taken(v:Value):List PanicEntry:= [{v,recovered:=true}]
section
variable (J:Judge P)(Q:Gs_)
def JP(b:Frame)(n:Nat)(L:Env)(ds:Ld_)(cs:Lf_)(ch:List PanicEntry)(s:St):Prop:=
 ∀T,Has n L T->∀todo,J.ok Q (G (GW b T ds todo ch) cs) s
end
variable {bc:Frame}{dsc:Ld_}{ch:List PanicEntry}{T Tc:Av_}{todoc:Li_}
section
variable {i:Nat}{x:Operand}
theorem JL.panic{t:TypeId}(O:ops[i]? =some ⟨d,.panic x,ty,p,af,g⟩)(U:b.roundOf=none)(hw:AJ L ops ⟨d,.panic x,ty,p,af,g⟩=some true)(Y:ev L x=some (.iface t v))
  (h:JP J Q b n L ds cs (raised (.iface t v)) s):JL J Q b n L ds (.inRegion ops (i::rest)::k) cs s:=λT K=>
 Judge.Dc V (λw=>by
  have he:execOp (Bz T) ⟨d,.panic x,ty,p,af,g⟩= .halt (.panic (.iface t v)):=by
   simp [execOp,Instr.panic,K.ev Y,goPanic,bind,Sem.bind]
  rw [stepG_op O (B7 K hw)]
  simp [U,stepG.apply,he,Sem.run,Sem.runT,Sem.events,GStep.after,fr,GW,Frame.raise,G,raised,seen_none]) (h T K (.inRegion ops (i::rest)::k))
theorem JP.pop{fn:Func}(K:P.funcs[b.fn]? =some fn)(h:J.ok Q (G (GW bc Tc dsc todoc ch) cs) s):JP J Q b n L [] (fr bc Tc dsc todoc::cs) ch s:=λT O todo=>
 Judge.Dc V (λw=>by simp [G,stepG,unwind,GW,fr,Frame.raise,Frame.catches,K]) h
theorem JP.Qk{f:FuncId}{fn:Func}{c:Code}{vs caps:Lv_}(ap:b.roundOf=none)(O:P.funcs[f]? =some fn)(Y:(fn.name== "runtime.NumGoroutine")=false)(hb:fn.body=some c)(Z:(vs++caps).length<=fn.ntmps)
  (h:∀T,Has n L T->∀todo,JL J Q (baseD f) fn.ntmps (Ga 0 (vs++caps)) [] [.code c] (GW b T ds todo ch::cs) s):JP J Q b n L (KA f vs.toArray caps.toArray::ds) cs ch s:=λT ac todo=>by
 have ag:¬fn.name= "runtime.NumGoroutine" :=by simpa using Y
 refine Judge.Dc rfl (λw=>?_) (h T ac todo ((vs++caps).toArray++Array.replicate (fn.ntmps - (vs++caps).length) undef) ⟨by simp;simp at Z;omega,λt v al=>?_⟩)
 ·rw [BM (b:=baseD f) rfl];have:=enter_atD (P:=P) (vs++caps).toArray O hb;simp only [List.size_toArray] at this;rw [← this];simp [G,stepG,unwind,callDeferred,GW,KA,invoke,callFunc,O,ag,hb,GStep.after,seen_none]
 ·obtain⟨_,K⟩:=JD al;have am:t<(vs++caps).length:=by
   rcases Nat.lt_or_ge t (vs++caps).length with U | U
   ·exact U
   ·simp only [Nat.sub_zero] at K;have:=(List.getElem?_eq_some_iff.1 K).1;omega
  rw [Array.getD_eq_getD_getElem?,Array.getElem?_append_left (by simpa using am)];simp only [Nat.sub_zero] at K;rw [List.getElem?_toArray,K];rfl
theorem Vw{ats:Array TypeId}{K:List PanicEntry}(O:ops[i]? =some ⟨d,.call ⟨.builtin .recover,#[],ats⟩,ty,p,af,g⟩)(U:b.roundOf=none)(Y:b.kind= .deferred)(ag:Bc n d=true)(hw:AJ L ops ⟨d,.call ⟨.builtin .recover,#[],ats⟩,ty,p,af,g⟩=some true)
  (h:JL J Q b n (Au L d v) ds (.inRegion ops rest::k) (GW bc Tc dsc todoc ({v,recovered:=true}::K)::cs) s):
  JL J Q b n L ds (.inRegion ops (i::rest)::k) (GW bc Tc dsc todoc ({v,recovered:=false}::K)::cs) s:=λT Z=>
 Judge.Dc V (λw=>by
  have he:execOp (Bz T) ⟨d,.call ⟨.builtin .recover,#[],ats⟩,ty,p,af,g⟩= .pure .recover:=by
   simp [execOp,resolve,Deferred.ofValue,invoke,bind,Sem.bind,pure,Go.builtin]
  have ac:=Gm (b:=b) (ds:=ds) (k:=k) T ops i rest v _ O
  simp only [fr,U,Y] at ac
  rw [stepG_op O (B7 Z hw)]
  simp [U,Y,stepG.apply,he,Sem.run,Sem.runT,Sem.events,GStep.after,fr,GW,tryRecover,G,seen_none,ac]) (h _ (Z.put ag _))
theorem Vj{ats:Array TypeId}(K:ops[i]? =some ⟨d,.call ⟨.builtin .recover,#[],ats⟩,ty,p,af,g⟩)(O:b.roundOf=none)(U:b.kind= .deferred)(ac:Bc n d=true)(hw:AJ L ops ⟨d,.call ⟨.builtin .recover,#[],ats⟩,ty,p,af,g⟩=some true)
  (h:JL J Q b n (Au L d .nilIface) ds (.inRegion ops rest::k) (Et bc Tc dsc todoc::cs) s):
  JL J Q b n L ds (.inRegion ops (i::rest)::k) (Et bc Tc dsc todoc::cs) s:=λT Y=>
 Judge.Dc V (λw=>by
  have he:execOp (Bz T) ⟨d,.call ⟨.builtin .recover,#[],ats⟩,ty,p,af,g⟩= .pure .recover:=by
   simp [execOp,resolve,Deferred.ofValue,invoke,bind,Sem.bind,pure,Go.builtin]
  have Z:=Gm (b:=b) (ds:=ds) (k:=k) T ops i rest .nilIface _ K
  simp only [fr,O,U] at Z
  rw [stepG_op K (B7 Y hw)]
  simp [O,U,stepG.apply,he,Sem.run,Sem.runT,Sem.events,GStep.after,fr,Et,tryRecover,G,seen_none,Z]) (h _ (Y.put ac _))
theorem JO.aB{fn:Func}(O:b.kind= .deferred)(U:P.funcs[b.fn]? =some fn)(K:fn.results= #[])(h:J.ok Q (G (Et bc Tc dsc todoc) cs) s):JO J Q b n L [] (GW bc Tc dsc todoc (taken v)::cs) s:=λT Z todo=>by
 refine Judge.Dc rfl (λw=>?_) h
 have Y:=results_none K T P w
 have e2:=λ(x:Array Event)=>events_results_none (P:=P) (w:=w) K T x
 simp [G,stepG,unwind,Et,GW,U,Y,e2,doReturn,O,GStep.after,seen_none,taken]
end
open Go.Proofs
abbrev Dq:=Int×Int×Int
abbrev Ay:=List Dq
abbrev AT:=List Ay
abbrev Bq:=List (List Int)
abbrev A5:=Bq×Ay
abbrev Az:=rP rI Dl
open Go.Proofs.Tryz
def AI:=AN Tryz.type3
def Bn:=AN Tryz.type27
def Fz:=AN Tryz.type101
def I5:=AN Tryz.type105
def MT:=AN Tryz.type227
def Bb:=CZ Tryz.underlying3
def LD:=A8 Tryz.func91 rfl
def FQ:=AN Tryz.type22
def F5:=CZ Tryz.underlying22
def Hw:=AN Tryz.type23
def Jy:=CZ Tryz.underlying23
def En:=CZ Tryz.underlying27
def BP:=Dr Tryz.type27
def GF:=AN Tryz.type28
def Kd:=CZ Tryz.underlying28
def KQ:=Dr Tryz.type105
def Ck:=AN Tryz.type25
def IH:=CZ Tryz.underlying105
def Hs:=Dr Tryz.type101
def Hu:=Dr Tryz.type77
def DZ:=CZ Tryz.underlying25
def DK:=AN Tryz.type77
def F6:=CZ Tryz.underlying77
def Ce:=Dr Tryz.type3
def Ke:=A8 Tryz.func70 rfl
def OO:=A8 Tryz.func84 rfl
def H0:=A8 Tryz.func74 rfl
def LJ:=AN Tryz.type4
def OI:=CZ Tryz.underlying4
def Bf:=AN Tryz.type80
def BC:=CZ Tryz.underlying80
def Hv:=AN Tryz.type197
def Ht:=A8 Tryz.func85 rfl
def LF:=Dr Tryz.type28
def LG:=Dr Tryz.type4
def MN:=A8 Tryz.func115 rfl
def KP:=Dr Tryz.type209
def HZ:=A8 Tryz.func204 rfl
def OV:=Dr Tryz.type80
def MJ:=CZ Tryz.underlying167
def OH:=CZ Tryz.underlying83
def OU:=A8 Tryz.func71 rfl
def OK:=A8 Tryz.func205 rfl
def ON:=A8 Tryz.func179 rfl
def OM:=A8 Tryz.func137 rfl
def MO:=A8 Tryz.func114 rfl
def Kc:=CZ Tryz.underlying197
def OQ:=Dr Tryz.type227
def MK:=CZ Tryz.underlying227
def Jz:=AN Tryz.type156
def MS:=Dr Tryz.type156
def ML:=CZ Tryz.underlying156
def G3:=CZ Tryz.underlying21
def MW:=AN Tryz.type85
def II:=Dr Tryz.type25
def MQ:=A8 Tryz.func67 rfl
def OJ:=A8 Tryz.func110 rfl
def MR:=A8 Tryz.func63 rfl
def OS:=A8 Tryz.func43 rfl
def OT:=A8 Tryz.func22 rfl
def OP:=A8 Tryz.func24 rfl
def LC:=A8 Tryz.func29 rfl
def MP:=A8 Tryz.func26 rfl
def JC:=AN Tryz.type72
def MM:=CZ Tryz.underlying72
def KR:=A8 Tryz.func36 rfl
def OR:=A8 Tryz.func37 rfl
theorem mixed:Tryz.prog.follows .mixedOrders=true:=rfl
theorem bY:B5 Tryz.prog 27 (rP rI (rP rI rI)) true 2:=B5.three underlying27 (B5.int underlying3 AI) (B5.int underlying3 AI) (B5.int underlying3 AI) (by decide+kernel) (by decide) (by decide) (by decide) V V V Bn
theorem aT:B5 Tryz.prog 101 (rP rI rI) true 2:=B5.two underlying101 (B5.int underlying3 AI) (B5.int underlying3 AI) (by decide+kernel) (by decide) (by decide) V V Fz
theorem aV:B5 Tryz.prog 105 (rA 5 rI) true 2:=B5.arr (kk:=5) (B5.int underlying3 AI) underlying105 I5
theorem aJ:B5 Tryz.prog 225 (rA 10 rI) true 2:=B5.arr (kk:=10) (B5.int underlying3 AI) underlying225 (AN type225)
theorem TJ:B5 Tryz.prog 227 (rA 5 (rA 10 rI)) true 3:=B5.arr (kk:=5) aJ underlying227 MT
theorem Z7:B5 Tryz.prog 249 (rP (rN .u8) (rA 5 (rA 10 rI))) true 4:=B5.two underlying249 ((B5.nat underlying5 (AN type5)).up (by decide)) TJ (by decide+kernel) (by decide) (by decide) V V (AN type249)
theorem IV:FJ Tryz.prog 3 rI false:=(B5.int underlying3 AI).key (by decide)
theorem Ig:FJ Tryz.prog 101 (rP rI rI) true:=aT.key (by decide)
theorem Ua:FJ Tryz.prog 227 (rA 5 (rA 10 rI)) true:=TJ.key (by decide)
theorem TO:FJ Tryz.prog 249 (rP (rN .u8) (rA 5 (rA 10 rI))) true:=Z7.key (by decide)
variable {J:Judge Tryz.prog}
def f91(fu_:Nat)(p0:Int)(p1:Int)(p2:Int):Option Bool:= Option.bind (if p1<=p0 then(some (decide (p0<=p2))) else(some false)) λK=> some K
theorem Mq{p0:Int}{p1:Int}{p2:Int}{fu_:Nat}{r:Bool}(K:f91 fu_ p0 p1 p2=some r):AQ J 91 [iV p0,iV p1,iV p2] E [] (λw E' B'=>w= .bool r/\B'= []):=by
 refine Bo func91 λQ aw cs H O Y=>?_;unfold f91 at K;obtain⟨Z,ac,ag⟩:=bs K;refine C 10 V (Eg 8 1 [] [(14,.bool Z)] (λay al am=>?_) (λU=>?_))
 ·refine C 2 V ?_;obtain rfl:=oi ag;exact A2 func91 V V (Y al V ⟨V,V⟩ am)
 ·refine GN 10 ac (λap aq=>?_) (λap av=>?_)
  ·refine C 4 V ?_;obtain rfl:=oi aq;exact U Aw O V
  ·refine C 4 V ?_;obtain rfl:=oi av;exact U Aw O V
def f86(fu_:Nat)(p0:Int×Int×Int)(p1:Int)(p2:Int):Option Int:= (Av (p1 - 1)).bind λK=> (f91 fu_ p0.1 0 K).bind λO=> Option.bind (if(!O)=true then(some true) else((Av (p1 - 1)).bind λU=> (f91 fu_ p0.2.1 0 U).bind λY=> some (!Y))) λZ=> if Z=true then(some 3) else(if p0.1=p0.2.1 then(some 8) else((f91 fu_ p0.2.2 1 p2).bind λac=> if(!ac)=true then(some 1) else(some 0)))
theorem bO{p0:Int×Int×Int}{p1:Int}{p2:Int}{fu_:Nat}{r:Int}(ag:f86 fu_ p0 p1 p2=some r):AQ J 86 [.agg #[iV p0.1,iV p0.2.1,iV p0.2.2],iV p1,iV p2] E [] (λw E' B'=>w=iV r/\B'= []):=by
 refine Bo func86 λQ ce cs H av Y=>?_;unfold f86 at ag;refine C 2 V (Du av λr2 ci Z U aw=>?_);refine C 6 V (Cb 0 U underlying27 AI Bb ?_);obtain⟨co,ay,az⟩:=bs ag;refine C 1 V (Cq ay V V V ?_);obtain⟨a0,a1,a2⟩:=bs az;refine Cy (Mq a1) V V LD aw λcp K al=>Am (v:= .bool (!a0)) V (λρ h=>Yl.not (h _ _ V)) ?_;obtain⟨a3,a4,a5⟩:=bs a2;refine C 1 V (Eg 14 1 [] [(2,iV p2),(3,Ak r2 0),(21,.bool a3)] (λct O ac=>?_) (λam=>?_))
 ·refine C 2 V (CF a5 (λa6 a7=>?_) (λa6 a8=>?_))
  ·refine C 4 V ?_;obtain rfl:=oi a7;exact A2 func86 V V (Y ((Z.Ad K).Ad O) V ⟨V,V⟩ ac)
  ·refine C 2 V (Cb 0 (U.Ah (K.Ad O)) underlying27 AI Bb ?_);refine Cb 1 (U.Ah (K.Ad O)) underlying27 AI Bb ?_;refine C 3 V (A0 a8 (λa9 bb=>?_) (λa9 be=>?_))
   ·refine C 4 V ?_;obtain rfl:=oi bb;exact A2 func86 V V (Y ((Z.Ad K).Ad O) V ⟨V,V⟩ ac)
   ·refine C 2 V (Cb 2 (U.Ah (K.Ad O)) underlying27 AI Bb ?_);obtain⟨bi,bn,bo⟩:=bs be;refine C 1 V (Cy (Mq bn) V V LD ac λcw ap aq=>?_);refine Am (v:= .bool (!bi)) V (λρ h=>Yl.not (h _ _ V)) (C 2 V ?_);refine CF bo (λbv bw=>?_) (λbv bx=>?_)
    ·refine C 4 V ?_;obtain rfl:=oi bw;exact A2 func86 V V (Y (((Z.Ad K).Ad O).Ad ap) V ⟨V,V⟩ aq)
    ·refine C 6 V ?_;obtain rfl:=oi bx;exact A2 func86 V V (Y (((Z.Ad K).Ad O).Ad ap) V ⟨V,V⟩ aq)
 ·refine DD 14 a4 (λbz b0=>?_) (λbz b1=>?_)
  ·refine C 7 V ?_;obtain rfl:=oi b0;exact am Aw al V
  ·refine Cb 1 (U.Ah K) underlying27 AI Bb ?_;obtain⟨cy,b2,b3⟩:=bs b1;refine C 1 V (Cq b2 V V V ?_);obtain⟨b4,b5,b6⟩:=bs b3;refine Cy (Mq b5) V V LD al λcN ca cc=>Am (v:= .bool (!b4)) V (λρ h=>Yl.not (h _ _ V)) (C 1 V ?_);obtain rfl:=oi b6;exact am ca cc V
def NQ(fu_:Nat)(O:List Int)(K:Int):Option (Br Int ((Int)⊕(Unit))):= if K<(O.length:Int) then((ix O K).bind λU=> (f91 fu_ U 1 9).bind λY=> if(!Y)=true then(some (.done (Sum.inl 1))) else((Av (K+1)).bind λZ=> some (.more Z))) else(some (.done (Sum.inr ())))
def N4(fu_:Nat)(p0:A5)(K:Int):Option (Br Int ((Int)⊕(Unit))):= if K<(p0.1.length:Int) then((ix p0.1 K).bind λO=> if 3<(O.length:Int) then(some (.done (Sum.inl 6))) else(Option.bind (iter (NQ fu_ O) fu_ 0) λU=> Sum.elim (λr=>some (.done (Sum.inl r))) (λZ=> (Av (K+1)).bind λY=> some (.more Y)) U)) else(some (.done (Sum.inr ())))
def TZ(fu_:Nat)(p0:A5)(K:Int):Option (Br Int ((Int)⊕(Unit))):= if K<(p0.2.length:Int) then((ix p0.2 K).bind λU=> (f86 fu_ U (p0.1.length:Int) 9).bind λO=> if O≠0 then(some (.done (Sum.inl O))) else((Av (K+1)).bind λY=> some (.more Y))) else(some (.done (Sum.inr ())))
def f47(fu_:Nat)(p0:A5):Option Int:= if(p0.1.length:Int)<2 then(some 7) else(if 5<(p0.1.length:Int) then(some 6) else(Option.bind (iter (N4 fu_ p0) fu_ 0) λK=> Sum.elim (λr=>some r) (λU=> if 8<(p0.2.length:Int) then(some 6) else(Option.bind (iter (TZ fu_ p0) fu_ 0) λO=> Sum.elim (λr=>some r) (λY=> some 0) O)) K))
theorem b7{a1:Aq}{c2:Nat}{aw:Aq}{ay:Nat}{p0:A5}(cw:Al (rL rI) E a1 c2 p0.1)(cy:Al Az E aw ay p0.2){fu_:Nat}{r:Int}(a8:f47 fu_ p0=some r):AQ J 47 [.agg #[sV a1 p0.1 c2,sV aw p0.2 ay]] E [] (λw E' B'=>w=iV r/\B'= []):=by
 refine Bo func47 λQ et cs H cN O=>?_;unfold f47 at a8;refine C 2 V (Du cN λY cO K Z az=>?_);refine C 5 V (Cb 0 Z underlying25 FQ F5 ?_);refine JL.ln underlying22 V V V (C 9 V ?_);refine A0 a8 (λcP cQ=>?_) (λcP cR=>?_)
 ·refine C 4 V ?_;obtain rfl:=oi cQ;exact A2 func47 V V (O K V ⟨V,V⟩ az)
 ·refine C 6 V (A0 cR (λcT cV=>?_) (λcT cW=>?_))
  ·refine C 4 V ?_;obtain rfl:=oi cV;exact A2 func47 V V (O K V ⟨V,V⟩ az)
  ·refine C 5 V (Cb 0 Z underlying25 FQ F5 ?_);refine JL.ln underlying22 V V V ?_;obtain⟨a9,cX,a0⟩:=bs cW;refine C 2 V (Bw (λL s=>∃(bb:Unit) (a2:LH),a9=Sum.inr bb/\Jm cO H a2 [] [(1,Ak Y 0)] L s) ?_ ?_)
   ·rintro _ _ ⟨bb,a2,rfl,rfl,rfl,U,be⟩;have cY:=elim_inr a0;refine C 3 V (Cb 1 (Z.Ah U) underlying25 Hw Jy ?_);refine JL.ln underlying23 V V V (C 2 V ?_);refine A0 cY (λcZ c0=>?_) (λcZ c1=>?_)
    ·refine C 4 V ?_;obtain rfl:=oi c0;exact A2 func47 V V (O (K.Ad U) V ⟨V,V⟩ be)
    ·refine C 4 V (Cb 1 (Z.Ah U) underlying25 Hw Jy ?_);refine JL.ln underlying23 V V V ?_;obtain⟨bi,c3,bn⟩:=bs c1;refine C 2 V (Bw (λL s=>∃(bo:Unit) (bv:LH),bi=Sum.inr bo/\Jm a2 H bv [] [] L s) ?_ ?_)
     ·rintro _ _ ⟨bo,bv,rfl,rfl,rfl,c4,c5⟩;have c6:=elim_inr bn;refine C 4 V ?_;obtain rfl:=oi c6;exact A2 func47 V V (O ((K.Ad U).Ad c4) V ⟨V,V⟩ c5)
     ·intro c7;refine JL.block (Ef c3 (λa3=> []) (λa3=> [(1,Ak Y 0),(46,sV aw p0.2 ay),(47,iV (p0.2.length:Int)),(48,iV a3)]) Aw be ?_);rintro a3 c8 ac bw bx ⟨eu,ap⟩ c9;have bz:=ap;unfold TZ at bz;refine C 5 V (A0 bz (λda db=>?_) (λda dc=>?_))
      ·obtain⟨ew,dd,de⟩:=bs db;refine C 5 V (JS.ix (cy.Ah ((K.Ad U).Ad ac)) dd underlying23 Bn ?_);rintro ex ey _ ⟨_,_,rfl,rfl,⟨_,_,rfl,rfl,rfl⟩⟩ df;refine B9 df En Bn V V (BT bw BP λez dg=>?_);refine BL 0 dg Bn λdh=>?_;refine Dp 0 dh V λeA a4 di dj=>C 3 V (B9 di En Bn V V ?_);refine Cb 0 (Z.Ah ((U.Ad ac).Ad a4)) underlying25 FQ F5 ?_;refine JL.ln underlying22 V V V ?_;obtain⟨eB,dk,dn⟩:=bs de;refine Cy (bO dk) V V (A8 func86 V) dj λeC b0 b1=>C 7 V (A0 dn (λdp dq=>?_) (λdp dr=>?_))
       ·refine C 5 V ?_;obtain rfl:=oi dq;obtain rfl:=bx _ ap;have dt:=elim_inl bn;obtain rfl:=oi dt;exact A2 func47 V V (O ((((K.Ad U).Ad ac).Ad a4).Ad b0) V ⟨V,V⟩ b1)
       ·obtain⟨du,dv,dw⟩:=bs dr;refine C 3 V (Bx dv V V V ?_);refine C 2 V ?_;obtain rfl:=oi dw;exact c9 du ((ac.Ad a4).Ad b0) b1 V ap
      ·refine JL.exit V ?_;obtain rfl:=oi dc;have dx:bi=(Sum.inr ()):=(bx _ ap).symm;exact AB (c7 _ _ ⟨(),c8,dx,V,V,ac,bw⟩) V
   ·intro dy;refine JL.block (Ef cX (λag=> []) (λag=> [(1,Ak Y 0),(21,sV a1 p0.1 c2),(22,iV (p0.1.length:Int)),(23,iV ag)]) Aw az ?_);rintro ag b2 al a5 a6 ⟨eD,am⟩ dz;have b3:=am;unfold N4 at b3;refine C 5 V (A0 b3 (λdA dB=>?_) (λdA dC=>?_))
    ·obtain⟨b4,dD,dE⟩:=bs dB;refine C 5 V (JS.ix (cw.Ah (K.Ad al)) dD underlying22 GF ?_);rintro eE eF _ ⟨dF,dG,rfl,dH⟩ dI;refine Di 0 dI Kd V V V (C 6 V ?_);refine JL.ln underlying28 V V V (C 2 V ?_);refine A0 dE (λdJ dK=>?_) (λdJ dL=>?_)
     ·refine C 4 V ?_;obtain rfl:=oi dK;obtain rfl:=a6 _ am;have dM:=elim_inl a0;obtain rfl:=oi dM;exact A2 func47 V V (O (K.Ad al) V ⟨V,V⟩ a5)
     ·refine C 4 V (JL.ln underlying28 V V V ?_);obtain⟨b5,dN,b6⟩:=bs dL;refine C 2 V (Bw (λL s=>∃(ca:Unit) (cc:LH),b5=Sum.inr ca/\Jm b2 H cc [] [(1,Ak Y 0),(21,sV a1 p0.1 c2),(22,iV (p0.1.length:Int)),(23,iV ag)] L s) ?_ ?_)
      ·rintro _ _ ⟨ca,cc,rfl,rfl,rfl,dO,dQ⟩;have dR:=elim_inr b6;obtain⟨dS,dT,dU⟩:=bs dR;refine C 2 V (Bx dT V V V ?_);refine C 2 V ?_;obtain rfl:=oi dU;exact dz dS (al.Ad dO) dQ V am
      ·intro dV;refine JL.block (Ef dN (λa7=> []) (λa7=> [(1,Ak Y 0),(21,sV a1 p0.1 c2),(22,iV (p0.1.length:Int)),(23,iV ag),(30,sV dF b4 dG),(31,iV (b4.length:Int)),(32,iV a7)]) Aw a5 ?_);rintro a7 dW aq ce ci ⟨eG,av⟩ dX;have co:=av;unfold NQ at co;refine C 5 V (A0 co (λdY dZ=>?_) (λdY ea=>?_))
       ·obtain⟨eH,eb,ec⟩:=bs dZ;refine C 5 V (JS.ix (dH.Ah aq) eb underlying28 AI ?_);rintro eI eJ _ rfl ed;refine Di 0 ed Bb V V V ?_;obtain⟨ee,ef,eg⟩:=bs ec;refine C 5 V (Cy (Mq ef) V V LD ce λeK cp ct=>?_);refine Am (v:= .bool (!ee)) V (λρ h=>Yl.not (h _ _ V)) (JL.done ?_);refine CF eg (λeh ei=>?_) (λeh ej=>?_)
        ·refine C 4 V ?_;obtain rfl:=oi ei;obtain rfl:=ci _ av;have ek:=elim_inl b6;obtain rfl:=oi ek;obtain rfl:=a6 _ am;have el:=elim_inl a0;obtain rfl:=oi el;exact A2 func47 V V (O (((K.Ad al).Ad aq).Ad cp) V ⟨V,V⟩ ct)
        ·obtain⟨em,en,eo⟩:=bs ej;refine C 3 V (Bx en V V V ?_);refine C 2 V ?_;obtain rfl:=oi eo;exact dX em (aq.Ad cp) ct V av
       ·refine JL.exit V ?_;obtain rfl:=oi ea;have ep:b5=(Sum.inr ()):=(ci _ av).symm;exact AB (dV _ _ ⟨(),dW,ep,V,V,aq,ce⟩) V
    ·refine JL.exit V ?_;obtain rfl:=oi dC;have er:a9=(Sum.inr ()):=(a6 _ am).symm;exact AB (dy _ _ ⟨(),b2,er,V,V,al,a5⟩) V
def Oa(fu_:Nat)(p0:A5)(O:(List Int)×Int):Option (Br ((List Int)×Int) ((List Int))):= if O.2<(p0.2.length:Int) then((ix p0.2 O.2).bind λK=> (ix O.1 K.2.1).bind λY=> (Av (Y+K.2.2)).bind λU=> (ix O.1 K.2.1).bind λal=> (ix (O.1.set (Int.toNat K.2.1) U) K.1).bind λZ=> (Av (Z - K.2.2)).bind λac=> (ix (O.1.set (Int.toNat K.2.1) U) K.1).bind λam=> (Av (O.2+1)).bind λag=> some (.more (((O.1.set (Int.toNat K.2.1) U).set (Int.toNat K.1) ac),ag))) else(some (.done O.1))
def f84(fu_:Nat)(p0:A5):Option ((List Int)):= Option.bind (iter (Oa fu_ p0) fu_ ((List.replicate 5 (0:Int)),0)) λK=> some K
theorem QE{a1:Aq}{c2:Nat}{a8:Aq}{a9:Nat}{p0:A5}(dr:Al (rL rI) E a1 c2 p0.1)(ce:Al Az E a8 a9 p0.2){fu_:Nat}{r:(List Int)}(bw:f84 fu_ p0=some r):AQ J 84 [.agg #[sV a1 p0.1 c2,sV a8 p0.2 a9]] E [] (λw E' B'=>∃(bx:Lv_),w= .agg bx.toArray/\B'= []/\(rA 5 rI).r E' bx r):=by
 refine Bo func84 λQ dt cs H ci co=>?_;unfold f84 at bw;refine C 2 V (Du ci λdu a2 bz cp ct=>?_);refine BT ct KQ λa3 cw=>?_;refine C 3 V (BT cw KQ λU cy=>?_);refine C 4 V (JL.fd underlying77 Ck V V V ?_);refine Cb 1 cp underlying25 Hw Jy ?_;refine JL.ln underlying23 V V V ?_;obtain⟨cN,cO,cP⟩:=bs bw;refine C 2 V (Bw (λL s=>∃(aw:LH) (Y:Lv_),Jn a2 H aw [bX a3 (([]:Lv_)++(List.replicate 5 (iV 0):Lv_)).toArray 105,bX U (([]:Lv_)++Y).toArray 105] [(2,Ak a3 0),(3,Ak U 0)] L s ((rA 5 rI).r aw Y cN)) ?_ ?_)
 ·rintro _ _ ⟨aw,Y,rfl,rfl,cQ,b0,ac⟩;refine C 2 V (Am (v:= .agg Y.toArray) V (λρ h=>H8 (kk:=5) (pp:=rI) ac IH I5 (h _ _ V) (GH (l:= []) 1 b0 V)) ?_);refine Hx (v:= .agg Y.toArray) (l:= []) (ws:=(List.replicate 5 (iV 0):Lv_)) (us:=Y) (o:=0) 0 V V V b0 V V V (by rw [Cc (kk:=5) (pp:=rI) ac];exact AN type105) ((rA 5 rI).one ac) V (by rw [Cc (kk:=5) (pp:=rI) ac,Cc (kk:=5) (pp:=rI) (GM (E:=aw) (pp:=rI) rfl)];omega) λb1=>?_;rw [JH (by rw [Cc (kk:=5) (pp:=rI) ac,Cc (kk:=5) (pp:=rI) (GM (E:=aw) (pp:=rI) rfl)])] at b1 ⊢;refine JL.done (JS.drop 1 b1 V λb2=>?_);obtain rfl:=oi cP;refine JL.ret (v:= .agg Y.toArray) V V (BB.list func84 V (vs:= [.agg Y.toArray]) ⟨⟨_,V,Ld.many (vs:=Y) IH (by rw [Cc (kk:=5) (pp:=rI) ac];exact AN type105) (GH (l:= []) 0 b2 V)⟩,trivial⟩) (Ez 0 b2 V λcR=>?_);exact co (bz.Ad cQ) V ⟨Y,V,V,ac⟩ cR
 ·intro cT;refine JL.block (C4 cO (λL s al=>∃(a4:LH) (am:Lv_),Jn a2 H a4 [bX a3 (([]:Lv_)++(List.replicate 5 (iV 0):Lv_)).toArray 105,bX U (([]:Lv_)++am).toArray 105] [(2,Ak a3 0),(3,Ak U 0),(8,sV a8 p0.2 a9),(9,iV (p0.2.length:Int)),(10,iV al.2)] L s ((rA 5 rI).r a4 am al.1)) ⟨a2,(List.replicate 5 (iV 0):Lv_),V,V,Aw,cy,(GM (E:=a2) (pp:=rI) V)⟩ ?_);rintro _ _ al ⟨a4,am,rfl,rfl,bb,b3,ap⟩ cV ⟨dv,be⟩ cW;have b4:=be;unfold Oa at b4;refine C 5 V (A0 b4 (λcX cY=>?_) (λcX cZ=>?_))
  ·obtain⟨K,c0,c1⟩:=bs cY;refine C 5 V (JS.ix (ce.Ah (bz.Ad bb)) c0 underlying23 Bn ?_);rintro dw dx _ ⟨_,_,rfl,rfl,⟨_,_,rfl,rfl,rfl⟩⟩ c3;refine B9 c3 En Bn V V (BT b3 BP λdy c4=>?_);refine BL 2 c4 Bn λc5=>?_;refine Dp 2 c5 V λbi aq a5 ay=>C 2 V (Fu 6 [U] ⟨⟨1,_,V⟩,trivial⟩ ay λO=>?_);refine JG.fd 0 O underlying27 AI V V V V (JG.lp 1 O 1 a5 ay ⟨⟨1,_,V⟩,trivial⟩ Bb ?_);obtain⟨c6,b5,c7⟩:=bs c1;obtain⟨_,rfl,_,_,c8⟩:=HA (kk:=5) (pp:=rI) (Rp.Ah _ aq ap) b5;refine AK (v:= .pointer (some ⟨U,0+Int.toNat (K.2.1)*1,none⟩)) 2 O V V (λρ h s' az=>Jc (kk:=5) (pp:=rI) (Rp.Ah _ aq ap) b5 underlying105 AI (h _ _ V) (h _ _ V)) (AK (v:=iV c6) 3 O V V (λρ h s' az=>Yl.load Bb (h _ _ V) (Ng (l:= []) 1 ay V (by simp [AG]) az (c8 0 _ V))) ?_);refine JG.fd 4 O underlying27 AI V V V V (JG.lp 5 O 2 a5 ay ⟨⟨1,_,V⟩,trivial⟩ Bb ?_);refine Dd [6,7,8] ?_;obtain⟨Z,c9,da⟩:=bs c7;refine Bx c9 V V V ?_;obtain⟨dz,bn,db⟩:=bs da;obtain⟨_,rfl,_,_,dA⟩:=HA (kk:=5) (pp:=rI) (Rp.Ah _ aq ap) bn;refine Am (v:= .pointer (some ⟨U,0+Int.toNat (K.2.1)*1,none⟩)) V (λρ h=>Jc (kk:=5) (pp:=rI) (Rp.Ah _ aq ap) bn underlying105 AI (h _ _ V) (h _ _ V)) ?_;have a6:=Oc (us:= [iV Z]) (y:=Z) (Rp.Ah _ aq ap) bn V;refine Hx (v:=iV Z) (l:= []) (ws:=am) (us:= [iV Z]) (o:=Int.toNat (K.2.1)*1) 1 V V V ay V V V AI (by simp [Value.cells,De]) V a6.2 λav=>?_;replace a6:=a6.1;generalize dc:It am (Int.toNat (K.2.1)*1) [iV Z]=bo at av ⊢;have a0:(rA 5 rI).r bi bo (al.1.set (Int.toNat K.2.1) Z):=by rw [← dc];exact a6
   refine JL.done (Fu 6 [U] ⟨⟨1,_,V⟩,trivial⟩ av λO=>?_);refine JG.fd 0 O underlying27 AI V V V V (JG.lp 1 O 0 a5 av ⟨⟨1,_,V⟩,trivial⟩ Bb ?_);obtain⟨dd,b6,de⟩:=bs db;obtain⟨_,rfl,_,_,df⟩:=HA (kk:=5) (pp:=rI) a0 b6;refine AK (v:= .pointer (some ⟨U,0+Int.toNat (K.1)*1,none⟩)) 2 O V V (λρ h s' az=>Jc (kk:=5) (pp:=rI) a0 b6 underlying105 AI (h _ _ V) (h _ _ V)) (AK (v:=iV dd) 3 O V V (λρ h s' az=>Yl.load Bb (h _ _ V) (Ng (l:= []) 1 av V (by simp [AG]) az (df 0 _ V))) ?_);refine JG.fd 4 O underlying27 AI V V V V (JG.lp 5 O 2 a5 av ⟨⟨1,_,V⟩,trivial⟩ Bb ?_);refine Dd [6,7,8] ?_;obtain⟨ag,dg,dh⟩:=bs de;refine Cq dg V V V ?_;obtain⟨dB,bv,di⟩:=bs dh;obtain⟨_,rfl,_,_,dC⟩:=HA (kk:=5) (pp:=rI) a0 bv;refine Am (v:= .pointer (some ⟨U,0+Int.toNat (K.1)*1,none⟩)) V (λρ h=>Jc (kk:=5) (pp:=rI) a0 bv underlying105 AI (h _ _ V) (h _ _ V)) ?_;have a7:=Oc (us:= [iV ag]) (y:=ag) a0 bv V;refine Hx (v:=iV ag) (l:= []) (ws:=bo) (us:= [iV ag]) (o:=Int.toNat (K.1)*1) 1 V V V av V V V AI (by simp [Value.cells,De]) V a7.2 λca=>?_;replace a7:=a7.1;generalize dj:It bo (Int.toNat (K.1)*1) [iV ag]=cc at ca ⊢;have dk:(rA 5 rI).r bi cc ((al.1.set (Int.toNat K.2.1) Z).set (Int.toNat K.1) ag):=by rw [← dj];exact a7
   obtain⟨dn,dp,dq⟩:=bs di;refine C 3 V (Bx dp V V V ?_);refine C 2 V ?_;obtain rfl:=oi dq;exact AB (cW _ _ (((al.1.set (Int.toNat K.2.1) Z).set (Int.toNat K.1) ag),dn) ⟨bi,cc,V,V,(bb.Ad aq),ca,dk⟩ be) V
  ·refine JL.exit V ?_;obtain rfl:=oi cZ;obtain rfl:=cV _ be;exact AB (cT _ _ ⟨a4,am,V,V,bb,b3,ap⟩) V
def f204(fu_:Nat)(p0:List Int)(p1:Int×Int×Int):Option ((List Int)):= (ix p0 p1.1).bind λO=> (Av (O+p1.2.2)).bind λK=> (ix p0 p1.1).bind λZ=> (ix (p0.set (Int.toNat p1.1) K) p1.2.1).bind λU=> (Av (U - p1.2.2)).bind λY=> (ix (p0.set (Int.toNat p1.1) K) p1.2.1).bind λac=> some ((p0.set (Int.toNat p1.1) K).set (Int.toNat p1.2.1) Y)
theorem Ii{w1:Lv_}{p0:List Int}{p1:Int×Int×Int}(al:(rA 5 rI).r E w1 p0){fu_:Nat}{r:(List Int)}(a4:f204 fu_ p0 p1=some r):AQ J 204 [.agg w1.toArray,.agg #[iV p1.1,iV p1.2.1,iV p1.2.2]] E [] (λw E' B'=>∃(a5:Lv_),w= .agg a5.toArray/\B'= []/\(rA 5 rI).r E' a5 r):=by
 refine Bo func204 λQ ci cs H bb be=>?_;unfold f204 at a4;refine C 2 V (JS.box (v:= .agg w1.toArray) V V V bb V λr3 bi=>?_);refine Du bi λco av Z aw bn=>?_;refine BT bn KQ λcp am=>?_;refine C 2 V (Fu 6 [r3] ⟨⟨1,_,V⟩,trivial⟩ am λK=>?_);refine JG.fd 0 K underlying27 AI V V V V (JG.lp 1 K 0 aw am ⟨⟨1,_,V⟩,trivial⟩ Bb ?_);obtain⟨bo,a6,bv⟩:=bs a4;obtain⟨_,rfl,_,_,bw⟩:=HA (kk:=5) (pp:=rI) (Rp.Ah _ Z al) a6;refine AK (v:= .pointer (some ⟨r3,0+Int.toNat (p1.1)*1,none⟩)) 2 K V V (λρ h s' ap=>Jc (kk:=5) (pp:=rI) (Rp.Ah _ Z al) a6 underlying105 AI (h _ _ V) (h _ _ V)) (AK (v:=iV bo) 3 K V V (λρ h s' ap=>Yl.load Bb (h _ _ V) (Ng (l:= []) 1 am V (by simp [AG]) ap (bw 0 _ V))) ?_);refine JG.fd 4 K underlying27 AI V V V V (JG.lp 5 K 2 aw am ⟨⟨1,_,V⟩,trivial⟩ Bb ?_);refine Dd [6,7,8] ?_;obtain⟨U,bx,bz⟩:=bs bv;refine Bx bx V V V ?_;obtain⟨ct,a0,b0⟩:=bs bz;obtain⟨_,rfl,_,_,cw⟩:=HA (kk:=5) (pp:=rI) (Rp.Ah _ Z al) a0;refine Am (v:= .pointer (some ⟨r3,0+Int.toNat (p1.1)*1,none⟩)) V (λρ h=>Jc (kk:=5) (pp:=rI) (Rp.Ah _ Z al) a0 underlying105 AI (h _ _ V) (h _ _ V)) ?_;have ay:=Oc (us:= [iV U]) (y:=U) (Rp.Ah _ Z al) a0 V;refine Hx (v:=iV U) (l:= []) (ws:=w1) (us:= [iV U]) (o:=Int.toNat (p1.1)*1) 1 V V V am V V V AI (by simp [Value.cells,De]) V ay.2 λac=>?_;replace ay:=ay.1;generalize b1:It w1 (Int.toNat (p1.1)*1) [iV U]=a1 at ac ⊢;have aq:(rA 5 rI).r av a1 (p0.set (Int.toNat p1.1) U):=by rw [← b1];exact ay
 refine C 2 V (Fu 6 [r3] ⟨⟨1,_,V⟩,trivial⟩ ac λK=>?_);refine JG.fd 0 K underlying27 AI V V V V (JG.lp 1 K 1 aw ac ⟨⟨1,_,V⟩,trivial⟩ Bb ?_);obtain⟨b2,a7,b3⟩:=bs b0;obtain⟨_,rfl,_,_,b4⟩:=HA (kk:=5) (pp:=rI) aq a7;refine AK (v:= .pointer (some ⟨r3,0+Int.toNat (p1.2.1)*1,none⟩)) 2 K V V (λρ h s' ap=>Jc (kk:=5) (pp:=rI) aq a7 underlying105 AI (h _ _ V) (h _ _ V)) (AK (v:=iV b2) 3 K V V (λρ h s' ap=>Yl.load Bb (h _ _ V) (Ng (l:= []) 1 ac V (by simp [AG]) ap (b4 0 _ V))) ?_);refine JG.fd 4 K underlying27 AI V V V V (JG.lp 5 K 2 aw ac ⟨⟨1,_,V⟩,trivial⟩ Bb ?_);refine Dd [6,7,8] ?_;obtain⟨ag,b5,b6⟩:=bs b3;refine Cq b5 V V V ?_;obtain⟨cy,a2,ca⟩:=bs b6;obtain⟨_,rfl,_,_,cN⟩:=HA (kk:=5) (pp:=rI) aq a2;refine Am (v:= .pointer (some ⟨r3,0+Int.toNat (p1.2.1)*1,none⟩)) V (λρ h=>Jc (kk:=5) (pp:=rI) aq a2 underlying105 AI (h _ _ V) (h _ _ V)) ?_;have az:=Oc (us:= [iV ag]) (y:=ag) aq a2 V;refine Hx (v:=iV ag) (l:= []) (ws:=a1) (us:= [iV ag]) (o:=Int.toNat (p1.2.1)*1) 1 V V V ac V V V AI (by simp [Value.cells,De]) V az.2 λa3=>?_;replace az:=az.1;generalize cc:It a1 (Int.toNat (p1.2.1)*1) [iV ag]=O at a3 ⊢;have Y:(rA 5 rI).r av O ((p0.set (Int.toNat p1.1) U).set (Int.toNat p1.2.1) ag):=by rw [← cc];exact az
 refine C 3 V (Am (v:= .agg O.toArray) V (λρ h=>H8 (kk:=5) (pp:=rI) Y IH I5 (h _ _ V) (GH (l:= []) 1 a3 V)) ?_);refine Hx (v:= .agg O.toArray) (l:= []) (ws:=(List.replicate 5 (iV 0):Lv_)) (us:=O) (o:=0) 3 V V V a3 V V V (by rw [Cc (kk:=5) (pp:=rI) Y];exact AN type105) ((rA 5 rI).one Y) V (by rw [Cc (kk:=5) (pp:=rI) Y,Cc (kk:=5) (pp:=rI) (GM (E:=av) (pp:=rI) rfl)];omega) λa8=>?_;rw [JH (by rw [Cc (kk:=5) (pp:=rI) Y,Cc (kk:=5) (pp:=rI) (GM (E:=av) (pp:=rI) rfl)])] at a8 ⊢;refine JL.done (JS.drop 1 a8 V λa9=>?_);obtain rfl:=oi ca;refine JL.ret (v:= .agg O.toArray) V V (BB.list func204 V (vs:= [.agg O.toArray]) ⟨⟨_,V,Ld.many (vs:=O) IH (by rw [Cc (kk:=5) (pp:=rI) Y];exact AN type105) (GH (l:= []) 3 a9 V)⟩,trivial⟩) (Ez 3 a9 V λce=>?_);exact be Z V ⟨O,V,V,Y⟩ ce
def f106(fu_:Nat)(p0:Int)(p1:Int):Option Nat:= (Av (max p0 p1 - 1)).bind λK=> (ix ([1,2,4,8]:List Nat) K).bind λO=> (Av (4*(min p0 p1))).bind λU=> (P7 O U).bind λY=> some Y
theorem ZN{p0:Int}{p1:Int}{fu_:Nat}{r:Nat}(K:f106 fu_ p0 p1=some r):AQ J 106 [iV p0,iV p1] E [] (λw E' B'=>w= .int .u32 ((r:Nat):Int)/\B'= []):=by
 refine Bo func106 λQ aw cs H O U=>?_;unfold f106 at K;refine C 8 V (Am (v:=iV (min p0 p1)) V (λρ h=>Yl.min2 (h _ _ V) (h _ _ V)) ?_);refine C 2 V (Am (v:=iV (max p0 p1)) V (λρ h=>Yl.max2 (h _ _ V) (h _ _ V)) ?_);refine C 5 V (Am (v:= .agg (([1,2,4,8]:List Nat).map λx=>Value.int .u32 ((x:Nat):Int)).toArray) V (λρ h=>Y5 h underlying164 (Dr type164) (AN type86) V V) ?_);obtain⟨ay,Y,Z⟩:=bs K;refine C 1 V (Cq Y V V V ?_);obtain⟨az,ac,ag⟩:=bs Z;refine T7 (Yt (E:=E) ([1,2,4,8]:List Nat)) ac V V V V V underlying164 (AN type86) (CZ underlying86) ?_ (λ_=>V);rintro _ rfl;obtain⟨a0,al,am⟩:=bs ag;refine C 1 V (Am V (λρ h=>NJ (h _ _ V) (h _ _ V) al) ?_);obtain⟨ap,aq,av⟩:=bs am;refine Am (v:= .int .u32 ((ap:Nat):Int)) V (λρ h=>WB (h _ _ V) (h _ _ V) aq) (C 2 V ?_);obtain rfl:=oi av;exact A2 func106 V V (U Aw V ⟨V,V⟩ O)
def f136(fu_:Nat)(p0:Nat)(p1:Int)(p2:Int):Option Bool:= (f106 fu_ p1 p2).bind λK=> (Qd p0 K).bind λO=> some (decide ((((O):Nat):Int)≠(((0):Nat):Int)))
theorem ZD{p0:Nat}{p1:Int}{p2:Int}{fu_:Nat}{r:Bool}(K:f136 fu_ p0 p1 p2=some r):AQ J 136 [.int .u32 ((p0:Nat):Int),iV p1,iV p2] E [] (λw E' B'=>w= .bool r/\B'= []):=by
 refine Bo func136 λQ aq cs H O U=>?_;unfold f136 at K;obtain⟨av,Y,Z⟩:=bs K;refine C 9 V (Cy (ZN Y) V V (A8 func106 V) O λaw ac ag=>?_);obtain⟨al,am,ap⟩:=bs Z;refine Am (v:= .int .u32 ((al:Nat):Int)) V (λρ h=>W1 (h _ _ V) (h _ _ V) am) (C 3 V ?_);obtain rfl:=oi ap;exact A2 func136 V V (U ac V ⟨V,V⟩ ag)
def NA(fu_:Nat)(O:(AE)×Int)(K:(AE)×Int):Option (Br ((AE)×Int) ((AE))):= if K.2<O.2 then((room K.1 (K.2,O.2)).bind λU=> (Av (K.2+1)).bind λY=> some (.more (U,Y))) else(some (.done K.1))
def Nu(fu_:Nat)(p0:A5)(K:(AE)×Int):Option (Br ((AE)×Int) ((AE))):= if K.2<(p0.1.length:Int) then(Option.bind (iter (NA fu_ K) fu_ (K.1,0)) λO=> (Av (K.2+1)).bind λU=> some (.more (O,U))) else(some (.done K.1))
def f133(fu_:Nat)(p0:A5):Option ((AE)):= Option.bind (iter (Nu fu_ p0) fu_ ([],0)) λK=> some K
theorem Zw{a1:Aq}{c2:Nat}{a8:Aq}{a9:Nat}{p0:A5}(dn:Al (rL rI) E a1 c2 p0.1)(dp:Al Az E a8 a9 p0.2){fu_:Nat}{r:(AE)}(bb:f133 fu_ p0=some r):AQ J 133 [.agg #[sV a1 p0.1 c2,sV a8 p0.2 a9]] E [] (λw E' B'=>∃(be:Aq) (bi:Nat),w= sV be r bi/\B'= []/\Al Dl E' be bi r):=by
 refine Bo func133 λQ dq cs H b3 b4=>?_;unfold f133 at bb;refine C 2 V (Du b3 λdr a2 b5 b6 ca=>?_);refine C 9 V (JL.fd underlying77 Ck V V V ?_);refine Cb 0 b6 underlying25 FQ F5 ?_;refine JL.ln underlying22 V V V ?_;obtain⟨bn,cc,ce⟩:=bs bb;refine C 2 V (Bw (λL s=>∃(a3:LH) (ap:Aq) (aq:Nat) (a4:Seg),Jn a2 H a3 [a4] [(3,sV ap bn aq)] L s (OL 101 Dl a3 ap aq a4 bn)) ?_ ?_)
 ·rintro _ _ ⟨a3,ap,aq,a4,rfl,rfl,ci,co,cp⟩;refine C 5 V (Cm 0 cp co V λdt ct cw cy=>?_);obtain rfl:=oi ce;exact A2 func133 V V (b4 ((b5.Ad ci).Ad ct) V ⟨ap,aq,V,V,cw⟩ cy)
 ·intro cN;refine JL.block (C4 cc (λL s K=>∃(O:LH) (Y:Aq) (Z:Nat) (ac:Seg),Jn a2 H O [ac] [(3,sV Y K.1 Z),(9,iV (p0.1.length:Int)),(10,iV K.2)] L s (OL 101 Dl O Y Z ac K.1)) ⟨a2,none,0,[],V,V,Aw,ca,OL.nil⟩ ?_);rintro _ _ K ⟨O,Y,Z,ac,rfl,rfl,bo,bv,bw⟩ cO ⟨du,a5⟩ cP;have bx:=a5;unfold Nu at bx;refine C 5 V (A0 bx (λcQ cR=>?_) (λcQ cT=>?_))
  ·obtain⟨a6,cV,cW⟩:=bs cR;refine C 13 V (Bw (λL s=>∃(av:LH) (aw:Aq) (ay:Nat) (az:Seg),Jn O H av [az] [(3,sV aw a6 ay),(9,iV (p0.1.length:Int)),(10,iV K.2)] L s (OL 101 Dl av aw ay az a6)) ?_ ?_)
   ·rintro _ _ ⟨av,aw,ay,az,rfl,rfl,cX,cY,cZ⟩;obtain⟨c0,c1,c3⟩:=bs cW;refine C 2 V (Bx c1 V V V ?_);refine C 2 V ?_;obtain rfl:=oi c3;exact AB (cP _ _ (a6,c0) ⟨av,aw,ay,az,V,V,(bo.Ad cX),cY,cZ⟩ a5) V
   ·intro c4;refine JL.block (C4 cV (λL s U=>∃(ag:LH) (al:Aq) (am:Nat) (a0:Seg),Jn O H ag [a0] [(3,sV al U.1 am),(4,iV K.2),(9,iV (p0.1.length:Int)),(10,iV K.2),(13,iV K.2),(14,iV U.2)] L s (OL 101 Dl ag al am a0 U.1)) ⟨O,Y,Z,ac,V,V,Aw,bv,bw⟩ ?_);rintro _ _ U ⟨ag,al,am,a0,rfl,rfl,bz,b0,b1⟩ c5 ⟨dv,a7⟩ c6;have b2:=a7;unfold NA at b2;refine C 5 V (A0 b2 (λc7 c8=>?_) (λc7 c9=>?_))
    ·refine C 12 V (Am (v:= .agg #[iV U.2,iV K.2]) V (λρ h=>C3 [(0,1),(1,1)] h Hs underlying101 ⟨V,AN type3,V,AN type3,trivial⟩ V V) ?_);obtain⟨da,db,dc⟩:=bs c8;refine JS.app (pp:=Dl) (v:= .agg #[iV U.2,iV K.2]) (a:=al) (c:=am) 0 db V V V V (λ_=>V) V (λ_=>V) V V V underlying167 underlying167 underlying167 Fz (Ed type101) Hs V (by decide) (by decide) (by decide) (by decide) b1 ⟨_,_,V,V,V⟩ b0 V λdw dd de df dg dh=>?_;obtain⟨di,dj,dk⟩:=bs dc;refine C 4 V (Bx dj V V V ?_);refine C 2 V ?_;obtain rfl:=oi dk;exact AB (c6 _ _ (da,di) ⟨ag,dd,de,df,V,V,bz,dh,dg⟩ a7) V
    ·refine JL.exit V ?_;obtain rfl:=oi c9;obtain rfl:=c5 _ a7;exact AB (c4 _ _ ⟨ag,al,am,a0,V,V,bz,b0,b1⟩) V
  ·refine JL.exit V ?_;obtain rfl:=oi cT;obtain rfl:=cO _ a5;exact AB (cN _ _ ⟨O,Y,Z,ac,V,V,bo,bv,bw⟩) V
def f113(fu_:Nat)(p0:Int×Int×Int)(p1:Int×Int×Int):Option Int:= if p0.1≠p1.1 then((Av (p0.1 - p1.1)).bind λK=> some K) else(if p0.2.1≠p1.2.1 then((Av (p0.2.1 - p1.2.1)).bind λO=> some O) else((Av (p0.2.2 - p1.2.2)).bind λU=> some U))
theorem TM{p0:Int×Int×Int}{p1:Int×Int×Int}{fu_:Nat}{r:Int}(ag:f113 fu_ p0 p1=some r):AQ J 113 [.agg #[iV p0.1,iV p0.2.1,iV p0.2.2],.agg #[iV p1.1,iV p1.2.1,iV p1.2.2]] E [] (λw E' B'=>w=iV r/\B'= []):=by
 refine Bo func113 λQ a6 cs H al Y=>?_;unfold f113 at ag;refine C 2 V (Du al λr2 a7 Z O am=>?_);refine Du am λa8 a9 K U ac=>?_;refine C 6 V (Cb 0 (O.Ah K) underlying27 AI Bb ?_);refine Cb 0 U underlying27 AI Bb ?_;refine C 3 V (A0 ag (λap aq=>?_) (λap av=>?_))
 ·refine C 2 V (Cb 0 (O.Ah K) underlying27 AI Bb ?_);refine Cb 0 U underlying27 AI Bb ?_;obtain⟨bb,aw,ay⟩:=bs aq;refine Cq aw V V V (C 2 V ?_);obtain rfl:=oi ay;exact A2 func113 V V (Y (Z.Ad K) V ⟨V,V⟩ ac)
 ·refine C 2 V (Cb 1 (O.Ah K) underlying27 AI Bb ?_);refine Cb 1 U underlying27 AI Bb ?_;refine C 3 V (A0 av (λaz a0=>?_) (λaz a1=>?_))
  ·refine C 2 V (Cb 1 (O.Ah K) underlying27 AI Bb ?_);refine Cb 1 U underlying27 AI Bb ?_;obtain⟨be,a2,a3⟩:=bs a0;refine Cq a2 V V V (C 2 V ?_);obtain rfl:=oi a3;exact A2 func113 V V (Y (Z.Ad K) V ⟨V,V⟩ ac)
  ·refine C 4 V (Cb 2 (O.Ah K) underlying27 AI Bb ?_);refine Cb 2 U underlying27 AI Bb ?_;obtain⟨bi,a4,a5⟩:=bs a1;refine Cq a4 V V V (C 2 V ?_);obtain rfl:=oi a5;exact A2 func113 V V (Y (Z.Ad K) V ⟨V,V⟩ ac)
def NR(fu_:Nat)(p0:List Int)(K:Int×Int):Option (Br (Int×Int) Int):= if K.2<(p0.length:Int) then((ix p0 K.2).bind λO=> (Av (K.1+O)).bind λU=> (Av (K.2+1)).bind λY=> some (.more (U,Y))) else(some (.done K.1))
def f85(fu_:Nat)(p0:List Int):Option Int:= Option.bind (iter (NR fu_ p0) fu_ (0,0)) λK=> some K
theorem HM{a1:Aq}{c2:Nat}{p0:List Int}(ag:Al rI E a1 c2 p0){fu_:Nat}{r:Int}(Y:f85 fu_ p0=some r):AQ J 85 [sV a1 p0 c2] E [] (λw E' B'=>w=iV r/\B'= []):=by
 refine Bo func85 λQ bv cs H al am=>?_;unfold f85 at Y;refine C 12 V (JL.ln underlying28 V V V ?_);obtain⟨ap,aq,av⟩:=bs Y;refine C 2 V (EW [] [(3,iV ap)] (λbw aw ay=>?_) (λaz=>?_))
 ·refine C 5 V ?_;obtain rfl:=oi av;exact A2 func85 V V (am aw V ⟨V,V⟩ ay)
 ·refine JL.block (Ef aq (λK=> []) (λK=> [(3,iV K.1),(6,sV a1 p0 c2),(7,iV (p0.length:Int)),(8,iV K.2)]) Aw al ?_);rintro K bx O Z a0 ⟨bz,U⟩ a2;have ac:=U;unfold NR at ac;refine C 5 V (A0 ac (λa3 a4=>?_) (λa3 a5=>?_))
  ·obtain⟨b0,a6,a7⟩:=bs a4;refine C 5 V (JS.ix (ag.Ah O) a6 underlying28 AI ?_);rintro b1 b2 _ rfl a8;refine Di 0 a8 Bb V V V ?_;obtain⟨a9,bb,be⟩:=bs a7;refine C 5 V (Bx bb V V V ?_);obtain⟨bi,bn,bo⟩:=bs be;refine C 4 V (Bx bn V V V ?_);refine C 2 V ?_;obtain rfl:=oi bo;exact a2 (a9,bi) O Z V U
  ·refine JL.exit V ?_;obtain rfl:=oi a5;obtain rfl:=a0 _ U;exact az O Z V
end Pal
namespace Pal
open Go Go.Conc
variable {P:Program}{Q:Gs_}{b:Frame}{n:Nat}{ds:Ld_}{ops:Ao_}{k:Li_}{cs:Lf_}{L:Env}{E H:LH}{S:List Seg}
variable {d:Option Tmp}{w:Operand}{t u ty:TypeId}{p:String}{af:Ae_}{g:On_}{rest:List Nat}{s:St}{ρ:Operand->Value}
section
variable {J:Judge P}
variable {x y:Operand}{e:TypeId}{i:Nat}
theorem Al.cF{α:Type}{pp:Rp α}{kk bk o:Nat}{ws:Lv_}{xs ys:List α}{hi:Int}(U:At E bk o ws)(O:(rA kk pp).r E ws xs)(hC:GR xs 0 hi=some ys):Al pp E (some ⟨bk,o,none⟩) kk ys:=by
 have ag:=O.1;unfold GR at hC;split at hC
 ·rename_i hb;cases hC;refine⟨by simp;omega,.inr ⟨bk,o,V,λq z K=>?_⟩⟩;simp only [Int.toNat_zero,List.drop_zero,List.getElem?_take] at K;split at K
  ·have Y:ix xs (q:Int)=some z:=by unfold ix;rw [if_pos (by omega)];simpa using K
   obtain⟨us,Z,ac,_,_⟩:=b9 O U Y;exact⟨us,Z,by simpa using ac⟩
  ·cases K
 ·cases hC
theorem Ys{α:Type}{pp:Rp α}{kk bk o:Nat}{ws:Lv_}{xs ys:List α}{hi:Int}(U:At E bk o ws)(K:(rA kk pp).r E ws xs)(hC:GR xs 0 hi=some ys)
  (Y:ops[i]? =some ⟨d,.slice t x none (some w) none,ty,p,af,g⟩) (hw:AJ L ops ⟨d,.slice t x none (some w) none,ty,p,af,g⟩=some true) (Z:BK b n ⟨d,.slice t x none (some w) none,ty,p,af,g⟩=true)
  (ac:ev L x=some (.pointer (some ⟨bk,o,none⟩))) (ag:ev L w=some (iV hi)) (al:P.underlying t=some (.array kk e)) (am:Bj P e=some pp.n)
  (h:Al pp E (some ⟨bk,o,none⟩) kk ys->JL J Q b n (Au L d (.slice (some ⟨bk,o,none⟩) ys.length kk)) ds (.inRegion ops rest::k) cs s):
  JL J Q b n L ds (.inRegion ops (i::rest)::k) cs s:=by
 have ap:=Al.cF U K hC;have aw:=K.1;refine AY Y hw Z (λρ O=>?_) (h ap);refine FR (sm:=Instr.sliceAt t (ρ x) none (some (ρ w)) none) V ?_;rw [O _ _ ac,O _ _ ag];unfold GR at hC;split at hC
 ·rename_i hb;cases hC;obtain⟨ay,az,a0⟩:=hb;unfold Instr.sliceAt;refine As _ _ (Cl al ?_);simp only [Instr.sureAddr,bind,Sem.bind,pure];have aq:Instr.sliceBounds false kk kk none (some (iV hi)) none=(pure (0,hi.toNat,kk):Sem _):=by
   simp only [Instr.sliceBounds,Instr.sliceBound,asIntOf,bind,Sem.bind,pure];rw [if_pos (by omega)];rfl
  rw [aq];simp only [pure,Sem.bind];refine As (x:=Go.sizeOf e) _ (EP am ?_);have av:(if kk=0 then(⟨bk,o,none⟩:Addr) else Addr.add ⟨bk,o,none⟩ (0*pp.n))=⟨bk,o,none⟩:=by
   split
   ·rfl
   ·rw [DO rfl];simp
  rw [av];have e2:((xs.take hi.toNat).drop (0:Int).toNat).length=hi.toNat - 0:=by simp;omega
  rw [e2];exact⟨V,V⟩
 ·cases hC
theorem WJ{a:Option Addr}{l c:Nat}(K:P.underlying t=some (.slice e))(O:ρ x= .slice a l c)(U:ρ (.const (.slice none 0 0))= .slice none 0 0):Yl P ⟨d,.binOp .neq t x (.const (.slice none 0 0)) u,ty,p,af,g⟩ ρ s (.bool (!a.isNone)):=by
 have Y:∀o,eqGuard o t x (.const (.slice none 0 0)) (.slice a l c) (.slice none 0 0)=Sem.pure ():=λo=>by cases o <;> rfl
 refine FR (sm:=do eqGuard .neq t x (.const (.slice none 0 0)) (ρ x) (ρ (.const (.slice none 0 0)));binOp .neq t (ρ x) (ρ (.const (.slice none 0 0)))) V ?_
 rw [O,U,Y];simp only [bind,Sem.bind];have hb:binOp .neq t (.slice a l c) (.slice none 0 0)=(do pure (.bool (!(← Op.equal t (.slice a l c) (.slice none 0 0))))):=V
 rw [hb];refine As (x:=Op.equal t _ _) _ ?_;unfold Op.equal Op.maxDepth Op.equalIn;refine As _ _ (Cl K ?_);cases a with
 | none=>exact⟨rfl,rfl⟩
 | some ad=>exact⟨rfl,rfl⟩
end
open Go.Proofs Go.Proofs.Tryz
variable {J:Judge Tryz.prog}
def Uf(fu_:Nat)(p0:A5)(p1:List Int)(K:Int):Option (Br Int ((A5×Int)⊕(Unit))):= if K<(p1.length:Int) then((ix p1 K).bind λO=> (Av ((p0.1.length:Int) - 1)).bind λU=> (f91 fu_ O 0 U).bind λY=> if(!Y)=true then(some (.done (Sum.inl (([],[]),3)))) else((Av (K+1)).bind λZ=> some (.more Z))) else(some (.done (Sum.inr ())))
def f70(fu_:Nat)(p0:A5)(p1:List Int):Option (A5×Int):= (f47 fu_ p0).bind λK=> if K≠0 then(some (([],[]),K)) else(Option.bind (iter (Uf fu_ p0 p1) fu_ 0) λO=> Sum.elim (λr=>some r) (λac=> Option.bind (if(p1.length:Int)=2 then((ix p1 (0)).bind λU=> (ix p1 (1)).bind λY=> some (decide (U=Y))) else(some false)) λZ=> if Z=true then(some (([],[]),8)) else(some (p0,0))) O)
theorem Ks{a1:Aq}{c2:Nat}{Y:Aq}{Z:Nat}{al:Aq}{am:Nat}{p0:A5}{p1:List Int}(a4:Al (rL rI) E a1 c2 p0.1)(a5:Al Az E Y Z p0.2)(aw:Al rI E al am p1){fu_:Nat}{r:A5×Int}(a6:f70 fu_ p0 p1=some r):AQ J 70 [.agg #[sV a1 p0.1 c2,sV Y p0.2 Z],sV al p1 am] E [] (λw E' B'=>∃(a7:Aq) (a8:Nat) (a9:Aq) (bb:Nat),w= .tuple #[.agg #[sV a7 r.1.1 a8,sV a9 r.1.2 bb],iV r.2]/\B'= []/\Al (rL rI) E' a7 a8 r.1.1/\Al Az E' a9 bb r.1.2):=by
 refine Bo func70 λQ dB cs H ce aq=>?_;unfold f70 at a6;refine C 2 V (Du ce λay dC K az ci=>?_);refine BT ci Hu λag co=>?_;refine C 5 V (B9 az DZ Ck V V ?_);obtain⟨be,cp,ct⟩:=bs a6;refine Cy (b7 (a4.Ah K) (a5.Ah K) cp) V V (A8 func47 V) co λcw O bi=>C 7 V (A0 ct (λcy cN=>?_) (λcy cO=>?_))
 ·refine C 2 V (Am (v:= .agg #[nS,nS]) V (λρ h=>C3 [(0,2)] h Hu underlying77 ⟨V,AN type25,trivial⟩ V V) ?_);refine C 1 V (BL 2 bi DK λbn=>?_);refine C 2 V ?_;obtain rfl:=oi cN;refine JL.ret (v:= .tuple #[.agg #[nS,nS],iV be]) V V (BB.list func70 V (vs:= [.agg #[nS,nS],iV be]) ⟨⟨_,V,Ld.many (vs:= [nS,nS]) F6 DK (G5 (off:=0) 2 bn V V)⟩,V,trivial⟩) (Ez 2 bn V λcP=>?_);exact aq (K.Ad O) V ⟨none,0,none,0,V,V,Al.nil,Al.nil⟩ cP
 ·refine C 5 V (JL.ln underlying28 V V V ?_);obtain⟨bo,cQ,bv⟩:=bs cO;refine C 2 V (Bw (λL s=>∃(bw:Unit) (a0:LH),bo=Sum.inr bw/\Jm cw H a0 [bX ag #[nS,nS] 77] [(1,sV al p1 am),(2,Ak ay 0),(4,Ak ag 0)] L s) ?_ ?_)
  ·rintro _ _ ⟨bw,a0,rfl,rfl,rfl,ac,bx⟩;have cR:=elim_inr bv;refine C 2 V (EV 12 λU=>?_);refine C8 0 U V V (AK 1 U V V (λρ h s' dD=>Yl.len V underlying28 (h _ _ V)) ?_);refine Ba U V [2,3] V ?_;obtain⟨cT,bz,cV⟩:=bs cR;refine Gp 0 #[true,true,true,true,true,true,true,true,true,true,true,true] (λL s=>L= [(2,Ak ay 0),(4,Ak ag 0),(41,.bool cT)]/\s=Aj a0 H [bX ag #[nS,nS] 77]) ?_ ?_
   ·rintro _ _ ⟨rfl,rfl⟩;refine AL.fin (by decide+kernel) (CF cV (λcW cX=>?_) (λcW cY=>?_))
    ·refine C 2 V (Am (v:= .agg #[nS,nS]) V (λρ h=>C3 [(0,2)] h Hu underlying77 ⟨V,AN type25,trivial⟩ V V) ?_);refine BL 0 bx DK λb0=>?_;refine C 2 V ?_;obtain rfl:=oi cX;refine JL.ret (v:= .tuple #[.agg #[nS,nS],iV 8]) V V (BB.list func70 V (vs:= [.agg #[nS,nS],iV 8]) ⟨⟨_,V,Ld.many (vs:= [nS,nS]) F6 DK (G5 (off:=0) 0 b0 V V)⟩,V,trivial⟩) (Ez 0 b0 V λcZ=>?_);exact aq ((K.Ad O).Ad ac) V ⟨none,0,none,0,V,V,Al.nil,Al.nil⟩ cZ
    ·refine C 3 V (B9 (az.Ah (O.Ad ac)) DZ Ck V V ?_);refine Am (v:= .agg #[sV a1 p0.1 c2,sV Y p0.2 Z]) V (λρ h=>C3 [(0,2)] h Hu underlying77 ⟨V,AN type25,trivial⟩ V V) (BL 0 bx DK λb1=>?_);refine C 2 V ?_;obtain rfl:=oi cY;refine JL.ret (v:= .tuple #[.agg #[sV a1 p0.1 c2,sV Y p0.2 Z],iV 0]) V V (BB.list func70 V (vs:= [.agg #[sV a1 p0.1 c2,sV Y p0.2 Z],iV 0]) ⟨⟨_,V,Ld.many (vs:= [sV a1 p0.1 c2,sV Y p0.2 Z]) F6 DK (G5 (off:=0) 0 b1 V V)⟩,V,trivial⟩) (Ez 0 b1 V λc0=>?_);exact aq ((K.Ad O).Ad ac) V ⟨a1,c2,Y,Z,V,V,(a4.Ah ((K.Ad O).Ad ac)),(a5.Ah ((K.Ad O).Ad ac))⟩ c0
   ·intro b2;refine G6 (q:=(p1.length:Int)=2) (i:=33) V (λa2=>?_) (λa2=>?_)
    ·have c1:=ip bz a2;refine C8 4 U V V ?_;obtain⟨dE,c3,c4⟩:=bs c1;refine FG 5 (aw.Ah ((K.Ad O).Ad ac)) c3 U underlying28 AI ?_;rintro dF dG _ rfl c5;refine Dz 6 U 0 c5 Bb V V V V ?_;refine C8 7 U V V ?_;obtain⟨dH,c6,c7⟩:=bs c4;refine FG 8 (aw.Ah ((K.Ad O).Ad ac)) c6 U underlying28 AI ?_;rintro dI dJ _ rfl c8;refine Dz 9 U 0 c8 Bb V V V V ?_;refine Ba U V [10,11] V ?_;obtain rfl:=oi c7;refine Ep ?_ (b2 _ _ ⟨V,V⟩);exact⟨V,V,V,trivial⟩
    ·have c9:=im bz a2;refine Ba U V [4,5,6,7,8,9,10,11] V ?_;obtain rfl:=oi c9;refine Ep ?_ (b2 _ _ ⟨V,V⟩);exact⟨V,V,V,trivial⟩
  ·intro da;refine JL.block (Ef cQ (λa3=> [bX ag #[nS,nS] 77]) (λa3=> [(1,sV al p1 am),(2,Ak ay 0),(4,Ak ag 0),(15,sV al p1 am),(16,iV (p1.length:Int)),(17,iV a3)]) Aw bi ?_);rintro a3 db ap b3 b4 ⟨dK,av⟩ dc;have b5:=av;unfold Uf at b5;refine C 5 V (A0 b5 (λdd de=>?_) (λdd df=>?_))
   ·obtain⟨dL,dg,dh⟩:=bs de;refine C 5 V (JS.ix (aw.Ah ((K.Ad O).Ad ap)) dg underlying28 AI ?_);rintro dM dN _ rfl di;refine Di 0 di Bb V V V (C 5 V ?_);refine Cb 0 (az.Ah (O.Ad ap)) underlying25 FQ F5 ?_;refine JL.ln underlying22 V V V ?_;obtain⟨dO,dj,dk⟩:=bs dh;refine Cq dj V V V ?_;obtain⟨dn,dp,dq⟩:=bs dk;refine Cy (Mq dp) V V LD b3 λdQ b6 ca=>Am (v:= .bool (!dn)) V (λρ h=>Yl.not (h _ _ V)) (JL.done ?_);refine CF dq (λdr dt=>?_) (λdr du=>?_)
    ·refine C 2 V (Am (v:= .agg #[nS,nS]) V (λρ h=>C3 [(0,2)] h Hu underlying77 ⟨V,AN type25,trivial⟩ V V) ?_);refine BL 0 ca DK λcc=>?_;refine C 2 V ?_;obtain rfl:=oi dt;obtain rfl:=b4 _ av;have dv:=elim_inl bv;obtain rfl:=oi dv;refine JL.ret (v:= .tuple #[.agg #[nS,nS],iV 3]) V V (BB.list func70 V (vs:= [.agg #[nS,nS],iV 3]) ⟨⟨_,V,Ld.many (vs:= [nS,nS]) F6 DK (G5 (off:=0) 0 cc V V)⟩,V,trivial⟩) (Ez 0 cc V λdw=>?_);exact aq (((K.Ad O).Ad ap).Ad b6) V ⟨none,0,none,0,V,V,Al.nil,Al.nil⟩ dw
    ·obtain⟨dx,dy,dz⟩:=bs du;refine C 3 V (Bx dy V V V ?_);refine C 2 V ?_;obtain rfl:=oi dz;exact dc dx (ap.Ad b6) ca V av
   ·refine JL.exit V ?_;obtain rfl:=oi df;have dA:bo=(Sum.inr ()):=(b4 _ av).symm;exact AB (da _ _ ⟨(),db,dA,V,V,ap,b3⟩) V
def Mx(fu_:Nat)(p0:List Int):Option ((List Int)):= (Eh ([]:List Int) p0).bind λK=> some K
theorem Zm{ad:Addr}{c2:Nat}{p0:List Int}(Y:Al rI E (some ad) c2 p0){fu_:Nat}{r:(List Int)}(K:Mx fu_ p0=some r):AQ J 87 [.slice (some ad) p0.length c2] E [] (λw E' B'=>∃(O:Aq) (U:Nat) (g0:Seg),w= sV O r U/\B'=g0/\OL 3 rI E' O U g0 r):=by
 refine Bo func87 λQ a0 cs H Z ac=>?_;unfold Mx at K;refine C 8 V (Am (v:= .bool false) V (λρ h=>Nf (a:=(some ad)) underlying28 (h _ _ V) (h _ _ V)) ?_);refine C 5 V (Tt (pp:=rI) V V V underlying28 AI Z λr1 g2 ag al=>?_);obtain⟨a1,am,ap⟩:=bs K;refine C 1 V (JM (pp:=rI) 1 am V V V V V V V underlying28 underlying28 AI (Ed type3) Ce V (by decide) (by decide) ag Y al V λaq av aw ay az=>?_);refine C 2 V ?_;obtain rfl:=oi ap;exact A2 func87 V V (ac Aw V ⟨aq,av,aw,V,(by first | rfl | simp | (simp [Value.cells])),ay⟩ az)
def UK(fu_:Nat)(p0:List Int):Option ((List Int)):= some ([])
theorem ZS{c2:Nat}{p0:List Int}(ac:Al rI E none c2 p0){fu_:Nat}{r:(List Int)}(K:UK fu_ p0=some r):AQ J 87 [sV none p0 c2] E [] (λw E' B'=>∃(O:Aq) (U:Nat) (g0:Seg),w= sV O r U/\B'=g0/\OL 3 rI E' O U g0 r):=by
 refine Bo func87 λQ ag cs H Y Z=>?_;unfold UK at K;refine C 8 V (Am (v:= .bool true) V (λρ h=>Nf (a:=none) underlying28 (h _ _ V) (h _ _ V)) ?_);refine C 6 V ?_;obtain rfl:=oi K;exact A2 func87 V V (Z Aw V ⟨none,0,[],V,V,OL.nil⟩ Y)
def f87(fu_:Nat)(p0:List Int):Option (List Int):=Mx fu_ p0
theorem bm{a1:Aq}{c2:Nat}{p0:List Int}(O:Al rI E a1 c2 p0){fu_:Nat}{r:List Int}(K:f87 fu_ p0=some r):AQ J 87 [.slice a1 p0.length c2] E [] (λw E' B'=>∃(U:Aq) (Y:Nat) (g0:Seg),w= .slice U r.length Y/\B'=g0/\OL 3 rI E' U Y g0 r):=by
 cases a1 with
 | some ad=>exact Zm O K
 | none=>
  have Z:p0= []:=by
   rcases O.2 with h | ⟨_,_,h,_⟩
   ·exact h.1
   ·cases h
  subst Z;have ac:r= []:=by
   have ag:Mx fu_ []=some []:=V;unfold f87 at K;rw [ag] at K;exact(Option.some.inj K).symm
  subst ac;exact ZS (fu_:=fu_) O V
def Mt(fu_:Nat)(p0:Ay):Option (Ay):= (Eh ([]:Ay) p0).bind λK=> some K
theorem Yd{ad:Addr}{c2:Nat}{p0:Ay}(Y:Al Az E (some ad) c2 p0){fu_:Nat}{r:Ay}(K:Mt fu_ p0=some r):AQ J 129 [.slice (some ad) p0.length c2] E [] (λw E' B'=>∃(O:Aq) (U:Nat) (g0:Seg),w= sV O r U/\B'=g0/\OL 27 Az E' O U g0 r):=by
 refine Bo func129 λQ a0 cs H Z ac=>?_;unfold Mt at K;refine C 8 V (Am (v:= .bool false) V (λρ h=>Nf (a:=(some ad)) underlying80 (h _ _ V) (h _ _ V)) ?_);refine C 5 V (Tt (pp:=Az) V V V underlying80 Bn Z λr1 g2 ag al=>?_);obtain⟨a1,am,ap⟩:=bs K;refine C 1 V (JM (pp:=Az) 1 am V V V V V V V underlying80 underlying80 Bn (Ed type27) BP V (by decide) (by decide) ag Y al V λaq av aw ay az=>?_);refine C 2 V ?_;obtain rfl:=oi ap;exact A2 func129 V V (ac Aw V ⟨aq,av,aw,V,(by first | rfl | simp | (simp [Value.cells])),ay⟩ az)
def Uo(fu_:Nat)(p0:Ay):Option (Ay):= some ([])
theorem YN{c2:Nat}{p0:Ay}(ac:Al Az E none c2 p0){fu_:Nat}{r:Ay}(K:Uo fu_ p0=some r):AQ J 129 [sV none p0 c2] E [] (λw E' B'=>∃(O:Aq) (U:Nat) (g0:Seg),w= sV O r U/\B'=g0/\OL 27 Az E' O U g0 r):=by
 refine Bo func129 λQ ag cs H Y Z=>?_;unfold Uo at K;refine C 8 V (Am (v:= .bool true) V (λρ h=>Nf (a:=none) underlying80 (h _ _ V) (h _ _ V)) ?_);refine C 6 V ?_;obtain rfl:=oi K;exact A2 func129 V V (Z Aw V ⟨none,0,[],V,V,OL.nil⟩ Y)
def f129(fu_:Nat)(p0:Ay):Option Ay:=Mt fu_ p0
theorem aH{a1:Aq}{c2:Nat}{p0:Ay}(O:Al Az E a1 c2 p0){fu_:Nat}{r:Ay}(K:f129 fu_ p0=some r):AQ J 129 [.slice a1 p0.length c2] E [] (λw E' B'=>∃(U:Aq) (Y:Nat) (g0:Seg),w= .slice U r.length Y/\B'=g0/\OL 27 Az E' U Y g0 r):=by
 cases a1 with
 | some ad=>exact Yd O K
 | none=>
  have Z:p0= []:=by
   rcases O.2 with h | ⟨_,_,h,_⟩
   ·exact h.1
   ·cases h
  subst Z;have ac:r= []:=by
   have ag:Mt fu_ []=some []:=V;unfold f129 at K;rw [ag] at K;exact(Option.some.inj K).symm
  subst ac;exact YN (fu_:=fu_) O V
def f43(fu_:Nat)(p0:A5):Option ((List Int)×Int):= (f70 fu_ p0 ([])).bind λK=> if K.2≠0 then(some ([],K.2)) else((f84 fu_ K.1).bind λO=> (GR O 0 (p0.1.length:Int)).bind λU=> (f87 fu_ U).bind λY=> some (Y,0))
theorem QC{a1:Aq}{c2:Nat}{ac:Aq}{ag:Nat}{p0:A5}(a3:Al (rL rI) E a1 c2 p0.1)(a4:Al Az E ac ag p0.2){fu_:Nat}{r:(List Int)×Int}(al:f43 fu_ p0=some r):AQ J 43 [.agg #[sV a1 p0.1 c2,sV ac p0.2 ag]] E [] (λw E' B'=>∃(am:Aq) (ap:Nat),w= .tuple #[sV am r.1 ap,iV r.2]/\B'= []/\Al rI E' am ap r.1):=by
 refine Bo func43 λQ cP cs H a5 aq=>?_;unfold f43 at al;refine C 2 V (Du a5 λcQ cR U av a6=>?_);refine C 5 V (B9 av DZ Ck V V ?_);obtain⟨cT,a7,a8⟩:=bs al;refine BU (Ks (a3.Ah U) (a4.Ah U) Al.nil a7) V V Ke a6 ?_;rintro _ cV _ Y ⟨cW,cX,cY,cZ,rfl,rfl,a9,bb⟩ be;refine C 3 V (BT be Hu λc0 bi=>?_);refine BL 3 bi DK λbn=>?_;refine Dp 3 bn V λc1 K bo aw=>C 8 V (A0 a8 (λbv bw=>?_) (λbv bx=>?_))
 ·refine C 6 V ?_;obtain rfl:=oi bw;exact A2 func43 V V (aq ((U.Ad Y).Ad K) V ⟨none,0,V,V,Al.nil⟩ aw)
 ·refine C 3 V (B9 bo F6 DK V V ?_);obtain⟨c3,bz,b0⟩:=bs bx;refine BU (QE (a9.Ah K) (bb.Ah K) bz) V V OO aw ?_;rintro _ ay _ az ⟨Z,rfl,rfl,O⟩ b1;refine BT b1 KQ λc4 b2=>?_;refine Hx (v:= .agg Z.toArray) (l:= []) (ws:=(List.replicate 5 (iV 0):Lv_)) (us:=Z) (o:=0) 5 V V V b2 V V V (by rw [Cc (kk:=5) (pp:=rI) O];exact AN type105) ((rA 5 rI).one O) V (by rw [Cc (kk:=5) (pp:=rI) O,Cc (kk:=5) (pp:=rI) (GM (E:=ay) (pp:=rI) rfl)];omega) λa0=>?_;rw [JH (by rw [Cc (kk:=5) (pp:=rI) O,Cc (kk:=5) (pp:=rI) (GM (E:=ay) (pp:=rI) rfl)])] at a0 ⊢;refine C 3 V (Cb 0 (av.Ah ((Y.Ad K).Ad az)) underlying25 FQ F5 ?_);refine JL.ln underlying22 V V V (Dp 5 a0 V λc5 a2 b3 b4=>?_);obtain⟨c6,b5,b6⟩:=bs b0;refine Ys (ws:=Z) (pp:=rI) b3 (Rp.Ah _ a2 O) b5 V V V V V underlying105 AI λca=>?_;obtain⟨c7,cc,ce⟩:=bs b6;refine BU (bm ca cc) V V (A8 func87 V) b4 ?_;rintro _ c8 c9 ci ⟨co,cp,_,rfl,rfl,ct⟩ cw;refine C 3 V (Cm 6 ct cw V λda cy cN cO=>?_);obtain rfl:=oi ce;exact A2 func43 V V (aq ((((((U.Ad Y).Ad K).Ad az).Ad a2).Ad ci).Ad cy) V ⟨co,cp,V,V,cN⟩ cO)
def Nv(fu_:Nat)(p0:Ay)(p1:Ay)(K:Int):Option (Br Int ((Int)⊕(Unit))):= if K<(p0.length:Int) then((ix p0 K).bind λU=> if(p1.length:Int)<=K then(some (.done (Sum.inl 1))) else((ix p1 K).bind λY=> (f113 fu_ U Y).bind λO=> if O≠0 then(some (.done (Sum.inl O))) else((Av (K+1)).bind λZ=> some (.more Z)))) else(some (.done (Sum.inr ())))
def f112(fu_:Nat)(p0:Ay)(p1:Ay):Option Int:= Option.bind (iter (Nv fu_ p0 p1) fu_ 0) λK=> Sum.elim (λr=>some r) (λO=> if(p0.length:Int)<(p1.length:Int) then(some (-1)) else(some 0)) K
theorem aj{a1:Aq}{c2:Nat}{U:Aq}{Y:Nat}{p0:Ay}{p1:Ay}(a9:Al Az E a1 c2 p0)(bb:Al Az E U Y p1){fu_:Nat}{r:Int}(aw:f112 fu_ p0 p1=some r):AQ J 112 [sV a1 p0 c2,sV U p1 Y,(fV 113)] E [] (λw E' B'=>w=iV r/\B'= []):=by
 refine Bo func112 λQ c5 cs H be Z=>?_;unfold f112 at aw;refine C 8 V (JL.ln underlying80 V V V ?_);obtain⟨ay,bi,ag⟩:=bs aw;refine C 2 V (Bw (λL s=>∃(az:Unit) (a0:LH),ay=Sum.inr az/\Jm E H a0 [] [(0,sV a1 p0 c2),(1,sV U p1 Y)] L s) ?_ ?_)
 ·rintro _ _ ⟨az,a0,rfl,rfl,rfl,a2,a3⟩;have bn:=elim_inr ag;refine C 4 V (JL.ln underlying80 V V V ?_);refine C 1 V (JL.ln underlying80 V V V ?_);refine C 2 V (A0 bn (λbo bv=>?_) (λbo bw=>?_))
  ·refine C 4 V ?_;obtain rfl:=oi bv;exact A2 func112 V V (Z a2 V ⟨V,V⟩ a3)
  ·refine C 5 V ?_;obtain rfl:=oi bw;exact A2 func112 V V (Z a2 V ⟨V,V⟩ a3)
 ·intro bx;refine JL.block (Ef bi (λal=> []) (λal=> [(0,sV a1 p0 c2),(1,sV U p1 Y),(2,(fV 113)),(11,sV a1 p0 c2),(12,iV (p0.length:Int)),(13,iV al)]) Aw be ?_);rintro al bz K a4 am ⟨c6,O⟩ b0;have a5:=O;unfold Nv at a5;refine C 5 V (A0 a5 (λb1 b2=>?_) (λb1 b3=>?_))
  ·obtain⟨ap,b4,b5⟩:=bs b2;refine C 6 V (JS.ix (a9.Ah K) b4 underlying80 Bn ?_);rintro c7 c8 _ ⟨_,_,rfl,rfl,⟨_,_,rfl,rfl,rfl⟩⟩ b6;refine B9 b6 En Bn V V (BT a4 BP λc9 ca=>?_);refine C 1 V (BL 0 ca Bn λcc=>?_);refine Dp 0 cc V λda ac ce a6=>C 6 V (JL.ln underlying80 V V V ?_);refine C 2 V (A0 b5 (λci co=>?_) (λci cp=>?_))
   ·refine C 4 V ?_;obtain rfl:=oi co;obtain rfl:=am _ O;have ct:=elim_inl ag;obtain rfl:=oi ct;exact A2 func112 V V (Z (K.Ad ac) V ⟨V,V⟩ a6)
   ·obtain⟨aq,cw,cy⟩:=bs cp;refine C 5 V (JS.ix (bb.Ah (K.Ad ac)) cw underlying80 Bn ?_);rintro db dc _ ⟨_,_,rfl,rfl,⟨_,_,rfl,rfl,rfl⟩⟩ cN;refine B9 cN En Bn V V (BT a6 BP λdd cO=>?_);refine BL 1 cO Bn λcP=>?_;refine Dp 1 cP V λde av cQ cR=>C 4 V (B9 (ce.Ah av) En Bn V V ?_);refine B9 cQ En Bn V V ?_;obtain⟨df,cT,cV⟩:=bs cy;refine K4 (vs:= [.agg #[iV ap.1,iV ap.2.1,iV ap.2.2],.agg #[iV aq.1,iV aq.2.1,iV aq.2.2]]) (TM cT) V V V V (A8 func113 V) V cR ?_;rintro _ dg _ a7 ⟨rfl,rfl⟩ a8;refine C 7 V (A0 cV (λcW cX=>?_) (λcW cY=>?_))
    ·refine C 5 V ?_;obtain rfl:=oi cX;obtain rfl:=am _ O;have cZ:=elim_inl ag;obtain rfl:=oi cZ;exact A2 func112 V V (Z (((K.Ad ac).Ad av).Ad a7) V ⟨V,V⟩ a8)
    ·obtain⟨c0,c1,c3⟩:=bs cY;refine C 3 V (Bx c1 V V V ?_);refine C 2 V ?_;obtain rfl:=oi c3;exact b0 c0 (((K.Ad ac).Ad av).Ad a7) a8 V O
  ·refine JL.exit V ?_;obtain rfl:=oi b3;have c4:ay=(Sum.inr ()):=(am _ O).symm;exact AB (bx _ _ ⟨(),bz,c4,V,V,K,a4⟩) V
def f74(fu_:Nat)(p0:Ay)(p1:Ay):Option Int:= (f112 fu_ p0 p1).bind λK=> some K
theorem Ip{a1:Aq}{c2:Nat}{K:Aq}{O:Nat}{p0:Ay}{p1:Ay}(Y:Al Az E a1 c2 p0)(Z:Al Az E K O p1){fu_:Nat}{r:Int}(U:f74 fu_ p0 p1=some r):AQ J 74 [sV a1 p0 c2,sV K p1 O] E [] (λw E' B'=>w=iV r/\B'= []):=by
 refine Bo func74 λQ av cs H ac ag=>?_;unfold f74 at U;obtain⟨aw,al,am⟩:=bs U;refine C 8 V (Cy (aj Y Z al) V V (A8 func112 V) ac λay ap aq=>?_);refine C 2 V ?_;obtain rfl:=oi am;exact A2 func74 V V (ag ap V ⟨V,V⟩ aq)
def f73(fu_:Nat)(p0:Ay)(p1:Ay):Option Bool:= (f74 fu_ p0 p1).bind λK=> some (decide (K<0))
theorem br{a1:Aq}{c2:Nat}{K:Aq}{O:Nat}{p0:Ay}{p1:Ay}(Y:Al Az E a1 c2 p0)(Z:Al Az E K O p1){fu_:Nat}{r:Bool}(U:f73 fu_ p0 p1=some r):AQ J 73 [sV a1 p0 c2,sV K p1 O] E [] (λw E' B'=>w= .bool r/\B'= []):=by
 refine Bo func73 λQ av cs H ac ag=>?_;unfold f73 at U;obtain⟨aw,al,am⟩:=bs U;refine C 8 V (Cy (Ip Y Z al) V V H0 ac λay ap aq=>?_);refine C 3 V ?_;obtain rfl:=oi am;exact A2 func73 V V (ag ap V ⟨V,V⟩ aq)
def f72(fu_:Nat)(p0:Ay×Bool)(p1:Ay):Option ((Ay×Bool)):= Option.bind (if(!p0.2)=true then(some true) else((f73 fu_ p1 p0.1).bind λK=> some K)) λO=> Option.bind (if O=true then(some (p1,true)) else(some p0)) λU=> some U
theorem bV{bk:Nat}{a1:Aq}{c2:Nat}{K:Aq}{O:Nat}{p0:Ay×Bool}{p1:Ay}(ap:Al Az E a1 c2 p0.1)(aq:Al Az E K O p1){fu_:Nat}{r:(Ay×Bool)}(av:f72 fu_ p0 p1=some r):AQ J 72 [Ak bk 0,sV K p1 O,(fV 73)] E [(bk,.cells #[sV a1 p0.1 c2,.bool p0.2] 82 (0,0))] (λw E' B'=>∃(aw:Aq) (ay:Nat),w= .tuple #[]/\B'= [(bk,.cells #[sV aw r.1 ay,.bool r.2] 82 (0,0))]/\Al Az E' aw ay r.1):=by
 refine Bo func72 λQ b6 cs H Y a3=>?_;unfold f72 at av;refine C 4 V (JL.fd underlying82 LJ V V V ?_);refine Am (v:= .bool p0.2) V (λρ h=>Yl.load OI (h _ _ V) (BY (j:=0) (off:=1) Y V V)) (Am (v:= .bool (!p0.2)) V (λρ h=>Yl.not (h _ _ V)) ?_);obtain⟨a4,a5,a6⟩:=bs av;refine C 1 V (G8 [] (λL s=>∃(U:LH),Jm E H U [bX bk #[sV a1 p0.1 c2,.bool p0.2] 82] [(0,Ak bk 0),(1,sV K p1 O),(19,.bool a4)] L s) ?_ ?_)
 ·rintro _ _ ⟨U,rfl,rfl,ag,az⟩;obtain⟨al,a7,a8⟩:=bs a6;refine JL.done (Bw (λL s=>∃(am:LH) (Z:Aq) (ac:Nat),Jn U H am [bX bk #[sV Z al.1 ac,.bool al.2] 82] [] L s (Al Az am Z ac al.1)) ?_ ?_)
  ·rintro _ _ ⟨am,Z,ac,rfl,rfl,a9,bb,be⟩;obtain rfl:=oi a8;exact JL.fin (v:= .tuple #[]) V V (BB.list func72 V (vs:= []) trivial) (a3 (ag.Ad a9) V ⟨Z,ac,V,V,be⟩ bb)
  ·intro a0;refine CF a7 (λbi bn=>?_) (λbi bo=>?_)
   ·refine C 5 V (JL.fd underlying82 Bf V V V ?_);refine BL 0 az Bf λbv=>?_;refine C 1 V (JL.fd underlying82 LJ V V V ?_);refine BL 0 bv LJ λbw=>?_;refine JL.done ?_;obtain rfl:=oi bn;exact AB (a0 _ _ ⟨U,K,O,V,V,Aw,bw,(aq.Ah ag)⟩) V
   ·refine JL.skip ?_;obtain rfl:=oi bo;exact AB (a0 _ _ ⟨U,a1,c2,V,V,Aw,az,(ap.Ah ag)⟩) V
 ·intro a2;refine DD 11 a5 (λbx bz=>?_) (λbx b0=>?_)
  ·refine C 8 V ?_;obtain rfl:=oi bz;exact AB (a2 _ _ ⟨E,V,V,Aw,Y⟩) V
  ·refine C 4 V (JL.fd underlying82 Bf V V V ?_);refine Am (v:= sV a1 p0.1 c2) V (λρ h=>Yl.load BC (h _ _ V) (BY (j:=0) (off:=0) Y V V)) ?_;obtain⟨ca,b1,b2⟩:=bs b0;refine K4 (vs:= [sV K p1 O,sV a1 p0.1 c2]) (br aq ap b1) V V V V (A8 func73 V) V Y ?_;rintro _ b3 _ b4 ⟨rfl,rfl⟩ b5;refine C 1 V ?_;obtain rfl:=oi b2;exact AB (a2 _ _ ⟨b3,V,V,b4,b5⟩) V
variable {J:Judge Tryz.prog}
def SR(fu_:Nat)(O:List Int)(K:(AE)×Int):Option (Br ((AE)×Int) ((AE))):= if K.2<(O.length:Int) then((ix O K.2).bind λU=> (Av (((AZ K.1 U).getD 0)+1)).bind λY=> (Av (K.2+1)).bind λZ=> some (.more ((Be K.1 U Y),Z))) else(some (.done K.1))
def TB(fu_:Nat)(p0:A5)(K:(List AE)×Int):Option (Br ((List AE)×Int) ((List AE))):= if K.2<(p0.1.length:Int) then((ix p0.1 K.2).bind λO=> Option.bind (iter (SR fu_ O) fu_ (([]:AE),0)) λU=> (room K.1 U).bind λY=> (Av (K.2+1)).bind λZ=> some (.more (Y,Z))) else(some (.done K.1))
def f120(fu_:Nat)(p0:A5):Option ((List AE)):= Option.bind (iter (TB fu_ p0) fu_ ([],0)) λK=> some K
theorem Zg{a1:Aq}{c2:Nat}{bb:Aq}{be:Nat}{p0:A5}(ca:Al (rL rI) E a1 c2 p0.1)(dK:Al Az E bb be p0.2){fu_:Nat}{r:(List AE)}(bi:f120 fu_ p0=some r):AQ J 120 [.agg #[sV a1 p0.1 c2,sV bb p0.2 be]] E [] (λw E' B'=>∃(bn:Aq) (bo:Nat),w= sV bn r bo/\B'= []/\Al (rM rI false rI false) E' bn bo r):=by
 refine Bo func120 λQ dL cs H cc ce=>?_;unfold f120 at bi;refine C 2 V (Du cc λdM ay bv ci co=>?_);refine C 9 V (JL.fd underlying77 Ck V V V ?_);refine Cb 0 ci underlying25 FQ F5 ?_;refine JL.ln underlying22 V V V ?_;obtain⟨bw,cp,ct⟩:=bs bi;refine C 2 V (Bw (λL s=>∃(az:LH) (am:Aq) (ap:Nat) (a0:Seg),Jn ay H az [a0] [(3,sV am bw ap)] L s (OL 197 (rM rI false rI false) az am ap a0 bw)) ?_ ?_)
 ·rintro _ _ ⟨az,am,ap,a0,rfl,rfl,cw,cy,cN⟩;refine C 5 V (Cm 0 cN cy V λdN cO cP cQ=>?_);obtain rfl:=oi ct;exact A2 func120 V V (ce ((bv.Ad cw).Ad cO) V ⟨am,ap,V,V,cP⟩ cQ)
 ·intro cR;refine JL.block (C4 cp (λL s K=>∃(O:LH) (U:Aq) (Y:Nat) (ac:Seg),Jn ay H O [ac] [(3,sV U K.1 Y),(11,sV a1 p0.1 c2),(12,iV (p0.1.length:Int)),(13,iV K.2)] L s (OL 197 (rM rI false rI false) O U Y ac K.1)) ⟨ay,none,0,[],V,V,Aw,co,OL.nil⟩ ?_);rintro _ _ K ⟨O,U,Y,ac,rfl,rfl,a2,bx,bz⟩ cT ⟨dO,a3⟩ cV;have b0:=a3;unfold TB at b0;refine C 5 V (A0 b0 (λcW cX=>?_) (λcW cY=>?_))
  ·obtain⟨b1,cZ,c0⟩:=bs cX;refine C 5 V (JS.ix (ca.Ah (bv.Ad a2)) cZ underlying22 GF ?_);rintro dQ dR _ ⟨c1,c3,rfl,c4⟩ c5;refine Di 0 c5 Kd V V V (C 4 V ?_);refine JS.makeMap V V V bx λag c6=>C 6 V (JL.ln underlying28 V V V ?_);obtain⟨b2,c7,c8⟩:=bs c0;refine C 2 V (Bw (λL s=>∃(a4:LH) (aq:Obj),Jn O H a4 [ac,[(ag,aq)]] [(3,sV U K.1 Y),(6,.map (some ag)),(11,sV a1 p0.1 c2),(12,iV (p0.1.length:Int)),(13,iV K.2)] L s (Bt rI false rI false a4 aq b2)) ?_ ?_)
   ·rintro _ _ ⟨a4,aq,rfl,rfl,b3,c9,da⟩;refine C 3 V (M1 1 c9 V λb4 a5 db dc=>?_);have dd:Bt rI false rI false b4 aq b2:=(da.Ah a5);obtain⟨de,df,dg⟩:=bs c8;refine JS.app (pp:=(rM rI false rI false)) (v:= .map (some ag)) (a:=U) (c:=Y) 0 df V V V V (λ_=>V) V (λ_=>V) V V V underlying156 underlying156 underlying156 Hv (Ed type197) (Dr type197) V (by decide) (by decide) (by decide) (by decide) (bz.Ah (b3.Ad a5)) ⟨_,_,V,db,dd⟩ dc V λdS dh di dj dk dn=>?_;obtain⟨dp,dq,dr⟩:=bs dg;refine C 4 V (Bx dq V V V ?_);refine C 2 V ?_;obtain rfl:=oi dr;exact AB (cV _ _ (de,dp) ⟨b4,dh,di,dj,V,V,((a2.Ad b3).Ad a5),dn,dk⟩ a3) V
   ·intro dt;refine JL.block (C4 c7 (λL s Z=>∃(al:LH) (av:Obj),Jn O H al [ac,[(ag,av)]] [(3,sV U K.1 Y),(6,.map (some ag)),(11,sV a1 p0.1 c2),(12,iV (p0.1.length:Int)),(13,iV K.2),(18,sV c1 b1 c3),(19,iV (b1.length:Int)),(20,iV Z.2)] L s (Bt rI false rI false al av Z.1)) ⟨O,(.map #[] 0),V,V,Aw,c6,Bt.nil⟩ ?_);rintro _ _ Z ⟨al,av,rfl,rfl,a6,a7,a8⟩ du ⟨dT,a9⟩ dv;have b5:=a9;unfold SR at b5;refine C 5 V (A0 b5 (λdw dx=>?_) (λdw dy=>?_))
    ·obtain⟨aw,dz,dA⟩:=bs dx;refine C 5 V (JS.ix (c4.Ah a6) dz underlying28 AI ?_);rintro dU dV _ rfl dB;refine Di 0 dB Bb V V V (C 5 V ?_);refine Am (v:=iV ((AZ Z.1 aw).getD 0)) V (λρ h=>Yl.lookup (ok:=false) (xs:=Z.1) (x0:=aw) (z0:=0) IV underlying197 Ce ⟨_,V,V⟩ a8 ⟨_,V,V⟩ (by rintro _ ⟨_,rfl,rfl⟩;rfl) (h _ _ V) (h _ _ V) (Dg (j:=1) (i:=0) a7 V V)) ?_;obtain⟨b6,dC,dD⟩:=bs dA;refine Bx dC V V V (JS.mapUpdate (xs:=Z.1) (x0:=aw) (v0:=b6) 1 IV underlying197 a8 ⟨_,V,V⟩ ⟨_,V,V⟩ a7 V V V V V V V λdE dF dG=>?_);obtain⟨dH,dI,dJ⟩:=bs dD;refine C 3 V (Bx dI V V V ?_);refine C 2 V ?_;obtain rfl:=oi dJ;exact AB (dv _ _ ((Be Z.1 aw b6),dH) ⟨al,dE,V,V,a6,dG,dF⟩ a9) V
    ·refine JL.exit V ?_;obtain rfl:=oi dy;obtain rfl:=du _ a9;exact AB (dt _ _ ⟨al,av,V,V,a6,a7,a8⟩) V
  ·refine JL.exit V ?_;obtain rfl:=oi cY;obtain rfl:=cT _ a3;exact AB (cR _ _ ⟨O,U,Y,ac,V,V,a2,bx,bz⟩) V
def T1(fu_:Nat)(p0:A5)(O:(List Int))(K:(List Int)×Int):Option (Br ((List Int)×Int) ((List Int))):= if K.2<5 then((ix O K.2).bind λU=> Option.bind (if K.2<(p0.1.length:Int) then((ix p0.1 K.2).bind λY=> (f85 fu_ Y).bind λZ=> (Av (-(U))).bind λac=> some (decide (Z<ac))) else(some false)) λag=> Option.bind (if ag=true then((room K.1 K.2).bind λal=> some al) else(some K.1)) λam=> (Av (K.2+1)).bind λap=> some (.more (am,ap))) else(some (.done K.1))
def f39(fu_:Nat)(p0:A5):Option ((List Int)×Int):= (f70 fu_ p0 ([])).bind λK=> if K.2≠0 then(some ([],K.2)) else((f84 fu_ K.1).bind λO=> Option.bind (iter (T1 fu_ p0 O) fu_ ([],0)) λU=> some (U,0))
theorem cq{a1:Aq}{c2:Nat}{bo:Aq}{bv:Nat}{p0:A5}(bw:Al (rL rI) E a1 c2 p0.1)(cc:Al Az E bo bv p0.2){fu_:Nat}{r:(List Int)×Int}(bx:f39 fu_ p0=some r):AQ J 39 [.agg #[sV a1 p0.1 c2,sV bo p0.2 bv]] E [] (λw E' B'=>∃(bz:Aq) (b0:Nat),w= .tuple #[sV bz r.1 b0,iV r.2]/\B'= []/\Al rI E' bz b0 r.1):=by
 refine Bo func39 λQ dV cs H ce b1=>?_;unfold f39 at bx;refine C 2 V (Du ce λa3 dW al a4 ci=>?_);refine C 5 V (B9 a4 DZ Ck V V ?_);obtain⟨dX,co,cp⟩:=bs bx;refine BU (Ks (bw.Ah al) (cc.Ah al) Al.nil co) V V Ke ci ?_;rintro _ dY _ am ⟨dZ,ea,eb,ec,rfl,rfl,ct,cw⟩ cy;refine C 3 V (BT cy Hu λed cN=>?_);refine BL 3 cN DK λcO=>?_;refine Dp 3 cO V λee O cP b2=>C 8 V (A0 cp (λcQ cR=>?_) (λcQ cT=>?_))
 ·refine C 6 V ?_;obtain rfl:=oi cR;exact A2 func39 V V (b1 ((al.Ad am).Ad O) V ⟨none,0,V,V,Al.nil⟩ b2)
 ·refine C 8 V (B9 cP F6 DK V V ?_);obtain⟨ef,cV,cW⟩:=bs cT;refine BU (QE (ct.Ah O) (cw.Ah O) cV) V V OO b2 ?_;rintro _ a5 _ aq ⟨a6,rfl,rfl,cX⟩ cY;obtain⟨b3,cZ,c0⟩:=bs cW;refine C 2 V (Bw (λL s=>∃(a7:LH) (av:Aq) (aw:Nat) (a8:Seg),Jn a5 H a7 [a8] [(6,sV av b3 aw)] L s (OL 3 rI a7 av aw a8 b3)) ?_ ?_)
  ·rintro _ _ ⟨a7,av,aw,a8,rfl,rfl,c1,c3,c4⟩;refine C 6 V (Cm 0 c4 c3 V λeg c5 c6 c7=>?_);obtain rfl:=oi c0;exact A2 func39 V V (b1 (((((al.Ad am).Ad O).Ad aq).Ad c1).Ad c5) V ⟨av,aw,V,V,c6⟩ c7)
  ·intro c8;refine JL.block (C4 cZ (λL s K=>∃(Z:LH) (U:Aq) (Y:Nat) (ac:Seg),Jn a5 H Z [ac] [(1,Ak a3 0),(6,sV U K.1 Y),(18,.agg a6.toArray),(19,iV K.2)] L s (OL 3 rI Z U Y ac K.1)) ⟨a5,none,0,[],V,V,Aw,cY,OL.nil⟩ ?_);rintro _ _ K ⟨Z,U,Y,ac,rfl,rfl,ag,a9,bb⟩ c9 ⟨eh,be⟩ da;have b4:=be;unfold T1 at b4;refine C 5 V (A0 b4 (λdb dc=>?_) (λdb dd=>?_))
   ·obtain⟨ei,de,df⟩:=bs dc;refine C 6 V (T7 (Rp.Ah _ ag cX) de V V V V V underlying105 AI Bb ?_ (λ_=>V));rintro _ rfl;refine C 6 V (Cb 0 (a4.Ah (((am.Ad O).Ad aq).Ad ag)) underlying25 FQ F5 ?_);refine JL.ln underlying22 V V V ?_;obtain⟨dg,dh,di⟩:=bs df;refine C 2 V (G8 [] (λL s=>∃(ap:LH),Jm Z H ap [ac] [(1,Ak a3 0),(6,sV U K.1 Y),(7,iV K.2),(18,.agg a6.toArray),(19,iV K.2),(38,.bool dg)] L s) ?_ ?_)
    ·rintro _ _ ⟨ap,rfl,rfl,bi,b5⟩;obtain⟨bn,dj,dk⟩:=bs di;refine JL.done (Bw (λL s=>∃(ay:LH) (az:Aq) (a0:Nat) (a2:Seg),Jn ap H ay [a2] [(1,Ak a3 0),(6,sV az bn a0),(18,.agg a6.toArray),(19,iV K.2)] L s (OL 3 rI ay az a0 a2 bn)) ?_ ?_)
     ·rintro _ _ ⟨ay,az,a0,a2,rfl,rfl,dn,dp,dq⟩;obtain⟨dr,dt,du⟩:=bs dk;refine C 2 V (Bx dt V V V ?_);refine C 2 V ?_;obtain rfl:=oi du;exact AB (da _ _ (bn,dr) ⟨ay,az,a0,a2,V,V,((ag.Ad bi).Ad dn),dp,dq⟩ be) V
     ·intro b6;refine CF dj (λdv dw=>?_) (λdv dx=>?_)
      ·obtain⟨ej,dy,dz⟩:=bs dw;refine C 3 V (JS.app (pp:=rI) (v:=iV K.2) (a:=U) (c:=Y) 0 dy V V V V (λ_=>V) V (λ_=>V) V V V underlying28 underlying28 underlying28 AI (Ed type3) Ce V (by decide) (by decide) (by decide) (by decide) (bb.Ah bi) V b5 V λek dA dB dC dD dE=>?_);refine C 2 V ?_;obtain rfl:=oi dz;exact AB (b6 _ _ ⟨ap,dA,dB,dC,V,V,Aw,dE,dD⟩) V
      ·refine JL.skip ?_;obtain rfl:=oi dx;exact AB (b6 _ _ ⟨ap,U,Y,ac,V,V,Aw,b5,(bb.Ah bi)⟩) V
    ·intro ca;refine GN 28 dh (λdF dG=>?_) (λdF dH=>?_)
     ·refine Cb 0 (a4.Ah (((am.Ad O).Ad aq).Ad ag)) underlying25 FQ F5 ?_;obtain⟨el,dI,dJ⟩:=bs dG;refine C 1 V (JS.ix (bw.Ah ((((al.Ad am).Ad O).Ad aq).Ad ag)) dI underlying22 GF ?_);rintro em en _ ⟨eo,ep,rfl,dK⟩ dL;refine Di 0 dL Kd V V V ?_;obtain⟨er,dM,dN⟩:=bs dJ;refine Cy (HM dK dM) V V Ht a9 λdO dQ dR=>?_;obtain⟨dS,dT,dU⟩:=bs dN;refine C 1 V (Am (v:=iV dS) V (λρ h=>HC (h _ _ V) dT) ?_);refine C 2 V ?_;obtain rfl:=oi dU;exact AB (ca _ _ ⟨dO,V,V,dQ,dR⟩) V
     ·refine C 10 V ?_;obtain rfl:=oi dH;exact AB (ca _ _ ⟨Z,V,V,Aw,a9⟩) V
   ·refine JL.exit V ?_;obtain rfl:=oi dd;obtain rfl:=c9 _ be;exact AB (c8 _ _ ⟨Z,U,Y,ac,V,V,ag,a9,bb⟩) V
def ND(fu_:Nat)(p0:List Int)(p1:Int)(K:Int):Option (Br Int ((Int)⊕(Unit))):= if K<(p0.length:Int) then((ix p0 K).bind λO=> if p1=O then(some (.done (Sum.inl K))) else((Av (K+1)).bind λU=> some (.more U))) else(some (.done (Sum.inr ())))
def f128(fu_:Nat)(p0:List Int)(p1:Int):Option Int:= Option.bind (iter (ND fu_ p0 p1) fu_ 0) λK=> Sum.elim (λr=>some r) (λO=> some (-1)) K
theorem Zq{a1:Aq}{c2:Nat}{p0:List Int}{p1:Int}(aw:Al rI E a1 c2 p0){fu_:Nat}{r:Int}(Z:f128 fu_ p0 p1=some r):AQ J 128 [sV a1 p0 c2,iV p1] E [] (λw E' B'=>w=iV r/\B'= []):=by
 refine Bo func128 λQ b2 cs H ay ac=>?_;unfold f128 at Z;refine C 8 V (JL.ln underlying28 V V V ?_);obtain⟨ag,az,al⟩:=bs Z;refine C 2 V (Bw (λL s=>∃(am:Unit) (ap:LH),ag=Sum.inr am/\Jm E H ap [] [] L s) ?_ ?_)
 ·rintro _ _ ⟨am,ap,rfl,rfl,rfl,a0,a2⟩;have a3:=elim_inr al;refine C 4 V ?_;obtain rfl:=oi a3;exact A2 func128 V V (ac a0 V ⟨V,V⟩ a2)
 ·intro a4;refine JL.block (Ef az (λU=> []) (λU=> [(0,sV a1 p0 c2),(1,iV p1),(7,iV (p0.length:Int)),(8,iV U)]) Aw ay ?_);rintro U a5 K Y aq ⟨b3,O⟩ a6;have av:=O;unfold ND at av;refine C 5 V (A0 av (λa7 a8=>?_) (λa7 a9=>?_))
  ·obtain⟨b4,bb,be⟩:=bs a8;refine C 13 V (JS.ix (aw.Ah K) bb underlying28 AI ?_);rintro b5 b6 _ rfl bi;refine Di 0 bi Bb V V V (C 2 V ?_);refine A0 be (λbn bo=>?_) (λbn bv=>?_)
   ·refine C 5 V ?_;obtain rfl:=oi bo;obtain rfl:=aq _ O;have bw:=elim_inl al;obtain rfl:=oi bw;exact A2 func128 V V (ac K V ⟨V,V⟩ Y)
   ·obtain⟨bx,bz,b0⟩:=bs bv;refine C 3 V (Bx bz V V V ?_);refine C 2 V ?_;obtain rfl:=oi b0;exact a6 bx K Y V O
  ·refine JL.exit V ?_;obtain rfl:=oi a9;have b1:ag=(Sum.inr ()):=(aq _ O).symm;exact AB (a4 _ _ ⟨(),a5,b1,V,V,K,Y⟩) V
def f82(fu_:Nat)(p0:List Int)(p1:Int):Option Bool:= (f128 fu_ p0 p1).bind λK=> some (decide (0<=K))
theorem bD{a1:Aq}{c2:Nat}{p0:List Int}{p1:Int}(O:Al rI E a1 c2 p0){fu_:Nat}{r:Bool}(K:f82 fu_ p0 p1=some r):AQ J 82 [sV a1 p0 c2,iV p1] E [] (λw E' B'=>w= .bool r/\B'= []):=by
 refine Bo func82 λQ am cs H U Y=>?_;unfold f82 at K;obtain⟨ap,Z,ac⟩:=bs K;refine C 8 V (Cy (Zq O Z) V V (A8 func128 V) U λaq ag al=>?_);refine C 3 V ?_;obtain rfl:=oi ac;exact A2 func82 V V (Y ag V ⟨V,V⟩ al)
def Ma(fu_:Nat)(O:A5×Int)(K:(List ((Int×Int)×Bool))×Int):Option (Br ((List ((Int×Int)×Bool))×Int) ((List ((Int×Int)×Bool)))):= if K.2<(O.1.2.length:Int) then((ix O.1.2 K.2).bind λU=> (Av (K.2+1)).bind λY=> some (.more ((Be K.1 (U.1,U.2.1) true),Y))) else(some (.done K.1))
def Me(fu_:Nat)(U:A5×Int)(Y:(List ((Int×Int)×Bool)))(O:List Int)(K:Bq×Int):Option (Br (Bq×Int) (Bq)):= if K.2<(U.1.1.length:Int) then(Option.bind ((f82 fu_ O K.2).bind λZ=> Option.bind (if Z=true then(some true) else(if 0<(O.length:Int) then((Av ((O.length:Int) - 1)).bind λac=> (ix O ac).bind λag=> some (!((AZ Y (ag,K.2)).getD false))) else(some false))) λal=> if al=true then(some K.1) else((Eh O ([K.2]:List Int)).bind λam=> (room K.1 am).bind λap=> some ap)) λaq=> (Av (K.2+1)).bind λav=> some (.more (aq,av))) else(some (.done K.1))
def Md(fu_:Nat)(Z:A5×Int)(U:(List ((Int×Int)×Bool)))(Y:Bq)(O:Bq×Int):Option (Br (Bq×Int) (((List Int)×Int)⊕(Bq))):= if O.2<(Y.length:Int) then((ix Y O.2).bind λK=> Option.bind (if 1<(K.length:Int) then((Av ((K.length:Int) - 1)).bind λac=> (ix K ac).bind λag=> (ix K (0)).bind λal=> some ((AZ U (ag,al)).getD false)) else(some false)) λam=> if am=true then(some (.done (Sum.inl (K,0)))) else(Option.bind (iter (Me fu_ Z U K) fu_ (O.1,0)) λap=> (Av (O.2+1)).bind λaq=> some (.more (ap,aq)))) else(some (.done (Sum.inr O.1)))
def N9(fu_:Nat)(U:A5×Int)(Y:(List ((Int×Int)×Bool)))(K:Bq):Option (Br (Bq) (((List Int)×Int)⊕(Unit))):= if 0<(K.length:Int) then(Option.bind (iter (Md fu_ U Y K) fu_ ([],0)) λZ=> Sum.elim (λr=>some (.done (Sum.inl r))) (λO=> if(O.length:Int)=0 then(some (.done (Sum.inr ()))) else(some (.more O))) Z) else(some (.done (Sum.inr ())))
def f33(fu_:Nat)(p0:A5):Option ((List Int)×Int):= (f70 fu_ p0 ([])).bind λK=> if K.2≠0 then(some ([],K.2)) else(Option.bind (iter (Ma fu_ K) fu_ (([]:List ((Int×Int)×Bool)),0)) λO=> Option.bind (iter (N9 fu_ K O) fu_ ([[]]:Bq)) λU=> Sum.elim (λr=>some r) (λY=> some ([],11)) U)
theorem Uy{a1:Aq}{c2:Nat}{dg:Aq}{dh:Nat}{p0:A5}(dS:Al (rL rI) E a1 c2 p0.1)(dT:Al Az E dg dh p0.2){fu_:Nat}{r:(List Int)×Int}(di:f33 fu_ p0=some r):AQ J 33 [.agg #[sV a1 p0.1 c2,sV dg p0.2 dh]] E [] (λw E' B'=>∃(dj:Aq) (dk:Nat),w= .tuple #[sV dj r.1 dk,iV r.2]/\B'= []/\Al rI E' dj dk r.1):=by
 refine Bo func33 λQ gU cs H dU cZ=>?_;unfold f33 at di;refine C 2 V (Du dU λgV gW bx dV dW=>?_);refine C 6 V (B9 dV DZ Ck V V ?_);obtain⟨bz,dX,dY⟩:=bs di;refine BU (Ks (dS.Ah bx) (dT.Ah bx) Al.nil dX) V V Ke dW ?_;rintro _ gX _ c0 ⟨gY,gZ,dZ,ea,rfl,rfl,g0,eb⟩ ec;refine C 3 V (BT ec Hu λag ed=>?_);refine BL 3 ed DK λee=>?_;refine Dp 3 ee V λc1 b6 dn dp=>C 8 V (A0 dY (λef eg=>?_) (λef eh=>?_))
 ·refine C 6 V ?_;obtain rfl:=oi eg;exact A2 func33 V V (cZ ((bx.Ad c0).Ad b6) V ⟨none,0,V,V,Al.nil⟩ dp)
 ·refine C 3 V (JS.makeMap V V V dp λK ei=>?_);refine C 5 V (JL.fd underlying77 Ck V V V ?_);refine Cb 1 dn underlying25 Hw Jy ?_;refine JL.ln underlying23 V V V ?_;obtain⟨a9,ej,ek⟩:=bs eh;refine C 2 V (Bw (λL s=>∃(bb:LH) (ac:Obj),Jn c1 H bb [[(K,ac)]] [(4,Ak ag 0),(6,.map (some K))] L s (Bt Dl true rB false bb ac a9)) ?_ ?_)
  ·rintro _ _ ⟨bb,ac,rfl,rfl,c3,el,dq⟩;refine C 2 V (FV (pp:=(rL rI)) [nS] [[]] V V V underlying22 GF LF (by decide) V V V ⟨⟨_,_,V,Al.nil⟩,trivial⟩ el λem en eo ep=>?_);refine C 3 V (JL.label ?_);obtain⟨c4,er,dr⟩:=bs ek;refine JL.seq (Bw (λL s=>∃(dt:Unit) (du:LH),c4=Sum.inr dt/\Jm bb H du [] [] L s) ?_ ?_)
   ·rintro _ _ ⟨dt,du,rfl,rfl,rfl,et,eu⟩;have ew:=elim_inr dr;refine C 5 V ?_;obtain rfl:=oi ew;exact A2 func33 V V (cZ ((((bx.Ad c0).Ad b6).Ad c3).Ad et) V ⟨none,0,V,V,Al.nil⟩ eu)
   ·intro dv;refine JL.block (C4 er (λL s O=>∃(a0:LH) (al:Aq) (am:Nat) (ap:Seg),Jn bb H a0 [[(K,ac)],ap] [(4,Ak ag 0),(6,.map (some K)),(9,sV al O am)] L s (OL 28 (rL rI) a0 al am ap O)) ⟨bb,(AS em),1,en,V,V,Aw,ep,eo⟩ ?_);rintro _ _ O ⟨a0,al,am,ap,rfl,rfl,a2,dw,ex⟩ c5 ⟨g1,b0⟩ ey;have dx:=b0;unfold N9 at dx;refine C 4 V (JL.ln underlying22 V V V ?_);refine C 2 V (A0 dx (λez eA=>?_) (λez eB=>?_))
    ·refine C 10 V (JL.ln underlying22 V V V ?_);obtain⟨dy,eC,dz⟩:=bs eA;refine C 2 V (Bw (λL s=>∃(b1:Bq) (b2:LH) (ca:Aq) (cc:Nat) (ce:Seg),dy=Sum.inr b1/\Jn a0 H b2 [[(K,ac)],ce] [(4,Ak ag 0),(6,.map (some K)),(10,sV ca b1 cc)] L s (OL 28 (rL rI) b2 ca cc ce b1)) ?_ ?_)
     ·rintro _ _ ⟨b1,b2,ca,cc,ce,rfl,rfl,rfl,dA,dB,eD⟩;have eE:=elim_inr dz;refine C 8 V (JL.ln underlying22 V V V ?_);refine C 2 V (A0 eE (λeF eG=>?_) (λeF eH=>?_))
      ·refine JL.exit V (JS.drop 0 dB V λeI=>?_);refine JS.drop 1 eI V λeJ=>?_;obtain rfl:=oi eG;have eK:c4=(Sum.inr ()):=(c5 _ b0).symm;exact AB (dv _ _ ⟨(),b2,eK,V,V,(a2.Ad dA),eJ⟩) V
      ·refine C 2 V ?_;obtain rfl:=oi eH;exact AB (ey _ _ b1 ⟨b2,ca,cc,ce,V,V,(a2.Ad dA),dB,eD⟩ b0) V
     ·intro eL;refine JL.block (C4 eC (λL s Y=>∃(av:LH) (be:Aq) (bi:Nat) (bn:Seg),Jn a0 H av [[(K,ac)],ap,bn] [(4,Ak ag 0),(6,.map (some K)),(10,sV be Y.1 bi),(43,sV al O am),(44,iV (O.length:Int)),(45,iV Y.2)] L s (OL 28 (rL rI) av be bi bn Y.1)) ⟨a0,none,0,[],V,V,Aw,dw,OL.nil⟩ ?_);rintro _ _ Y ⟨av,be,bi,bn,rfl,rfl,a3,b3,dC⟩ dD ⟨g3,ci⟩ eM;have dE:=ci;unfold Md at dE;refine C 5 V (A0 dE (λeN eO=>?_) (λeN eP=>?_))
      ·obtain⟨aw,eQ,eR⟩:=bs eO;refine C 5 V (PF 1 (ex.Ah a3) eQ V V V V V V underlying22 GF ?_);rintro g4 g5 f155 _ eS ⟨a4,bo,rfl,ay⟩ eT g6 g7 g8 g9;refine Am (v:= sV a4 aw bo) V (λρ h=>Yl.load Kd (h _ _ V) (BY (j:=1) b3 eS (eT 0 _ V))) (C 6 V ?_);refine JL.ln underlying28 V V V (C 3 V ?_);refine Qu 15 λZ=>Ba Z V [0,1,2] V ?_;obtain⟨eU,dF,eV⟩:=bs eR;refine Gp 0 #[true,true,true,true,true,true,true,true,true,true,true,true,true,true,true] (λL s=>L= [(4,Ak ag 0),(6,.map (some K)),(10,sV be Y.1 bi),(12,sV a4 aw bo),(43,sV al O am),(44,iV (O.length:Int)),(45,iV Y.2),(65,.bool eU)]/\s=Aj av H [[(K,ac)],ap,bn]) ?_ ?_
       ·rintro _ _ ⟨rfl,rfl⟩;refine AL.fin (by decide+kernel) (CF eV (λeW eX=>?_) (λeW eY=>?_))
        ·refine C 6 V (JS.drop 0 b3 V λeZ=>?_);refine JS.drop 1 eZ V λe0=>JS.drop 2 e0 V λe1=>?_;obtain rfl:=oi eX;obtain rfl:=dD _ ci;have e3:=elim_inl dz;obtain rfl:=oi e3;obtain rfl:=c5 _ b0;have e4:=elim_inl dr;obtain rfl:=oi e4;exact A2 func33 V V (cZ (((((bx.Ad c0).Ad b6).Ad c3).Ad a2).Ad a3) V ⟨a4,bo,V,V,ay⟩ e1)
        ·refine C 3 V (JL.fd underlying77 Ck V V V ?_);refine Cb 0 (dn.Ah ((c3.Ad a2).Ad a3)) underlying25 FQ F5 ?_;refine JL.ln underlying22 V V V ?_;obtain⟨c6,e5,e6⟩:=bs eY;refine C 2 V (Bw (λL s=>∃(co:LH) (cp:Aq) (ct:Nat) (cw:Seg),Jn av H co [[(K,ac)],ap,cw] [(4,Ak ag 0),(6,.map (some K)),(10,sV cp c6 ct),(43,sV al O am),(44,iV (O.length:Int)),(45,iV Y.2)] L s (OL 28 (rL rI) co cp ct cw c6)) ?_ ?_)
         ·rintro _ _ ⟨co,cp,ct,cw,rfl,rfl,e7,e8,e9⟩;obtain⟨fa,fb,fc⟩:=bs e6;refine C 2 V (Bx fb V V V ?_);refine C 2 V ?_;obtain rfl:=oi fc;exact AB (eM _ _ (c6,fa) ⟨co,cp,ct,cw,V,V,(a3.Ad e7),e8,e9⟩ ci) V
         ·intro fe;refine JL.block (C4 e5 (λL s U=>∃(b4:LH) (a5:Aq) (a6:Nat) (bv:Seg),Jn av H b4 [[(K,ac)],ap,bv] [(4,Ak ag 0),(6,.map (some K)),(10,sV a5 U.1 a6),(12,sV a4 aw bo),(43,sV al O am),(44,iV (O.length:Int)),(45,iV Y.2),(70,iV (bz.1.1.length:Int)),(71,iV U.2)] L s (OL 28 (rL rI) b4 a5 a6 bv U.1)) ⟨av,be,bi,bn,V,V,Aw,b3,dC⟩ ?_);rintro _ _ U ⟨b4,a5,a6,bv,rfl,rfl,az,dG,c7⟩ ff ⟨ha,c8⟩ fg;have dH:=c8;unfold Me at dH;refine C 5 V (A0 dH (λfh fj=>?_) (λfh fk=>?_))
          ·obtain⟨c9,fl,fm⟩:=bs fj;refine C 2 V (Bw (λL s=>∃(cy:LH) (cN:Aq) (cO:Nat) (cP:Seg),Jn b4 H cy [[(K,ac)],ap,cP] [(4,Ak ag 0),(6,.map (some K)),(10,sV cN c9 cO),(12,sV a4 aw bo),(43,sV al O am),(44,iV (O.length:Int)),(45,iV Y.2),(70,iV (bz.1.1.length:Int)),(71,iV U.2)] L s (OL 28 (rL rI) cy cN cO cP c9)) ?_ ?_)
           ·rintro _ _ ⟨cy,cN,cO,cP,rfl,rfl,fo,fp,fq⟩;obtain⟨fs,fu,fv⟩:=bs fm;refine JL.region (Bx fu V V V ?_);refine C 2 V ?_;obtain rfl:=oi fv;exact AB (fg _ _ (c9,fs) ⟨cy,cN,cO,cP,V,V,(az.Ad fo),fp,fq⟩ c8) V
           ·intro dI;obtain⟨hb,fw,fx⟩:=bs fl;refine C 11 V (Cy (bD (ay.Ah az) fw) V V (A8 func82 V) dG λcQ aq cR=>?_);obtain⟨fy,fz,fA⟩:=bs fx;refine C 1 V (G8 [] (λL s=>∃(da:LH),Jm cQ H da [[(K,ac)],ap,bv] [(4,Ak ag 0),(6,.map (some K)),(10,sV a5 U.1 a6),(12,sV a4 aw bo),(14,iV U.2),(43,sV al O am),(44,iV (O.length:Int)),(45,iV Y.2),(70,iV (bz.1.1.length:Int)),(71,iV U.2),(94,.bool fy)] L s) ?_ ?_)
            ·rintro _ _ ⟨da,rfl,rfl,a7,dJ⟩;refine JL.done (CF fA (λfB fC=>?_) (λfB fD=>?_))
             ·refine JL.exit V ?_;obtain rfl:=oi fC;exact AB (dI _ _ ⟨da,a5,a6,bv,V,V,(aq.Ad a7),dJ,(c7.Ah (aq.Ad a7))⟩) V
             ·refine C 5 V (JL.ln underlying28 V V V ?_);refine C 1 V (JL.ln underlying28 V V V ?_);refine Am (v:= .slice a4 aw.length aw.length) V (λρ h=>Ro (Al.spot (ay.Ah ((az.Ad aq).Ad a7))) (And.left (ay.Ah ((az.Ad aq).Ad a7))) underlying28 AI (h _ _ V) (h _ _ V) (h _ _ V)) (C 1 V ?_);refine FV (pp:=rI) [iV U.2] [U.2] V V V underlying28 AI Ce (by decide) V V V ⟨V,trivial⟩ dJ λhc hd fE fF=>Cm 3 fE fF V λhe db fG fH=>?_;obtain⟨fI,fJ,fK⟩:=bs fD;refine VK (pp:=rI) fJ V V V V V V V underlying28 underlying28 AI (Ed type3) Ce V (by decide) (by decide) (ay.Ah (((az.Ad aq).Ad a7).Ad db)) fG fH λfL fM fN dK fO fP=>?_;obtain⟨hf,fQ,fR⟩:=bs fK;refine JS.app (pp:=(rL rI)) (v:= sV fM fI fN) (a:=a5) (c:=a6) 2 fQ V V V V (λ_=>V) V (λ_=>V) V V V underlying22 underlying22 underlying22 GF (Ed type28) LF V (by decide) (by decide) (by decide) (by decide) (c7.Ah (((aq.Ad a7).Ad db).Ad dK)) ⟨_,_,V,fO⟩ fP V λhg fS fT fU fW fX=>C 3 V ?_;obtain rfl:=oi fR;exact AB (dI _ _ ⟨fL,fS,fT,fU,V,V,(((aq.Ad a7).Ad db).Ad dK),fX,fW⟩) V
            ·intro dc;refine DD 77 fz (λfY fZ=>?_) (λfY ga=>?_)
             ·refine C 17 V ?_;obtain rfl:=oi fZ;exact AB (dc _ _ ⟨cQ,V,V,Aw,cR⟩) V
             ·refine C 1 V (JL.ln underlying28 V V V ?_);refine C 2 V (GN 81 ga (λgb gc=>?_) (λgb gd=>?_))
              ·refine C 3 V (JL.ln underlying28 V V V ?_);obtain⟨hj,ge,gf⟩:=bs gc;refine Cq ge V V V ?_;obtain⟨cT,gg,gh⟩:=bs gf;refine JS.ix (ay.Ah (az.Ad aq)) gg underlying28 AI ?_;rintro hk hl _ rfl gi;refine Di 0 gi Bb V V V (C 1 V ?_);refine Am (v:= .agg #[iV cT,iV U.2]) V (λρ h=>C3 [(0,1),(1,1)] h Hs underlying101 ⟨V,AN type3,V,AN type3,trivial⟩ V V) (Am (v:= .bool (((AZ a9 (cT,U.2)).getD false))) V (λρ h=>Yl.lookup (ok:=false) (xs:=a9) (x0:=(cT,U.2)) (z0:=false) Ig underlying99 LG ⟨_,V,V⟩ (dq.Ah (((a2.Ad a3).Ad az).Ad aq)) ⟨_,⟨_,_,V,V,V⟩,V⟩ (by rintro _ ⟨_,rfl,rfl⟩;rfl) (h _ _ V) (h _ _ V) (Dg (j:=0) (i:=0) cR V V)) ?_);refine Am (v:= .bool ((!((AZ a9 (cT,U.2)).getD false)))) V (λρ h=>Yl.not (h _ _ V)) (C 2 V ?_);obtain rfl:=oi gh;exact AB (dc _ _ ⟨cQ,V,V,Aw,cR⟩) V
              ·refine C 13 V ?_;obtain rfl:=oi gd;exact AB (dc _ _ ⟨cQ,V,V,Aw,cR⟩) V
          ·refine JL.exit V ?_;obtain rfl:=oi fk;obtain rfl:=ff _ c8;exact AB (fe _ _ ⟨b4,a5,a6,bv,V,V,az,dG,c7⟩) V
       ·intro dL;refine G6 (q:=1<(aw.length:Int)) (i:=53) V (λdd=>?_) (λdd=>?_)
        ·have gj:=ip dF dd;refine Ba Z V [3,4,5] V ?_;obtain⟨hm,gk,gl⟩:=bs gj;refine AK 6 Z V V (λρ h s' a8=>DL (h _ _ V) (h _ _ V) gk) ?_;obtain⟨cV,gm,gn⟩:=bs gl;refine FG 7 ay gm Z underlying28 AI ?_;rintro hn ho _ rfl gp;refine AK (v:=iV cV) 8 Z V V (λρ h s' a8=>Yl.load Bb (h _ _ V) (Mw a8 (At.Lk (j:=0) gp V))) ?_;refine C8 9 Z V V ?_;obtain⟨cW,gq,gr⟩:=bs gn;refine FG 10 ay gq Z underlying28 AI ?_;rintro hp hq _ rfl gt;refine AK (v:=iV cW) 11 Z V V (λρ h s' a8=>Yl.load Bb (h _ _ V) (Mw a8 (At.Lk (j:=0) gt V))) ?_;refine AK (v:= .agg #[iV cV,iV cW]) 12 Z V V (λρ h s' a8=>C3 [(0,1),(1,1)] h Hs underlying101 ⟨V,AN type3,V,AN type3,trivial⟩ V V) ?_;refine AK (v:= .bool (((AZ a9 (cV,cW)).getD false))) 13 Z V V (λρ h s' a8=>Yl.lookup (ok:=false) (xs:=a9) (x0:=(cV,cW)) (z0:=false) Ig underlying99 LG ⟨_,V,V⟩ (dq.Ah (a2.Ad a3)) ⟨_,⟨_,_,V,V,V⟩,V⟩ (by rintro _ ⟨_,rfl,rfl⟩;rfl) (h _ _ V) (h _ _ V) (QJ a8 (Dg (j:=0) (i:=0) b3 V V))) ?_;refine C8 14 Z V V ?_;obtain rfl:=oi gr;refine Ep ?_ (dL _ _ ⟨V,V⟩);exact⟨V,V,V,V,V,V,V,V,trivial⟩
        ·have gu:=im dF dd;refine Ba Z V [3,4,5,6,7,8,9,10,11,12,13,14] V ?_;obtain rfl:=oi gu;refine Ep ?_ (dL _ _ ⟨V,V⟩);exact⟨V,V,V,V,V,V,V,V,trivial⟩
      ·refine JL.exit V (JS.drop 1 b3 V λgv=>?_);obtain rfl:=oi eP;have gw:dy=(Sum.inr Y.1):=(dD _ ci).symm;exact AB (eL _ _ ⟨Y.1,av,be,bi,bn,gw,V,V,a3,gv,dC⟩) V
    ·refine JL.exit V (JS.drop 0 dw V λgx=>?_);refine JS.drop 1 gx V λgy=>?_;obtain rfl:=oi eB;have gz:c4=(Sum.inr ()):=(c5 _ b0).symm;exact AB (dv _ _ ⟨(),a0,gz,V,V,a2,gy⟩) V
  ·intro gA;refine JL.block (C4 ej (λL s b5=>∃(cX:LH) (cY:Obj),Jn c1 H cX [[(K,cY)]] [(4,Ak ag 0),(6,.map (some K)),(26,sV dZ bz.1.2 ea),(27,iV (bz.1.2.length:Int)),(28,iV b5.2)] L s (Bt Dl true rB false cX cY b5.1)) ⟨c1,(.map #[] 0),V,V,Aw,ei,Bt.nil⟩ ?_);rintro _ _ b5 ⟨cX,cY,rfl,rfl,de,dM,dN⟩ gB ⟨hr,df⟩ gC;have dO:=df;unfold Ma at dO;refine C 5 V (A0 dO (λgD gE=>?_) (λgD gF=>?_))
   ·obtain⟨bw,gG,gH⟩:=bs gE;refine C 5 V (JS.ix (eb.Ah (b6.Ad de)) gG underlying23 Bn ?_);rintro hs ht _ ⟨_,_,rfl,rfl,⟨_,_,rfl,rfl,rfl⟩⟩ gI;refine B9 gI En Bn V V (BT dM BP λhu gJ=>?_);refine BL 1 gJ Bn λgK=>?_;refine Dp 1 gK V λgL dQ dR gM=>C 3 V (Cb 0 dR underlying27 AI Bb ?_);refine Cb 1 dR underlying27 AI Bb ?_;refine Am (v:= .agg #[iV bw.1,iV bw.2.1]) V (λρ h=>C3 [(0,1),(1,1)] h Hs underlying101 ⟨V,AN type3,V,AN type3,trivial⟩ V V) (JS.mapUpdate (xs:=b5.1) (x0:=(bw.1,bw.2.1)) (v0:=true) 0 Ig underlying99 (dN.Ah dQ) ⟨_,⟨_,_,V,V,V⟩,V⟩ ⟨_,V,V⟩ gM V V V V V V V λgO gP gQ=>?_);obtain⟨gR,gS,gT⟩:=bs gH;refine C 3 V (Bx gS V V V ?_);refine C 2 V ?_;obtain rfl:=oi gT;exact AB (gC _ _ ((Be b5.1 (bw.1,bw.2.1) true),gR) ⟨gL,gO,V,V,(de.Ad dQ),gQ,gP⟩ df) V
   ·refine JL.exit V ?_;obtain rfl:=oi gF;obtain rfl:=gB _ df;exact AB (gA _ _ ⟨cX,cY,V,V,de,dM,dN⟩) V
variable {J:Judge Tryz.prog}
def TN:List Nat:= [0,1,2,2,3,3,3,3,4,4,4,4,4,4,4,4,5,5,5,5,5,5,5,5,5,5,5,5,5,5,5,5,6,6,6,6,6,6,6,6,6,6,6,6,6,6,6,6,6,6,6,6,6,6,6,6,6,6,6,6,6,6,6,6,7,7,7,7,7,7,7,7,7,7,7,7,7,7,7,7,7,7,7,7,7,7,7,7,7,7,7,7,7,7,7,7,7,7,7,7,7,7,7,7,7,7,7,7,7,7,7,7,7,7,7,7,7,7,7,7,7,7,7,7,7,7,7,7,8,8,8,8,8,8,8,8,8,8,8,8,8,8,8,8,8,8,8,8,8,8,8,8,8,8,8,8,8,8,8,8,8,8,8,8,8,8,8,8,8,8,8,8,8,8,8,8,8,8,8,8,8,8,8,8,8,8,8,8,8,8,8,8,8,8,8,8,8,8,8,8,8,8,8,8,8,8,8,8,8,8,8,8,8,8,8,8,8,8,8,8,8,8,8,8,8,8,8,8,8,8,8,8,8,8,8,8,8,8,8,8,8,8,8,8,8,8,8,8,8,8,8,8,8,8,8,8]
def f146(fu_:Nat)(p0:Nat):Option Int:= Option.bind (if(((4294967296):Nat):Int)<=(((p0):Nat):Int) then(some (p0>>>32,32)) else(some (p0,0))) λK=> Option.bind (if(((65536):Nat):Int)<=(((K.1):Nat):Int) then((Av (K.2+16)).bind λY=> some (K.1>>>16,Y)) else(some K)) λO=> Option.bind (if(((256):Nat):Int)<=(((O.1):Nat):Int) then((Av (O.2+8)).bind λZ=> some (O.1>>>8,Z)) else(some O)) λU=> (QN TN (((((U.1) % 256):Nat):Int))).bind λac=> (Av (((ac):Nat):Int)).bind λag=> (Av (U.2+ag)).bind λal=> some al
theorem ZF{p0:Nat}{fu_:Nat}{r:Int}(Y:f146 fu_ p0=some r):AQ J 146 [.int .u64 ((p0:Nat):Int)] E [] (λw E' B'=>w=iV r/\B'= []):=by
 refine Bo func146 λQ cc cs H Z aq=>?_;unfold f146 at Y;obtain⟨K,av,aw⟩:=bs Y;refine C 10 V (EW [] [(0,.int .u64 ((K.1:Nat):Int)),(2,iV K.2)] (λce ay ac=>?_) (λag=>?_))
 ·obtain⟨O,az,a0⟩:=bs aw;refine C 6 V (EW [] [(0,.int .u64 ((O.1:Nat):Int)),(2,iV O.2)] (λci a1 al=>?_) (λam=>?_))
  ·obtain⟨U,a2,a3⟩:=bs a0;refine C 6 V (EW [] [(0,.int .u64 ((U.1:Nat):Int)),(2,iV U.2)] (λco a4 a5=>?_) (λap=>?_))
   ·refine C 4 V (Am (v:= .int .u8 (((U.1) % 256:Nat):Int)) V (λρ h=>YE underlying72 underlying5 (h _ _ V)) ?_);obtain⟨a6,a7,a8⟩:=bs a3;refine Am (v:= .int .u8 ((a6:Nat):Int)) V (λρ h=>V0 (l:=TN) (by decide+kernel) underlying9 (h _ _ V) (h _ _ V) a7) ?_;obtain⟨a9,bb,be⟩:=bs a8;refine Am (v:=iV a9) V (λρ h=>Zd underlying5 underlying3 (h _ _ V) bb) ?_;obtain⟨cp,bi,bn⟩:=bs be;refine Bx bi V V V (C 2 V ?_);obtain rfl:=oi bn;exact A2 func146 V V (aq ((ay.Ad a1).Ad a4) V ⟨V,V⟩ a5)
   ·refine A0 a2 (λbo bv=>?_) (λbo bw=>?_)
    ·refine C 3 V (Am (v:= .int .u64 ((O.1>>>8:Nat):Int)) V (λρ h=>La 8 (h _ _ V) (h _ _ V) (by decide)) ?_);obtain⟨ct,bx,bz⟩:=bs bv;refine C 4 V (Bx bx V V V ?_);refine C 2 V ?_;obtain rfl:=oi bz;exact ap Aw al V
    ·refine JL.skip ?_;obtain rfl:=oi bw;exact ap Aw al V
  ·refine A0 az (λb0 b1=>?_) (λb0 b2=>?_)
   ·refine C 3 V (Am (v:= .int .u64 ((K.1>>>16:Nat):Int)) V (λρ h=>La 16 (h _ _ V) (h _ _ V) (by decide)) ?_);obtain⟨cw,b3,b4⟩:=bs b1;refine C 4 V (Bx b3 V V V ?_);refine C 2 V ?_;obtain rfl:=oi b4;exact am Aw ac V
   ·refine JL.skip ?_;obtain rfl:=oi b2;exact am Aw ac V
 ·refine A0 av (λb5 b6=>?_) (λb5 ca=>?_)
  ·refine C 3 V (Am (v:= .int .u64 ((p0>>>32:Nat):Int)) V (λρ h=>La 32 (h _ _ V) (h _ _ V) (by decide)) ?_);refine C 5 V ?_;obtain rfl:=oi b6;exact ag Aw Z V
  ·refine JL.skip ?_;obtain rfl:=oi ca;exact ag Aw Z V
def f115(fu_:Nat)(p0:Nat):Option Int:= (f146 fu_ p0).bind λK=> some K
theorem NP{p0:Nat}{fu_:Nat}{r:Int}(K:f115 fu_ p0=some r):AQ J 115 [.int .u64 ((p0:Nat):Int)] E [] (λw E' B'=>w=iV r/\B'= []):=by
 refine Bo func115 λQ al cs H O U=>?_;unfold f115 at K;obtain⟨am,Y,Z⟩:=bs K;refine C 10 V (Cy (ZF Y) V V (A8 func146 V) O λap ac ag=>?_);refine C 2 V ?_;obtain rfl:=oi Z;exact A2 func115 V V (U ac V ⟨V,V⟩ ag)
def Nr(fu_:Nat)(p1:Int)(K:Int×Ay):Option (Br (Int×Ay) (Ay)):= Option.bind (if p1<K.1 then((ix K.2 K.1).bind λY=> (Av (K.1 - 1)).bind λZ=> (ix K.2 Z).bind λac=> (f113 fu_ Y ac).bind λag=> some (decide (ag<0))) else(some false)) λal=> if al=true then((Av (K.1 - 1)).bind λO=> (Av (K.1 - 1)).bind λam=> (ix K.2 am).bind λU=> (ix K.2 K.1).bind λap=> (ix (K.2.set (Int.toNat K.1) U) O).bind λav=> (Av (K.1 - 1)).bind λaq=> some (.more (aq,((K.2.set (Int.toNat K.1) U).set (Int.toNat O) ap)))) else(some (.done K.2))
def NO(fu_:Nat)(p1:Int)(p2:Int)(K:Int×Ay):Option (Br (Int×Ay) (Ay)):= if K.1<p2 then(Option.bind (iter (Nr fu_ p1) fu_ K) λO=> (Av (K.1+1)).bind λU=> some (.more (U,O))) else(some (.done K.2))
def f193(fu_:Nat)(p0:Ay)(p1:Int)(p2:Int):Option (Ay):= (Av (p1+1)).bind λK=> Option.bind (iter (NO fu_ p1 p2) fu_ (K,p0)) λO=> some O
theorem Zo{K:Nat}{U:Nat}{nw:Nat}{a4:Av_}{p0:Ay}{p1:Int}{p2:Int}(hW:WL 27 Az E K U nw a4 p0){fu_:Nat}{r:Ay}(bb:f193 fu_ p0 p1 p2=some r):AQ J 193 [.slice (AS K) nw U,iV p1,iV p2,(fV 113)] E [(K,.cells a4 27 (0,0))] (λw E' B'=>∃(be:Av_),w= .tuple #[]/\B'= [(K,.cells be 27 (0,0))]/\WL 27 Az E' K U nw be r):=by
 refine Bo func193 λQ dI cs H cc ce=>?_;unfold f193 at bb;obtain⟨dJ,ci,co⟩:=bs bb;refine C 3 V (Bx ci V V V ?_);obtain⟨cp,ct,cw⟩:=bs co;refine C 2 V (Bw (λL s=>∃(a5:LH) (f17:Av_),Jn E H a5 [bX K f17 27] [] L s (WL 27 Az a5 K U nw f17 cp)) ?_ ?_)
 ·rintro _ _ ⟨a5,f17,rfl,rfl,cy,cN,cO⟩;obtain rfl:=oi cw;exact JL.fin (v:= .tuple #[]) V V (BB.list func193 V (vs:= []) trivial) (ce cy V ⟨f17,V,(by first | rfl | simp | (simp [Value.cells])),cO⟩ cN)
 ·intro cP;refine JL.block (C4 ct (λL s am=>∃(al:LH) (f25:Av_),Jn E H al [bX K f25 27] [(0,.slice (AS K) nw U),(1,iV p1),(2,iV p2),(3,(fV 113)),(8,iV am.1)] L s (WL 27 Az al K U nw f25 am.2)) ⟨E,a4,V,V,Aw,cc,hW⟩ ?_);rintro _ _ am ⟨al,f25,rfl,rfl,bi,bn,bo⟩ cQ ⟨dK,a6⟩ cR;have bv:=a6;unfold NO at bv;refine C 7 V (A0 bv (λcT cV=>?_) (λcT cW=>?_))
  ·obtain⟨bw,cX,cY⟩:=bs cV;refine C 8 V (Bw (λL s=>∃(a0:LH) (f48:Av_),Jn al H a0 [bX K f48 27] [(0,.slice (AS K) nw U),(1,iV p1),(2,iV p2),(3,(fV 113)),(8,iV am.1)] L s (WL 27 Az a0 K U nw f48 bw)) ?_ ?_)
   ·rintro _ _ ⟨a0,f48,rfl,rfl,cZ,c0,c1⟩;obtain⟨c2,c3,c4⟩:=bs cY;refine C 3 V (Bx c3 V V V ?_);refine C 2 V ?_;obtain rfl:=oi c4;exact AB (cR _ _ (c2,bw) ⟨a0,f48,V,V,(bi.Ad cZ),c0,c1⟩ a6) V
   ·intro c5;refine JL.block (C4 cX (λL s ag=>∃(aw:LH) (f58:Av_),Jn al H aw [bX K f58 27] [(0,.slice (AS K) nw U),(1,iV p1),(2,iV p2),(3,(fV 113)),(8,iV am.1),(9,iV ag.1)] L s (WL 27 Az aw K U nw f58 ag.2)) ⟨al,f25,V,V,Aw,bn,bo⟩ ?_);rintro _ _ ag ⟨aw,f58,rfl,rfl,bx,ay,O⟩ c6 ⟨dL,a7⟩ c7;have bz:=a7;unfold Nr at bz;refine C 2 V (Fu 17 [K] ⟨⟨0,_,V⟩,trivial⟩ ay λac=>?_);refine Ba ac V [0,1,2,3] V ?_;obtain⟨c8,b0,c9⟩:=bs bz;refine Gp 0 #[true,true,true,true,true,true,true,true,true,true,true,true,true,true,true,true,true] (λL s=>∃(a1:LH),Jm aw H a1 [bX K f58 27] [(0,.slice (AS K) nw U),(1,iV p1),(2,iV p2),(3,(fV 113)),(8,iV am.1),(9,iV ag.1),(34,.bool c8)] L s) ?_ ?_
    ·rintro _ _ ⟨a1,rfl,rfl,ap,a2⟩;refine AL.fin (by decide+kernel) (CF c9 (λda db=>?_) (λda dc=>?_))
     ·refine C 3 V (IM [15,17] [K] [] mixed V ?_);refine Bp 0 V V (Bp 1 V V ?_);refine Bp 2 V V (Bp 3 V V ?_);obtain⟨b1,dd,de⟩:=bs db;refine HQ 4 true V V (λρ h s' b2=>DL (h _ _ V) (h _ _ V) dd) (Bp 5 V V ?_);refine Bp 6 V V ?_;obtain⟨dM,df,dg⟩:=bs de;refine HQ 7 true V V (λρ h s' b2=>DL (h _ _ V) (h _ _ V) df) ?_;obtain⟨Y,b3,dh⟩:=bs dg;obtain⟨_,⟨_,_,rfl,rfl,⟨_,_,rfl,rfl,rfl⟩⟩,di⟩:=WL.at (O.Ah ap) b3;refine JB.ix 8 O.2 b3 underlying23 Bn ?_;refine UE 9 [iV Y.1,iV Y.2.1,iV Y.2.2] 0 a2 di En Bn ?_;refine Bp 10 V V (Bp 11 V V ?_);obtain⟨Z,a3,dj⟩:=bs dh;obtain⟨_,⟨_,_,rfl,rfl,⟨_,_,rfl,rfl,rfl⟩⟩,dk⟩:=WL.at (O.Ah ap) a3;refine JB.ix 12 O.2 a3 underlying23 Bn ?_;refine UE 13 [iV Z.1,iV Z.2.1,iV Z.2.2] 0 a2 dk En Bn ?_;refine JB.ix 14 O.2 a3 underlying23 Bn ?_;have az:=WL.put (x':=Y) (ws':= [iV Y.1,iV Y.2.1,iV Y.2.2]) (O.Ah ap) O.2 a3 ⟨_,_,V,V,⟨_,_,V,V,V⟩⟩;refine Fi 15 0 a2 Bn trivial az.2 λdn=>?_;obtain⟨dN,a8,dp⟩:=bs dj;obtain⟨_,⟨_,_,rfl,rfl,⟨_,_,rfl,rfl,rfl⟩⟩,dO⟩:=WL.at az.1 a8;refine JB.ix 16 (az.1).2 a8 underlying23 Bn ?_;have b4:=WL.put (x':=Z) (ws':= [iV Z.1,iV Z.2.1,iV Z.2.2]) az.1 (az.1).2 a8 ⟨_,_,V,V,⟨_,_,V,V,V⟩⟩;refine Fi 17 0 dn Bn trivial b4.2 λdq=>?_;refine JB.fin (by decide+kernel) ?_;obtain⟨dr,dt,du⟩:=bs dp;refine C 3 V (Cq dt V V V ?_);refine C 2 V ?_;obtain rfl:=oi du;exact AB (c7 _ _ (dr,((ag.2.set (Int.toNat ag.1) Y).set (Int.toNat b1) Z)) ⟨a1,(A9 (A9 f58 (Int.toNat (ag.1)*3) [iV Y.1,iV Y.2.1,iV Y.2.2]) (Int.toNat (b1)*3) [iV Z.1,iV Z.2.1,iV Z.2.2]),V,V,(bx.Ad ap),dq,b4.1⟩ a7) V
     ·refine JL.exit V ?_;obtain rfl:=oi dc;obtain rfl:=c6 _ a7;exact AB (c5 _ _ ⟨a1,f58,V,V,(bx.Ad ap),a2,(O.Ah ap)⟩) V
    ·intro b5;refine G6 (q:=p1<ag.1) (i:=21) V (λa9=>?_) (λa9=>?_)
     ·have dv:=ip b0 a9;refine Ba ac V [4,5,6] V ?_;obtain⟨aq,b6,dw⟩:=bs dv;obtain⟨_,⟨_,_,rfl,rfl,⟨_,_,rfl,rfl,rfl⟩⟩,dx⟩:=WL.at O b6;refine JG.ix 7 ac (O).2 b6 underlying23 Bn ?_;refine Uz 8 ac [iV aq.1,iV aq.2.1,iV aq.2.2] 0 ay dx En Bn ?_;refine Ba ac V [9,10] V ?_;obtain⟨dQ,dy,dz⟩:=bs dw;refine AK 11 ac V V (λρ h s' b2=>DL (h _ _ V) (h _ _ V) dy) ?_;obtain⟨av,ca,dA⟩:=bs dz;obtain⟨_,⟨_,_,rfl,rfl,⟨_,_,rfl,rfl,rfl⟩⟩,dB⟩:=WL.at O ca;refine JG.ix 12 ac (O).2 ca underlying23 Bn ?_;refine Uz 13 ac [iV av.1,iV av.2.1,iV av.2.2] 0 ay dB En Bn ?_;obtain⟨dR,dC,dD⟩:=bs dA;refine JF (i:=14) ⟨⟨0,_,V⟩,trivial⟩ (vs:= [.agg #[iV aq.1,iV aq.2.1,iV aq.2.2],.agg #[iV av.1,iV av.2.1,iV av.2.2]]) (TM dC) (by decide+kernel) V V V V (A8 func113 V) V ay ?_;rintro _ dE _ dF ⟨rfl,rfl⟩ dG;refine Ba ac V [15,16] V ?_;obtain rfl:=oi dD;refine Ep ?_ (b5 _ _ ⟨dE,V,V,dF,dG⟩);exact⟨V,V,V,V,V,V,V,trivial⟩
     ·have dH:=im b0 a9;refine Ba ac V [4,5,6,7,8,9,10,11,12,13,14,15,16] V ?_;obtain rfl:=oi dH;refine Ep ?_ (b5 _ _ ⟨aw,V,V,Aw,ay⟩);exact⟨V,V,V,V,V,V,V,trivial⟩
  ·refine JL.exit V ?_;obtain rfl:=oi cW;obtain rfl:=cQ _ a6;exact AB (cP _ _ ⟨al,f25,V,V,bi,bn,bo⟩) V
def PD(fu_:Nat)(p0:Ay)(p1:Int)(p2:Int)(p3:Int)(U:Unit):Option (Br Unit ((Ay)⊕(Unit))):= (Av (p2 - p1)).bind λK=> if K<=12 then((f193 fu_ p0 p1 p2).bind λO=> some (.done (Sum.inl O))) else(if p3=0 then(none) else(none))
def f169(fu_:Nat)(p0:Ay)(p1:Int)(p2:Int)(p3:Int):Option (Ay):= Option.bind (iter (PD fu_ p0 p1 p2 p3) fu_ ()) λK=> Sum.elim (λr=>some r) (λO=> none) K
theorem ZU{K:Nat}{O:Nat}{nw:Nat}{U:Av_}{p0:Ay}{p1:Int}{p2:Int}{p3:Int}(hW:WL 27 Az E K O nw U p0){fu_:Nat}{r:Ay}(Y:f169 fu_ p0 p1 p2 p3=some r):AQ J 169 [.slice (AS K) nw O,iV p1,iV p2,iV p3,(fV 113)] E [(K,.cells U 27 (0,0))] (λw E' B'=>∃(Z:Av_),w= .tuple #[]/\B'= [(K,.cells Z 27 (0,0))]/\WL 27 Az E' K O nw Z r):=by
 refine Bo func169 λQ bv cs H ap aq=>?_;unfold f169 at Y;obtain⟨bw,av,aw⟩:=bs Y;refine C 8 V (Bw (λL s=>False) ?_ ?_)
 ·intro _ _ ay;exact ay.elim
 ·intro bx;refine JL.block (Ef av (λac=> [bX K U 27]) (λac=> [(0,.slice (AS K) nw O),(1,iV p1),(2,iV p2),(3,iV p3),(4,(fV 113)),(10,.bool true),(11,.bool true)]) Aw ap ?_);rintro ac bz ag az a0 ⟨b0,al⟩ b1;have am:=al;unfold PD at am;obtain⟨b2,a1,a2⟩:=bs am;refine C 5 V (Cq a1 V V V ?_);refine C 8 V (A0 a2 (λa3 a4=>?_) (λa3 a5=>?_))
  ·obtain⟨b3,a6,a7⟩:=bs a4;refine C 6 V (Cx 0 (Zo (hW.Ah ag) a6) V V (A8 func193 V) az V ?_);rintro _ b4 _ a8 ⟨f32,rfl,rfl,a9⟩ bb;refine JL.done ?_;obtain rfl:=oi a7;obtain rfl:=a0 _ al;have be:=elim_inl aw;obtain rfl:=oi be;exact A2 func169 V V (aq (ag.Ad a8) V ⟨f32,V,(by first | rfl | simp | (simp [Value.cells])),a9⟩ bb)
  ·refine C 7 V (A0 a5 (λbi bn=>?_) (λbi bo=>?_))
   ·refine C 6 V ?_;cases bn
   ·refine C 5 V (Am (v:= .bool false) V (λρ h=>Yl.not (c:=true) (h _ _ V)) ?_);refine C 9 V ?_;cases bo
def f130(fu_:Nat)(p0:Ay):Option (Ay):= (f115 fu_ (CX (p0.length:Int))).bind λK=> (f169 fu_ p0 0 (p0.length:Int) K).bind λO=> some O
theorem Z8{K:Nat}{O:Nat}{nw:Nat}{U:Av_}{p0:Ay}(hW:WL 27 Az E K O nw U p0){fu_:Nat}{r:Ay}(Y:f130 fu_ p0=some r):AQ J 130 [.slice (AS K) nw O,(fV 113)] E [(K,.cells U 27 (0,0))] (λw E' B'=>∃(Z:Av_),w= .tuple #[]/\B'= [(K,.cells Z 27 (0,0))]/\WL 27 Az E' K O nw Z r):=by
 refine Bo func130 λQ a1 cs H ag al=>?_;unfold f130 at Y;refine C 3 V (Am (v:=iV (p0.length:Int)) V (λρ h=>TA (hW).2 V underlying80 (h _ _ V)) ?_);refine C 6 V (Am (v:= .int .u64 ((CX (p0.length:Int):Nat):Int)) V (λρ h=>Yl.CX underlying3 underlying136 (h _ _ V)) ?_);obtain⟨a2,am,ap⟩:=bs Y;refine Cy (NP am) V V MN ag λa3 ac aq=>?_;obtain⟨a4,av,aw⟩:=bs ap;refine C 1 V (Cx 0 (ZU (hW.Ah ac) av) V V (A8 func169 V) aq V ?_);rintro _ a5 _ ay ⟨f12,rfl,rfl,az⟩ a0;refine JL.done ?_;obtain rfl:=oi aw;exact JL.fin (v:= .tuple #[]) V V (BB.list func130 V (vs:= []) trivial) (al (ac.Ad ay) V ⟨f12,V,(by first | rfl | simp | (simp [Value.cells])),az⟩ a0)
def Sf(fu_:Nat)(p1:Int)(K:Int)(U:Unit):Option (Br Unit Unit):= Option.bind (if p1<K then(none) else(some false)) λO=> if O=true then((Av (K - 1)).bind λY=> (Av (K - 1)).bind λZ=> none) else(some (.done ()))
def Sx(fu_:Nat)(p1:Int)(p2:Int)(K:Int):Option (Br Int Unit):= if K<p2 then(Option.bind (iter (Sf fu_ p1 K) fu_ ()) λU=> (Av (K+1)).bind λO=> some (.more O)) else(some (.done ()))
def Qz(fu_:Nat)(p1:Int)(p2:Int):Option Unit:= (Av (p1+1)).bind λK=> Option.bind (iter (Sx fu_ p1 p2) fu_ K) λO=> some ()
theorem Ya{p1:Int}{p2:Int}{fu_:Nat}{r:Unit}(Z:Qz fu_ p1 p2=some r):AQ J 193 [nS,iV p1,iV p2,(fV 113)] E [] (λw E' B'=>w= .tuple #[]/\B'= []):=by
 refine Bo func193 λQ cR cs H az a0=>?_;unfold Qz at Z;obtain⟨cT,a1,a2⟩:=bs Z;refine C 3 V (Bx a1 V V V ?_);obtain⟨cV,a3,a4⟩:=bs a2;refine C 2 V (EW [] [] (λcW a5 a6=>?_) (λa7=>?_))
 ·obtain rfl:=oi a4;exact JL.fin (v:= .tuple #[]) V V (BB.list func193 V (vs:= []) trivial) (a0 a5 V ⟨V,V⟩ a6)
 ·refine JL.block (Ef a3 (λK=> []) (λK=> [(0,.slice none 0 0),(1,iV p1),(2,iV p2),(3,(fV 113)),(8,iV K)]) Aw az ?_);rintro K cX ac ag a8 ⟨cY,U⟩ a9;have al:=U;unfold Sx at al;refine C 7 V (A0 al (λbb be=>?_) (λbb bi=>?_))
  ·obtain⟨cZ,bn,bo⟩:=bs be;refine C 8 V (EW [] [(0,.slice none 0 0),(1,iV p1),(2,iV p2),(3,(fV 113)),(8,iV K)] (λc0 bv bw=>?_) (λbx=>?_))
   ·obtain⟨bz,b0,b1⟩:=bs bo;refine C 3 V (Bx b0 V V V ?_);refine C 2 V ?_;obtain rfl:=oi b1;exact a9 bz (ac.Ad bv) bw V U
   ·refine JL.block (Ef bn (λam=> []) (λam=> [(0,.slice none 0 0),(1,iV p1),(2,iV p2),(3,(fV 113)),(8,iV K),(9,iV K)]) Aw ag ?_);rintro am ap b2 b3 b4 ⟨c1,aq⟩ c2;have av:=aq;unfold Sf at av;refine C 2 V (EV 17 λO=>?_);refine Ba O V [0,1,2,3] V ?_;obtain⟨b5,aw,b6⟩:=bs av;refine Gp 0 #[true,true,true,true,true,true,true,true,true,true,true,true,true,true,true,true,true] (λL s=>∃(ay:LH),Jm ap H ay [] [(0,.slice none 0 0),(1,iV p1),(2,iV p2),(3,(fV 113)),(8,iV K),(9,iV K),(34,.bool b5)] L s) ?_ ?_
    ·rintro _ _ ⟨ay,rfl,rfl,ca,cc⟩;refine AL.fin (by decide+kernel) (CF b6 (λce ci=>?_) (λce co=>?_))
     ·refine C 3 V (EV 16 λO=>?_);refine Ba O V [0,1,2,3] V ?_;obtain⟨c3,cp,ct⟩:=bs ci;refine AK 4 O V V (λρ h s' cw=>DL (h _ _ V) (h _ _ V) cp) (Ba O V [5,6] V ?_);obtain⟨c4,cy,cN⟩:=bs ct;refine AK 7 O V V (λρ h s' cw=>DL (h _ _ V) (h _ _ V) cy) ?_;cases cN
     ·refine JL.exit V ?_;obtain rfl:=oi co;obtain rfl:=b4 _ aq;exact bx (b2.Ad ca) cc V
    ·intro cO;refine G6 (q:=p1<K) (i:=21) V (λY=>?_) (λY=>?_)
     ·have cP:=ip aw Y;refine Ba O V [4,5,6] V ?_;cases cP
     ·have cQ:=im aw Y;refine Ba O V [4,5,6,7,8,9,10,11,12,13,14,15,16] V ?_;obtain rfl:=oi cQ;refine Ep ?_ (cO _ _ ⟨ap,V,V,Aw,b3⟩);exact⟨V,V,V,V,V,V,V,trivial⟩
  ·refine JL.exit V ?_;obtain rfl:=oi bi;obtain rfl:=a8 _ U;exact a7 ac ag V
def Sc(fu_:Nat)(p1:Int)(p2:Int)(p3:Int)(O:Unit):Option (Br Unit ((Unit)⊕(Unit))):= (Av (p2 - p1)).bind λK=> if K<=12 then((Qz fu_ p1 p2).bind λU=> some (.done (Sum.inl ()))) else(if p3=0 then(none) else(none))
def Qp(fu_:Nat)(p1:Int)(p2:Int)(p3:Int):Option Unit:= Option.bind (iter (Sc fu_ p1 p2 p3) fu_ ()) λK=> Sum.elim (λr=>some r) (λO=> none) K
theorem Ym{p1:Int}{p2:Int}{p3:Int}{fu_:Nat}{r:Unit}(K:Qp fu_ p1 p2 p3=some r):AQ J 169 [nS,iV p1,iV p2,iV p3,(fV 113)] E [] (λw E' B'=>w= .tuple #[]/\B'= []):=by
 refine Bo func169 λQ bb cs H Z ac=>?_;unfold Qp at K;obtain⟨be,ag,al⟩:=bs K;refine C 8 V (Bw (λL s=>False) ?_ ?_)
 ·intro _ _ am;exact am.elim
 ·intro bi;refine JL.block (Ef ag (λO=> []) (λO=> [(0,.slice none 0 0),(1,iV p1),(2,iV p2),(3,iV p3),(4,(fV 113)),(10,.bool true),(11,.bool true)]) Aw Z ?_);rintro O bn ap aq av ⟨bo,U⟩ bv;have Y:=U;unfold Sc at Y;obtain⟨bw,aw,ay⟩:=bs Y;refine C 5 V (Cq aw V V V ?_);refine C 8 V (A0 ay (λaz a0=>?_) (λaz a1=>?_))
  ·obtain⟨bx,a2,a3⟩:=bs a0;refine C 6 V (Cy (Ya a2) V V (A8 func193 V) aq λbz a4 a5=>?_);refine JL.done ?_;obtain rfl:=oi a3;obtain rfl:=av _ U;have a6:=elim_inl al;obtain rfl:=oi a6;exact A2 func169 V V (ac (ap.Ad a4) V ⟨V,V⟩ a5)
  ·refine C 7 V (A0 a1 (λa7 a8=>?_) (λa7 a9=>?_))
   ·refine C 6 V ?_;cases a8
   ·refine C 5 V (Am (v:= .bool false) V (λρ h=>Yl.not (c:=true) (h _ _ V)) ?_);refine C 9 V ?_;cases a9
def UA(fu_:Nat):Option Unit:= (f115 fu_ (CX ((0:Nat):Int))).bind λK=> (Qp fu_ 0 ((0:Nat):Int) K).bind λO=> some ()
theorem YG{fu_:Nat}{r:Unit}(K:UA fu_=some r):AQ J 130 [nS,(fV 113)] E [] (λw E' B'=>w= .tuple #[]/\B'= []):=by
 refine Bo func130 λQ av cs H O U=>?_;unfold UA at K;refine C 3 V (JL.ln underlying80 V V V ?_);refine C 6 V (Am (v:= .int .u64 ((CX ((0:Nat):Int):Nat):Int)) V (λρ h=>Yl.CX underlying3 underlying136 (h _ _ V)) ?_);obtain⟨aw,Y,Z⟩:=bs K;refine Cy (NP Y) V V MN O λay ac ag=>?_;obtain⟨az,al,am⟩:=bs Z;refine C 1 V (Cy (Ym al) V V (A8 func169 V) ag λa0 ap aq=>?_);refine JL.done ?_;obtain rfl:=oi am;exact JL.fin (v:= .tuple #[]) V V (BB.list func130 V (vs:= []) trivial) (U (ac.Ad ap) V ⟨V,V⟩ aq)
theorem YB{J:Judge Tryz.prog}{E:LH}{a:Aq}{c:Nat}{g:Seg}{p0:Ay}(Y:OL 27 Az E a c g p0){fu_:Nat}{r:Ay}(K:f130 fu_ p0=some r):
  AQ J 130 [.slice a p0.length c,.func (.func 113) #[] #[]] E g (λw E' B'=>w= .tuple #[]/\OL 27 Az E' a c B' r/\r.length=p0.length):=by
 rcases Y.cases with⟨rfl,rfl,rfl,rfl⟩ | ⟨bk,f,rfl,rfl,hW⟩
 ·have Z:r= []:=by
   cases fu_ with
   | zero=>exact absurd K (by simp [f130,f169,f193,iter])
   | succ fu_=>
    cases fu_ with
    | zero=>exact(Option.some.inj (K.symm.trans (by rfl:f130 1 []=some []))).trans rfl
    | succ fu_=>exact(Option.some.inj (K.symm.trans (by rfl:f130 (fu_+2) []=some []))).trans rfl
  subst Z;refine(YG (fu_:=10) (r:=()) V).Ah ?_;rintro w E' B' hle ⟨O,rfl⟩;exact⟨O,OL.nil,V⟩
 ·refine(Z8 hW K).Ah ?_;rintro w E' B' hle ⟨ac,O,rfl,U⟩;exact⟨O,U.1,U.2⟩
def f90(fu_:Nat)(p0:Ay):Option (Ay):= (f129 fu_ p0).bind λK=> (f130 fu_ K).bind λO=> some O
theorem Ux{a1:Aq}{c2:Nat}{p0:Ay}(al:Al Az E a1 c2 p0){fu_:Nat}{r:Ay}(Z:f90 fu_ p0=some r):AQ J 90 [sV a1 p0 c2] E [] (λw E' B'=>∃(ac:Aq) (ag:Nat),w= sV ac r ag/\B'= []/\Al Az E' ac ag r):=by
 refine Bo func90 λQ a9 cs H am ap=>?_;unfold f90 at Z;obtain⟨bb,aq,av⟩:=bs Z;refine C 7 V (BU (aH al aq) V V (A8 func129 V) am ?_);rintro _ be bi aw ⟨K,O,_,rfl,rfl,ay⟩ az;obtain⟨U,a0,a2⟩:=bs av;refine C 5 V (Cx 1 (YB ay a0) V V (A8 func130 V) az V ?_);rintro _ bn bo a3 ⟨rfl,a4,Y⟩ a5;refine Fg (L':= [(6,.tuple #[]),(0,.slice K U.length O),(2,.slice none 0 0),(3,.slice a1 p0.length c2),(4,.slice K U.length O),(5,.slice K U.length O)]) ⟨V,by rw [Y];rfl,V,V,by rw [Y];rfl,by rw [Y];rfl,trivial⟩ ?_;refine C 6 V (Cm 1 a4 a5 V λbv a6 a7 a8=>?_);obtain rfl:=oi a2;exact A2 func90 V V (ap ((aw.Ad a3).Ad a6) V ⟨K,O,V,V,a7⟩ a8)
end Pal
namespace Pal
open Go Go.Conc
variable {P:Program}{Q:Gs_}{b:Frame}{n:Nat}{ds:Ld_}{ops:Ao_}{k:Li_}{cs:Lf_}{m:Nat}{L:Env}{s:St}{E H:LH}{S:List Seg}
variable {d:Option Tmp}{t ty:TypeId}{p:String}{af:Ae_}{g:On_}{v:Value}
section
variable {J:Judge P}{fuel:Nat}{listed:Array Bool}
variable {x y:Operand}{e:TypeId}{i:Nat}
theorem Take.y0{oi:Oper}(hi:ops[i]? =some oi)(K:(!DW oi.op&&Bc n oi.dst)=true)(hw:AJ L ops oi=some true)(O:∀ρ,EX L ρ->Yl P oi ρ s v)
  (h:AL J Q b n ds ops k cs m CV fuel (A4 listed i) (Au L oi.dst v) s):Take J Q b n ds ops k cs m CV fuel listed L s i:=
 Take.KM hi K hw λρ U=>by
  have:=O ρ U
  unfold Yl at this
  refine Er _ this ?_ (λ_ _ h=>h)
  rintro Y s' ⟨rfl,rfl⟩
  exact h
end
def Gy{P:Program}(J:Judge P)(f:FuncId)(args:Lv_)(E:LH)(B:Seg)(p:Bool)(pv:Value)(R:Value->LH->Seg->Prop):Prop:=
 ∀(Q:Gs_) (bc:Frame) (Tc:Av_) (dsc:Ld_) (K:Li_) (cs:Lf_) (H:LH),Nd E H B->
  (p=false->∀v E' B',Le E E'->R v E' B'->Nd E' H B'->J.ok Q (G ((fr bc Tc dsc K).finish v) cs) (mk E' H B'))->
  (p=true->∀E' B',Le E E'->Nd E' H B'->J.ok Q (G (GW bc Tc dsc K (raised pv)) cs) (mk E' H B'))->
  J.ok Q (G (Frame.enter P f args.toArray .normal) (fr bc Tc dsc K::cs)) (mk E H B)
variable {bc:Frame}{dsc:Ld_}{rest:List Nat}{pp:String}{pv:Value}
section
variable {J:Judge P}{i:Nat}{e:TypeId}
theorem Gy.enter{f:FuncId}{fn:Func}{c:Code}{vs:Lv_}{B:Seg}{R:Value->LH->Seg->Prop}{p:Bool}(ac:P.funcs[f]? =some fn)(hb:fn.body=some c)(ay:vs.length<=fn.ntmps)
  (h:∀(Q:Gs_) (bc:Frame) (Tc:Av_) (dsc:Ld_) (O:Li_) (cs:Lf_) (H:LH),Ap E H [B]->
   (p=false->∀v E' S' B',Le E E'->S'.flatten=B'->R v E' B'->Ap E' H S'->J.ok Q (G ((fr bc Tc dsc O).finish v) cs) (Aj E' H S'))->
   (p=true->∀E' S',Le E E'->Ap E' H S'->J.ok Q (G (GW bc Tc dsc O (raised pv)) cs) (Aj E' H S'))->
   JL J Q (base f) fn.ntmps (Ga 0 vs) [] [.code c] (fr bc Tc dsc O::cs) (Aj E H [B])):Gy J f vs E B p pv R:=λQ bc Tc dsc O cs H ag al K=>by
 have he:Frame.enter P f vs.toArray .normal=fr (base f) (vs.toArray++Array.replicate (fn.ntmps - vs.length) undef) [] [.code c]:=by
  simp [Frame.enter,fr,ac,hb,base];rfl
 have am:mk E H B=Aj E H [B]:=by unfold Aj;simp
 rw [he,am];refine h Q bc Tc dsc O cs H (by unfold Ap;simpa using ag) (λU v E' S' B' hle ap aq Y=>?_) (λU E' S' hle Y=>?_) _ ⟨by simp;omega,λt v av=>?_⟩
 ·subst ap;exact al U v E' S'.flatten hle aq Y
 ·exact K U E' S'.flatten hle Y
 ·obtain⟨_,K⟩:=JD av;have aw:t<vs.length:=by
   rcases Nat.lt_or_ge t vs.length with Z | Z
   ·exact Z
   ·simp at K;have:=(List.getElem?_eq_some_iff.1 K).1;omega
  rw [Array.getD_eq_getD_getElem?,Array.getElem?_append_left (by simpa using aw)];simp at K;simp [K]
theorem Ws{x:Operand}{f:FuncId}{caps:Lv_}{args:Array Operand}{ats:Array TypeId}{s:St}{vs:Lv_}(hb:Dy P f=true)
  (U:ops[i]? =some ⟨d,.call ⟨.value x,args,ats⟩,ty,pp,af,g⟩) (hw:AJ L ops ⟨d,.call ⟨.value x,args,ats⟩,ty,pp,af,g⟩=some true) (O:((b.kind != .early)&&Bc n d)=true)
  (Y:ev L x=some (.func (.func f) #[] caps.toArray)) (Z:evs L args.toList=some vs)
  (h:∀T,Has n L T->J.ok Q (G (Frame.enter P f (vs++caps).toArray .normal) (fr b T ds (.inRegion ops (i::rest)::k)::cs)) s):
  JL J Q b n L ds (.inRegion ops (i::rest)::k) cs s:=λT K=>by
 simp only [Bool.and_eq_true] at O
 have ac:args.map (Bz T)=vs.toArray:=by
  rw [← Gn K.F9 Z];apply Array.ext';simp
 refine Judge.oper U (B7 K hw) (by simpa using O.1) (.inr λc ag=>by cases ag) ?_;have hd:lp P (execOp (Bz T) ⟨d,.call ⟨.value x,args,ats⟩,ty,pp,af,g⟩) s (upon J Q b T ds ops i rest k cs d) (Li J Q b T ds ops i rest k cs):=by
  have al:execOp (Bz T) ⟨d,.call ⟨.value x,args,ats⟩,ty,pp,af,g⟩=(do let d ← Deferred.ofValue (.func (.func f) #[] caps.toArray) vs.toArray;invoke d.target d.args):=by
   simp only [execOp,resolve,ac,K.F9 _ _ Y]
  rw [al];simp only [Deferred.ofValue,bind,Sem.bind,pure,invoke];have e: #[]++vs.toArray++caps.toArray=(vs++caps).toArray:=by simp
  rw [e];exact I6 hb (h T K)
 exact hd
theorem Wa{f:FuncId}{args:Array Operand}{ats:Array TypeId}{s:St}{vs:Lv_}(hb:Dy P f=true)
  (U:ops[i]? =some ⟨d,.call ⟨.value (.func f),args,ats⟩,ty,pp,af,g⟩) (hw:AJ L ops ⟨d,.call ⟨.value (.func f),args,ats⟩,ty,pp,af,g⟩=some true) (O:((b.kind != .early)&&Bc n d)=true)
  (Y:evs L args.toList=some vs)
  (h:∀T,Has n L T->J.ok Q (G (Frame.enter P f vs.toArray .normal) (fr b T ds (.inRegion ops (i::rest)::k)::cs)) s):
  JL J Q b n L ds (.inRegion ops (i::rest)::k) cs s:=λT K=>by
 simp only [Bool.and_eq_true] at O
 have Z:args.map (Bz T)=vs.toArray:=by
  rw [← Gn K.F9 Y];apply Array.ext';simp
 refine Judge.oper U (B7 K hw) (by simpa using O.1) (.inr λc ac=>by cases ac) ?_;have hd:lp P (execOp (Bz T) ⟨d,.call ⟨.value (.func f),args,ats⟩,ty,pp,af,g⟩) s (upon J Q b T ds ops i rest k cs d) (Li J Q b T ds ops i rest k cs):=by
  simp only [execOp,resolve,bind,Sem.bind,Deferred.ofValue,Bz,pure,invoke];have e: #[]++args.map (Bz T)++ #[]=vs.toArray:=by rw [Z];simp
  rw [e];exact I6 hb (h T K)
 exact hd
theorem Y9{g:Frame}{s:St}(O:s.q=false)(h:(∃w,Fits s w)->J.ok Q (G g cs) s):J.ok Q (G g cs) s:=by
 by_cases K:∃w,Fits s w
 ·exact h K
 ·exact J.step ⟨V,λw f=>absurd ⟨w,f⟩ K,λe=>by subst e;cases O⟩
theorem Gy.use{f:FuncId}{vs:Lv_}{B:Seg}{R:Value->LH->Seg->Prop}{p:Bool}{Tc:Av_}{Y:Li_}(j:Nat)(ap:Gy J f vs E B p pv R)(ac:Ap E H S)(ag:S[j]? =some B)
  (Z:p=false->∀v E' B',Le E E'->R v E' B'->Ap E' H (S.set j B')->J.ok Q (G ((fr bc Tc dsc Y).finish v) cs) (Aj E' H (S.set j B')))
  (aq:p=true->∀E' B',Le E E'->Ap E' H (S.set j B')->J.ok Q (G (GW bc Tc dsc Y (raised pv)) cs) (Aj E' H (S.set j B'))):
  J.ok Q (G (Frame.enter P f vs.toArray .normal) (fr bc Tc dsc Y::cs)) (Aj E H S):=by
 have K:S.flatten.Perm (B++(S.set j []).flatten):=(Eo (seg':=B) ag).1.trans List.perm_append_comm;have al:Nd E H (B++(S.set j []).flatten):=Nd.perm ac K;have av:Aj E H S=mk E (Bd (S.set j []).flatten H) B:=by
  rw [show Aj E H S=mk E H S.flatten from rfl,Ff ac K];unfold mk;rw [FT]
 have aw:Nd E H (S.set j []).flatten:=by
  have:=al;rw [Nd.iff] at this ⊢;rw [List.map_append,List.nodup_append] at this;exact⟨this.1.2.1,λq ay=>this.2 q (List.mem_append_right _ ay)⟩
 have back:∀(g:Frame) (E':LH) (B':Seg),Le E E'->Nd E' (Bd (S.set j []).flatten H) B'->(Ap E' H (S.set j B')->J.ok Q (G g cs) (Aj E' H (S.set j B')))->J.ok Q (G g cs) (mk E' (Bd (S.set j []).flatten H) B'):=λg E' B' hle U az=>by
  have e2:mk E' (Bd (S.set j []).flatten H) B'=mk E' H (B'++(S.set j []).flatten):=by unfold mk;rw [FT]
  refine Y9 V λ⟨w,a0⟩=>?_;have a1:Nd E' H (S.set j []).flatten:=aw.grow λx a2=>by
   have a3:=a0.d x a2;have Z:Bd B' (Bd (S.set j []).flatten H) x=none:=a3;exact(H2 Z).1
  have O:Nd E' H (B'++(S.set j []).flatten):=Nd.glue U a1;rw [e2];have am:(B'++(S.set j []).flatten).Perm (S.set j B').flatten:=List.perm_append_comm.trans (Eo ag).2.symm;rw [Ff O am];exact az (Nd.perm O am)
 rw [av];refine ap Q bc Tc dsc Y cs _ (Nd.front al) (λK v E' B' hle a4 U=>back _ E' B' hle U λO=>Z K v E' B' hle a4 O) (λK E' B' hle U=>back _ E' B' hle U λO=>aq K E' B' hle O)
theorem R4{x:Operand}{f:FuncId}{caps:Lv_}{args:Array Operand}{ats:Array TypeId}{vs:Lv_}{seg:Seg}{R:Value->LH->Seg->Prop}{p:Bool}(j:Nat)(hb:Dy P f=true)
  (ac:Gy J f (vs++caps) E seg p pv R) (Y:ops[i]? =some ⟨d,.call ⟨.value x,args,ats⟩,ty,pp,af,g⟩) (hw:AJ L ops ⟨d,.call ⟨.value x,args,ats⟩,ty,pp,af,g⟩=some true) (K:((b.kind != .early)&&Bc n d)=true)
  (ag:ev L x=some (.func (.func f) #[] caps.toArray)) (al:evs L args.toList=some vs) (am:Ap E H S) (ap:S[j]? =some seg)
  (aq:p=true->∀E' seg',Le E E'->Ap E' H (S.set j seg')->JP J Q b n L ds cs (raised pv) (Aj E' H (S.set j seg')))
  (av:p=false->∀v E' seg',Le E E'->R v E' seg'->Ap E' H (S.set j seg')->JL J Q b n (Au L d v) ds (.inRegion ops rest::k) cs (Aj E' H (S.set j seg'))):
  JL J Q b n L ds (.inRegion ops (i::rest)::k) cs (Aj E H S):=
 Ws hb Y hw K ag al λT Z=>Gy.use j ac am ap
  (λO v E' B' hle aw U=>by
   rw [Gm (o:=⟨d,.call ⟨.value x,args,ats⟩,ty,pp,af,g⟩) _ _ _ _ _ Y]
   simp only [Bool.and_eq_true] at K
   exact av O v E' B' hle aw U _ (Z.put K.2 v))
  (λO E' B' hle U=>aq O E' B' hle U T Z _)
theorem Wu{f:FuncId}{args:Array Operand}{ats:Array TypeId}{vs:Lv_}{seg:Seg}{R:Value->LH->Seg->Prop}{p:Bool}(j:Nat)(hb:Dy P f=true)
  (ac:Gy J f vs E seg p pv R) (Y:ops[i]? =some ⟨d,.call ⟨.value (.func f),args,ats⟩,ty,pp,af,g⟩) (hw:AJ L ops ⟨d,.call ⟨.value (.func f),args,ats⟩,ty,pp,af,g⟩=some true) (K:((b.kind != .early)&&Bc n d)=true)
  (ag:evs L args.toList=some vs) (al:Ap E H S) (am:S[j]? =some seg)
  (ap:p=true->∀E' seg',Le E E'->Ap E' H (S.set j seg')->JP J Q b n L ds cs (raised pv) (Aj E' H (S.set j seg')))
  (aq:p=false->∀v E' seg',Le E E'->R v E' seg'->Ap E' H (S.set j seg')->JL J Q b n (Au L d v) ds (.inRegion ops rest::k) cs (Aj E' H (S.set j seg'))):
  JL J Q b n L ds (.inRegion ops (i::rest)::k) cs (Aj E H S):=
 Wa hb Y hw K ag λT Z=>Gy.use j ac al am
  (λO v E' B' hle av U=>by
   rw [Gm (o:=⟨d,.call ⟨.value (.func f),args,ats⟩,ty,pp,af,g⟩) _ _ _ _ _ Y]
   simp only [Bool.and_eq_true] at K
   exact aq O v E' B' hle av U _ (Z.put K.2 v))
  (λO E' B' hle U=>ap O E' B' hle U T Z _)
theorem Xt{ρ:Operand->Value}{x y z1:Operand}{s:St}{p:String}{a:Option Addr}{l c K m:Nat}{hi:Int}(O:∀ad,a=some ad->ad.spot=none∨c=0)(U:m<=c)(he:hi=(m:Int))(Y:P.underlying t=some (.slice e))(Z:Bj P e=some K)(ac:ρ x= .slice a l c)(ag:ρ y=iV hi)(al:ρ z1=iV hi):
  Yl P ⟨d,.slice t x none (some y) (some z1),ty,p,af,g⟩ ρ s (.slice a m m):=by
 subst he;have h:=Yl.slice (P:=P) (s:=s) (d:=d) (ty:=ty) (p:=p) (af:=af) (g:=g) (olo:=none) (ohi:=some y) (omx:=some z1) (lo:=0) (hi:=m) (mx:=m) Y Z ac al ag V U (Nat.le_refl _) (Nat.zero_le _);have am:(if m=0 then a else a.map (·.add (0*K)))=a:=by
  split
  ·rfl
  ·cases a with
   | none=>rfl
   | some ad=>
    have:=(O ad rfl).resolve_right (by omega);simp only [Option.map_some,Nat.zero_mul];rw [DO this];obtain⟨b,o,sp⟩:=ad;simp only at this;subst this;simp
 rw [am] at h;simpa using h
theorem Al.bS{α:Type}{q:Rp α}{a:Option Addr}{c:Nat}{xs ys:List α}{hi:Int}(U:Al q E a c xs)(hC:GR xs 0 hi=some ys):Al q E a c ys/\ys.length<=c/\hi=(ys.length:Int):=by
 unfold GR at hC;split at hC
 rotate_left
 ·cases hC
 rename_i hb;obtain⟨Z,ac,ag⟩:=hb;cases hC;have al:=U.1;have hlen:(((xs.take hi.toNat).drop (0:Int).toNat)).length=hi.toNat:=by simp;omega
 refine⟨⟨by rw [hlen];omega,?_⟩,by rw [hlen];omega,by rw [hlen];omega⟩;rcases U.2 with⟨h,O⟩ | ⟨bk,off,Y,O⟩
 ·exact .inl ⟨by rw [h];simp,O⟩
 ·refine .inr ⟨bk,off,Y,λi x K=>O i x ?_⟩;simp only [Int.toNat_zero,List.drop_zero] at K;rw [List.getElem?_take] at K;split at K
  ·exact K
  ·cases K
theorem Take.SK{m fuel:Nat}{listed:Array Bool}{x y:Operand}{p:String}{α:Type}{q:Rp α}{t1:TypeId}{Y c cx:Nat}{a ax:Option Addr}{xs ys Z:List α}{ats:Array TypeId}{z:Value}(U:Eh xs ys=some Z)
  (aw:ops[i]? =some ⟨d,.call ⟨.builtin .append,#[x,y],ats⟩,ty,p,af,g⟩) (hw:AJ L ops ⟨d,.call ⟨.builtin .append,#[x,y],ats⟩,ty,p,af,g⟩=some true) (ay:Bc n d=true)
  (az:ev L x=some (.slice a xs.length xs.length)) (a0:ev L y=some (.slice ax ys.length cx)) (a1:ats[0]? =some t) (a2:ats[1]? =some t1) (a3:P.underlying t=some (.slice e)) (a4:P.underlying t1=some (.slice e)) (a5:Bj P e=some q.n) (hb:FH P e=some Y) (a6:zeroOf P e=some z) (a7:z.cells.size=q.n)
  (a8:0<Y) (a9:Y<=64) (ac:Al q E a c xs) (bb:Al q E ax cx ys) (ag:Ap E H S)
  (h:∀E' al K,Le E E'->Al q E' al K Z->Ap E' H (S++ [[]])->AL J Q b n ds ops k cs m CV fuel (A4 listed i) (Au L d (.slice al Z.length K)) (Aj E' H (S++ [[]]))):
  Take J Q b n ds ops k cs m CV fuel listed L (Aj E H S) i:=by
 unfold Eh at U;split at U
 rotate_left
 ·cases U
 rename_i be;cases U;obtain⟨wss,am,bi,bn,ci⟩:=Al.L9 (H:=H) (B:=S.flatten) ac.full;obtain⟨bo,bv,bw,bx,bz⟩:=Al.L9 (H:=H) (B:=S.flatten) bb;have hlen:(xs++ys).length=xs.length+ys.length:=by simp
 show Take J Q b n ds ops k cs m CV fuel listed L (mk E H S.flatten) i;refine Take.KM aw (by simp [DW,ay]) hw λρ ap=>?_;rw [LK,ap x _ az,ap y _ a0];refine As _ _ (Q0 a1 a2 a4 a3 a5 hb a6 a7 ag bn bx bz a8 be a9 ?_ ?_)
 ·intro hm;have b0:ys= []:=List.eq_nil_of_length_eq_zero hm;subst b0;have b1:Ap E H (S++ [[]]):=by unfold Ap at*;rw [GI,List.append_nil];exact ag
  have b2:mk E H S.flatten=Aj E H (S++ [[]]):=by unfold Aj;rw [GI,List.append_nil]
  rw [b2];have:=h E a xs.length (Le.refl _) (by rw [List.append_nil];exact ac.full) b1;rw [hlen] at this;exact this
 ·intro r O K b3 b4 b5 b6;have ca:OL e q E (some ⟨r,0,none⟩) K [(r,.cells O e (0,0))] (xs++ys):=
   ⟨wss++bo,.inr ⟨r,O,rfl,rfl,b4,by rw [hlen];exact b3,by rw [hlen,List.flatten_append];exact b5.symm⟩,by simp [am,bv],M3 am bi bw⟩
  have aq:=FB (S:=S) (seg:= [(r,.cells O e (0,0))]) b6;show AL J Q b n ds ops k cs m CV fuel _ _ (mk E H (S.flatten++ [(r,.cells O e (0,0))]));rw [aq.1];refine F7 S.length ca aq.2 (by simp) λE' hle cc av=>?_;have ce:(S++ [[(r,Obj.cells O e (0,0))]]).set S.length []=S++ [[]]:=Jf _ _ _ _;rw [ce] at av ⊢;have:=h E' (some ⟨r,0,none⟩) K hle cc av;rw [hlen] at this;exact this
theorem Vg{ρ:Operand->Value}{x:Operand}{s:St}{p:String}{v:Value}{xt t1:TypeId}{f1:Array Field}(K:P.underlying t1=some (.struct f1))(O:ρ x= .iface t1 v):Yl P ⟨d,.typeAssert x xt t1 true,ty,p,af,g⟩ ρ s (.tuple #[v,.bool true]):=by
 refine FR (sm:=Instr.typeAssert (ρ x) xt t1 true) V ?_;rw [O];unfold Instr.typeAssert;refine As _ _ (Cl K ?_);simp [lp,pure]
theorem Ve{ρ:Operand->Value}{x:Operand}{s:St}{p:String}{z:Value}{xt t1:TypeId}{f1:Array Field}(K:P.underlying t1=some (.struct f1))(O:zeroOf P t1=some z)(U:ρ x= .nilIface):Yl P ⟨d,.typeAssert x xt t1 true,ty,p,af,g⟩ ρ s (.tuple #[z,.bool false]):=by
 refine FR (sm:=Instr.typeAssert (ρ x) xt t1 true) V ?_;rw [U];unfold Instr.typeAssert;refine As _ _ (Cl K ?_);exact As (x:=zeroValue t1) _ (G4 O ⟨V,V⟩)
end
end Pal
