/- DebtKnown states that the examples of the chapter have the results given there.: a part (3 of 9) of the proof of its row. -/
import Derived.Test.YtmeophcclkejkaaGreatDoorKna
import Derived.Test.YtmeophcclkejkaaGreatDoorKnb
import Derived.Test.YtmeophcclkejkaaGreatDoorProg
import Derived.ProofKit
set_option linter.all false
set_option maxRecDepth 100000
namespace Pal
open Go Go.Conc
open Go.ConcN (sumTo upd sumTo_upd upd_ne upd_same)
def LM(P:Program)(R:Value->St->Prop):GP:=λg s=>
 g.status= .running/\∃v,R v s/\∀w,stepG P true g w= .ended (.done v) w #[]
variable {P:Program}{R:Value->St->Prop}{J:Judge P}{n:Nat}{L:Env}{s:St}{b:Frame}
theorem JO.end{fn:Func}{t:Tmp}{v:Value}(K:b.kind= .normal)(hi:P.inits.idxOf? b.fn=none)(O:P.funcs[b.fn]? =some fn)(U:fn.results= #[.tmp t])(V:look L t=some v)(Y:R v s):JO J (LM P R) b n L [] [] s:=λT Z todo=>by
 refine J.stop ⟨rfl,v,Y,λw=>?_⟩
 have e:results fn T=Sem.pure v:=by
  have:=Z.at_ t v V;simp only [results,U,Array.mapM_eq_mapM_toList];show Sem.pure (T.getD t undef)=_;rw [this]
 have ac:(results fn T).run P w= .ok v w:=by rw [e];rfl
 have e2:(results fn T).events P w #[]= #[]:=by rw [e];simp [Sem.events_pure']
 simp [G,stepG,unwind,El,O,ac,e2,doReturn,K,GStep.after,hi,seen_none]
def After(P:Program)(R:Value->St->Prop)(K:World)(s₀:St)(v:Value)(w':World):Prop:=
 ∃s,R v s/\Fits s w'/\(∀b o,s₀.E b=some o->s.E b=some o)/\w'.tape=K.tape/\F6 K.os w'.os/\w'.output=K.output
def PZ(P:Program)(R:Value->St->Prop)(K:World)(s₀:St)(O:Nat)(m:Machine)(t:Trace):Prop:=
 ∃gs w sl q Sh g s,m=crowd gs w sl/\Hc P gs w t q Sh g s/\LM P R g s/\O=sumTo gs.size q/\(∀b o,s₀.E b=some o->s.E b=some o)/\w.tape=K.tape/\F6 K.os w.os/\w.output=K.output
theorem W1{am:World}{s₀:St}(ay:Nat)(m:Machine)(t:Trace)(h:PZ P R am s₀ ay m t):
  (∃o w ops,stepT P m=(.ended o w,ops)/\Good P (After P R am s₀) m o w (t++ops))∨(∃m' ops az,stepT P m=(.next m',ops)/\az<ay/\PZ P R am s₀ az m' (t++ops)):=by
 obtain⟨gs,w,sl,q,Sh,g,s,rfl,hC,be,rfl,a0,a1,a2,a3⟩:=h;obtain⟨Z,v,a4,a5⟩:=be;have bi:∀x∈gs,awake x:=by
  intro x V;obtain⟨i,hi,rfl⟩:=Array.mem_iff_getElem.1 V;rcases Nat.eq_zero_or_pos i with rfl | ap
  ·have:gs[0]=g:=by simpa [Array.getElem?_eq_getElem hi] using hC.main
   rw [this];exact awake_of (.inl Z)
  ·exact awake_of ((hC.lv.old i _ ap (Array.getElem?_eq_getElem hi)).status.elim .inl λx=> .inr (.inr x))
 obtain⟨i,x,d,a6,hi,V,a7⟩:=crowd_pick (P:=P) (w:=w) (sl:=sl) bi ⟨0,g,hC.main,Z⟩;have a8:=hC.at_ d;have bn:0<gs.size:=(Array.getElem?_eq_some_iff.1 hC.main).1;have bo:∀(a:Nat) (fn:FuncId) (pos:String),MemOp.ofEvents a fn pos #[]= #[]:=λa fn pos=>by rw [ofEvents_eq];simp
 rcases Nat.eq_zero_or_pos i with rfl | ap
 ·obtain rfl:x=g:=by rw [hC.main] at hi;exact(Option.some.inj hi).symm
  have ac:=runT_many_ended (P:=P) (sl:=a6) (i:=0) hi (show stepG P (0==0) x (w.at d)=_ from a5 (w.at d));rw [bo] at ac;refine .inl ⟨_,_,_,a7.trans ac,v,rfl,⟨s,a4,a8.B9.fits 0 bn,a0,a1,a2,a3⟩,?_,?_,⟨λy K=>?_,rfl⟩,λj y K O=>?_⟩
  ·simpa using hC.B9.clean
  ·simpa using hC.over
  ·obtain⟨j,O⟩:=List.mem_iff_getElem?.1 K;rw [List.getElem?_drop] at O;exact⟨_,(hC.lv.old (1+j) y (by omega) (by simpa [crowd] using O)).leaves⟩
  ·have Y:=hC.lv.old j y (by omega) K;exact⟨q j,by simp only [Array.append_empty];exact Y.hears w⟩
 ·have Y:=hC.lv.old i x ap hi;have bv:(i==0)=false:=by simp;omega
  have a9:i<gs.size:=(Array.getElem?_eq_some_iff.1 hi).1;cases aq:q i with
  | zero=>rw [aq] at Y;rw [Y.1] at V;cases V
  | succ k=>
   rw [aq] at Y;rcases Y with⟨bw,_⟩ | ⟨_,x',es,hm,bx,bz⟩
   ·rw [bw] at V;cases V
   have b1:sumTo gs.size (upd q i k)+(k+1)=sumTo gs.size q+k:=by
    have:=sumTo_upd q k id a9;simpa [aq] using this
   have ac:=runT_crowd_go (P:=P) (sl:=a6) (i:=i) hi (by rw [bv];exact bx (w.at d));have aw:((gs.map (woken P x x' (w.at d))).setIfInBounds i x').size=gs.size:=by simp
   have ag:∀op∈MemOp.ofEvents i x.frame.fn x.frame.place es,op.g=i:=λop U=>by obtain⟨e,_,rfl⟩:=mem_ofEvents U;rfl
   have bb:∀op∈MemOp.ofEvents i x.frame.fn x.frame.place es,op.act.touch? =none:=λop U=>by obtain⟨e,he,rfl⟩:=mem_ofEvents U;exact touch_mute (hm e he)
   have bY:Hc P ((gs.map (woken P x x' (w.at d))).setIfInBounds i x') (w.at d) (t++MemOp.ofEvents i x.frame.fn x.frame.place es) (upd q i k) Sh g s:=by
    refine⟨?_,⟨λj y O K=>?_,λj O=>?_⟩,?_,?_,?_⟩
    ·have bZ:i≠0:=by omega
     rw [Array.getElem?_setIfInBounds_ne bZ,Array.getElem?_map,hC.main];simp [woken_run Z]
    ·by_cases al:i=j
     ·subst al;rw [Array.getElem?_setIfInBounds_self_of_lt (by simpa using a9)] at K;obtain rfl:=Option.some.inj K;rw [upd_same,Deaf_own];exact bz
     ·rw [Array.getElem?_setIfInBounds_ne al,Array.getElem?_map] at K;obtain⟨z,b0,rfl⟩:=Option.map_eq_some_iff.1 K;have bd:=hC.lv.old j z O b0;rw [woken_quitsD bd,upd_ne q k (Ne.symm al),Deaf_other t al _ ag];exact bd
    ·rw [Deaf_other t (g':=i) (by simp at O;omega) _ ag];exact hC.lv.above j (by simpa using O)
    ·rw [aw];exact a8.B9.mute ag bb (λop U=>by obtain⟨e,he,rfl⟩:=mem_ofEvents U;exact low_mute (hm e he) _) rfl
    ·exact handedOver_app hC.over λop U=> .inr (bb op U)
    ·rw [Deaf_other t (by omega) _ ag];exact hC.hears
   exact .inr ⟨_,_,_,a7.trans ac,by rw [← aw];rw [aw];omega,_,_,_,_,_,_,_,rfl,bY,⟨Z,v,a4,a5⟩,rfl,a0,a1,a2,a3⟩
theorem ends{gs:Array Goroutine}{w:World}{sl:Option (Nat×Nat)}{t:Trace}{q:Nat->Nat}{Sh:Nat->Prop}{g:Goroutine}{s:St}(hC:Hc P gs w t q Sh g s)(O:LM P R g s):
  ∃N last o w' K,runNT P (N+1) (crowd gs w sl) t=(.ended o w',K)/\runN P N (crowd gs w sl)= .next last/\step P last= .ended o w'/\Good P (After P R w s) last o w' K:=
 run_of_inv Nat.lt_wfRel.wf (PZ P R w s) (Good P (After P R w s)) W1 _ _ _ ⟨gs,w,sl,q,Sh,g,s,V,hC,O,V,λ_ _ h=>h,V,.refl _,V⟩
theorem Vf{m m':Machine}{t K:Trace}{n:Nat}(h:runNT P n m t=(.next m',K)):runN P n m= .next m':=by rw [← runNT_fst P n m t,h]
def JZ(W:World):St:=⟨λb=>W.heap[b]?,λ_=>none,false⟩
theorem XG{W:World}{g:Goroutine}(h:(Gi P).ok (LM P R) g (JZ W)):
  ∃M last o w' K,runNT P (M+1) (solo g W) #[]=(.ended o w',K)/\runN P M (solo g W)= .next last/\step P last= .ended o w'/\Good P (After P R W (JZ W)) last o w' K:=by
 have hC:Hc P #[g] W #[] (λ_=>0) (λ_=>False) g (JZ W):=by
  have V:∀{i:Nat} {a:Touch},touchAt #[] i=some a->False:=λ{i a} h=>by simp [touchAt,Trace.act?] at h
  refine⟨rfl,leavers_one P g,⟨λi hi=>?_,λi j hi Z be=>by simp at hi Z;omega,λi hi b hb=>hb.elim,λb hb=>hb.elim,λsaid=>?_,by simp,λi _ b _ x a O=>(V O).elim,λi _ b _ x a O=>(V O).elim⟩,λi g ac=>by simp [Trace.g?] at ac,rfl⟩
  ·have:i=0:=by simp at hi;exact hi
   subst this;exact⟨λb o U=>U,λb o U=>(by cases U),λb _=>rfl⟩
  ·rintro⟨i,j,_,⟨a,b,ag,_⟩,_⟩;simp [Trace.act?] at ag
 obtain⟨n,gs',w',al,K,q',bi,g',s',Y,am,ap,aq,aw,ay,az⟩:=h #[g] W none #[] _ _ hC;obtain⟨N,last,o,a0,a2,k1,a3,a4,a5⟩:=ends (sl:=al) am ap;refine⟨n+N,last,o,a0,a2,?_,?_,a4,?_⟩
 ·rw [solo_eq_crowd,Nat.add_assoc,runNT_add,Y];exact k1
 ·have a6:=Vf Y;rw [solo_eq_crowd,runN_add,a6];exact a3
 ·obtain⟨v,e,⟨s2,a1,a7,a8,a9,bb,bd⟩,r⟩:=a5;exact⟨v,e,⟨s2,a1,a7,λb o hb=>a8 b o (aq b o hb),a9.trans aw,ay.trans bb,bd.trans az⟩,r⟩
end Pal
namespace Pal
open Go Go.Conc
theorem Wr{P:Program}{Q:Gs_}{E H:LH}{f:FuncId}{fn:Func}{c:Code}{vs:Lv_}(U:P.funcs[f]? =some fn)(hb:fn.body=some c)(ac:fn.ntmps=fn.ntmps)(ag:vs.length<=fn.ntmps)
  (h:JL (Gi P) Q (base f) fn.ntmps (F1 0 vs) [] [.code c] [] (Aj E H [[]])):(Gi P).ok Q (G (Frame.enter P f vs.toArray .normal) []) (mk E H []):=by
 have he:Frame.enter P f vs.toArray .normal=fr (base f) (vs.toArray++Array.replicate (fn.ntmps - vs.length) undef) [] [.code c]:=by
  simp [Frame.enter,fr,U,hb,base];rfl
 rw [he];have V:mk E H []=Aj E H [[]]:=by unfold Aj;simp
 rw [V];refine h _ ⟨by simp;omega,λt v Y=>?_⟩;obtain⟨_,K⟩:=Jj Y;have Z:t<vs.length:=by
  rcases Nat.lt_or_ge t vs.length with O | O
  ·exact O
  ·simp at K;have:=(List.getElem?_eq_some_iff.1 K).1;omega
 rw [Array.getD_eq_getD_getElem?,Array.getElem?_append_left (by simpa using Z)];simp at K;simp [K]
def Hd(K:Bool)(ws:Lv_):Value:=if K then .agg ws.toArray else ws.headD undef
def Vr{α:Type}(pp:Rp α)(K:Bool)(E:LH)(v:Value)(x:α):Prop:=∃ws,pp.r E ws x/\v=Hd K ws
theorem Vr.Ag{α:Type}{pp:Rp α}{K:Bool}{E E':LH}{v:Value}{x:α}(h:Vr pp K E v x)(hle:Le E E'):Vr pp K E' v x:=
 let ⟨ws,O,U⟩:=h;⟨ws,pp.Ag hle O,U⟩
structure FE (P:Program) (t:TypeId) {κ:Type} [DecidableEq κ] (pk:Rp κ) (ka:Bool):Prop where
 BJ:∀{em:Bool} {E:LH} {v:Value} {x:κ} {s:St} {Q:Unit->St->Prop} {X:Halt->St->Prop},Vr pk ka E v x->Q () s->lp P (Instr.checkKey em 10000 t v) s Q X
 kind:∃kd,P.underlying t=some kd/\((∀v w,Instr.sameNow kd v w=none)∨∀{E:LH} {v w:Value} {x y:κ},Vr pk ka E v x->Vr pk ka E w y->Instr.sameNow kd v w=some (decide (x=y)))
 eq:∀{E:LH} {v w:Value} {x y:κ} {s:St} {Q:Bool->St->Prop} {X:Halt->St->Prop},Vr pk ka E v x->Vr pk ka E w y->Q (decide (x=y)) s->lp P (Op.equal t v w) s Q X
 same:∀{E:LH} {v:Value} {x:κ},Vr pk ka E v x->Instr.sameBits 10000 v v=true
 uniq:∀{E:LH} {v w:Value} {x:κ},Vr pk ka E v x->Vr pk ka E w x->v=w
variable {κ ν:Type}{pk:Rp κ}{pv:Rp ν}{ka va:Bool}{E E':LH}
variable {P:Program}{s:St}{t tm te:TypeId}{X:Halt->St->Prop}
section
variable [DecidableEq κ]
def C7(pk:Rp κ)(ka:Bool)(pv:Rp ν)(va:Bool)(E:LH):List MapEntry->List (κ×ν)->Prop
 | [],[]=>True
 | e::es,x::xs=>Vr pk ka E e.key x.1/\Vr pv va E e.val x.2/\C7 pk ka pv va E es xs
 | _,_=>False
theorem C7.Ag(hle:Le E E'):∀{es:List MapEntry} {xs:List (κ×ν)},C7 pk ka pv va E es xs->C7 pk ka pv va E' es xs
 | [],[],_=>trivial
 | e::es,x::xs,h=>⟨h.1.Ag hle,h.2.1.Ag hle,C7.Ag hle h.2.2⟩
 | [],_::_,h=>h.elim
 | _::_,[],h=>h.elim
theorem C7.len:∀{es:List MapEntry} {xs:List (κ×ν)},C7 pk ka pv va E es xs->es.length=xs.length
 | [],[],_=>rfl
 | e::es,x::xs,h=>by simp [C7.len h.2.2]
 | [],_::_,h=>h.elim
 | _::_,[],h=>h.elim
def DX(x:κ):List MapEntry->List (κ×ν)->Nat->Option (Nat×Value)
 | e::es,y::ys,i=>if x=y.1 then some (i,e.val) else DX x es ys (i+1)
 | _,_,_=>none
def Bf(xs:List (κ×ν))(x:κ):Option ν:=(xs.find? λy=>decide (x=y.1)).map (·.2)
def Bp(xs:List (κ×ν))(x:κ)(v:ν):List (κ×ν):=match xs with
 | []=> [(x,v)]
 | y::ys=>if x=y.1 then(x,v)::ys else y::Bp ys x v
theorem OQ{x:κ}:∀{es:List MapEntry} {xs:List (κ×ν)} {i:Nat},C7 pk ka pv va E es xs->(DX x es xs i=none/\Bf xs x=none)∨∃j w v0,DX x es xs i=some (j,w)/\Bf xs x=some v0/\Vr pv va E w v0
 | [],[],i,_=> .inl ⟨rfl,rfl⟩
 | e::es,y::ys,i,h=>by
  unfold DX Bf
  by_cases K:x=y.1
  ·exact .inr ⟨i,e.val,y.2,by rw [if_pos K],by simp [K],h.2.1⟩
  ·rcases OQ (x:=x) (i:=i+1) h.2.2 with⟨O,U⟩ | ⟨j,w,v0,O,U,V⟩
   ·exact .inl ⟨by rw [if_neg K];exact O,by simpa [K,Bf] using U⟩
   ·exact .inr ⟨j,w,v0,by rw [if_neg K];exact O,by simpa [K,Bf] using U,V⟩
 | [],_::_,_,h=>h.elim
 | _::_,[],_,h=>h.elim
theorem C7.put{x:κ}{v0:ν}{O w:Value}(U:Vr pk ka E O x)(hw:Vr pv va E w v0)(Y:Nat):∀{es:List MapEntry} {xs:List (κ×ν)} {i:Nat},C7 pk ka pv va E es xs->
  (DX x es xs i=none/\C7 pk ka pv va E (es++ [{key:=O,val:=w,born:=Y}]) (Bp xs x v0))∨
  ∃j u,DX x es xs i=some (i+j,u)/\j<es.length/\(∀e,es[j]? =some e->Vr pk ka E e.key x)/\C7 pk ka pv va E (es.modify j λe=>{e with key:=O,val:=w}) (Bp xs x v0)
 | [],[],i,_=> .inl ⟨rfl,U,hw,trivial⟩
 | e::es,y::ys,i,h=>by
  unfold DX Bp
  by_cases K:x=y.1
  ·refine .inr ⟨0,e.val,by rw [if_pos K];rfl,by simp,λZ he=>?_,?_⟩
   ·simp at he;subst he;rw [K];exact h.1
   ·rw [if_pos K];exact⟨U,hw,h.2.2⟩
  ·rcases C7.put U hw Y (i:=i+1) h.2.2 with⟨V,ac⟩ | ⟨j,u,V,ac,ag,al⟩
   ·exact .inl ⟨by rw [if_neg K];exact V,by rw [if_neg K];exact⟨h.1,h.2.1,ac⟩⟩
   ·refine .inr ⟨j+1,u,by rw [if_neg K,V];congr 2;omega,by simp;omega,λZ he=>ag Z (by simpa using he),?_⟩;rw [if_neg K];exact⟨h.1,h.2.1,al⟩
 | [],_::_,_,h=>h.elim
 | _::_,[],_,h=>h.elim
def Kq(pk:Rp κ)(ka:Bool)(pv:Rp ν)(va:Bool)(E:LH)(o:Obj)(xs:List (κ×ν)):Prop:=
 ∃es clock,o= .map es clock/\C7 pk ka pv va E es.toList xs/\(es.toList.map (·.born)).Pairwise (·<·)/\∀e∈es.toList,e.born<clock
theorem Kq.Ag{o:Obj}{xs:List (κ×ν)}(h:Kq pk ka pv va E o xs)(hle:Le E E'):Kq pk ka pv va E' o xs:=
 let ⟨es,c,K,O,U⟩:=h;⟨es,c,K,O.Ag hle,U⟩
theorem Qk(U:FE P t pk ka){k:Value}{x:κ}(V:Vr pk ka E k x){Q:Option (Nat×Value)->St->Prop}:∀{es:List MapEntry} {xs:List (κ×ν)} {i:Nat},C7 pk ka pv va E es xs->Q (DX x es xs i) s->lp P (Instr.findAsking t k es i) s Q X
 | [],[],i,_,h=>h
 | e::es,y::ys,i,h,K=>by
  unfold Instr.findAsking
  refine Ar _ _ (U.eq V h.1 ?_)
  unfold DX at K
  by_cases O:x=y.1
  ·rw [decide_eq_true O]
   rw [if_pos O] at K;exact K
  ·rw [decide_eq_false O];rw [if_neg O] at K;exact Qk U V h.2.2 K
 | [],_::_,_,h,_=>h.elim
 | _::_,[],_,h,_=>h.elim
theorem Qw{kd:TypeDesc}{k:Value}{x:κ}(O:Vr pk ka E k x)(U:∀{E:LH} {v w:Value} {x y:κ},Vr pk ka E v x->Vr pk ka E w y->Instr.sameNow kd v w=some (decide (x=y))):∀{es:List MapEntry} {xs:List (κ×ν)} {i:Nat},C7 pk ka pv va E es xs->Instr.findNow kd k es i=some (DX x es xs i)
 | [],[],i,_=>rfl
 | e::es,y::ys,i,h=>by
  unfold Instr.findNow DX
  rw [U O h.1]
  by_cases K:x=y.1
  ·simp [K]
  ·simp only [decide_eq_false K,if_neg K];exact Qw O U h.2.2
 | [],_::_,_,h=>h.elim
 | _::_,[],_,h=>h.elim
theorem MD(O:FE P t pk ka){k:Value}{x:κ}(U:Vr pk ka E k x){Q:Option (Nat×Value)->St->Prop}{es:List MapEntry}{xs:List (κ×ν)}(h:C7 pk ka pv va E es xs)(K:Q (DX x es xs 0) s):lp P (Instr.findKey t k es) s Q X:=by
 unfold Instr.findKey;obtain⟨kd,V,Y | Z⟩:=O.kind
 ·refine Ar _ _ (Ce V ?_);cases es with
  | nil=>
   cases xs with
   | nil=>exact K
   | cons y ys=>exact h.elim
  | cons e es=>
   have ac:Instr.findNow kd k (e::es) 0=none:=by unfold Instr.findNow;rw [Y]
   rw [ac];exact Qk O U h K
 ·refine Ar _ _ (Ce V ?_);rw [Qw U Z h];exact K
theorem VP(O:FE P t pk ka)(hm:P.underlying tm=some (.map t te)){z:Value}{z0:ν}(Y:zeroOf P te=some z)(Z:Vr pv va E z z0){bk:Nat}{o:Obj}{xs:List (κ×ν)}{k:Value}{x:κ}(ac:s.get bk=some o)(ag:Kq pk ka pv va E o xs)(U:Vr pk ka E k x)(ok:Bool){Q:Value->St->Prop}
  (h:∀w,Vr pv va E w ((Bf xs x).getD z0)->Q (if ok then .tuple #[w,.bool (Bf xs x).isSome] else w) s):lp P (Instr.lookup tm (.map (some bk)) k ok) s Q X:=by
 obtain⟨es,c,rfl,V,am,ap⟩:=ag;unfold Instr.lookup;refine Ar _ _ (Ce hm ?_);refine Ar _ _ ?_;unfold getObj;simp only [bind,Sem.bind,lp];refine⟨_,ac,rfl,?_⟩;refine Ar (x:=Instr.checkKey _ 10000 t k) _ (O.BJ U ?_);refine Ar (x:=Instr.findKey t k es.toList) _ (MD O U V ?_);rcases OQ (x:=x) (i:=0) V with⟨K,e2⟩ | ⟨j,w,v0,K,e2,al⟩
 ·rw [K];simp only;refine Ar (x:=zeroValue te) _ (GQ Y ?_);have:=h z (by rw [e2];exact Z);rw [e2] at this;exact this
 ·rw [K];have:=h w (by rw [e2];exact al);rw [e2] at this;exact this
theorem UU(O:FE P t pk ka)(hm:P.underlying tm=some (.map t te)){bk:Nat}{o:Obj}{xs:List (κ×ν)}{k w:Value}{x:κ}{v0:ν}(al:s.get bk=some o)(Y:s.H bk=some o)(am:Kq pk ka pv va E o xs)(K:Vr pk ka E k x)(hw:Vr pv va E w v0){Q:Unit->St->Prop}
  (h:∀o',Kq pk ka pv va E o' (Bp xs x v0)->Q () (s.upd bk o')):lp P (Instr.mapUpdate tm (.map (some bk)) k w) s Q X:=by
 obtain⟨es,c,rfl,Z,ac,U⟩:=am;unfold Instr.mapUpdate;refine Ar _ _ (Ce hm ?_);unfold getObj;simp only [bind,Sem.bind,lp];refine⟨_,al,rfl,?_⟩;refine Ar (x:=Instr.checkKey false 10000 t k) _ (O.BJ K ?_);refine Ar (x:=Instr.findKey t k es.toList) _ (MD O K Z ?_);rcases C7.put K hw c (i:=0) Z with⟨V,e2⟩ | ⟨j,u,V,e2,ap,aq⟩
 ·rw [V];simp only [setObj,lp];refine⟨⟨_,Y,rfl⟩,rfl,h _ ⟨es.push {key:=k,val:=w,born:=c},c+1,rfl,by simpa using e2,?_,?_⟩⟩
  ·rw [Array.toList_push,List.map_append,List.pairwise_append];refine⟨ac,by simp,λa aw b hb=>?_⟩;simp at hb;subst hb;obtain⟨e,he,rfl⟩:=List.mem_map.1 aw;exact U e he
  ·intro e he;rw [Array.toList_push] at he;rcases List.mem_append.1 he with he | he
   ·have:=U e he;omega
   ·simp at he;subst he;simp
 ·rw [V];have ag:es[j]? =some (es[j]'(by simpa using e2)):=Array.getElem?_eq_getElem (by simpa using e2);have ay:(es[j]'(by simpa using e2)).key=k:=O.uniq (ap _ (by rw [Array.getElem?_toList];exact ag)) K;simp only [Nat.zero_add,ag,Option.map_some,Option.getD_some,ay];refine Ar (x:=Instr.keyThatStays k k) _ ?_;unfold Instr.keyThatStays;rw [if_pos (O.same K)];simp only [lp,pure,setObj];refine⟨⟨_,Y,rfl⟩,rfl,h _ ⟨_,c,rfl,by simpa using aq,?_,?_⟩⟩
  ·have:(es.modify j λe=>{e with key:=k,val:=w}).toList.map (·.born)=es.toList.map (·.born):=by
    rw [Array.toList_modify];apply List.ext_getElem?;intro q;simp only [List.getElem?_map,List.getElem?_modify];split <;> cases es.toList[q]? <;> rfl
   rw [this];exact ac
  ·intro e he;rw [Array.toList_modify] at he;obtain⟨q,az,rfl⟩:=List.mem_iff_getElem.1 he;rw [List.getElem_modify];have a0:q<es.toList.length:=by simpa using az
   split
   ·show(es.toList[q]'a0).born<c;exact U _ (List.getElem_mem _)
   ·exact U _ (List.getElem_mem _)
end
theorem SI{l us r:Lv_}:∀j w,us[j]? =some w->(l++us++r).toArray[l.length+j]? =some w:=λj w h=>by
 have K:j<us.length:=(List.getElem?_eq_some_iff.1 h).1
 rw [List.getElem?_toArray,List.append_assoc,List.getElem?_append_right (by omega),show l.length+j - l.length=j by omega,List.getElem?_append_left K]
 exact h
section
variable {e:TypeId}
theorem KJ{c:Av_}{off:Nat}{us:Lv_}{O:Bool}(V:Dr P e=some O)(Y:Bo P e=some us.length)(Z:O=false->us.length=1)(hw:∀j w,us[j]? =some w->c[off+j]? =some w)
  {Q:Value->St->Prop} (k:Q (Hd O us) s):lp P (Go.part e c off) s Q X:=by
 unfold Go.part;refine Ar (x:=isAgg e) _ (MV V ?_);cases O with
 | true=>
  simp only [if_true];refine Ar (x:=Go.sizeOf e) _ (EJ Y ?_);have ac:c.extract off (off+us.length)=us.toArray:=by
   apply Array.ext_getElem?;intro j;by_cases U:j<us.length
   ·have K:=hw j us[j] (List.getElem?_eq_getElem U);have ag:off+j<c.size:=(Array.getElem?_eq_some_iff.1 K).1;simp only [Array.getElem?_extract];rw [if_pos (by omega),K];simp [U]
   ·simp only [Array.getElem?_extract];rw [if_neg (by omega)];simp;omega
  show Q (.agg (c.extract off (off+us.length))) s;rw [ac];exact k
 | false=>
  obtain⟨w,rfl⟩:∃w,us= [w]:=by
   match us,Z rfl with
   | [w],_=>exact⟨w,rfl⟩
  have K:=hw 0 w rfl;rw [Nat.add_zero] at K;simp only [Bool.false_eq_true,if_false,K];exact k
end
structure B2 (P:Program) (t:TypeId) {α:Type} [DecidableEq α] (pp:Rp α) (K:Bool) (dep:Nat):Prop where
 agg:Dr P t=some K
 size:Bo P t=some pp.n
 one:K=false->pp.n=1
 eq:∀{n:Nat} {E E':LH} {ws ws':Lv_} {x y:α} {s:St} {Q:Bool->St->Prop} {X:Halt->St->Prop},dep<=n->pp.r E ws x->pp.r E' ws' y->Q (decide (x=y)) s->lp P (Op.equalIn n t (Hd K ws) (Hd K ws')) s Q X
 BJ:∀{n:Nat} {em:Bool} {E:LH} {ws:Lv_} {x:α} {s:St} {Q:Unit->St->Prop} {X:Halt->St->Prop},dep<=n->pp.r E ws x->Q () s->lp P (Instr.checkKey em n t (Hd K ws)) s Q X
 uniq:∀{E E':LH} {ws ws':Lv_} {x:α},pp.r E ws x->pp.r E' ws' x->ws=ws'
 same:∀{E:LH} {ws:Lv_} {x:α},pp.r E ws x->∀w∈ws,∀m,Instr.sameBits (m+1) w w=true
 now:∃kd,P.underlying t=some kd/\((∀v w,Instr.sameNow kd v w=none)∨∀{E E':LH} {ws ws':Lv_} {x y:α},pp.r E ws x->pp.r E' ws' y->Instr.sameNow kd (Hd K ws) (Hd K ws')=some (decide (x=y)))
variable {ρ:Operand->Value}{d:Option Tmp}{u ty:TypeId}{p:String}{af:Ae_}{g:On_}{ws ws':Lv_}
section
variable {e:TypeId}
theorem B2.int{kd:IntKind}(U:P.underlying t=some (.int kd))(V:Bo P t=some 1):B2 P t (rK kd) false 1 where
 agg:=by unfold Dr;rw [U]
 size:=V
 one _:=rfl
 eq {n E E' ws ws' x y s Q X} Y K O k:=by
  obtain⟨m,rfl⟩:∃m,n=m+1:=⟨n - 1,by omega⟩;have K:ws= [.int kd x]:=K;have O:ws'= [.int kd y]:=O;subst K O;refine Tt U ?_;have e:(x==y)=decide (x=y):=by by_cases h:x=y <;> simp [h]
  rw [e];exact k
 BJ {n em E ws x s Q X} Y K k:=by
  obtain⟨m,rfl⟩:∃m,n=m+1:=⟨n - 1,by omega⟩;have K:ws= [.int kd x]:=K;subst K;unfold Instr.checkKey;refine Ar _ _ (Ce U ?_);exact k
 uniq K O:=by
  have K:_= [Value.int kd _]:=K;have O:_= [Value.int kd _]:=O;rw [K,O]
 same {E ws x} h w hw m:=by
  have h:ws= [Value.int kd x]:=h;subst h;simp at hw;subst hw;simp [Instr.sameBits]
 now:=⟨_,U,.inr λ{E E' ws ws' x y} K O=>by
  have K:ws= [.int kd x]:=K
  have O:ws'= [.int kd y]:=O
  subst K O
  have e:(x==y)=decide (x=y):=by by_cases h:x=y <;> simp [h]
  show(if kd=kd then some (x==y) else none)=_
  rw [if_pos rfl,e]⟩
theorem B2.nat{kd:IntKind}(U:P.underlying t=some (.int kd))(Y:Bo P t=some 1):B2 P t (rN kd) false 1 where
 agg:=by unfold Dr;rw [U]
 size:=Y
 one _:=rfl
 eq {n E E' ws ws' x y s Q X} Z K O k:=by
  obtain⟨m,rfl⟩:∃m,n=m+1:=⟨n - 1,by omega⟩;have K:ws= [.int kd ((x:Nat):Int)]:=K;have O:ws'= [.int kd ((y:Nat):Int)]:=O;subst K O;refine Tt U ?_;have e:((x:Int)==(y:Int))=decide (x=y):=by
   by_cases h:x=y
   ·simp [h]
   ·have V:¬(x:Int)=(y:Int):=by omega
    simp [h,V]
  rw [e];exact k
 BJ {n em E ws x s Q X} Z K k:=by
  obtain⟨m,rfl⟩:∃m,n=m+1:=⟨n - 1,by omega⟩;have K:ws= [.int kd ((x:Nat):Int)]:=K;subst K;unfold Instr.checkKey;refine Ar _ _ (Ce U ?_);exact k
 uniq K O:=by
  have K:_= [Value.int kd _]:=K;have O:_= [Value.int kd _]:=O;rw [K,O]
 same {E ws x} h w hw m:=by
  have h:ws= [Value.int kd ((x:Nat):Int)]:=h;subst h;simp at hw;subst hw;simp [Instr.sameBits]
 now:=⟨_,U,.inr λ{E E' ws ws' x y} K O=>by
  have K:ws= [.int kd ((x:Nat):Int)]:=K
  have O:ws'= [.int kd ((y:Nat):Int)]:=O
  subst K O
  have e:((x:Int)==(y:Int))=decide (x=y):=by
   by_cases h:x=y
   ·simp [h]
   ·have V:¬(x:Int)=(y:Int):=by omega
    simp [h,V]
  show(if kd=kd then some ((x:Int)==(y:Int)) else none)=_
  rw [if_pos rfl,e]⟩
theorem B2.up{α:Type} [DecidableEq α] {pp:Rp α}{O:Bool}{dep U:Nat}(h:B2 P t pp O dep)(hd:dep<=U):B2 P t pp O U:=
 ⟨h.agg,h.size,h.one,λK=>h.eq (Nat.le_trans hd K),λK=>h.BJ (Nat.le_trans hd K),h.uniq,h.same,h.now⟩
theorem OT{α:Type}{kk:Nat}{pp:Rp α}{E:LH}{ws:Lv_}{xs:List α}(K:(rA kk pp).r E ws xs){i:Nat}(hi:i<kk):∃x us,xs[i]? =some x/\pp.r E us x/\us.length=pp.n/\∀j w,us[j]? =some w->ws.toArray[i*pp.n+j]? =some w:=by
 have O:xs[i]? =some (xs[i]'(by rw [K.1];exact hi)):=List.getElem?_eq_getElem (by rw [K.1];exact hi);have V:ix xs (i:Int)=some (xs[i]'(by rw [K.1];exact hi)):=by unfold ix;rw [if_pos (by omega)];simpa using O
 obtain⟨us,U,_,_,Y⟩:=GA (m:=(i:Int)) K V;exact⟨_,us,O,U,pp.len U,λj w Z=>by have:=Y j w Z;rw [List.getElem?_toArray];simpa using this⟩
theorem B2.arr{α:Type} [DecidableEq α] {pp:Rp α}{a7:Bool}{dep kk:Nat}(h:B2 P e pp a7 dep)(Y:P.underlying t=some (.array kk e))(a8:Bo P t=some (kk*pp.n)):B2 P t (rA kk pp) true (dep+1) where
 agg:=by unfold Dr;rw [Y]
 size:=a8
 one:=λh=>by cases h
 eq {n E E' ws ws' xs ys s Q X} a9 Z a2 k:=by
  obtain⟨n,rfl⟩:∃m,n=m+1:=⟨n - 1,by omega⟩;have bx:=Z.1;have bz:=a2.1;unfold Op.equalIn;refine Ar _ _ (Ce Y ?_);refine Ar (x:=Go.sizeOf e) _ (EJ h.size ?_);simp only [Hd,if_true];simp only [Std.Legacy.Range.forIn_eq_forIn_range',Std.Legacy.Range.size,Nat.sub_zero,Nat.add_one_sub_one,Nat.div_one];let ag:Nat->Option Bool×Unit->Sem (ForInStep (Option Bool×Unit)):=λi _=>do
   if !(← Op.equalIn n e (← Go.part e ws.toArray (i*pp.n)) (← Go.part e ws'.toArray (i*pp.n))) then pure (ForInStep.done (some false,())) else pure (ForInStep.yield (none,()))
  have key:∀(m st:Nat),st+m=kk->(∀i,i<st->xs[i]? =ys[i]?)->∀{K:Option Bool×Unit->St->Prop},K (if xs=ys then(none,()) else(some false,())) s->lp P (forIn (List.range' st m) (none,()) ag:Sem _) s K X:=by
   intro m
   induction m with
   | zero=>
    intro st al am K O;have U:xs=ys:=by
     apply List.ext_getElem?;intro i;rcases Nat.lt_or_ge i st with hi | hi
     ·exact am i hi
     ·rw [List.getElem?_eq_none (by omega),List.getElem?_eq_none (by omega)]
    rw [if_pos U] at O;simp only [List.range'_zero,List.forIn_nil];exact O
   | succ m ap=>
    intro st al am K O;simp only [List.range'_succ,List.forIn_cons];obtain⟨a,us,ac,aq,V,aw⟩:=OT Z (i:=st) (by omega);obtain⟨c,bY,ay,bb,a3,bd⟩:=OT a2 (i:=st) (by omega);refine Ar _ _ (Ar _ _ (KJ h.agg (by rw [V];exact h.size) (λq=>by rw [V];exact h.one q) aw ?_));refine Ar _ _ (KJ h.agg (by rw [a3];exact h.size) (λq=>by rw [a3];exact h.one q) bd ?_);refine Ar _ _ (h.eq (by omega) aq bb ?_);by_cases az:a=c
    ·subst az;simp only [decide_true,Bool.not_true,Bool.false_eq_true,if_false,lp,pure];exact ap (st+1) (by omega) (λi hi=>by
      rcases Nat.lt_or_ge i st with a4 | a4
      ·exact am i a4
      ·obtain rfl:i=st:=by omega
       rw [ac,ay]) O
    ·have be:¬xs=ys:=λq=>az (by rw [q] at ac;rw [ac] at ay;exact Option.some.inj ay);rw [if_neg be] at O;simp only [az,decide_false,Bool.not_false,if_true,lp,pure];exact O
  refine Ar _ _ (key kk 0 (by omega) (λi hi=>by omega) ?_);by_cases U:xs=ys
  ·rw [if_pos U];simpa [lp,pure,U] using k
  ·rw [if_neg U];simpa [lp,pure,U] using k
 BJ {n em E ws xs s Q X} a9 Z k:=by
  obtain⟨n,rfl⟩:∃m,n=m+1:=⟨n - 1,by omega⟩;unfold Instr.checkKey;refine Ar _ _ (Ce Y ?_);simp only [Hd,if_true];simp only [Std.Legacy.Range.forIn_eq_forIn_range',Std.Legacy.Range.size,Nat.sub_zero,Nat.add_one_sub_one,Nat.div_one];let ag:Nat->Unit->Sem (ForInStep Unit):=λi _=>do
   Instr.checkKey em n e (← Go.part e ws.toArray (i*(← Go.sizeOf e)))
   pure (ForInStep.yield ())
  have key:∀(m st:Nat),st+m=kk->∀{K:Unit->St->Prop},K () s->lp P (forIn (List.range' st m) () ag:Sem _) s K X:=by
   intro m
   induction m with
   | zero=>
    intro st al K O;simp only [List.range'_zero,List.forIn_nil];exact O
   | succ m ap=>
    intro st al K O;simp only [List.range'_succ,List.forIn_cons];obtain⟨a,us,ac,aq,V,aw⟩:=OT Z (i:=st) (by omega);refine Ar _ _ (Ar (x:=Go.sizeOf e) _ (EJ h.size ?_));refine Ar _ _ (KJ h.agg (by rw [V];exact h.size) (λq=>by rw [V];exact h.one q) aw ?_);refine Ar _ _ (h.BJ (by omega) aq ?_);exact ap (st+1) (by omega) O
  exact Ar _ _ (key kk 0 (by omega) k)
 uniq {E E' ws ws' xs} a0 bi:=by
  obtain⟨a1,wss,rfl,a5,c1⟩:=a0;obtain⟨bZ,bn,rfl,b0,c2⟩:=bi;have:wss=bn:=by
   apply List.ext_getElem (by omega);intro i hi bo;have a6:xs[i]? =some (xs[i]'(by omega)):=List.getElem?_eq_getElem (by omega);exact h.uniq (c1 i _ _ a6 (List.getElem?_eq_getElem hi)) (c2 i _ _ a6 (List.getElem?_eq_getElem bo))
  rw [this]
 same {E ws xs} a0 w hw m:=by
  obtain⟨a1,wss,rfl,a5,c1⟩:=a0;obtain⟨us,bv,hw⟩:=List.mem_flatten.1 hw;obtain⟨i,hi⟩:=List.mem_iff_getElem?.1 bv;have bw:i<xs.length:=by rw [a1,← a5];exact(List.getElem?_eq_some_iff.1 hi).1
  exact h.same (c1 i _ us (List.getElem?_eq_getElem bw) hi) w hw m
 now:=⟨_,Y,.inl λv w=>rfl⟩
theorem B2.field{α:Type} [DecidableEq α] {pp:Rp α}{Z:Bool}{dep n:Nat}{f:Field}{s:St}{X:Halt->St->Prop}(h:B2 P f.type pp Z dep)(hd:dep<=n)(ac:f.name≠ "_"){E E':LH}{us V:Lv_}{x y:α}(r1:pp.r E us x)(r2:pp.r E' V y){cx Y:Av_}
  (w1:∀j w,us[j]? =some w->cx[f.offset+j]? =some w) (w2:∀j w,V[j]? =some w->Y[f.offset+j]? =some w) {K:ForInStep (Option Bool×Unit)->St->Prop} (O:K (if x=y then .yield (none,()) else .done (some false,())) s):
  lp P (if f.name≠ "_" then do
   if !(← Op.equalIn n f.type (← Go.part f.type cx f.offset) (← Go.part f.type Y f.offset)) then pure (ForInStep.done (some false,())) else pure (ForInStep.yield (none,()))
   else pure (ForInStep.yield (none,()))) s K X:=by
 rw [if_pos ac]
 refine Ar _ _ (KJ h.agg (by rw [pp.len r1];exact h.size) (λq=>by rw [pp.len r1];exact h.one q) w1 ?_)
 refine Ar _ _ (KJ h.agg (by rw [pp.len r2];exact h.size) (λq=>by rw [pp.len r2];exact h.one q) w2 ?_)
 refine Ar _ _ (h.eq hd r1 r2 ?_)
 by_cases U:x=y
 ·rw [if_pos U] at O;simpa [lp,pure,U] using O
 ·rw [if_neg U] at O;simpa [lp,pure,U] using O
theorem B2.LW{α:Type} [DecidableEq α] {pp:Rp α}{O em:Bool}{dep n:Nat}{f:Field}{s:St}{X:Halt->St->Prop}(h:B2 P f.type pp O dep)(hd:dep<=n)(U:f.name≠ "_"){E:LH}{us:Lv_}{x:α}(r1:pp.r E us x){cx:Av_}
  (w1:∀j w,us[j]? =some w->cx[f.offset+j]? =some w) {K:ForInStep Unit->St->Prop} (V:K (.yield ()) s):
  lp P (if f.name≠ "_" then do
   Instr.checkKey em n f.type (← Go.part f.type cx f.offset)
   pure (ForInStep.yield ())
   else pure (ForInStep.yield ())) s K X:=by
 rw [if_pos U]
 refine Ar _ _ (KJ h.agg (by rw [pp.len r1];exact h.size) (λq=>by rw [pp.len r1];exact h.one q) w1 ?_)
 refine Ar _ _ (h.BJ hd r1 ?_)
 exact V
theorem K4{us r:Lv_}{o:Nat}(K:o=0):∀j w,us[j]? =some w->(us++r).toArray[o+j]? =some w:=λj w h=>by subst K;exact SI (l:= []) j w h
theorem Nv{l us r:Lv_}{o:Nat}(K:o=l.length):∀j w,us[j]? =some w->(l++(us++r)).toArray[o+j]? =some w:=λj w h=>by
 subst K
 have:=SI (l:=l) (r:=r) j w h
 rwa [List.append_assoc] at this
theorem NB{l us:Lv_}{o:Nat}(K:o=l.length):∀j w,us[j]? =some w->(l++us).toArray[o+j]? =some w:=λj w h=>by
 have:=Nv (r:= []) K j w h
 rwa [List.append_nil] at this
theorem Pd{l m us:Lv_}{o:Nat}(K:o=l.length+m.length):∀j w,us[j]? =some w->(l++(m++us)).toArray[o+j]? =some w:=λj w h=>by
 have:=NB (l:=l++m) (o:=o) (by simp [K]) j w h
 rwa [List.append_assoc] at this
theorem B2.two{α β:Type} [DecidableEq α] [DecidableEq β] {p1:Rp α}{p2:Rp β}{a1 aq:Bool}{dep:Nat}{f1 f2:Field}(K:P.underlying t=some (.struct #[f1,f2]))(O:B2 P f1.type p1 a1 dep)(U:B2 P f2.type p2 aq dep)(aw:P.stoodInHeld t=false)
  (n1:f1.name≠ "_") (n2:f2.name≠ "_") (Z:f1.offset=0) (ac:f2.offset=p1.n) (ay:Bo P t=some (p1.n+p2.n)):B2 P t (rP p1 p2) true (dep+1) where
 agg:=by unfold Dr;rw [K]
 size:=ay
 one:=λh=>by cases h
 eq {n E E' ws ws' x y s Q X} az ag a0 k:=by
  obtain⟨n,rfl⟩:∃m,n=m+1:=⟨n - 1,by omega⟩;obtain⟨al,am,rfl,r1,r2⟩:=ag;obtain⟨v1,v2,rfl,V,ap⟩:=a0;simp only [Hd,if_true];unfold Op.equalIn;refine Ar _ _ (Ce K ?_);refine Ar (x:=program) _ ?_;show lp P (if P.stoodInHeld t=true then _ else _) s _ _
  rw [if_neg (by rw [aw];exact Bool.false_ne_true)]
  dsimp only;rw [← Array.forIn_toList];simp only [List.forIn_cons,List.forIn_nil];refine Ar _ _ (Ar _ _ (O.field (by omega) n1 r1 V (K4 Z) (K4 Z) ?_));by_cases Y:x.1=y.1
  ·rw [if_pos Y];refine Ar _ _ (U.field (by omega) n2 r2 ap (NB (ac.trans (p1.len r1).symm)) (NB (ac.trans (p1.len V).symm)) ?_);by_cases e2:x.2=y.2
   ·have e:x=y:=Prod.ext Y e2;rw [if_pos e2];simpa [lp,pure,e] using k
   ·have e:¬x=y:=λq=>e2 (by rw [q]);rw [if_neg e2];simpa [lp,pure,e] using k
  ·have e:¬x=y:=λq=>Y (by rw [q]);rw [if_neg Y];simpa [lp,pure,e] using k
 BJ {n em E ws x s Q X} az ag k:=by
  obtain⟨n,rfl⟩:∃m,n=m+1:=⟨n - 1,by omega⟩;obtain⟨al,am,rfl,r1,r2⟩:=ag;simp only [Hd,if_true];unfold Instr.checkKey;refine Ar _ _ (Ce K ?_)
  dsimp only;rw [← Array.forIn_toList];simp only [List.forIn_cons,List.forIn_nil];refine Ar _ _ (Ar _ _ (O.LW (by omega) n1 r1 (K4 Z) ?_));refine Ar _ _ (U.LW (by omega) n2 r2 (NB (ac.trans (p1.len r1).symm)) ?_);exact k
 uniq {E E' ws ws' x} a b:=by
  obtain⟨al,am,rfl,r1,r2⟩:=a;obtain⟨v1,v2,rfl,V,ap⟩:=b;rw [O.uniq r1 V,U.uniq r2 ap]
 same {E ws x} a w hw m:=by
  obtain⟨al,am,rfl,r1,r2⟩:=a;rcases List.mem_append.1 hw with hw | hw
  ·exact O.same r1 w hw m
  ·exact U.same r2 w hw m
 now:=⟨_,K,.inl λv w=>rfl⟩
theorem B2.three{α β a2:Type} [DecidableEq α] [DecidableEq β] [DecidableEq a2] {p1:Rp α}{p2:Rp β}{p3:Rp a2}{a1 a4 a5:Bool}{dep:Nat}{f1 f2 f3:Field}(O:P.underlying t=some (.struct #[f1,f2,f3]))(U:B2 P f1.type p1 a1 dep)(V:B2 P f2.type p2 a4 dep)(Y:B2 P f3.type p3 a5 dep)(a6:P.stoodInHeld t=false)
  (n1:f1.name≠ "_") (n2:f2.name≠ "_") (a3:f3.name≠ "_") (al:f1.offset=0) (am:f2.offset=p1.n) (ap:f3.offset=p1.n+p2.n) (a7:Bo P t=some (p1.n+(p2.n+p3.n))):B2 P t (rP p1 (rP p2 p3)) true (dep+1) where
 agg:=by unfold Dr;rw [O]
 size:=a7
 one:=λh=>by cases h
 eq {n E E' ws ws' x y s Q X} a8 aq a9 k:=by
  obtain⟨n,rfl⟩:∃m,n=m+1:=⟨n - 1,by omega⟩;obtain⟨aw,_,rfl,r1,ay,az,rfl,r2,r3⟩:=aq;obtain⟨v1,_,rfl,K,v2,bb,rfl,Z,a0⟩:=a9;simp only [Hd,if_true];unfold Op.equalIn;refine Ar _ _ (Ce O ?_);refine Ar (x:=program) _ ?_;show lp P (if P.stoodInHeld t=true then _ else _) s _ _
  rw [if_neg (by rw [a6];exact Bool.false_ne_true)]
  dsimp only;rw [← Array.forIn_toList];simp only [List.forIn_cons,List.forIn_nil];refine Ar _ _ (Ar _ _ (U.field (by omega) n1 r1 K (K4 al) (K4 al) ?_));by_cases ac:x.1=y.1
  ·rw [if_pos ac];refine Ar _ _ (V.field (by omega) n2 r2 Z (Nv (am.trans (p1.len r1).symm)) (Nv (am.trans (p1.len K).symm)) ?_);by_cases e2:x.2.1=y.2.1
   ·rw [if_pos e2];refine Ar _ _ (Y.field (by omega) a3 r3 a0 (Pd (by rw [ap,p1.len r1,p2.len r2])) (Pd (by rw [ap,p1.len K,p2.len Z])) ?_);by_cases ag:x.2.2=y.2.2
    ·have e:x=y:=Prod.ext ac (Prod.ext e2 ag);rw [if_pos ag];simpa [lp,pure,e] using k
    ·have e:¬x=y:=λq=>ag (by rw [q]);rw [if_neg ag];simpa [lp,pure,e] using k
   ·have e:¬x=y:=λq=>e2 (by rw [q]);rw [if_neg e2];simpa [lp,pure,e] using k
  ·have e:¬x=y:=λq=>ac (by rw [q]);rw [if_neg ac];simpa [lp,pure,e] using k
 BJ {n em E ws x s Q X} a8 aq k:=by
  obtain⟨n,rfl⟩:∃m,n=m+1:=⟨n - 1,by omega⟩;obtain⟨aw,_,rfl,r1,ay,az,rfl,r2,r3⟩:=aq;simp only [Hd,if_true];unfold Instr.checkKey;refine Ar _ _ (Ce O ?_)
  dsimp only;rw [← Array.forIn_toList];simp only [List.forIn_cons,List.forIn_nil];refine Ar _ _ (Ar _ _ (U.LW (by omega) n1 r1 (K4 al) ?_));refine Ar _ _ (V.LW (by omega) n2 r2 (Nv (am.trans (p1.len r1).symm)) ?_);refine Ar _ _ (Y.LW (by omega) a3 r3 (Pd (by rw [ap,p1.len r1,p2.len r2])) ?_);exact k
 uniq {E E' ws ws' x} a b:=by
  obtain⟨aw,_,rfl,r1,ay,az,rfl,r2,r3⟩:=a;obtain⟨v1,_,rfl,K,v2,bb,rfl,Z,a0⟩:=b;rw [U.uniq r1 K,V.uniq r2 Z,Y.uniq r3 a0]
 same {E ws x} a w hw m:=by
  obtain⟨aw,_,rfl,r1,ay,az,rfl,r2,r3⟩:=a;rcases List.mem_append.1 hw with hw | hw
  ·exact U.same r1 w hw m
  ·rcases List.mem_append.1 hw with hw | hw
   ·exact V.same r2 w hw m
   ·exact Y.same r3 w hw m
 now:=⟨_,O,.inl λv w=>rfl⟩
theorem B2.key{α:Type} [DecidableEq α] {pp:Rp α}{K:Bool}{dep:Nat}(h:B2 P t pp K dep)(hd:dep<=10000):FE P t pp K where
 BJ:=by
  rintro em E v x s Q X ⟨ws,V,rfl⟩ k;exact h.BJ hd V k
 kind:=by
  obtain⟨kd,O,Y⟩:=h.now;refine⟨kd,O,Y.imp id λZ=>?_⟩;rintro E v w x y ⟨ws,r1,rfl⟩ ⟨ws',r2,rfl⟩;exact Z r1 r2
 eq:=by
  rintro E v w x y s Q X ⟨ws,r1,rfl⟩ ⟨ws',r2,rfl⟩ k;exact h.eq hd r1 r2 k
 same:=by
  rintro E v x ⟨ws,r1,rfl⟩;cases K with
  | false=>
   obtain⟨w,rfl⟩:∃w,ws= [w]:=by
    have:=(pp.len r1).trans (h.one rfl)
    match ws,this with
    | [w],_=>exact⟨w,rfl⟩
   exact h.same r1 w (by simp) 9999
  | true=>
   show(ws.toArray.size==ws.toArray.size&&(ws.toArray.toList.zip ws.toArray.toList).all λ(x,y)=>Instr.sameBits 9999 x y)=true;rw [Bool.and_eq_true];refine⟨by simp,List.all_eq_true.2 ?_⟩;rintro⟨a,b⟩ ac;have O:∀(l:Lv_) a b,(a,b)∈l.zip l->a=b/\a∈l:=by
    intro l
    induction l with
    | nil=>intro a b h;simp at h
    | cons c l U=>
     intro a b h;simp only [List.zip_cons_cons,List.mem_cons,Prod.mk.injEq] at h;rcases h with⟨rfl,rfl⟩ | h
     ·exact⟨rfl,by simp⟩
     ·exact⟨(U a b h).1,List.mem_cons_of_mem _ (U a b h).2⟩
   obtain⟨rfl,hm⟩:=O _ a b ac;exact h.same r1 a (by simpa using hm) 9998
 uniq:=by
  rintro E v w x ⟨ws,r1,rfl⟩ ⟨ws',r2,rfl⟩;rw [h.uniq r1 r2]
section
variable {x y:Operand}
theorem XO{α:Type} [DecidableEq α] {pp:Rp α}{dep:Nat}{a b:α}(h:B2 P t pp true dep)(hd:dep<=10000)(K:P.eqGuardType P.depth t=false)(r1:pp.r E ws a)(r2:pp.r E' ws' b)(O:ρ x= .agg ws.toArray)(U:ρ y= .agg ws'.toArray):Yl P ⟨d,.binOp .eql t x y u,ty,p,af,g⟩ ρ s (.bool (decide (a=b))):=by
 refine EN (sm:=do eqGuard .eql t x y (ρ x) (ρ y);binOp .eql t (ρ x) (ρ y)) V ?_
 rw [O,U];refine Ar _ _ (Ri (.inl V) K ?_);have hb:binOp .eql t (.agg ws.toArray) (.agg ws'.toArray)=(do pure (.bool (← Op.equal t (.agg ws.toArray) (.agg ws'.toArray)))):=V
 rw [hb];exact Ar (x:=Op.equal t _ _) _ (h.eq hd r1 r2 ⟨V,V⟩)
theorem OZ{α:Type} [DecidableEq α] {pp:Rp α}{dep:Nat}{a b:α}(h:B2 P t pp true dep)(hd:dep<=10000)(K:P.eqGuardType P.depth t=false)(r1:pp.r E ws a)(r2:pp.r E' ws' b)(O:ρ x= .agg ws.toArray)(U:ρ y= .agg ws'.toArray):Yl P ⟨d,.binOp .neq t x y u,ty,p,af,g⟩ ρ s (.bool (decide (a≠b))):=by
 refine EN (sm:=do eqGuard .neq t x y (ρ x) (ρ y);binOp .neq t (ρ x) (ρ y)) V ?_
 rw [O,U];refine Ar _ _ (Ri (.inr V) K ?_);have hb:binOp .neq t (.agg ws.toArray) (.agg ws'.toArray)=(do pure (.bool (!(← Op.equal t (.agg ws.toArray) (.agg ws'.toArray))))):=V
 rw [hb];exact Ar (x:=Op.equal t _ _) _ (h.eq hd r1 r2 ⟨by simp,V⟩)
end
end
theorem UT{E H:LH}{B:List (Nat×Obj)}(i:Nat){bk:Nat}{o:Obj}(K:Nd E H B)(h:B[i]? =some (bk,o)):∃E',Le E E'/\E' bk=some o/\Nd E' H (B.eraseIdx i)/\Cf (mk E H B) (mk E' H (B.eraseIdx i)):=by
 have am:=List.mem_of_getElem? h;have ap:E bk=none/\H bk=none:=by
  have:∀{B:List (Nat×Obj)},Nd E H B->(bk,o)∈B->E bk=none/\H bk=none:=by
   intro B K O
   induction B with
   | nil=>simp at O
   | cons q B V=>
    rcases List.mem_cons.1 O with rfl | O
    ·exact⟨K.1,K.2.1⟩
    ·exact V K.2.2.2 O
  exact this K am
 let E':LH:=λx=>if x=bk then some o else E x
 have ac:E' bk=some o:=by simp [E']
 have hle:Le E E':=λx u U=>by
  have:x≠bk:=λe=>by subst e;rw [ap.1] at U;cases U
  simp [E',this,U]
 have aq:Nd E' H (B.eraseIdx i):=by
  have:∀{B:List (Nat×Obj)} {i:Nat},Nd E H B->B[i]? =some (bk,o)->Nd E' H (B.eraseIdx i)/\∀p∈B.eraseIdx i,p.1≠bk:=by
   intro B
   induction B with
   | nil=>intro i _ h;simp at h
   | cons q B V=>
    obtain⟨c,v⟩:=q;intro i K h;have up:∀{B:List (Nat×Obj)},Nd E H B->(∀p∈B,p.1≠bk)->Nd E' H B:=by
     intro B K ag
     induction B with
     | nil=>trivial
     | cons q B aw=>exact⟨by simpa [E',ag q (by simp)] using K.1,K.2.1,K.2.2.1,aw K.2.2.2 λp O=>ag p (List.mem_cons_of_mem _ O)⟩
    cases i with
    | zero=>
     simp at h;obtain⟨rfl,rfl⟩:=h;exact⟨up K.2.2.2 K.2.2.1,K.2.2.1⟩
    | succ i=>
     simp at h;obtain⟨Y,Z⟩:=V K.2.2.2 h;have al:c≠bk:=λe=>K.2.2.1 (bk,o) (List.mem_of_getElem? h) e.symm;refine⟨⟨by simpa [E',al] using K.1,K.2.1,λp O=>K.2.2.1 p (List.mem_of_mem_eraseIdx O),Y⟩,λp O=>?_⟩;rcases List.mem_cons.1 O with rfl | O
     ·exact al
     ·exact Z p O
  exact(this K h).1
 refine⟨E',hle,ac,aq,⟨λx u U=>hle x u U,λx u U=>(Lt K h U).2,λx u U=>?_,rfl⟩⟩;by_cases e:x=bk
 ·subst e;right;have:u=o:=by have:E' x=some u:=U;rw [ac] at this;exact(Option.some.inj this).symm
  subst this;refine⟨IZ K h,?_⟩;cases ay:(mk E' H (B.eraseIdx i)).H x with
  | none=>rfl
  | some y=>exact absurd rfl (Lt K h ay).1
 ·left;have Y:E' x=some u:=U;have Z:E' x=E x:=by simp [E',e]
  show E x=some u;rw [← Z];exact Y
theorem UI{E H:LH}{B0:List (Nat×Obj)}{e:TypeId}{K l c:Nat}{a:Option Addr}{blk:List (Nat×Obj)}{xs:Lv_}(ac:GS e K a l c blk xs)(U:Nd E H (B0++blk)):∃E',Le E E'/\NP E' K (.slice a l c) l xs/\Nd E' H B0/\Cf (mk E H (B0++blk)) (mk E' H B0):=by
 rcases ac with⟨rfl,rfl,rfl,rfl,rfl⟩ | ⟨bk,f,rfl,rfl,ag,V,rfl⟩
 ·simp only [List.append_nil] at U ⊢;exact⟨E,Le.refl _,.nil,U,.refl _⟩
 ·have al:(B0++ [(bk,Obj.cells f e (0,0))])[B0.length]? =some (bk,Obj.cells f e (0,0)):=by simp
  obtain⟨E',hle,am,Y,Z⟩:=UT B0.length U al;have ap:(B0++ [(bk,Obj.cells f e (0,0))]).eraseIdx B0.length=B0:=by rw [List.eraseIdx_append_of_length_le (Nat.le_refl _)];simp
  rw [ap] at Y Z;refine⟨E',hle,⟨_,c,rfl,V,?_,.inr ⟨bk,0,f,e,(0,0),rfl,am,λj w O=>?_⟩⟩,Y,Z⟩
  ·have:l*K<=c*K:=Nat.mul_le_mul_right _ V;simp [ag,Nat.min_eq_left this]
  ·rw [List.getElem?_take] at O;split at O
   ·simpa using O
   ·cases O
theorem UP{α:Type}{pp:Rp α}{E H:LH}{S:List Seg}{e:TypeId}{a:Option Addr}{c:Nat}{seg:Seg}{xs:List α}(j:Nat)(U:OL e pp E a c seg xs)(am:Ap E H S)(ap:S[j]? =some seg):∃E',Le E E'/\Al pp E' a c xs/\Ap E' H (S.set j [])/\Cf (Aj E H S) (Aj E' H (S.set j [])):=by
 obtain⟨wss,U,Z,ac⟩:=U;have aq:∀ad:Addr,a=some ad->ad.spot=none:=λad K=>by
  rcases U with⟨O,_⟩ | ⟨bk,f,O,_⟩
  ·rw [O] at K;cases K
  ·rw [O] at K;cases K;rfl
 obtain⟨O,aw⟩:=Gk am ap;obtain⟨E',hle,ay,az,ag⟩:=UI U aw;rw [← O] at ag;refine⟨E',hle,?_,az,ag⟩;obtain⟨a0,a1,V,a2,a7,Y⟩:=ay;obtain⟨rfl,-,rfl⟩:a=a0/\xs.length=xs.length/\c=a1:=by
  simp only [Value.slice.injEq] at V;exact⟨V.1,rfl,V.2.2⟩
 refine⟨a2,?_⟩;rcases Y with Y | ⟨bk,off,f,a3,fr,a4,g2,a5⟩
 ·exact .inl ⟨List.eq_nil_of_length_eq_zero Y,λad K=> .inl (aq ad K)⟩
 ·refine .inr ⟨bk,off,a4,λi x al=>?_⟩;have a6:i<wss.length:=by rw [Z];exact(List.getElem?_eq_some_iff.1 al).1
  have hw:=List.getElem?_eq_getElem a6;refine⟨wss[i],pp.Ag hle (ac i x _ al hw),f,a3,fr,g2,λm w hm=>?_⟩;rw [Nat.add_assoc];exact a5 _ w (J5 (H0 Z ac) hw m w hm)
theorem Cf.get{s s₀:St}(h:Cf s s₀){b:Nat}{o:Obj}(K:s₀.get b=some o):s.get b=some o:=by
 unfold St.get at K ⊢;cases O:s₀.E b with
 | some o'=>
  rw [O] at K;simp only at K;cases K;rcases h.EB _ _ O with U | ⟨U,_⟩
  ·rw [U]
  ·cases he:s.E b with
   | none=>exact U
   | some V=>
    have:=h.ext _ _ he;rw [O] at this;cases this;rfl
 | none=>
  rw [O] at K;simp only at K;cases he:s.E b with
  | none=>exact h.own _ _ K
  | some V=>
   have:=h.ext _ _ he;rw [O] at this;cases this
theorem Cf.upd{s s₀:St}(h:Cf s s₀){b:Nat}(o:Obj)(hb:(∃u,s₀.H b=some u)∨s₀.E b=none):Cf (s.upd b o) (s₀.upd b o):=by
 refine⟨h.ext,λx u K=>?_,λx u K=>?_,h.q⟩
 ·simp only [St.upd] at K ⊢;by_cases e:x=b
  ·rw [if_pos e] at K ⊢;exact K
  ·rw [if_neg e] at K ⊢;exact h.own _ _ K
 ·have O:s₀.E x=some u:=K;rcases h.EB _ _ O with U | ⟨U,V⟩
  ·exact .inl U
  ·refine .inr ?_;have e:x≠b:=λe=>by
    subst e;rcases hb with⟨w,hw⟩ | hb
    ·rw [hw] at V;cases V
    ·rw [hb] at O;cases O
   simp only [St.upd,if_neg e];exact⟨U,V⟩
theorem Cf.none{s s₀:St}(h:Cf s s₀){b:Nat}(U:s.E b=none)(O:s.H b=none):s₀.E b=none/\s₀.H b=none:=by
 constructor
 ·cases he:s₀.E b with
  | none=>rfl
  | some o=>
   rcases h.EB _ _ he with K | ⟨K,_⟩
   ·rw [U] at K;cases K
   ·rw [O] at K;cases K
 ·cases he:s₀.H b with
  | none=>rfl
  | some o=>have:=h.own _ _ he;rw [O] at this;cases this
theorem Xp{P:Program}{α:Type}(x:Sem α):∀{s s₀:St} {Q:α->St->Prop} {X:Halt->St->Prop},Cf s s₀->lp P x s₀ Q X->lp P x s (λa s'=>∃Y,Cf s' Y/\Q a Y) (λh s'=>∃Y,Cf s' Y/\X h Y):=by
 induction x with
 | pure a=>intro s s₀ Q X g h;exact⟨s₀,g,h⟩
 | load m a k K=>
  intro s s₀ Q X g h;obtain⟨O,v,U,V⟩:=h;obtain⟨o,ag,al⟩:=Option.bind_eq_some_iff.1 U;exact⟨O,v,by unfold St.cell?;rw [g.get ag];exact al,K v g V⟩
 | store m a v k K=>
  intro s s₀ Q X g h;obtain⟨O,U,o,V,am,ap,aq⟩:=h;exact⟨O,U,o,g.own _ _ V,am,ap,K (g.upd _ (.inl ⟨o,V⟩)) aq⟩
 | new o k K=>
  intro s s₀ Q X g h;refine⟨by rw [← g.q];exact h.1,λr O U=>?_⟩;obtain⟨ac,e2⟩:=g.none O U;exact K r (g.upd _ (.inr ac)) (h.2 r ac e2)
 | shape r k K=>intro s s₀ Q X g h;obtain⟨o,O,U⟩:=h;exact⟨o,g.get O,K _ g U⟩
 | freeze a n k K=>intro s s₀ Q X g h;exact h.elim
 | frozen a k K=>intro s s₀ Q X g h;obtain⟨o,O,U⟩:=h;exact⟨o,g.get O,K _ g U⟩
 | getObj r k K=>intro s s₀ Q X g h;obtain⟨o,O,U,V⟩:=h;exact⟨o,g.get O,U,K _ g V⟩
 | setObj r o k K=>
  intro s s₀ Q X g h;obtain⟨⟨o',O,aw⟩,U,V⟩:=h;exact⟨⟨o',g.own _ _ O,aw⟩,U,K (g.upd _ (.inl ⟨o',O⟩)) V⟩
 | choose q k K=>
  intro s s₀ Q X g h;simp only [lp] at h ⊢;split
  ·rename_i Z;rw [if_pos Z] at h;exact K _ g h
  ·rename_i Z;rw [if_neg Z] at h;exact⟨by rw [← g.q];exact h.1,λt=>K _ g (h.2 t)⟩
 | sys c k K=>intro s s₀ Q X g h;exact h.elim
 | program k K=>intro s s₀ Q X g h;exact K _ g h
 | mark m k K=>
  intro s s₀ Q X g h;refine⟨?_,K g h.2⟩;rcases h.1 with⟨O,U⟩ | O
  ·exact .inl ⟨by rw [← g.q];exact O,U⟩
  ·exact .inr O
 | halt h=>intro s s₀ Q X g ay;exact⟨s₀,g,ay⟩
variable {J:Judge P}{Q:Gs_}{b:Frame}{n:Nat}{ds:Ld_}{ops:Ao_}{k:Li_}{cs:Lf_}{m:Nat}{D:Nat->Bool}{L:Env}{H:LH}{S:List Seg}
variable {v:Value}{kd:IntKind}
section
variable {fuel:Nat}{listed:Array Bool}
variable {x y:Operand}{e:TypeId}{i:Nat}
theorem WA{f:FuncId}{args:Array Operand}{ats:Array TypeId}{vs:Lv_}{seg:Seg}{R:Value->LH->Seg->Prop}(j:Nat)(a0:∀x,D x=true->∃(O:Nat) (o:Obj),(S.set j [])[O]? =some [(x,o)])(a1:AM J f vs E seg R)(a2:Region.ready .any ops listed= [i])
  (a3:ops[i]? =some ⟨d,.call ⟨.value (.func f),args,ats⟩,ty,p,af,g⟩) (a4:Bg n d=true) (hw:AR L ops ⟨d,.call ⟨.value (.func f),args,ats⟩,ty,p,af,g⟩=some true) (hb:Du P f=true) (a5:evs L args.toList=some vs) (Y:Ap E H S) (Z:S[j]? =some seg)
  (a6:∀v E' seg',Le E E'->R v E' seg'->Ap E' H (S.set j seg')->AO J Q b n ds ops k cs m D fuel (A8 listed i) (As L d v) (Aj E' H (S.set j seg'))):
  AO J Q b n ds ops k cs m D (fuel+1) listed L (Aj E H S):=by
 have ag:S.flatten.Perm (seg++(S.set j []).flatten):=(Ey (seg':=seg) Z).1.trans List.perm_append_comm;have al:Nd E H (seg++(S.set j []).flatten):=Nd.perm Y ag;have a7:Aj E H S=mk E (Bl (S.set j []).flatten H) seg:=by
  rw [show Aj E H S=mk E H S.flatten from rfl,Fi Y ag];unfold mk;rw [FZ]
 have am:=EF.La (a1 (Bl (S.set j []).flatten H) (Nd.front al)) (by rintro v s' ⟨E',B',_,_,_,rfl⟩;rfl);rw [← a7] at am;refine AO.call rfl a2 a3 a4 hw hb a5 am ?_;rintro v bv ⟨⟨E',B',hle,a8,a9,rfl⟩,w,bb⟩;have e2:mk E' (Bl (S.set j []).flatten H) B'=mk E' H (B'++(S.set j []).flatten):=by unfold mk;rw [FZ]
 have bd:Nd E H (S.set j []).flatten:=by
  have:=al;rw [Nd.iff] at this ⊢;rw [List.map_append,List.nodup_append] at this;exact⟨this.1.2.1,λq be=>this.2 q (List.mem_append_right _ be)⟩
 have bi:Nd E' H (S.set j []).flatten:=bd.grow λx U=>by
  have bn:=bb.d x U;have ac:Bl B' (Bl (S.set j []).flatten H) x=none:=bn;exact(HU ac).1
 have ap:Nd E' H (B'++(S.set j []).flatten):=Nd.glue a9 bi;have aq:(B'++(S.set j []).flatten).Perm (S.set j B').flatten:=List.perm_append_comm.trans (Ey Z).2.symm;have aw:Ap E' H (S.set j B'):=Nd.perm ap aq;rw [e2,Fi ap aq];refine⟨rfl,λx o U=>?_,a6 v E' B' hle a8 aw⟩;by_cases hd:D x=true
 ·obtain⟨O,o',V⟩:=a0 x hd;have ay:j≠O:=λh=>by
   subst h;rw [List.getElem?_set_self (List.getElem?_eq_some_iff.1 Z).1] at V;cases V
  have az:S[O]? =some [(x,o')]:=by rw [List.getElem?_set_ne ay] at V;exact V
  have ac:(Aj E H S).get x=some o':=C6 (i:=0) Y az rfl;have bo:(Aj E' H (S.set j B')).get x=some o':=C6 (i:=0) aw (by rw [List.getElem?_set_ne ay];exact az) rfl;have K:(if D x then(Aj E H S).get x else E x)=some o:=U
  show(if D x then(Aj E' H (S.set j B')).get x else E' x)=some o
  rw [if_pos hd] at K ⊢;rw [bo,← ac];exact K
 ·have K:(if D x then(Aj E H S).get x else E x)=some o:=U
  show(if D x then(Aj E' H (S.set j B')).get x else E' x)=some o
  rw [if_neg hd] at K ⊢;exact hle _ _ K
theorem AO.perm{S':List Seg}(K:S.flatten.Perm S'.flatten)(O:Ap E H S)(h:Ap E H S'->AO J Q b n ds ops k cs m D fuel listed L (Aj E H S')):AO J Q b n ds ops k cs m D fuel listed L (Aj E H S):=by
 have e:Aj E H S=Aj E H S':=Fi O K;rw [e];exact h (Nd.perm O K)
theorem JA.ghost:∀(fuel:Nat) {listed:Array Bool} {T:Av_} {s s₀:St},Cf s s₀->JA J Q b ds ops k cs m C3 fuel listed T s₀->JA J Q b ds ops k cs m C3 fuel listed T s
 | 0,listed,T,s,s₀,g,h=>⟨h.1,J.ghost g h.2⟩
 | fuel+1,listed,T,s,s₀,g,h=>by
  rcases h with⟨O,U⟩ | ⟨O,U,Z⟩
  ·exact .inl ⟨O,λt=>J.ghost g (U t)⟩
  ·refine .inr ⟨O,by rw [← g.q];exact U,λi hi o ac=>?_⟩;obtain⟨a1,ag,al⟩:=Z i hi o ac;refine⟨a1,λe=>JA.ghost fuel g (ag e),λe=>?_⟩;have am:=Xp _ (s:=Br C3 s) (s₀:=Br C3 s₀) g (al e);refine DO _ am ?_ (λ_ s' ⟨_,_,h⟩=>h);intro ap s' K;obtain⟨V,Y,K⟩:=K;cases ap with
   | value v=>exact JA.ghost fuel (s:=s') (s₀:=V) Y K
   | skip=>exact JA.ghost fuel (s:=s') (s₀:=V) Y K
   | enter f args=>
    obtain⟨R,aq,aw⟩:=K;refine⟨R,λQ c cs ay=>J.ghost (s:=s') (s₀:=V) Y (aq Q c cs ay),λv az a0=>?_⟩;obtain⟨a2,a3,a4⟩:=aw v az a0;exact⟨a2,λx o K=>a3 x o (g.ext x o K),a4⟩
   | _=>exact K.elim
theorem Cs{α:Type}{pp:Rp α}{a:Option Addr}{c:Nat}{seg:Seg}{xs:List α}(j:Nat)(K:OL e pp E a c seg xs)(O:Ap E H S)(U:S[j]? =some seg)
  (h:∀E',Le E E'->Al pp E' a c xs->Ap E' H (S.set j [])->AO J Q b n ds ops k cs m C3 fuel listed L (Aj E' H (S.set j []))):AO J Q b n ds ops k cs m C3 fuel listed L (Aj E H S):=λT V=>by
 obtain⟨E',Y,Z,ac,ag⟩:=UP j K O U
 exact JA.ghost _ ag (h E' Y Z ac T V)
end
theorem oi{α:Type}{a b:α}(h:some a=some b):a=b:=Option.some.inj h
theorem bs{α β:Type}{o:Option α}{f:α->Option β}{r:β}(h:o.bind f=some r):∃x,o=some x/\f x=some r:=bind_some h
def H7(L:Env):Env->List (Option Value)
 | []=> []
 | (t,_)::L'=>look L t::H7 L L'
def Ii:Env->List (Option Value)
 | []=> []
 | (_,v)::L'=>some v::Ii L'
theorem Ng{L:Env}:∀{L':Env},H7 L L'=Ii L'->Sub L' L
 | [],_=>trivial
 | (t,v)::L',h=>by
  simp only [H7,Ii,List.cons.injEq] at h
  exact⟨h.1,Ng h.2⟩
variable {L':Env}{k':Li_}{rest:List Nat}
variable {op:Op}
section
variable {i:Nat}
theorem Ek(L':Env)(h:H7 L L'=Ii L')(k':JL J Q b n L' ds k cs s):JL J Q b n L ds k cs s:=EO (Ng h) k'
theorem Az(k':JL J Q b n L' ds k cs s)(h:H7 L L'=Ii L'):JL J Q b n L ds k cs s:=EO (Ng h) k'
def Fe(b:Frame)(n:Nat)(L:Env)(ops:Ao_)(i:Nat):Option Oper:=
 match I9 ops.toList i with
 | some ⟨d,op,ty,p,af,g⟩=>match AR L ops ⟨d,op,ty,p,af,g⟩ with
  | some true=>match BJ b n ⟨d,op,ty,p,af,g⟩ with
   | true=>some ⟨d,op,ty,p,af,g⟩
   | false=>none
  | _=>none
 | none=>none
theorem Kd{o:Oper}(h:Fe b n L ops i=some o):ops[i]? =some o/\AR L ops o=some true/\BJ b n o=true:=by
 unfold Fe at h;split at h
 ·rename_i K;rw [KU,Array.getElem?_toList] at K;split at h
  ·rename_i hw;split at h
   ·rename_i O;cases h;exact⟨K,hw,O⟩
   ·cases h
  ·cases h
 ·cases h
theorem Am(K:Fe b n L ops i=some ⟨d,op,ty,p,af,g⟩)(h:∀ρ,EP L ρ->Yl P ⟨d,op,ty,p,af,g⟩ ρ s v)(O:JL J Q b n (As L d v) ds (.inRegion ops rest::k) cs s):
  JL J Q b n L ds (.inRegion ops (i::rest)::k) cs s:=
 let ⟨U,V,Y⟩:=Kd K
 A4 U V Y h O
theorem Kh{f:FuncId}{fn:Func}{c:Code}{E:LH}{vs:Lv_}{B:Seg}{R:Value->LH->Seg->Prop}(O:P.funcs[f]? =some fn)(hb:fn.body=some c)(U:Nat.ble vs.length fn.ntmps=true)
  (h:∀(Q:Gs_) (K:Frame) (cs:Lf_) (H:LH),Ap E H [B]->(∀v E' S' B',Le E E'->S'.flatten=B'->R v E' B'->Ap E' H S'->J.ok Q (G (K.finish v) cs) (Aj E' H S'))->JL J Q (base f) fn.ntmps (F1 0 vs) [] [.code c] (K::cs) (Aj E H [B])):AM J f vs E B R:=
 AM.enter O hb (Nat.le_of_ble_eq_true U) h
def NQ(n:Nat)(L:Env)(ops:Ao_)(i:Nat):Option Env:=
 match I9 ops.toList i with
 | some ⟨d,op,ty,p,af,g⟩=>match AR L ops ⟨d,op,ty,p,af,g⟩ with
  | some true=>match Bg n d with
   | true=>match Ko L op with
    | some v=>match d with
     | some d=>some ((d,v)::L)
     | none=>some L
    | none=>none
   | false=>none
  | some false=>match Bg n d with
   | true=>match d with
    | some d=>some ((d,undef)::L)
    | none=>some L
   | false=>none
  | none=>none
 | none=>none
def Hb(n:Nat)(L:Env)(ops:Ao_)(i:Nat):Option Oper:=
 match I9 ops.toList i with
 | some ⟨d,op,ty,p,af,g⟩=>match AR L ops ⟨d,op,ty,p,af,g⟩ with
  | some true=>match Bg n d with
   | true=>some ⟨d,op,ty,p,af,g⟩
   | false=>none
  | _=>none
 | none=>none
theorem Om{o:Oper}(h:Hb n L ops i=some o):ops[i]? =some o/\AR L ops o=some true/\Bg n o.dst=true:=by
 unfold Hb at h;split at h
 ·rename_i K;rw [KU,Array.getElem?_toList] at K;split at h
  ·rename_i hw;split at h
   ·rename_i O;cases h;exact⟨K,hw,O⟩
   ·cases h
  ·cases h
 ·cases h
theorem Xh(h:NQ n L ops i=some L'):∃o,ops[i]? =some o/\Bg n o.dst=true/\((∃v,AR L ops o=some true/\Ko L o.op=some v/\L'=As L o.dst v)∨(AR L ops o=some false/\L'=As L o.dst undef)):=by
 unfold NQ at h;split at h
 ·rename_i d op ty p af g O;rw [KU,Array.getElem?_toList] at O;refine⟨_,O,?_⟩;split at h
  ·rename_i hw;split at h
   ·rename_i K;refine⟨K,.inl ?_⟩;split at h
    ·rename_i v U;refine⟨v,hw,U,?_⟩;cases d with
     | none=>cases h;rfl
     | some d=>cases h;rfl
    ·cases h
   ·cases h
  ·rename_i hw;split at h
   ·rename_i K;refine⟨K,.inr ⟨hw,?_⟩⟩;cases d with
    | none=>cases h;rfl
    | some d=>cases h;rfl
   ·cases h
  ·cases h
 ·cases h
variable {fuel:Nat}{listed:Array Bool}
theorem BR(i:Nat)(K:DG ops m=true)(O:s.q=false)(h:NQ n L ops i=some L')
  (U:AO J Q b n ds ops k cs m D fuel (A8 listed i) L' s) (V:Gp ops listed m i=true:=by decide+kernel):AO J Q b n ds ops k cs m D (fuel+1) listed L s:=by
 obtain⟨o,Y,Z,⟨v,hw,ac,rfl⟩ | ⟨hw,rfl⟩⟩:=Xh h
 ·exact JG.val i Y K V O hw Z (λρ ag s' _=>MX ag ac) U
 ·exact aZ i Y K V O hw Z U
theorem AN(i:Nat)(K:DG ops m=true)(O:s.q=false)(U:Hb n L ops i=some ⟨d,op,ty,p,af,g⟩)
  (V:∀ρ,EP L ρ->∀s':St,(∀x o,(Br D s).E x=some o->s'.E x=some o)->Yl P ⟨d,op,ty,p,af,g⟩ ρ s' v)
  (Y:AO J Q b n ds ops k cs m D fuel (A8 listed i) (As L d v) s) (Z:Gp ops listed m i=true:=by decide+kernel):AO J Q b n ds ops k cs m D (fuel+1) listed L s:=by
 obtain⟨ac,ag,al⟩:=Om U;exact JG.val i ac K Z O ag al V Y
end
abbrev Jn(E H E':LH)(S:List Seg)(K L:Env)(s:St)(R:Prop):Prop:=L=K/\s=Aj E' H S/\Le E E'/\Ap E' H S/\R
abbrev Jm(E H E':LH)(S:List Seg)(K L:Env)(s:St):Prop:=L=K/\s=Aj E' H S/\Le E E'/\Ap E' H S
def NG(L:Env):List ResultVar->Option (Lv_)
 | []=>some []
 | .tmp t::rs=>match look L t with
  | some v=>match NG L rs with
   | some vs=>some (v::vs)
   | none=>none
  | none=>none
 | _=>none
theorem Sk{P:Program}{L:Env}{s:St}:∀{rs:List ResultVar} {vs:Lv_},NG L rs=some vs->RV P L s rs vs
 | [],vs,h=>by cases h;trivial
 | .tmp t::rs,vs,h=>by
  unfold NG at h
  split at h
  ·rename_i v K
   split at h
   ·rename_i ws hw;cases h;exact⟨K,Sk hw⟩
   ·cases h
  ·cases h
 | .cell _ _::_,_,h=>by cases h
variable {ft:TypeId}
section
variable {i:Nat}
variable {x y:Operand}{e:TypeId}
theorem AS{c:Frame}{fn:Func}{vs:Lv_}(O:P.funcs[b.fn]? =some fn)(K:(b.kind== .normal&&b.roundOf.isNone)=true)(U:NG L fn.results.toList=some vs)(h:J.ok Q (G (c.finish (Nf vs)) cs) s):JL J Q b n L [] (.code .ret::k) (c::cs) s:=by
 simp only [Bool.and_eq_true,beq_iff_eq,Option.isNone_iff_eq_none] at K;exact JL.ret K.1 K.2 (BB.list O V (Sk U)) h
theorem A2{f:FuncId}{args:Array Operand}{ats:Array TypeId}{vs:Lv_}{R:Value->LH->Seg->Prop}
  (O:AM J f vs E [] R) (U:Fe b n L ops i=some ⟨d,.call ⟨.value (.func f),args,ats⟩,ty,p,af,g⟩) (V:evs L args.toList=some vs) (hb:Du P f=true)
  (Y:Ap E H S) (Z:∀v E' seg',Le E E'->R v E' seg'->Ap E' H (S++ [seg'])->JL J Q b n (As L d v) ds (.inRegion ops rest::k) cs (Aj E' H (S++ [seg']))):
  JL J Q b n L ds (.inRegion ops (i::rest)::k) cs (Aj E H S):=by
 obtain⟨ac,ag,K⟩:=Kd U;refine JS.call O ac ag ?_ hb V Y Z;simp only [BJ,Bool.and_eq_true] at K ⊢;exact⟨K.1,K.2.1⟩
theorem BH{f:FuncId}{args:Array Operand}{ats:Array TypeId}{vs:Lv_}{v:Value}
  (O:AM J f vs E [] (λw E' B'=>w=v/\B'= [])) (U:Fe b n L ops i=some ⟨d,.call ⟨.value (.func f),args,ats⟩,ty,p,af,g⟩) (V:evs L args.toList=some vs) (hb:Du P f=true)
  (K:Ap E H S) (Y:∀E',Le E E'->Ap E' H (S++ [[]])->JL J Q b n (As L d v) ds (.inRegion ops rest::k) cs (Aj E' H (S++ [[]]))):
  JL J Q b n L ds (.inRegion ops (i::rest)::k) cs (Aj E H S):=A2 O U V hb K (by rintro _ E' _ hle ⟨rfl,rfl⟩ K;exact Y E' hle K)
theorem DR{f:FuncId}{args:Array Operand}{ats:Array TypeId}{vs:Lv_}{seg:Seg}{R:Value->LH->Seg->Prop}(j:Nat)
  (O:AM J f vs E seg R) (U:Fe b n L ops i=some ⟨d,.call ⟨.value (.func f),args,ats⟩,ty,p,af,g⟩) (V:evs L args.toList=some vs) (hb:Du P f=true)
  (Y:Ap E H S) (Z:S[j]? =some seg) (ac:∀v E' seg',Le E E'->R v E' seg'->Ap E' H (S.set j seg')->JL J Q b n (As L d v) ds (.inRegion ops rest::k) cs (Aj E' H (S.set j seg'))):
  JL J Q b n L ds (.inRegion ops (i::rest)::k) cs (Aj E H S):=by
 obtain⟨ag,al,K⟩:=Kd U;refine RF j O ag al ?_ hb V Y Z ac;simp only [BJ,Bool.and_eq_true] at K ⊢;exact⟨K.1,K.2.1⟩
def LU(K:Array Field)(i:Nat):Option (Nat×TypeId):=match K[i]? with
 | some f=>some (f.offset,f.type)
 | none=>none
theorem Bn{r m m':Int}{u:TypeId}(h:Av (m+m')=some r)(K:Fe b n L ops i=some ⟨d,.binOp .add t x y u,ty,p,af,g⟩)(O:ev L x=some (iV m))(U:ev L y=some (iV m'))
  (V:JL J Q b n (As L d (iV r)) ds (.inRegion ops rest::k) cs s):JL J Q b n L ds (.inRegion ops (i::rest)::k) cs s:=Am K (λ_ q=>EZ (q _ _ O) (q _ _ U) h) V
theorem Dh{r m m':Int}{u:TypeId}(h:Av (m - m')=some r)(K:Fe b n L ops i=some ⟨d,.binOp .sub t x y u,ty,p,af,g⟩)(O:ev L x=some (iV m))(U:ev L y=some (iV m'))
  (V:JL J Q b n (As L d (iV r)) ds (.inRegion ops rest::k) cs s):JL J Q b n L ds (.inRegion ops (i::rest)::k) cs s:=Am K (λ_ q=>Ej (q _ _ O) (q _ _ U) h) V
theorem JL.ln{a:Option Addr}{e:TypeId}{l c:Nat}{ats:Array TypeId}(K:P.underlying t=some (.slice e))(O:Fe b n L ops i=some ⟨d,.call ⟨.builtin .len,#[x],ats⟩,ty,p,af,g⟩)(U:ats[0]? =some t)(V:ev L x=some (.slice a l c))
  (Y:JL J Q b n (As L d (.int .i64 l)) ds (.inRegion ops rest::k) cs s):JL J Q b n L ds (.inRegion ops (i::rest)::k) cs s:=Am O (λ_ q=>Yl.len U K (q _ _ V)) Y
theorem JL.fd{bk o O off:Nat}{U:Array Field}{V:Nat}(Y:P.underlying t=some (.struct U))(Z:Bo P ft=some (O+1))(ac:Fe b n L ops i=some ⟨d,.fieldAddr t x V,ty,p,af,g⟩)(ag:ev L x=some (.pointer (some ⟨bk,o,none⟩)))(K:LU U V=some (off,ft))
  (al:JL J Q b n (As L d (.pointer (some ⟨bk,o+off,none⟩))) ds (.inRegion ops rest::k) cs s):
  JL J Q b n L ds (.inRegion ops (i::rest)::k) cs s:=by
 unfold LU at K;split at K
 ·rename_i f am;cases K;refine Am ac (λρ h=>I2 (a:=⟨bk,o,none⟩) O f.offset Y Z am rfl rfl (h _ _ ag)) ?_;rw [Ei rfl];exact al
 ·cases K
theorem CG{bk o:Nat}{ws:Lv_}(j:Nat)(K:At E bk o ws)(O:Dr P t=some false)(U:Fe b n L ops i=some ⟨d,.load t x,ty,p,af,g⟩)(V:ev L x=some (.pointer (some ⟨bk,o+j,none⟩)))(Y:ws[j]? =some v)
  (Z:JL J Q b n (As L d v) ds (.inRegion ops rest::k) cs (Aj E H S)):
  JL J Q b n L ds (.inRegion ops (i::rest)::k) cs (Aj E H S):=
 Am U (λ_ h=>Yl.load O (h _ _ V) (At.I4 K Y)) Z
theorem T7{bk off:Nat}{c:Av_}(j:Nat)(K:Ap E H S)(O:Bo P t=some v.cells.size)(U:Fe b n L ops i=some ⟨d,.store t x y,ty,p,af,g⟩)
  (V:ev L x=some (.pointer (some ⟨bk,off,none⟩))) (Y:ev L y=some v) (Z:S[j]? =some [(bk,.cells c e (0,0))])
  (h:Ap E H (S.set j [(bk,.cells (A7 c off v.cells.toList) e (0,0))])->JL J Q b n (As L d undef) ds (.inRegion ops rest::k) cs (Aj E H (S.set j [(bk,.cells (A7 c off v.cells.toList) e (0,0))])))
  (hle:off+v.cells.size<=c.size:=by exact Nat.le_of_ble_eq_true rfl) (ac:∀u∈v.cells.toList,B3 u=true:=by simp [Value.cells,B3]):
  JL J Q b n L ds (.inRegion ops (i::rest)::k) cs (Aj E H S):=by
 obtain⟨ag,al,am⟩:=Kd U;exact JS.store j ag al am K V Y O ac Z hle h
theorem BT{bk o:Nat}{ws:Lv_}(K:At E bk o ws)(O:Dr P t=some true)(U:Bo P t=some ws.length)(V:Fe b n L ops i=some ⟨d,.load t x,ty,p,af,g⟩)(Y:ev L x=some (.pointer (some ⟨bk,o,none⟩)))
  (Z:JL J Q b n (As L d (.agg ws.toArray)) ds (.inRegion ops rest::k) cs (Aj E H S)):
  JL J Q b n L ds (.inRegion ops (i::rest)::k) cs (Aj E H S):=
 Am V (λ_ h=>GV O U (h _ _ Y) (At.LQ K)) Z
variable {fuel:Nat}{listed:Array Bool}
theorem JG.fd{bk o O off:Nat}{U:Array Field}{V:Nat}(i:Nat)(Y:DG ops m=true)(Z:P.underlying t=some (.struct U))(ac:Bo P ft=some (O+1))(ag:s.q=false)(al:Hb n L ops i=some ⟨d,.fieldAddr t x V,ty,p,af,g⟩)(am:ev L x=some (.pointer (some ⟨bk,o,none⟩)))(K:LU U V=some (off,ft))
  (ap:AO J Q b n ds ops k cs m D fuel (A8 listed i) (As L d (.pointer (some ⟨bk,o+off,none⟩))) s) (aq:Gp ops listed m i=true:=by decide+kernel):AO J Q b n ds ops k cs m D (fuel+1) listed L s:=by
 unfold LU at K;split at K
 ·rename_i f aw;cases K;refine AN i Y ag al (λρ h _ _=>I2 (a:=⟨bk,o,none⟩) O f.offset Z ac aw rfl rfl (h _ _ am)) ?_ aq;rw [Ei rfl];exact ap
 ·cases K
theorem CK{bk o:Nat}{ws:Lv_}(i:Nat)(K:DG ops m=true)(j:Nat)(O:At (Br D s).E bk o ws)(U:Dr P t=some false)(V:s.q=false)(Y:Hb n L ops i=some ⟨d,.load t x,ty,p,af,g⟩)(Z:ev L x=some (.pointer (some ⟨bk,o+j,none⟩)))(ac:ws[j]? =some v)
  (ag:AO J Q b n ds ops k cs m D fuel (A8 listed i) (As L d v) s) (al:Gp ops listed m i=true:=by decide+kernel):AO J Q b n ds ops k cs m D (fuel+1) listed L s:=
 AN i K V Y (λ_ h _ am=>Yl.load U (h _ _ Z) (At.PW O am ac)) ag al
theorem H9{bk o:Nat}{ws:Lv_}(i:Nat)(K:DG ops m=true)(O:At (Br D s).E bk o ws)(U:Dr P t=some true)(V:Bo P t=some ws.length)(Y:s.q=false)(Z:Hb n L ops i=some ⟨d,.load t x,ty,p,af,g⟩)(ac:ev L x=some (.pointer (some ⟨bk,o,none⟩)))
  (ag:AO J Q b n ds ops k cs m D fuel (A8 listed i) (As L d (.agg ws.toArray)) s) (al:Gp ops listed m i=true:=by decide+kernel):AO J Q b n ds ops k cs m D (fuel+1) listed L s:=
 AN i K Y Z (λ_ h _ am=>GV U V (h _ _ ac) (At.Pf O am)) ag al
end
abbrev Qb:=Int×List Int×Nat
abbrev AK:=List (Int×Int)
abbrev Ao:=Option Addr
abbrev Dm:Rp (Int×Int):=rP rI rI
theorem ip{α:Type}{p:Prop} [Decidable p] {A B:Option α}{r:α}(h:(if p then A else B)=some r)(c:p):A=some r:=by rwa [if_pos c] at h
theorem im{α:Type}{p:Prop} [Decidable p] {A B:Option α}{r:α}(h:(if p then A else B)=some r)(c:¬p):B=some r:=by rwa [if_neg c] at h
theorem ib{α:Type}{c:Bool}{A B:Option α}{r:α}(h:(if c=true then A else B)=some r)(K:c=false):B=some r:=by subst K;simpa using h
def P7(n:Nat)(ops:Ao_):List Nat->Nat->Env->Option (Nat×Env)
 | [],f,L=>some (f,L)
 | i::l,f+1,L=>match NQ n L ops i with
  | some L'=>P7 n ops l f L'
  | none=>none
 | _::_,0,_=>none
def PN(ops:Ao_)(m:Nat):Array Bool->List Nat->Bool
 | _,[]=>true
 | listed,i::l=>Gp ops listed m i&&PN ops m (A8 listed i) l
def T2:Array Bool->List Nat->Array Bool
 | listed,[]=>listed
 | listed,i::l=>T2 (A8 listed i) l
theorem A3{P:Program}{J:Judge P}{Q:Gs_}{b:Frame}{n:Nat}{ds:Ld_}{k:Li_}{cs:Lf_}{s:St}{ops:Ao_}{m:Nat}{D:Nat->Bool}{L':Env}{U:Nat}(V:DG ops m=true)(Y:s.q=false):
  ∀(l:List Nat) {fuel:Nat} {listed:Array Bool} {L:Env},P7 n ops l fuel L=some (U,L')->AO J Q b n ds ops k cs m D U (T2 listed l) L' s->(K:PN ops m listed l=true:=by decide+kernel)->AO J Q b n ds ops k cs m D fuel listed L s
 | [],fuel,listed,L,h,O,_=>by cases h;exact O
 | i::l,fuel,listed,L,h,O,K=>by
  cases fuel with
  | zero=>cases h
  | succ fuel=>
   unfold PN at K;rw [Bool.and_eq_true] at K;unfold P7 at h;split at h
   ·rename_i Z e;exact BR i V Y e (A3 V Y l h O K.2) K.1
   ·cases h
theorem zg{P:Program}{J:Judge P}{Q:Gs_}{b:Frame}{n:Nat}{L L':Env}{ds:Ld_}{k k':Li_}{cs:Lf_}{s:St}(m:Nat)(h:Nk b n m k L=some (k',L'))(K:JL J Q b n L' ds k' cs s):JL J Q b n L ds k cs s:=JL.go m h K
abbrev C:=@zg
abbrev bX(r:Nat)(c:Av_)(t:TypeId):Seg:= [(r,.cells c t (0,0))]
variable {α:Type}{A B:Option α}{r:α}
section
theorem AU{c:Operand}{x y:Code}{p:Prop} [Decidable p] (K:(if p then A else B)=some r)(O:p->A=some r->JL J Q b n L ds (.code x::k) cs s)(U:¬p->B=some r->JL J Q b n L ds (.code y::k) cs s)
  (V:ev L c=some (.bool (decide p)):=by exact rfl):JL J Q b n L ds (.code (.cond c x y)::k) cs s:=FN V (λh=>O h (ip K h)) λh=>U h (im K h)
theorem Cd{c:Operand}{x y:Code}{t:Bool}(K:(if t=true then A else B)=some r)(O:t=true->A=some r->JL J Q b n L ds (.code x::k) cs s)(U:t=false->B=some r->JL J Q b n L ds (.code y::k) cs s)
  (V:ev L c=some (.bool t):=by exact rfl):JL J Q b n L ds (.code (.cond c x y)::k) cs s:=Oz V (λh=>O h (ip K h)) λh=>U h (ib K h)
theorem G1{q:Prop} [Decidable q] (i:Nat)(K:(if q then A else B)=some r)(O:q->A=some r->JL J Q b n (As L (some i) (.bool true)) ds k cs s)(U:¬q->B=some r->JL J Q b n (As L (some i) (.bool false)) ds k cs s)
  (V:look L i=some (.bool (decide q)):=by exact rfl):JL J Q b n L ds k cs s:=Ly V (λh=>O h (ip K h)) λh=>U h (im K h)
theorem Ci{t:Bool}(i:Nat)(K:(if t=true then A else B)=some r)(O:t=true->A=some r->JL J Q b n (As L (some i) (.bool true)) ds k cs s)(U:t=false->B=some r->JL J Q b n (As L (some i) (.bool false)) ds k cs s)
  (V:look L i=some (.bool t):=by exact rfl):JL J Q b n L ds k cs s:=Kb V (λh=>O h (ip K h)) λh=>U h (ib K h)
theorem CZ{K O:Type}{c:Code}{body:K->Option (Bq K O)}{f:Nat}{U:K}{a:O}(Y:iter body f U=some a)(I:Env->St->K->Prop)(Z:I L' s U)
  (round:∀L s x,I L s x->(∀V,body x=some (.done V)->V=a)->(∃st,body x=some st)->(∀L' s' x',I L' s' x'->body x=some (.more x')->JL J Q b n L' ds (.inLoop c::k) cs s')->JL J Q b n L ds (.code c:: .inLoop c::k) cs s)
  (ac:H7 L L'=Ii L':=by exact rfl):JL J Q b n L ds (.code (.loop c)::k) cs s:=Ek L' ac (Rv Y I Z round)
variable {fuel:Nat}{listed:Array Bool}
def ND(ops:Ao_):Array Bool->List Nat->Bool
 | _,[]=>true
 | l,i::t=>Region.ready .any ops l== [i]&&ND ops (A8 l i) t
theorem Sx:∀{t:List Nat} {l:Array Bool},ND ops l t=true->∀u,Region.linearise.go .any ops t.length u l []=t
 | [],_,_,_=>rfl
 | i::t,l,h,u=>by
  unfold ND at h
  rw [Bool.and_eq_true,beq_iff_eq] at h
  exact Zn h.1 (Sx h.2) u
theorem Cz(t:List Nat)(O:JL J Q b n L ds (.inRegion ops t::k) cs s)(K:(Pz m listed&&ND ops listed t&&(fuel+1==t.length))=true:=by decide+kernel):AO J Q b n ds ops k cs m D (fuel+1) listed L s:=by
 rw [Bool.and_eq_true,Bool.and_eq_true,beq_iff_eq] at K;exact AO.leaf K.1.1 (by rw [K.2];exact Sx K.1.2) O
theorem DK(m:Nat){id:Nat}(h:DG ops m=true->AO J Q b n ds ops k cs m C3 ops.size (Array.replicate ops.size false) L (Aj E H S))(hm:P.follows .mixedOrders=true:=by exact rfl)(K:(b.kind != .early)=true:=by exact rfl)(O:DG ops m=true:=by decide+kernel):
  JL J Q b n L ds (.code (.region id ops true)::k) cs (Aj E H S):=Rs m hm K O h
theorem FR(m:Nat)(bks:List Nat){id:Nat}(K:HB S bks)(O:Ap E H S)(h:DG ops m=true->AO J Q b n ds ops k cs m (AG bks) ops.size (Array.replicate ops.size false) L (Aj E H S))(hm:P.follows .mixedOrders=true:=by exact rfl)(U:(b.kind != .early)=true:=by exact rfl)(V:DG ops m=true:=by decide+kernel):
  JL J Q b n L ds (.code (.region id ops true)::k) cs (Aj E H S):=Xi m bks K O hm U V h
theorem EK{α:Type}{pp:Rp α}{a:Option Addr}{c:Nat}{xs:List α}{xv:α}{K:Int}{d:Option Tmp}{x y:Operand}{t ty e:TypeId}{p:String}{af:Ae_}{g:On_}{kd:IntKind}(i:Nat)(O:Al pp E a c xs)(U:ix xs K=some xv)(V:DG ops m=true)(Y:P.underlying t=some (.slice e))(Z:Bo P e=some pp.n)
  (h:∀bk o ws,pp.r E ws xv->At E bk o ws->AO J Q b n ds ops k cs m D fuel (A8 listed i) (As L d (.pointer (some ⟨bk,o,none⟩))) s)
  (ac:ops[i]? =some ⟨d,.indexAddr t x y,ty,p,af,g⟩:=by exact rfl) (ag:Gp ops listed m i=true:=by decide+kernel) (al:s.q=false:=by exact rfl)
  (hw:AR L ops ⟨d,.indexAddr t x y,ty,p,af,g⟩=some true:=by exact rfl) (am:Bg n d=true:=by exact rfl)
  (ap:ev L x=some (.slice a xs.length c):=by exact rfl) (aq:ev L y=some (.int kd K):=by exact rfl):
  AO J Q b n ds ops k cs m D (fuel+1) listed L s:=av i O U ac V ag al hw am ap aq Y Z h
end
theorem Cu{P:Program}{J:Judge P}{Q:Gs_}{b:Frame}{n:Nat}{ds:Ld_}{ops:Ao_}{k:Li_}{cs:Lf_}{m fuel:Nat}{D:Nat->Bool}{listed:Array Bool}{L L':Env}{s:St}(k':AO J Q b n ds ops k cs m D fuel listed L' s)(h:H7 L L'=Ii L'):AO J Q b n ds ops k cs m D fuel listed L s:=B8 (Ng h) k'
instance {α:Type} [DecidableEq α] (xs:List α):Decidable (xs= []):=inferInstance
variable {w:Value}
section
variable {i:Nat}
variable {x y:Operand}{e:TypeId}
end
section
variable {fuel:Nat}{listed:Array Bool}
variable {x y:Operand}{e:TypeId}{i:Nat}
theorem Take.H8{bk off:Nat}{c:Av_}(j:Nat)(V:Ap E H S)(Y:ops[i]? =some ⟨d,.store t x y,ty,p,af,g⟩)(hw:AR L ops ⟨d,.store t x y,ty,p,af,g⟩=some true)(Z:Bg n d=true)
  (ac:ev L x=some (.pointer (some ⟨bk,off,none⟩))) (ag:ev L y=some v) (al:Bo P t=some v.cells.size) (am:∀u∈v.cells.toList,B3 u=true) (K:S[j]? =some [(bk,.cells c e (0,0))]) (hle:off+v.cells.size<=c.size)
  (h:Ap E H (S.set j [(bk,.cells (A7 c off v.cells.toList) e (0,0))])->AO J Q b n ds ops k cs m C3 fuel (A8 listed i) (As L d undef) (Aj E H (S.set j [(bk,.cells (A7 c off v.cells.toList) e (0,0))]))):
  Take J Q b n ds ops k cs m C3 fuel listed L (Aj E H S) i:=
 Take.JW Y (by simp [DW,Z]) hw λρ O=>by
  obtain⟨ap,aq⟩:=Gk V K
  rw [ap]
  show lp P (do Instr.storeAt t (ρ x) (ρ y);pure Next.skip) _ _ _
  rw [O x _ ac,O y v ag]
  refine Ar _ _ ?_
  unfold Instr.storeAt
  simp only [Instr.sureAddr,bind,Sem.bind,pure]
  refine MA (pl:=(S.set j []).flatten.length) al am aq (c:=c) (e:=e) (by simp) hle λU=>?_
  have aw:((S.set j []).flatten++ [(bk,Obj.cells c e (0,0))]).set (S.set j []).flatten.length (bk,.cells (A7 c off v.cells.toList) e (0,0))=(S.set j []).flatten++ [(bk,.cells (A7 c off v.cells.toList) e (0,0))]:=H4 _ _ _ _
  rw [aw] at U ⊢
  obtain⟨ay,az⟩:=H5 K U
  rw [ay]
  exact h az
theorem KQ{s:St}{D:Nat->Bool}{i j l:Nat}(K:s.q=false)(O:Region.ready .any ops listed= [i,j,l])(hi:Take J Q b n ds ops k cs m D fuel listed L s i)(U:Take J Q b n ds ops k cs m D fuel listed L s j)(V:Take J Q b n ds ops k cs m D fuel listed L s l):AO J Q b n ds ops k cs m D (fuel+1) listed L s:=
 Oj K O (by simp) (by intro q K;simp at K;rcases K with rfl | rfl | rfl <;> assumption)
end
theorem Al.cut{α:Type}{pp:Rp α}{E:LH}{a:Option Addr}{c:Nat}{xs ys:List α}{lo hi:Int}(V:Al pp E a c xs)(hC:G9 xs lo hi=some ys):
  ∃Y Z,Al pp E Y Z ys/\∀{P:Program} {ρ:Operand->Value} {s:St} {d:Option Tmp} {x:Operand} {t ty e:TypeId} {p:String} {af:Ae_} {g:On_} {olo ohi:Option Operand},P.underlying t=some (.slice e)->Bo P e=some pp.n->ρ x= .slice a xs.length c->
   (match ohi with | some w=>ρ w=iV hi | none=>hi=xs.length)->(match olo with | some w=>ρ w=iV lo | none=>lo=0)->Yl P ⟨d,.slice t x olo ohi none,ty,p,af,g⟩ ρ s (.slice Y ys.length Z):=by
 unfold G9 at hC;split at hC
 rotate_left
 ·cases hC
 rename_i hb;obtain⟨a1,a2,am⟩:=hb;cases hC;obtain⟨lo,rfl⟩:∃l:Nat,lo=l:=⟨lo.toNat,by omega⟩;obtain⟨hi,rfl⟩:∃l:Nat,hi=l:=⟨hi.toNat,by omega⟩;simp only [Int.toNat_natCast] at*;have a3:=V.1;have hlen:((xs.take hi).drop lo).length=hi - lo:=by simp;omega
 have ac:∀ad:Addr,a=some ad->ad.spot=none∨c=0:=λad K=>by
  rcases V.2 with⟨_,h⟩ | ⟨bk,off,h,_⟩
  ·exact h ad K
  ·rw [h] at K;cases K;exact .inl rfl
 refine⟨if c=lo then a else a.map (·.add (lo*pp.n)),c - lo,⟨by rw [hlen];omega,?_⟩,?_⟩
 ·by_cases ap:hi - lo=0
  ·left;refine⟨List.eq_nil_of_length_eq_zero (by rw [hlen];exact ap),λad K=>?_⟩;split at K
   ·exact(ac ad K).imp id λh=>by omega
   ·cases a with
    | none=>cases K
    | some aq=>
     simp only [Option.map_some,Option.some.injEq] at K;subst K;exact .inl (by rw [Ei ((ac aq rfl).resolve_right (by omega))])
  ·right;rcases V.2 with⟨h,_⟩ | ⟨bk,off,rfl,O⟩
   ·subst h;simp at am;omega
   ·refine⟨bk,off+lo*pp.n,?_,λq z U=>?_⟩
    ·rw [if_neg (by omega),Option.map_some,Ei rfl]
    ·rw [List.getElem?_drop,List.getElem?_take] at U;split at U
     ·obtain⟨ws,aw,ag⟩:=O _ z U;refine⟨ws,aw,?_⟩;rw [Nat.add_mul] at ag;rw [Nat.add_assoc];exact ag
     ·cases U
 ·intro P ρ s d x t ty e p af g olo ohi ay az a0 O al;rw [hlen];refine Yl.slice (mx:=c) (hi:=hi) (lo:=lo) ay az a0 rfl ?_ ?_ (Nat.le_refl _) (by omega) (by omega)
  ·cases ohi with
   | none=>exact⟨by simp only at O;omega,rfl⟩
   | some w=>exact O
  ·cases olo with
   | none=>simp only at al;show lo=0;omega
   | some w=>exact al
section
variable {fuel:Nat}{listed:Array Bool}
theorem Ge{S1 S':List Seg}(K:S=S1)(O:S1.Perm S')(U:Ap E H S)(h:Ap E H S'->AO J Q b n ds ops k cs m D fuel listed L (Aj E H S')):AO J Q b n ds ops k cs m D fuel listed L (Aj E H S):=by
 subst K;exact AO.perm O.flatten U h
end
variable {e2:TypeId}
section
variable {i:Nat}
variable {x y:Operand}{e:TypeId}
def JI(E:LH):Nat->Bool:=λx=>(E x).isNone
theorem Za(x:Nat):(Br (JI E) (Aj E H S)).E x=(Aj E H S).get x:=by
 show(if JI E x then(Aj E H S).get x else E x)=_
 unfold JI;cases h:E x with
 | none=>simp
 | some o=>
  rw [if_neg (by simp)];unfold St.get;rw [show(Aj E H S).E x=some o from h]
theorem P3{s':St}(K:∀x o,(Br (JI E) (Aj E H S)).E x=some o->s'.E x=some o){x:Nat}{o:Obj}(h:(Aj E H S).get x=some o):s'.get x=some o:=by
 have:=K x o (by rw [Za];exact h);unfold St.get;rw [this]
theorem L2{s':St}(K:∀x o,(Br (JI E) (Aj E H S)).E x=some o->s'.E x=some o){a:Addr}{v:Value}(h:(Aj E H S).cell? a=some v):s'.cell? a=some v:=by
 obtain⟨o,O,U⟩:=Option.bind_eq_some_iff.1 h;unfold St.cell?;rw [P3 K O];exact U
theorem TI{s':St}(K:∀x o,(Br (JI E) (Aj E H S)).E x=some o->s'.E x=some o){a:Addr}{vs:Lv_}(h:∀(i:Nat) v,vs[i]? =some v->(Aj E H S).cell? (Addr.add a i)=some v):∀(i:Nat) v,vs[i]? =some v->s'.cell? (Addr.add a i)=some v:=λi v O=>L2 K (h i v O)
theorem PG(m:Nat){id:Nat}(h:DG ops m=true->AO J Q b n ds ops k cs m (JI E) ops.size (Array.replicate ops.size false) L (Aj E H S))(hm:P.follows .mixedOrders=true:=by exact rfl)(K:(b.kind != .early)=true:=by exact rfl)(O:DG ops m=true:=by decide+kernel):
  JL J Q b n L ds (.code (.region id ops true)::k) cs (Aj E H S):=OA m (JI E) V hm K (h O)
abbrev rs(q:Nat×Obj)(K:Seg)(p:Nat×Obj)(g2:Seg):Seg:=q::(K++ [p]++g2)
end
variable {bk:Nat}{o:Obj}{xs:List (κ×ν)}{v0:ν}
variable {kk:Li_}
variable {z:Operand}{x0:κ}
section
variable [DecidableEq κ]
def KN(xs:List (κ×ν)):Prop:=(xs.map (·.1)).Nodup
theorem KN.perm{xs ys:List (κ×ν)}(h:KN xs)(p:ys.Perm xs):KN ys:=((p.map (λq:κ×ν=>q.1)).nodup_iff).2 h
theorem OI{xs:List (κ×ν)}(h:KN xs){x:κ}{v:ν}:Bf xs x=some v↔(x,v)∈xs:=by
 induction xs with
 | nil=>simp [Bf]
 | cons y ys U=>
  have O:y.1 ∉ ys.map (·.1)/\KN ys:=by simpa [KN] using h
  by_cases e:x=y.1
  ·subst e;have K:Bf (y::ys) y.1=some y.2:=by simp [Bf]
   rw [K];constructor
   ·intro q;cases q;simp
   ·intro q;rcases List.mem_cons.1 q with q | q
    ·rw [← q]
    ·exact absurd (List.mem_map.2 ⟨_,q,V⟩) O.1
  ·have K:Bf (y::ys) x=Bf ys x:=by simp [Bf,e]
   rw [K,U O.2];constructor
   ·intro q;exact List.mem_cons_of_mem _ q
   ·intro q;rcases List.mem_cons.1 q with q | q
    ·exact absurd (by rw [← q]) e
    ·exact q
theorem Oq{xs ys:List (κ×ν)}(h:KN xs)(p:ys.Perm xs)(x:κ):Bf ys x=Bf xs x:=by
 apply Option.ext;intro v;rw [OI h,OI (h.perm p),p.mem_iff]
def Ed(xs:List (κ×ν))(x:κ):List (κ×ν):=xs.filter λy=>decide (x≠y.1)
theorem Q0{xs:List (κ×ν)}{x:κ}(h:∀y∈xs,x≠y.1):Ed xs x=xs:=List.filter_eq_self.2 λy K=>by simpa using h y K
theorem MN{x:κ}{v:ν}:∀{xs:List (κ×ν)},KN xs->(Bp xs x v).Perm ((x,v)::Ed xs x)
 | [],_=> .refl _
 | y::ys,h=>by
  have K:y.1 ∉ ys.map (·.1)/\KN ys:=by simpa [KN] using h
  unfold Bp;by_cases e:x=y.1
  ·rw [if_pos e];have e2:Ed (y::ys) x=ys:=by
    have:Ed (y::ys) x=Ed ys x:=by simp [Ed,e]
    rw [this];exact Q0 λz O q=>K.1 (List.mem_map.2 ⟨z,O,by rw [← q,e]⟩)
   rw [e2]
  ·rw [if_neg e];have e2:Ed (y::ys) x=y::Ed ys x:=by simp [Ed,e]
   rw [e2];exact((MN K.2).cons y).trans (List.Perm.swap _ _ _)
theorem Ol{xs ys:List (κ×ν)}(p:ys.Perm xs)(x:κ):(Ed ys x).Perm (Ed xs x):=p.filter _
theorem MF{xs ys:List (κ×ν)}(h:KN xs)(p:ys.Perm xs)(x:κ)(v:ν):(Bp ys x v).Perm (Bp xs x v):=
 (MN (h.perm p)).trans (((Ol p x).cons _).trans (MN h).symm)
theorem KN.del{xs:List (κ×ν)}(h:KN xs)(x:κ):KN (Ed xs x):=by
 unfold KN Ed;exact List.Nodup.sublist (List.Sublist.map _ List.filter_sublist) h
theorem KN.put{xs:List (κ×ν)}(h:KN xs)(x:κ)(v:ν):KN (Bp xs x v):=by
 refine KN.perm ?_ (MN h);unfold KN;simp only [List.map_cons,List.nodup_cons];refine⟨λq=>?_,h.del x⟩;obtain⟨z,K,e⟩:=List.mem_map.1 q;have:=(List.mem_filter.1 K).2;simp at this;exact this e.symm
def Bw(pk:Rp κ)(ka:Bool)(pv:Rp ν)(va:Bool)(E:LH)(o:Obj)(xs:List (κ×ν)):Prop:=KN xs/\∃ys,ys.Perm xs/\Kq pk ka pv va E o ys
theorem Bw.Ag{o:Obj}{xs:List (κ×ν)}(h:Bw pk ka pv va E o xs)(hle:Le E E'):Bw pk ka pv va E' o xs:=
 let ⟨K,ys,O,U⟩:=h;⟨K,ys,O,U.Ag hle⟩
theorem Bw.perm{o:Obj}{xs ys:List (κ×ν)}(h:Bw pk ka pv va E o xs)(p:ys.Perm xs):Bw pk ka pv va E o ys:=
 let ⟨K,O,U,V⟩:=h;⟨K.perm p,O,U.trans p.symm,V⟩
theorem Bw.nil:Bw pk ka pv va E (.map #[] 0) []:=⟨List.nodup_nil,[],.refl _,⟨#[],0,V,trivial,.nil,by simp⟩⟩
def rM(pk:Rp κ)(ka:Bool)(pv:Rp ν)(va:Bool):Rp (List (κ×ν)):=⟨1,λE ws xs=>∃bk o,ws= [.map (some bk)]/\E bk=some o/\Bw pk ka pv va E o xs,
 λhle ⟨bk,o,h,K,O⟩=>⟨bk,o,h,hle _ _ K,O.Ag hle⟩,λ⟨bk,o,h,_,_⟩=>by subst h;rfl,λ⟨bk,o,h,_,_⟩ w hw=>by subst h;simp at hw;subst hw;rfl⟩
section
variable {k:Value}{x:κ}
theorem QB(K:FE P t pk ka)(hm:P.underlying tm=some (.map t te)){z:Value}{z0:ν}(O:zeroOf P te=some z)(U:Vr pv va E z z0)(V:s.get bk=some o)(Y:Bw pk ka pv va E o xs)(Z:Vr pk ka E k x)(ok:Bool){Q:Value->St->Prop}
  (h:∀w,Vr pv va E w ((Bf xs x).getD z0)->Q (if ok then .tuple #[w,.bool (Bf xs x).isSome] else w) s):lp P (Instr.lookup tm (.map (some bk)) k ok) s Q X:=by
 obtain⟨ac,ys,ag,al⟩:=Y;refine VP K hm O U V al Z ok ?_;rw [Oq ac ag];exact h
theorem UO(O:FE P t pk ka)(hm:P.underlying tm=some (.map t te))(U:s.get bk=some o)(V:s.H bk=some o)(Y:Bw pk ka pv va E o xs)(Z:Vr pk ka E k x)(hw:Vr pv va E w v0){Q:Unit->St->Prop}
  (h:∀o',Bw pk ka pv va E o' (Bp xs x v0)->Q () (s.upd bk o')):lp P (Instr.mapUpdate tm (.map (some bk)) k w) s Q X:=by
 obtain⟨K,ys,ac,ag⟩:=Y;exact UU O hm U V ag Z hw λo' al=>h o' ⟨K.put _ _,_,MF K ac _ _,al⟩
theorem C7.erase(V:Vr pk ka E k x):∀{es:List MapEntry} {ys:List (κ×ν)} {i:Nat},C7 pk ka pv va E es ys->KN ys->
  (DX x es ys i=none/\Ed ys x=ys)∨∃j u,DX x es ys i=some (i+j,u)/\C7 pk ka pv va E (es.eraseIdx j) (Ed ys x)
 | [],[],i,_,_=> .inl ⟨rfl,rfl⟩
 | e::es,y::ys,i,h,Y=>by
  have U:y.1 ∉ ys.map (·.1)/\KN ys:=by simpa [KN] using Y
  unfold DX;by_cases K:x=y.1
  ·refine .inr ⟨0,e.val,by rw [if_pos K];rfl,?_⟩;have e2:Ed (y::ys) x=ys:=by
    have:Ed (y::ys) x=Ed ys x:=by simp [Ed,K]
    rw [this];exact Q0 λz Z q=>U.1 (List.mem_map.2 ⟨z,Z,by rw [← q,K]⟩)
   rw [e2];exact h.2.2
  ·have e2:Ed (y::ys) x=y::Ed ys x:=by simp [Ed,K]
   rcases C7.erase V (i:=i+1) h.2.2 U.2 with⟨a1,O⟩ | ⟨j,u,a1,O⟩
   ·exact .inl ⟨by rw [if_neg K];exact a1,by rw [e2,O]⟩
   ·refine .inr ⟨j+1,u,by rw [if_neg K,a1];congr 2;omega,?_⟩;rw [e2];exact⟨h.1,h.2.1,O⟩
 | [],_::_,_,h,_=>h.elim
 | _::_,[],_,h,_=>h.elim
theorem Ve(ac:FE P t pk ka)(hm:P.underlying tm=some (.map t te))(aq:s.get bk=some o)(ag:s.H bk=some o)(aw:Bw pk ka pv va E o xs)(K:Vr pk ka E k x){u:TypeId}{Q:Value->St->Prop}
  (h:∀o',Bw pk ka pv va E o' (Ed xs x)->Q (.tuple #[]) (s.upd bk o')):lp P (Builtin.delete_ #[tm,t] u #[.map (some bk),k]) s Q X:=by
 obtain⟨O,ys,U,es,c,rfl,V,al,am⟩:=aw;unfold Builtin.delete_;simp only [List.getElem?_toArray,List.getElem?_cons_zero,List.getElem?_cons_succ];refine Ar _ _ (Ce hm ?_)
 dsimp only;refine Ar _ _ ?_;unfold getObj;simp only [bind,Sem.bind,lp];refine⟨_,aq,rfl,?_⟩;refine Ar (x:=Instr.checkKey _ 10000 t k) _ (ac.BJ K ?_);refine Ar (x:=Instr.findKey t k es.toList) _ (MD ac K V ?_);rcases C7.erase K (i:=0) V (O.perm U) with⟨Y,e2⟩ | ⟨j,u,Y,e2⟩
 ·rw [Y];simp only [setObj,lp,pure];refine⟨⟨_,ag,rfl⟩,rfl,h _ ⟨O.del _,_,Ol U x,es,c,rfl,by rw [e2];exact V,al,am⟩⟩
 ·rw [Y];simp only [setObj,lp,pure];have ap:(es.toList.eraseIdx j).Sublist es.toList:=List.eraseIdx_sublist _ _;have Z:(es.eraseIdxIfInBounds (0+j)).toList=es.toList.eraseIdx j:=by rw [Nat.zero_add];simp
  refine⟨⟨_,ag,rfl⟩,rfl,h _ ⟨O.del _,_,Ol U x,_,c,rfl,by rw [Z];exact e2,?_,?_⟩⟩
  ·rw [Z];exact al.sublist (ap.map _)
  ·rw [Z];exact λe he=>am e (ap.subset he)
end
section
variable {x y:Operand}{e:TypeId}{i:Nat}{k:Value}
theorem Yl.lookup{zv v:Value}{z0:ν}{ok:Bool}(K:FE P t pk ka)(hm:P.underlying tm=some (.map t te))(O:zeroOf P te=some zv)(U:Vr pv va E zv z0)(V:Bw pk ka pv va E o xs)(Y:Vr pk ka E k x0)
  (Z:∀w,Vr pv va E w ((Bf xs x0).getD z0)->(if ok then .tuple #[w,.bool (Bf xs x0).isSome] else w)=v) (ac:ρ x= .map (some bk)) (ag:ρ y=k) (al:s.get bk=some o):Yl P ⟨d,.lookup tm x y ok,ty,p,af,g⟩ ρ s v:=by
 refine EN (sm:=Instr.lookup tm (ρ x) (ρ y) ok) rfl ?_;rw [ac,ag];exact QB K hm O U al V Y ok λw hw=>⟨Z w hw,rfl⟩
theorem JS.makeMap(K:ops[i]? =some ⟨d,.makeMap t none,ty,p,af,g⟩)(hw:AR L ops ⟨d,.makeMap t none,ty,p,af,g⟩=some true)(O:BJ b n ⟨d,.makeMap t none,ty,p,af,g⟩=true)(U:Ap E H S)
  (h:∀r,Ap E H (S++ [[(r,.map #[] 0)]])->JL J Q b n (As L d (.map (some r))) ds (.inRegion ops rest::kk) cs (Aj E H (S++ [[(r,.map #[] 0)]]))):
  JL J Q b n L ds (.inRegion ops (i::rest)::kk) cs (Aj E H S):=
 JL.op K hw O λρ al=>by
  show lp P (do pure (Next.value (← Instr.makeMap t none))) _ _ _
  refine Ar _ _ ?_
  unfold Instr.makeMap
  simp only [newObj,bind,Sem.bind,pure,lp]
  refine⟨rfl,λr V Y=>?_⟩
  obtain⟨Z,ac⟩:=Jo V Y (.map #[] 0) U
  obtain⟨p1,p2⟩:=Fh Z
  have ag:(Aj E H S).upd r (.map #[] 0)=Aj E H (S++ [[(r,.map #[] 0)]]):=by rw [← p1,← ac];rfl
  show JL J Q b n (As L d (.map (some r))) ds (.inRegion ops rest::kk) cs ((Aj E H S).upd r (.map #[] 0));rw [ag];exact h r p2
theorem JS.mapUpdate(j:Nat)(V:FE P t pk ka)(hm:P.underlying tm=some (.map t te))(Y:Bw pk ka pv va E o xs)(Z:Vr pk ka E k x0)(ac:Vr pv va E w v0)(K:Ap E H S)(O:S[j]? =some [(bk,o)])
  (ag:ops[i]? =some ⟨d,.mapUpdate tm x y z,ty,p,af,g⟩) (hw:AR L ops ⟨d,.mapUpdate tm x y z,ty,p,af,g⟩=some true) (al:BJ b n ⟨d,.mapUpdate tm x y z,ty,p,af,g⟩=true) (am:ev L x=some (.map (some bk))) (ap:ev L y=some k) (aq:ev L z=some w)
  (h:∀o',Bw pk ka pv va E o' (Bp xs x0 v0)->Ap E H (S.set j [(bk,o')])->JL J Q b n (As L d undef) ds (.inRegion ops rest::kk) cs (Aj E H (S.set j [(bk,o')]))):
  JL J Q b n L ds (.inRegion ops (i::rest)::kk) cs (Aj E H S):=
 JL.op ag hw al λρ U=>by
  show lp P (do Instr.mapUpdate tm (ρ x) (ρ y) (ρ z);pure Next.skip) _ _ _
  rw [U _ _ am,U _ _ ap,U _ _ aq]
  refine Ar _ _ (UO V hm (C6 (i:=0) K O rfl) (IE K O) Y Z ac λo' aw=>?_)
  obtain⟨ay,az⟩:=I0 K O o'
  rw [ay]
  exact h o' aw az
theorem US{at1:TypeId}(j:Nat)(V:FE P t pk ka)(hm:P.underlying tm=some (.map t te))(Y:Bw pk ka pv va E o xs)(Z:Vr pk ka E k x0)(K:Ap E H S)(O:S[j]? =some [(bk,o)])
  (ac:ops[i]? =some ⟨d,.call ⟨.builtin .delete,#[x,y],#[tm,t]⟩,ty,p,af,g⟩) (hw:AR L ops ⟨d,.call ⟨.builtin .delete,#[x,y],#[tm,t]⟩,ty,p,af,g⟩=some true) (ag:BJ b n ⟨d,.call ⟨.builtin .delete,#[x,y],#[tm,t]⟩,ty,p,af,g⟩=true) (al:ev L x=some (.map (some bk))) (am:ev L y=some k)
  (h:∀o',Bw pk ka pv va E o' (Ed xs x0)->Ap E H (S.set j [(bk,o')])->JL J Q b n (As L d (.tuple #[])) ds (.inRegion ops rest::kk) cs (Aj E H (S.set j [(bk,o')]))):
  JL J Q b n L ds (.inRegion ops (i::rest)::kk) cs (Aj E H S):=
 JL.op ac hw ag λρ U=>by
  have ap:execOp ρ ⟨d,.call ⟨.builtin .delete,#[x,y],#[tm,t]⟩,ty,p,af,g⟩=(do pure (Next.value (← Builtin.delete_ #[tm,t] ty #[ρ x,ρ y]))):=by
   simp [execOp,resolve,Deferred.ofValue,invoke,bind,Sem.bind,pure,Go.builtin]
  rw [ap,U _ _ al,U _ _ am];refine Ar _ _ (Ve V hm (C6 (i:=0) K O rfl) (IE K O) Y Z λo' aq=>?_);obtain⟨aw,ay⟩:=I0 K O o';rw [aw];exact h o' aq ay
theorem MG{todo:Li_}(j:Nat)(O:Ap E H S)(U:S[j]? =some [(bk,o)])
  (h:∀E',Le E E'->E' bk=some o->Ap E' H (S.set j [])->JL J Q b n L ds todo cs (Aj E' H (S.set j []))):JL J Q b n L ds todo cs (Aj E H S):=by
 obtain⟨V,Y⟩:=Gk O U;rw [V];have Z:((S.set j []).flatten++ [(bk,o)])[(S.set j []).flatten.length]? =some (bk,o):=by simp
 refine JL.freeze (S.set j []).flatten.length Y Z λE' hle ac K=>?_;have ag:((S.set j []).flatten++ [(bk,o)]).eraseIdx (S.set j []).flatten.length=(S.set j []).flatten:=by rw [List.eraseIdx_append_of_length_le (Nat.le_refl _)];simp
 rw [ag] at K ⊢;exact h E' hle ac K
theorem QU{α:Type}{m:Nat}{f:Nat->Sem α}{s:St}{Q:α->St->Prop}{X:Halt->St->Prop}(hm:0<m)(K:s.q=false)(h:∀i,i<m->lp P (f i) s Q X):lp P ((choose (.mapNext m)).bind f) s Q X:=by
 simp only [choose,Sem.bind,lp];split
 ·exact h 0 hm
 ·exact⟨K,λt=>h _ (Nat.mod_lt _ hm)⟩
theorem JS.range{es:Array MapEntry}{c:Nat}(hm:P.underlying tm=some (.map t te))(K:(Aj E H S).get bk=some (.map es c))(O:ops[i]? =some ⟨d,.range tm x,ty,p,af,g⟩)(hw:AR L ops ⟨d,.range tm x,ty,p,af,g⟩=some true)(U:BJ b n ⟨d,.range tm x,ty,p,af,g⟩=true)(V:Ap E H S)
  (Y:ev L x=some (.map (some bk)))
  (h:∀r,Ap E H (S++ [[(r,.mapIter (some bk) c #[] c)]])->JL J Q b n (As L d (.pointer (some ⟨r,0,none⟩))) ds (.inRegion ops rest::kk) cs (Aj E H (S++ [[(r,.mapIter (some bk) c #[] c)]]))):
  JL J Q b n L ds (.inRegion ops (i::rest)::kk) cs (Aj E H S):=
 JL.op O hw U λρ Z=>by
  show lp P (do pure (Next.value (← Instr.range tm (ρ x)))) _ _ _
  rw [Z _ _ Y]
  refine Ar _ _ ?_
  unfold Instr.range
  refine Ar _ _ (Ce hm ?_)
  simp only [getObj,newObj,bind,Sem.bind,pure,lp]
  refine⟨_,K,rfl,rfl,λr ac ag=>?_⟩
  obtain⟨al,am⟩:=Jo ac ag (.mapIter (some bk) c #[] c) V
  obtain⟨p1,p2⟩:=Fh al
  have ap:(Aj E H S).upd r (.mapIter (some bk) c #[] c)=Aj E H (S++ [[(r,.mapIter (some bk) c #[] c)]]):=by rw [← p1,← am];rfl
  show JL J Q b n (As L d (.pointer (some ⟨r,0,none⟩))) ds (.inRegion ops rest::kk) cs ((Aj E H S).upd r (.mapIter (some bk) c #[] c));rw [ap];exact h r p2
theorem JS.next{es:Array MapEntry}{c r:Nat}{seen:Array Nat}(j:Nat)(al:(Aj E H S).get bk=some (.map es c))(hb:∀e∈es.toList,e.born<c)(K:Ap E H S)(O:S[j]? =some [(r,.mapIter (some bk) c seen c)])
  (am:ops[i]? =some ⟨d,.next x false,ty,p,af,g⟩) (hw:AR L ops ⟨d,.next x false,ty,p,af,g⟩=some true) (ap:BJ b n ⟨d,.next x false,ty,p,af,g⟩=true) (U:ev L x=some (.pointer (some ⟨r,0,none⟩)))
  (aq:∀e∈es.toList,e.born ∉ seen->Ap E H (S.set j [(r,.mapIter (some bk) c (seen.push e.born) c)])->JL J Q b n (As L d (.tuple #[.bool true,e.key,e.val])) ds (.inRegion ops rest::kk) cs (Aj E H (S.set j [(r,.mapIter (some bk) c (seen.push e.born) c)])))
  (aw:(∀e∈es.toList,e.born∈seen)->JL J Q b n (As L d (.tuple #[.bool false])) ds (.inRegion ops rest::kk) cs (Aj E H S)):
  JL J Q b n L ds (.inRegion ops (i::rest)::kk) cs (Aj E H S):=
 JL.op am hw ap λρ ay=>by
  show lp P (do pure (Next.value (← Instr.next (ρ x) false ty))) _ _ _
  rw [ay _ _ U]
  refine Ar _ _ ?_
  unfold Instr.next
  simp only [getObj,setObj,bind,Sem.bind,pure,lp]
  refine⟨_,C6 (i:=0) K O rfl,rfl,?_⟩
  simp only [lp]
  refine⟨_,al,rfl,?_⟩
  have az:(!seen.isEmpty&& !es.isEmpty&&es.all (λe=>decide (e.born>=c)))=false:=by
   by_cases he:es.toList= []
   ·have:es.isEmpty=true:=by simpa [Array.isEmpty_iff] using he
    simp [this]
   ·obtain⟨e,ac⟩:=List.exists_mem_of_ne_nil _ he;have be:=hb e ac;have:es.all (λe=>decide (e.born>=c))=false:=by
     cases U:es.all (λe=>decide (e.born>=c)) with
     | false=>rfl
     | true=>
      have:=Array.all_eq_true'.1 U e (Array.mem_toList_iff.1 ac);simp at this;omega
    simp [this]
  have a0:Array.filter (λx:MapEntry=>decide (x.born<c)) (Array.filter (λe=> !seen.contains e.born) es)=Array.filter (λe=> !seen.contains e.born) es:=by
   apply Array.toList_inj.1;rw [Array.toList_filter,List.filter_eq_self];intro e he;rw [Array.toList_filter] at he;simpa using hb e (List.mem_filter.1 he).1
  have e2:Array.filter (λx:MapEntry=>decide (x.born>=c)) (Array.filter (λe=> !seen.contains e.born) es)= #[]:=by
   apply Array.toList_inj.1;rw [Array.toList_filter,List.filter_eq_nil_iff];intro e he;rw [Array.toList_filter] at he;have:=hb e (List.mem_filter.1 he).1;simp;omega
  dsimp only;rw [if_neg (by rw [az];exact Bool.false_ne_true),a0,e2];have V:∀e,e∈(Array.filter (λe=> !seen.contains e.born) es).toList↔e∈es.toList/\e.born ∉ seen:=by
   intro e;rw [Array.toList_filter,List.mem_filter];simp
  generalize Array.filter (λe:MapEntry=> !seen.contains e.born) es=left at V ⊢;by_cases Y:left.toList= []
  ·have a1:left= #[]:=Array.toList_inj.1 Y;subst a1;refine QU (by simp) rfl λi hi=>?_;obtain rfl:i=0:=by simp at hi;exact hi
   have a2:((if(#[]:Array MapEntry).isEmpty=true then #[none] else #[])++Array.map some ((#[]:Array MapEntry)++ #[]))[0]? =some none:=by simp
   rw [a2];refine aw λe he=>?_;by_cases ag:e.born∈seen
   ·exact ag
   ·have:=(V e).2 ⟨he,ag⟩;simp at this
  ·have a3:left.isEmpty=false:=by
    cases a4:left.isEmpty with
    | false=>rfl
    | true=>exact absurd (by simpa [Array.isEmpty_iff] using a4) Y
   rw [a3];simp only [Bool.false_eq_true,if_false,Array.append_empty,Array.empty_append];have a5:0<left.size:=by
    rcases Nat.eq_zero_or_pos left.size with Z | Z
    ·exact absurd (by simpa using Array.eq_empty_of_size_eq_zero Z) Y
    ·exact Z
   refine QU (by simpa using a5) rfl λi hi=>?_;have a6:i<left.size:=by simpa using hi
   have a7:(Array.map some left)[i]? =some (some left[i]):=by simp [a6]
   rw [a7];simp only [lp];obtain⟨a8,a9⟩:=(V left[i]).1 (Array.getElem_mem_toList _);refine⟨⟨_,IE K O,rfl⟩,rfl,?_⟩;obtain⟨bb,bd⟩:=I0 K O (.mapIter (some bk) c (seen.push left[i].born) c);rw [bb];exact aq _ a8 a9 bd
theorem JS.entry{es:Array MapEntry}{c r:Nat}{seen:Array Nat}{e:MapEntry}(j:Nat)(U:(Aj E H S).get bk=some (.map es c))(he:e∈es.toList)(hb:(es.toList.map (·.born)).Pairwise (·<·))(V:Ap E H S)(Y:S[j]? =some [(r,.mapIter (some bk) c (seen.push e.born) c)])
  (Z:ops[i]? =some ⟨d,.entry x,ty,p,af,g⟩) (hw:AR L ops ⟨d,.entry x,ty,p,af,g⟩=some true) (ac:BJ b n ⟨d,.entry x,ty,p,af,g⟩=true) (ag:ev L x=some (.pointer (some ⟨r,0,none⟩)))
  (h:JL J Q b n (As L d (.tuple #[e.key,e.val])) ds (.inRegion ops rest::kk) cs (Aj E H S)):
  JL J Q b n L ds (.inRegion ops (i::rest)::kk) cs (Aj E H S):=
 JL.op Z hw ac λρ al=>by
  show lp P (do pure (Next.value (← Instr.entry (ρ x)))) _ _ _
  rw [al _ _ ag]
  refine Ar _ _ ?_
  unfold Instr.entry
  simp only [getObj,bind,Sem.bind,pure,lp]
  refine⟨_,C6 (i:=0) V Y rfl,rfl,?_⟩
  simp only [Array.back?_push,bne_self_eq_false,lp]
  refine⟨_,U,rfl,?_⟩
  have am:es.find? (λx=>x.born==e.born)=some e:=by
   rw [← Array.find?_toList];have key:∀(l:List MapEntry),e∈l->(l.map (·.born)).Pairwise (·<·)->l.find? (λx=>x.born==e.born)=some e:=by
    intro l
    induction l with
    | nil=>intro h;cases h
    | cons y l ap=>
     intro hm K;rw [List.map_cons,List.pairwise_cons] at K;by_cases O:y.born=e.born
     ·rcases List.mem_cons.1 hm with rfl | hm
      ·simp
      ·have:=K.1 e.born (List.mem_map.2 ⟨e,hm,rfl⟩);omega
     ·rw [List.find?_cons_of_neg (by simpa using O)];rcases List.mem_cons.1 hm with rfl | hm
      ·exact absurd rfl O
      ·exact ap hm K.2
   exact key _ he hb
  simp only [bne_self_eq_false,Bool.false_eq_true,if_false,am,lp];exact h
end
end
theorem Iv{E H:LH}{S:List Seg}{bk:Nat}{o:Obj}(h:E bk=some o):(Aj E H S).get bk=some o:=by
 show(match E bk with | some o=>some o | none=>_)=some o
 rw [h]
theorem Oa{α β:Type}(f:α->β){l:List α}(h:(l.map f).Nodup):l.Nodup:=by
 unfold List.Nodup at h ⊢;rw [List.pairwise_map] at h;exact h.imp λh e=>h (by rw [e])
theorem RJ{α:Type}:∀{l l':List α},l.Nodup->(∀x∈l,x∈l')->l.length<=l'.length
 | [],_,_,_=>Nat.zero_le _
 | x::l,l',h,O=>by
  obtain⟨a,b,rfl⟩:=List.append_of_mem (O x (by simp))
  have U:=List.nodup_cons.1 h
  have:=RJ (l:=l) (l':=a++b) U.2 (λy V=>by
   have K:=O y (List.mem_cons_of_mem _ V)
   have Y:y≠x:=λe=>U.1 (e▸V)
   simp at K ⊢
   rcases K with K | K | K
   ·exact .inl K
   ·exact absurd K Y
   ·exact .inr K)
  simp at this ⊢;omega
variable {ys:List (κ×ν)}
section
variable [DecidableEq κ]
def Hy(es:Array MapEntry)(ys:List (κ×ν))(seen:Array Nat)(done:List (κ×ν)):Prop:=
 ∃K:List (MapEntry×(κ×ν)),done=K.map (·.2)/\seen.toList=K.map (·.1.born)/\K.Nodup/\∀q∈K,q∈es.toList.zip ys
theorem Hy.nil{es:Array MapEntry}{ys:List (κ×ν)}:Hy es ys #[] []:=⟨[],V,V,.nil,by simp⟩
theorem RO:∀{es:List MapEntry} {ys:List (κ×ν)},(es.map (·.born)).Pairwise (·<·)->∀{p q:MapEntry×(κ×ν)},p∈es.zip ys->q∈es.zip ys->p.1.born=q.1.born->p=q
 | [],_,_,_,_,h,_,_=>by simp at h
 | _::_,[],_,_,_,h,_,_=>by simp at h
 | e::es,y::ys,U,p,q,K,O,hb=>by
  rw [List.map_cons,List.pairwise_cons] at U
  rw [List.zip_cons_cons] at K O
  have V:∀{z:MapEntry×(κ×ν)},z∈es.zip ys->z.1.born∈es.map (·.born):=λ{z} Y=>by
   have:=(List.of_mem_zip Y).1
   exact List.mem_map.2 ⟨z.1,this,rfl⟩
  rcases List.mem_cons.1 K with rfl | K <;> rcases List.mem_cons.1 O with rfl | O
  ·rfl
  ·have:=U.1 _ (V O);simp at hb;omega
  ·have:=U.1 _ (V K);simp at hb;omega
  ·exact RO U.2 K O hb
theorem C7.zip:∀{es:List MapEntry} {ys:List (κ×ν)},C7 pk ka pv va E es ys->∀{q:MapEntry×(κ×ν)},q∈es.zip ys->Vr pk ka E q.1.key q.2.1/\Vr pv va E q.1.val q.2.2
 | [],[],_,_,h=>by simp at h
 | e::es,y::ys,h,q,K=>by
  rw [List.zip_cons_cons] at K
  rcases List.mem_cons.1 K with rfl | K
  ·exact⟨h.1,h.2.1⟩
  ·exact C7.zip h.2.2 K
 | [],_::_,h,_,_=>h.elim
 | _::_,[],h,_,_=>h.elim
theorem Rn:∀{es:List MapEntry} {ys:List (κ×ν)},KN ys->(es.map (·.born)).Pairwise (·<·)->∀{p q:MapEntry×(κ×ν)},p∈es.zip ys->q∈es.zip ys->p.2.1=q.2.1->p=q
 | [],_,_,_,_,_,h,_,_=>by simp at h
 | _::_,[],_,_,_,_,h,_,_=>by simp at h
 | e::es,y::ys,Z,V,p,q,K,O,hb=>by
  have U:y.1 ∉ ys.map (·.1)/\KN ys:=by simpa [KN] using Z
  rw [List.map_cons,List.pairwise_cons] at V;rw [List.zip_cons_cons] at K O;have Y:∀{z:MapEntry×(κ×ν)},z∈es.zip ys->z.2.1∈ys.map (·.1):=λ{z} ac=>List.mem_map.2 ⟨z.2,(List.of_mem_zip ac).2,rfl⟩;rcases List.mem_cons.1 K with rfl | K <;> rcases List.mem_cons.1 O with rfl | O
  ·rfl
  ·have:=Y O;simp only at hb;rw [← hb] at this;exact absurd this U.1
  ·have:=Y K;simp only at hb;rw [hb] at this;exact absurd this U.1
  ·exact Rn U.2 V.2 K O hb
theorem Hy.len{es:Array MapEntry}{ys:List (κ×ν)}{seen:Array Nat}{done:List (κ×ν)}(h:Hy es ys seen done):done.length<=ys.length:=by
 obtain⟨V,rfl,Y,K,O⟩:=h;rw [List.length_map];have U:=RJ K O;exact Nat.le_trans U (by rw [List.length_zip];exact Nat.min_le_right _ _)
section
variable {x y:Operand}{e:TypeId}{i:Nat}
theorem OE{es:Array MapEntry}{c r:Nat}{seen:Array Nat}{done:List (κ×ν)}(j:Nat)(ac:C7 pk ka pv va E es.toList ys)(Y:(es.toList.map (·.born)).Pairwise (·<·))(hb:∀e∈es.toList,e.born<c)(aq:KN ys)(aw:Hy es ys seen done)(ay:(Aj E' H S).get bk=some (.map es c))(az:Ap E' H S)(a0:S[j]? =some [(r,.mapIter (some bk) c seen c)])
  (a2:ops[i]? =some ⟨d,.next x false,ty,p,af,g⟩) (hw:AR L ops ⟨d,.next x false,ty,p,af,g⟩=some true) (a3:BJ b n ⟨d,.next x false,ty,p,af,g⟩=true) (a4:ev L x=some (.pointer (some ⟨r,0,none⟩)))
  (a5:∀e O,Vr pk ka E e.key O.1->Vr pv va E e.val O.2->O∈ys->O.1 ∉ done.map (·.1)->e∈es.toList->Hy es ys (seen.push e.born) (done++ [O])->Ap E' H (S.set j [(r,.mapIter (some bk) c (seen.push e.born) c)])->
   JL J Q b n (As L d (.tuple #[.bool true,e.key,e.val])) ds (.inRegion ops rest::kk) cs (Aj E' H (S.set j [(r,.mapIter (some bk) c (seen.push e.born) c)])))
  (a6:done.Perm ys->JL J Q b n (As L d (.tuple #[.bool false])) ds (.inRegion ops rest::kk) cs (Aj E' H S)):
  JL J Q b n L ds (.inRegion ops (i::rest)::kk) cs (Aj E' H S):=by
 obtain⟨Z,rfl,a1,ag,V⟩:=aw;have hlen:=ac.len;refine JS.next j ay hb az a0 a2 hw a3 a4 (λe he a7 a8=>?_) (λa9=>?_)
 ·obtain⟨m,hm,bb⟩:=List.mem_iff_getElem.1 he;have U:(e,ys[m]'(by omega))∈es.toList.zip ys:=by
   rw [← bb];have:(es.toList.zip ys)[m]'(by rw [List.length_zip];omega)=(es.toList[m],ys[m]'(by omega)):=List.getElem_zip;rw [← this];exact List.getElem_mem _
  obtain⟨k1,bd⟩:=ac.zip U;have al:(e,ys[m]'(by omega)) ∉ Z:=λq=>a7 (by
   rw [← Array.mem_toList_iff,a1]
   exact List.mem_map.2 ⟨_,q,rfl⟩)
  refine a5 e _ k1 bd (List.getElem_mem _) (λq=>?_) he ⟨Z++ [(e,ys[m]'(by omega))],by simp,by simp [a1],?_,λq K=>?_⟩ a8
  ·obtain⟨O,be,bi⟩:=List.mem_map.1 q;obtain⟨z,am,rfl⟩:=List.mem_map.1 be;have:=Rn aq Y (V z am) U bi;exact al (this▸am)
  ·rw [List.nodup_append];exact⟨ag,by simp,by intro q K z ap bn;simp at ap;subst ap bn;exact al K⟩
  ·rcases List.mem_append.1 K with K | K
   ·exact V q K
   ·simp at K;subst K;exact U
 ·refine a6 ?_;have bo:Z.Perm (es.toList.zip ys):=by
   have bv:(es.toList.zip ys).Nodup:=by
    have:((es.toList.zip ys).map (·.1)).Nodup:=by
     rw [List.map_fst_zip (by omega)];exact Oa (λe:MapEntry=>e.born) (Y.imp (λh=>Nat.ne_of_lt h))
    exact Oa _ this
   refine(List.perm_ext_iff_of_nodup ag bv).2 λq=>⟨λK=>V q K,λK=>?_⟩;have:=a9 q.1 (List.of_mem_zip K).1;rw [← Array.mem_toList_iff,a1] at this;obtain⟨z,U,bw⟩:=List.mem_map.1 this;have:=RO Y (V z U) K bw;exact this▸U
  have:=bo.map (·.2)
  rwa [List.map_snd_zip (by omega)] at this
end
end
variable {l0 bks:List Nat}{xl:List Nat}
section
variable {fuel:Nat}{listed:Array Bool}
theorem HJ(i:Nat)(pure:Bool)(K:s.q=false)(O:Hb n L ops i=some ⟨d,op,ty,p,af,g⟩)
  (U:∀ρ,EP L ρ->∀s':St,(pure=false->∀x o,(Br (AG (l0++bks)) s).E x=some o->s'.E x=some o)->Yl P ⟨d,op,ty,p,af,g⟩ ρ s' v)
  (V:F7 J Q b n ds ops k cs (AG xl) (AG (l0++bks)) (AG l0) fuel (A8 listed i) (As L d v) s) (Y:K9 ops listed xl pure i=true:=by decide+kernel):F7 J Q b n ds ops k cs (AG xl) (AG (l0++bks)) (AG l0) (fuel+1) listed L s:=by
 obtain⟨Z,ac,ag⟩:=Om O;exact JB.val i pure Z Y K ac ag U V
def Qa(n:Nat)(L:Env)(ops:Ao_)(i:Nat):Option Env:=
 match I9 ops.toList i with
 | some ⟨d,op,ty,p,af,g⟩=>match AR L ops ⟨d,op,ty,p,af,g⟩ with
  | some true=>match Bg n d with
   | true=>match Ko L op with
    | some v=>match d with
     | some d=>some ((d,v)::L)
     | none=>some L
    | none=>none
   | false=>none
  | _=>none
 | none=>none
theorem WM{i:Nat}(h:Qa n L ops i=some L'):∃o v,ops[i]? =some o/\Bg n o.dst=true/\AR L ops o=some true/\Ko L o.op=some v/\L'=As L o.dst v:=by
 unfold Qa at h;split at h
 ·rename_i d op ty p af g K;rw [KU,Array.getElem?_toList] at K;split at h
  ·rename_i hw;split at h
   ·rename_i O;split at h
    ·rename_i v U;refine⟨_,v,K,O,hw,U,?_⟩;cases d with
     | none=>cases h;rfl
     | some d=>cases h;rfl
    ·cases h
   ·cases h
  ·cases h
 ·cases h
theorem Bt(i:Nat)(K:s.q=false)(h:Qa n L ops i=some L')
  (O:F7 J Q b n ds ops k cs (AG xl) (AG (l0++bks)) (AG l0) fuel (A8 listed i) L' s) (U:K9 ops listed xl true i=true:=by decide+kernel):F7 J Q b n ds ops k cs (AG xl) (AG (l0++bks)) (AG l0) (fuel+1) listed L s:=by
 obtain⟨o,v,V,Y,hw,Z,rfl⟩:=WM h;exact JB.val i true V U K hw Y (λρ ac s' _=>MX ac Z) O
end
variable {i2:Nat}
variable {d2:Option Tmp}{x2:Operand}{t2 ty2:TypeId}{p2:String}{af2:Ae_}{g2:On_}
section
variable {i:Nat}
variable {x y:Operand}{e:TypeId}
theorem CC(O:Ap E H S)(h:∀r E',Le E E'->At E' r 0 v.cells.toList->Ap E' H (S++ [[]])->JL J Q b n (As L d (.pointer (some ⟨r,0,none⟩))) ds (.inRegion ops rest::k) cs (Aj E' H (S++ [[]])))
  (U:Fe b n L ops i=some ⟨d,.box e x,ty,p,af,g⟩:=by exact rfl) (V:ev L x=some v:=by exact rfl):JL J Q b n L ds (.inRegion ops (i::rest)::k) cs (Aj E H S):=by
 obtain⟨Y,Z,ac⟩:=Kd U;refine JS.box Y Z ac O V λr ag=>B7 (bk:=r) (c:=v.cells) (e:=e) (f:=(0,0)) S.length ag (by simp) λE' hle al K=>?_;have am:(S++ [[(r,Obj.cells v.cells e (0,0))]]).set S.length []=S++ [[]]:=by simp
 rw [am] at K ⊢;exact h r E' hle al K
theorem Bz{z:Value}(K:Ap E H S)(O:zeroOf P e=some z)(h:∀r,Ap E H (S++ [[(r,.cells z.cells e (0,0))]])->JL J Q b n (As L d (.pointer (some ⟨r,0,none⟩))) ds (.inRegion ops rest::k) cs (Aj E H (S++ [[(r,.cells z.cells e (0,0))]])))
  (U:Fe b n L ops i=some ⟨d,.alloc e,ty,p,af,g⟩:=by exact rfl):JL J Q b n L ds (.inRegion ops (i::rest)::k) cs (Aj E H S):=by
 obtain⟨V,Y,Z⟩:=Kd U;exact JS.alloc V Y Z K O h
theorem Bv{bk off K:Nat}{c:Av_}(j:Nat)(O:Ap E H S)(U:Bo P t=some K)
  (h:Ap E H (S.set j [(bk,.cells (A7 c off v.cells.toList) e (0,0))])->JL J Q b n (As L d undef) ds (.inRegion ops rest::k) cs (Aj E H (S.set j [(bk,.cells (A7 c off v.cells.toList) e (0,0))])))
  (V:Fe b n L ops i=some ⟨d,.store t x y,ty,p,af,g⟩:=by exact rfl) (Y:ev L x=some (.pointer (some ⟨bk,off,none⟩)):=by exact rfl) (Z:ev L y=some v:=by exact rfl) (ac:S[j]? =some [(bk,.cells c e (0,0))]:=by exact rfl)
  (ag:K=v.cells.size:=by exact rfl) (hle:off+v.cells.size<=c.size:=by exact Nat.le_of_ble_eq_true rfl) (al:v.cells.toList.all B3=true:=by first | exact rfl | simp [Value.cells,B3]):
  JL J Q b n L ds (.inRegion ops (i::rest)::k) cs (Aj E H S):=T7 j O (by rw [← ag];exact U) V Y Z ac h hle (List.all_eq_true.1 al)
theorem BQ{bk o K V off:Nat}{O:Array Field}{U:Nat}{ws:Lv_}(j:Nat)(Y:At E bk o ws)(Z:P.underlying t=some (.struct O))(ac:Bo P ft=some (V+1))(ag:Dr P t2=some false)
  (al:JL J Q b n (As (As L d (.pointer (some ⟨bk,K+off,none⟩))) d2 v) ds (.inRegion ops rest::k) cs (Aj E H S))
  (am:Fe b n L ops i=some ⟨d,.fieldAddr t x U,ty,p,af,g⟩:=by exact rfl) (ap:ev L x=some (.pointer (some ⟨bk,K,none⟩)):=by exact rfl) (aq:LU O U=some (off,ft):=by exact rfl)
  (aw:Fe b n (As L d (.pointer (some ⟨bk,K+off,none⟩))) ops i2=some ⟨d2,.load t2 x2,ty2,p2,af2,g2⟩:=by exact rfl) (ay:ev (As L d (.pointer (some ⟨bk,K+off,none⟩))) x2=some (.pointer (some ⟨bk,o+j,none⟩)):=by exact rfl) (az:ws[j]? =some v:=by exact rfl):
  JL J Q b n L ds (.inRegion ops (i::i2::rest)::k) cs (Aj E H S):=JL.fd Z ac am ap aq (CG j Y ag aw ay az al)
theorem Dp{α:Type}{pp:Rp α}{a:Option Addr}{c:Nat}{xs:List α}{xv:α}{m:Int}{kd:IntKind}(K:Al pp E a c xs)(hm:ix xs m=some xv)(O:P.underlying t=some (.slice e))(U:Bo P e=some pp.n)
  (h:∀bk o ws,pp.r E ws xv->At E bk o ws->JL J Q b n (As L d (.pointer (some ⟨bk,o,none⟩))) ds (.inRegion ops rest::k) cs (Aj E H S))
  (V:Fe b n L ops i=some ⟨d,.indexAddr t x y,ty,p,af,g⟩:=by exact rfl) (Y:ev L x=some (.slice a xs.length c):=by exact rfl) (Z:ev L y=some (.int kd m):=by exact rfl):
  JL J Q b n L ds (.inRegion ops (i::rest)::k) cs (Aj E H S):=by
 obtain⟨ac,ag,al⟩:=Kd V;exact SJ K hm ac ag al Y Z O U h
theorem Ec(K:List Seg)(O:Env){todo:Li_}{c:Code}(U:∀E',Le E E'->Ap E' H K->JL J Q b n O ds todo cs (Aj E' H K))
  (h:(∀{E':LH} {L:Env},Le E E'->Ap E' H K->H7 L O=Ii O->JL J Q b n L ds todo cs (Aj E' H K))->JL J Q b n L ds (.code c::todo) cs (Aj E H S)):JL J Q b n L ds (.code c::todo) cs (Aj E H S):=
 h λV Y Z=>Az (U _ V Y) Z
theorem CP{U:List Nat}(V Y:Nat)(K:List Seg)(O:Env){todo:Li_}(Z:∀E',Le E E'->Ap E' H K->JL J Q b n O ds (.inRegion ops (List.range' V Y)::todo) cs (Aj E' H K))
  (h:(∀{E':LH} {L:Env},Le E E'->Ap E' H K->H7 L O=Ii O->JL J Q b n L ds (.inRegion ops (List.range' V Y)::todo) cs (Aj E' H K))->JL J Q b n L ds (.inRegion ops U::todo) cs (Aj E H S)):JL J Q b n L ds (.inRegion ops U::todo) cs (Aj E H S):=
 h λac ag al=>Az (Z _ ac ag) al
theorem Dx{O ac:Type}{c:Code}{body:O->Option (Bq O ac)}{f:Nat}{V:O}{a:ac}{Y:LH}{k:Li_}(al:iter body f V=some a)(K:O->List Seg)(U:O->Env)(hle:Le Y E)(am:Ap E H (K V))
  (round:∀x E',Le Y E'->Ap E' H (K x)->(∀ag,body x=some (.done ag)->ag=a)->(∃st,body x=some st)->(∀{L':Env} {Z:LH} (x':O),Le Y Z->Ap Z H (K x')->H7 L' (U x')=Ii (U x')->body x=some (.more x')->JL J Q b n L' ds (.inLoop c::k) cs (Aj Z H (K x')))->JL J Q b n (U x) ds (.code c:: .inLoop c::k) cs (Aj E' H (K x)))
  (ap:H7 L (U V)=Ii (U V):=by exact rfl) (aq:Aj E H S=Aj E H (K V):=by exact rfl):JL J Q b n L ds (.code (.loop c)::k) cs (Aj E H S):=by
 rw [aq];refine Ek _ ap (Rv al (λL s x=>∃E',Jm Y H E' (K x) (U x) L s) ⟨E,rfl,rfl,hle,am⟩ ?_);rintro _ _ x ⟨E',rfl,rfl,aw,ay⟩ hd hb az;exact round x E' aw ay hd hb λx' a0 g2 a1 a2=>Az (az _ _ x' ⟨_,rfl,rfl,a0,g2⟩ a2) a1
theorem Be{f:FuncId}{fn:Func}{c:Code}{E:LH}{vs:Lv_}{B:Seg}{R:Value->LH->Seg->Prop}(O:P.funcs[f]? =some fn)
  (h:∀(Q:Gs_) (K:Frame) (cs:Lf_) (H:LH),Ap E H [B]->(∀{v:Value} {E':LH} {S':List Seg} {B':Seg},Le E E'->S'.flatten=B'->R v E' B'->Ap E' H S'->J.ok Q (G (K.finish v) cs) (Aj E' H S'))->JL J Q (base f) fn.ntmps (F1 0 vs) [] [.code c] (K::cs) (Aj E H [B]))
  (hb:fn.body=some c:=by exact rfl) (U:Nat.ble vs.length fn.ntmps=true:=by exact rfl):AM J f vs E B R:=
 Kh O hb U λQ K cs H V Y=>h Q K cs H V λZ ac ag al=>Y _ _ _ _ Z ac ag al
variable {fuel:Nat}{listed:Array Bool}
theorem JG.lp{bk o:Nat}{ws:Lv_}(i:Nat)(K:DG ops m=true)(j:Nat)(O:At E bk o ws)(U:Ap E H S)(V:HB S bks)(Y:Dr P t=some false)
  (Z:AO J Q b n ds ops k cs m (AG bks) fuel (A8 listed i) (As L d w) (Aj E H S)) (ac:Hb n L ops i=some ⟨d,.load t x,ty,p,af,g⟩:=by exact rfl) (ag:ev L x=some (.pointer (some ⟨bk,o+j,none⟩)):=by exact rfl)
  (hw:ws[j]? =some w:=by exact rfl) (al:Gp ops listed m i=true:=by decide+kernel):AO J Q b n ds ops k cs m (AG bks) (fuel+1) listed L (Aj E H S):=
 AN i K rfl ac (λρ h s' am=>Yl.load Y (h _ _ ag) (At.PW (j:=j) O (T3 U am V) hw)) Z al
theorem Ug{bk o K:Nat}{c:Av_}{f:Nat×Nat}(i:Nat)(O:DG ops m=true)(vs:Lv_)(j:Nat)(U:Ap E H S)(hw:∀(q:Nat) w,vs[q]? =some w->c[o+q]? =some w)(V:Dr P t=some true)(Y:Bo P t=some K)
  (Z:AO J Q b n ds ops k cs m (AG bks) fuel (A8 listed i) (As L d (.agg vs.toArray)) (Aj E H S)) (ac:Hb n L ops i=some ⟨d,.load t x,ty,p,af,g⟩:=by exact rfl) (ag:ev L x=some (.pointer (some ⟨bk,o,none⟩)):=by exact rfl)
  (al:S[j]? =some [(bk,.cells c e f)]:=by exact rfl) (am:K=vs.length:=by exact rfl) (ap:AG bks bk=true:=by simp [AG]) (aq:Gp ops listed m i=true:=by decide+kernel):AO J Q b n ds ops k cs m (AG bks) (fuel+1) listed L (Aj E H S):=
 AN i O rfl ac (λρ h s' aw=>GV (vs:=vs) V (by rw [← am];exact Y) (h _ _ ag) (λq w ay=>by rw [Ei rfl];exact Cl j U al ap aw (hw q w ay))) Z aq
theorem HC{D:Nat->Bool}{α:Type}{xs:List α}{xv:α}{K:Int}{bk c O U:Nat}{kd:IntKind}(i:Nat)(V:DG ops m=true)(Y:xs.length=U)(hm:ix xs K=some xv)(Z:P.underlying t=some (.slice e))(ac:Bo P e=some O)
  (ag:AO J Q b n ds ops k cs m D fuel (A8 listed i) (As L d (.pointer (some ⟨bk,K.toNat*O,none⟩))) s) (al:s.q=false:=by exact rfl) (am:Hb n L ops i=some ⟨d,.indexAddr t x y,ty,p,af,g⟩:=by exact rfl)
  (ap:ev L x=some (.slice (some ⟨bk,0,none⟩) U c):=by exact rfl) (aq:ev L y=some (.int kd K):=by exact rfl) (aw:Gp ops listed m i=true:=by decide+kernel):AO J Q b n ds ops k cs m D (fuel+1) listed L s:=
 AN i V al am (λρ h s' ay=>Fl Y hm Z ac (h _ _ ap) (h _ _ aq)) ag aw
theorem Cq{l0 bks:List Nat}{α:Type}{xs:List α}{xv:α}{K:Int}{bk c O U:Nat}{kd:IntKind}(i:Nat)(V:xs.length=U)(hm:ix xs K=some xv)(Y:P.underlying t=some (.slice e))(Z:Bo P e=some O)
  (ac:F7 J Q b n ds ops k cs (AG xl) (AG (l0++bks)) (AG l0) fuel (A8 listed i) (As L d (.pointer (some ⟨bk,K.toNat*O,none⟩))) s) (ag:s.q=false:=by exact rfl) (al:Hb n L ops i=some ⟨d,.indexAddr t x y,ty,p,af,g⟩:=by exact rfl)
  (am:ev L x=some (.slice (some ⟨bk,0,none⟩) U c):=by exact rfl) (ap:ev L y=some (.int kd K):=by exact rfl) (aq:K9 ops listed xl true i=true:=by decide+kernel):F7 J Q b n ds ops k cs (AG xl) (AG (l0++bks)) (AG l0) (fuel+1) listed L s:=
 HJ i true ag al (λρ h s' aw=>Fl V hm Y Z (h _ _ am) (h _ _ ap)) ac aq
theorem T6{l0:List Nat}{bk o K:Nat}{c:Av_}{f:Nat×Nat}(i:Nat)(vs:Lv_)(j:Nat)(O:Ap E H S)(hw:∀(q:Nat) w,vs[q]? =some w->c[o+q]? =some w)(U:Dr P t=some true)(V:Bo P t=some K)
  (Y:F7 J Q b n ds ops k cs (AG xl) (AG (l0++bks)) (AG l0) fuel (A8 listed i) (As L d (.agg vs.toArray)) (Aj E H S)) (Z:Hb n L ops i=some ⟨d,.load t x,ty,p,af,g⟩:=by exact rfl) (ac:ev L x=some (.pointer (some ⟨bk,o,none⟩)):=by exact rfl)
  (ag:S[j]? =some [(bk,.cells c e f)]:=by exact rfl) (al:K=vs.length:=by exact rfl) (am:AG (l0++bks) bk=true:=by simp [AG]) (ap:K9 ops listed xl false i=true:=by decide+kernel):F7 J Q b n ds ops k cs (AG xl) (AG (l0++bks)) (AG l0) (fuel+1) listed L (Aj E H S):=
 HJ i false rfl Z (λρ h s' aq=>GV (vs:=vs) U (by rw [← al];exact V) (h _ _ ac) (λq w aw=>by rw [Ei rfl];exact Cl j O ag am (aq rfl) (hw q w aw))) Y ap
theorem Fb{l0 bks:List Nat}{bk off K:Nat}{c:Av_}(i j:Nat)(O:Ap E H S)(U:Bo P t=some K)(V:Mf S j l0)(hle:off+K<=c.size)
  (h:Ap E H (S.set j [(bk,.cells (A7 c off v.cells.toList) e (0,0))])->F7 J Q b n ds ops k cs (AG xl) (AG (l0++bks)) (AG l0) fuel (A8 listed i) (As L d undef) (Aj E H (S.set j [(bk,.cells (A7 c off v.cells.toList) e (0,0))])))
  (Y:Hb n L ops i=some ⟨d,.store t x y,ty,p,af,g⟩:=by exact rfl) (Z:ev L x=some (.pointer (some ⟨bk,off,none⟩)):=by exact rfl) (ac:ev L y=some v:=by exact rfl) (ag:S[j]? =some [(bk,.cells c e (0,0))]:=by exact rfl)
  (al:K=v.cells.size:=by exact rfl) (am:v.cells.toList.all B3=true:=by first | exact rfl | simp [Value.cells,B3]) (ap:Region.ready .any ops listed= [i]:=by decide+kernel) (aq:AG xl i=true:=by decide+kernel):
  F7 J Q b n ds ops k cs (AG xl) (AG (l0++bks)) (AG l0) (fuel+1) listed L (Aj E H S):=by
 obtain⟨aw,ay,az⟩:=Om Y;subst al;exact JB.store i j ap aq aw ay az O Z ac U (List.all_eq_true.1 am) ag V hle h
end
abbrev s8(s:Nat):Value:= .int .u8 (s:Int)
def Nw(a:Nat)(n:Int):Option Nat:=if 0<=n/\n<=8 then some (a>>>n.toNat) else none
def K8(a b:Nat):Option Nat:=if a<256/\b<256 then some (a ||| b) else none
def Nt(a b:Nat):Option Nat:=if a<256/\b<256 then some (a&&& b) else none
variable {a c:Nat}
section
variable {x y:Operand}{b r:Nat}{m:Int}
theorem Uh{m:Nat}(h:m<256):IntKind.u8.wrap (m:Int)=m:=by
 simp only [IntKind.wrap,IntKind.bits,IntKind.signed];simp;omega
theorem NR{m:Nat}(h:m<256):(BitVec.ofInt IntKind.u8.bits (m:Int)).toNat=m:=by
 simp [IntKind.bits,BitVec.toNat_ofInt];omega
theorem aF{k:Nat}(a c:Nat)(K:c<=k):((a:Int).fdiv (2 ^ (min c k)))=((a>>>c:Nat):Int):=by
 rw [Nat.min_eq_left K,Nat.shiftRight_eq_div_pow,Int.fdiv_eq_ediv_of_nonneg _ (Int.pow_nonneg (by decide)),Int.natCast_ediv]
 rfl
theorem Rj(K:ρ x=s8 a)(O:ρ y=iV m)(h:Nw a m=some r):Yl P ⟨d,.binOp .shr t x y u,ty,p,af,g⟩ ρ s (s8 r):=by
 unfold Nw at h;split at h
 ·rename_i U;cases h;have h:=Yl.shr (P:=P) (s:=s) (d:=d) (t:=t) (u:=u) (ty:=ty) (p:=p) (af:=af) (g:=g) K O U.1;rw [show IntKind.u8.bits=8 from rfl,aF a m.toNat (by omega)] at h;exact h
 ·cases h
theorem M5(O:ρ x=s8 a)(U:ρ y=s8 b)(h:K8 a b=some r):Yl P ⟨d,.binOp .or t x y u,ty,p,af,g⟩ ρ s (s8 r):=by
 unfold K8 at h;split at h
 ·rename_i K;cases h;have h:=Yl.or (P:=P) (s:=s) (d:=d) (t:=t) (u:=u) (ty:=ty) (p:=p) (af:=af) (g:=g) O U;rw [BitVec.toNat_or,NR K.1,NR K.2,Uh (Nat.or_lt_two_pow (n:=8) K.1 K.2)] at h;exact h
 ·cases h
theorem RH(O:ρ x=s8 a)(U:ρ y=s8 b)(h:Nt a b=some r):Yl P ⟨d,.binOp .and t x y u,ty,p,af,g⟩ ρ s (s8 r):=by
 unfold Nt at h;split at h
 ·rename_i K;cases h;have h:=Yl.and (P:=P) (s:=s) (d:=d) (t:=t) (u:=u) (ty:=ty) (p:=p) (af:=af) (g:=g) O U;rw [BitVec.toNat_and,NR K.1,NR K.2,Uh (Nat.lt_of_le_of_lt Nat.and_le_left K.1)] at h;exact h
 ·cases h
end
def Pg(a b:Nat):Option Nat:=if a<4294967296/\b<4294967296 then some (a&&& b) else none
def PR(a b:Nat):Option Nat:=if a<4294967296/\b<4294967296 then some (a ||| b) else none
def Pv(a:Nat)(n:Int):Option Nat:=if 0<=n/\n<=32/\a*2 ^ n.toNat<4294967296 then some (a*2 ^ n.toNat) else none
def Ks(n:Int):Option Nat:=if 0<=n/\n<=8 then some ((1<<<n.toNat) % 256) else none
section
variable {e:TypeId}{x y:Operand}{b r:Nat}{m:Int}
theorem wrap32{m:Nat}(h:m<4294967296):IntKind.u32.wrap (m:Int)=m:=by
 simp only [IntKind.wrap,IntKind.bits,IntKind.signed];simp;omega
theorem NI{m:Nat}(h:m<4294967296):(BitVec.ofInt IntKind.u32.bits (m:Int)).toNat=m:=by
 simp [IntKind.bits,BitVec.toNat_ofInt];omega
theorem VT(O:ρ x= .int .u32 (a:Int))(U:ρ y= .int .u32 (b:Int))(h:Pg a b=some r):Yl P ⟨d,.binOp .and t x y u,ty,p,af,g⟩ ρ s (.int .u32 (r:Int)):=by
 unfold Pg at h;split at h
 ·rename_i K;cases h;have h:=Yl.and (P:=P) (s:=s) (d:=d) (t:=t) (u:=u) (ty:=ty) (p:=p) (af:=af) (g:=g) O U;rw [BitVec.toNat_and,NI K.1,NI K.2,wrap32 (Nat.lt_of_le_of_lt Nat.and_le_left K.1)] at h;exact h
 ·cases h
theorem Xk(O:ρ x= .int .u32 (a:Int))(U:ρ y= .int .u32 (b:Int))(h:PR a b=some r):Yl P ⟨d,.binOp .or t x y u,ty,p,af,g⟩ ρ s (.int .u32 (r:Int)):=by
 unfold PR at h;split at h
 ·rename_i K;cases h;have h:=Yl.or (P:=P) (s:=s) (d:=d) (t:=t) (u:=u) (ty:=ty) (p:=p) (af:=af) (g:=g) O U;rw [BitVec.toNat_or,NI K.1,NI K.2,wrap32 (Nat.or_lt_two_pow (n:=32) K.1 K.2)] at h;exact h
 ·cases h
theorem WB(O:ρ x= .int .u32 (a:Int))(U:ρ y=iV m)(h:Pv a m=some r):Yl P ⟨d,.binOp .shl t x y u,ty,p,af,g⟩ ρ s (.int .u32 (r:Int)):=by
 unfold Pv at h;split at h
 ·rename_i K;cases h;have h:=Yl.shl (P:=P) (s:=s) (d:=d) (t:=t) (u:=u) (ty:=ty) (p:=p) (af:=af) (g:=g) O U K.1;have e:IntKind.u32.wrap ((a:Int)*2 ^ (min m.toNat IntKind.u32.bits))=((a*2 ^ m.toNat:Nat):Int):=by
   have V:min m.toNat IntKind.u32.bits=m.toNat:=by simp [IntKind.bits];omega
   rw [V,← wrap32 K.2.2];simp
  rw [e] at h;exact h
 ·cases h
theorem LF(K:ρ x=s8 1)(O:ρ y=iV m)(h:Ks m=some r):Yl P ⟨d,.binOp .shl t x y u,ty,p,af,g⟩ ρ s (s8 r):=by
 unfold Ks at h;split at h
 ·rename_i U;cases h;have h:=Yl.shl (P:=P) (s:=s) (d:=d) (t:=t) (u:=u) (ty:=ty) (p:=p) (af:=af) (g:=g) K O U.1;have e:IntKind.u8.wrap (((1:Nat):Int)*2 ^ (min m.toNat IntKind.u8.bits))=(((1<<<m.toNat) % 256:Nat):Int):=
   (by decide:∀k:Fin 9,IntKind.u8.wrap (((1:Nat):Int)*2 ^ (min k.1 IntKind.u8.bits))=(((1<<<k.1) % 256:Nat):Int)) ⟨m.toNat,by omega⟩
  rw [e] at h;exact h
 ·cases h
theorem W3(K:ρ x=s8 a)(O:ρ y=s8 b)(hb:b<=256):Yl P ⟨d,.binOp .sub t x y u,ty,p,af,g⟩ ρ s (s8 ((a+(256 - b)) % 256)):=by
 have h:=Yl.sub (P:=P) (s:=s) (d:=d) (t:=t) (u:=u) (ty:=ty) (p:=p) (af:=af) (g:=g) K O;have e:IntKind.u8.wrap ((a:Int) - (b:Int))=(((a+(256 - b)) % 256:Nat):Int):=by
  simp only [IntKind.wrap,IntKind.bits,IntKind.signed];simp;omega
 rw [e] at h;exact h
theorem YB{kd:IntKind}{E:LH}(xs:List Nat):(rA xs.length (rN kd)).r E (xs.map λx=>Value.int kd ((x:Nat):Int)) xs:=by
 refine⟨V,xs.map λx=> [Value.int kd ((x:Nat):Int)],?_,by simp,λi x us K hu=>?_⟩
 ·induction xs with
  | nil=>rfl
  | cons x xs O=>simp [← O]
 ·rw [List.getElem?_map,K] at hu;exact(Option.some.inj hu).symm
theorem MY{α:Type}{kk:Nat}{pp:Rp α}{E:LH}{us:Lv_}{x:α}(h:pp.r E us x):(rA kk pp).r E (List.replicate kk us).flatten (List.replicate kk x):=
 ⟨by simp,List.replicate kk us,V,by simp,λi y ws K hw=>by
  rw [List.getElem?_replicate] at K hw
  split at K
  ·rename_i O
   rw [if_pos O] at hw
   cases K;cases hw
   exact h
  ·cases K⟩
theorem MS{k K:Nat}{z v:Value}(O:P.underlying t=some (.array k e))(U:zeroOf P t=some z)(V:Bo P e=some K)(Y: .agg z.cells=v):Yl P ⟨d,.build t #[],ty,p,af,g⟩ ρ s v:=by
 refine EN Ow ?_;unfold Instr.build;refine Ar (x:=zeroValue t) _ (GQ U ?_);refine Ar _ _ (Ce O ?_);refine Ar (x:=Go.sizeOf e) _ (EJ V ?_);subst Y;simp [Instr.fill,lp,pure]
theorem Yj{k K:Nat}{z v:Value}{L:Env}{U:Array (Nat×Operand)}{vs:List (Nat×Value)}(h:EP L ρ)(Y:P.underlying t=some (.array k e))(Z:zeroOf P t=some z)(ac:Bo P e=some K)(ag:U.toList.mapM (λq=>(ev L q.2).map λv=>(q.1,v))=some vs)(O:(Instr.fill (λi=>some (i*K,K)) z.cells vs).map Value.agg=some v):Yl P ⟨d,.build t U,ty,p,af,g⟩ ρ s v:=by
 refine EN Ow ?_;unfold Instr.build;refine Ar (x:=zeroValue t) _ (GQ Z ?_);refine Ar _ _ (Ce Y ?_);refine Ar (x:=Go.sizeOf e) _ (EJ ac ?_);have al:=Ou h ag;have am:(U.map λ(j,x)=>(j,ρ x)).toList=vs:=by rw [← al,Array.toList_map]
 rw [am];cases V:Instr.fill (λi=>some (i*K,K)) z.cells vs with
 | none=>rw [V] at O;cases O
 | some cells=>rw [V] at O;cases O;exact⟨rfl,rfl⟩
end
section
variable {e:TypeId}
end
section
variable {fuel:Nat}{listed:Array Bool}
variable {x y:Operand}{e:TypeId}{i:Nat}
end
def GL(b:Frame)(T:Av_)(ds:Ld_)(todo:Li_)(ch:List PanicEntry):Frame:={b with tmps:=T,todo:=todo,defers:=ds,mode:= .panicking ch}
def raised(v:Value):List PanicEntry:= [{v,recovered:=false}]
def taken(v:Value):List PanicEntry:= [{v,recovered:=true}]
section
variable (J:Judge P)(Q:Gs_)
def JP(b:Frame)(n:Nat)(L:Env)(ds:Ld_)(cs:Lf_)(ch:List PanicEntry)(s:St):Prop:=
 ∀T,Has n L T->∀todo,J.ok Q (G (GL b T ds todo ch) cs) s
end
variable {bc:Frame}{dsc:Ld_}{ch:List PanicEntry}{T Tc:Av_}{todoc:Li_}
section
variable {i:Nat}{x:Operand}
theorem JL.panic{t:TypeId}(O:ops[i]? =some ⟨d,.panic x,ty,p,af,g⟩)(U:b.roundOf=none)(hw:AR L ops ⟨d,.panic x,ty,p,af,g⟩=some true)(V:ev L x=some (.iface t v))
  (h:JP J Q b n L ds cs (raised (.iface t v)) s):JL J Q b n L ds (.inRegion ops (i::rest)::k) cs s:=λT K=>
 Judge.Dg rfl (λw=>by
  have he:execOp (BA T) ⟨d,.panic x,ty,p,af,g⟩= .halt (.panic (.iface t v)):=by
   simp [execOp,Instr.panic,K.ev V,goPanic,bind,Sem.bind]
  rw [stepG_op O (B6 K hw)]
  simp [U,stepG.apply,he,Sem.run,Sem.runT,Sem.events,GStep.after,fr,GL,Frame.raise,G,raised,seen_none]) (h T K (.inRegion ops (i::rest)::k))
theorem JP.pop{fn:Func}(K:P.funcs[b.fn]? =some fn)(h:J.ok Q (G (GL bc Tc dsc todoc ch) cs) s):JP J Q b n L [] (fr bc Tc dsc todoc::cs) ch s:=λT O todo=>
 Judge.Dg V (λw=>by simp [G,stepG,unwind,GL,fr,Frame.raise,Frame.catches,K]) h
theorem JP.Pq{f:FuncId}{fn:Func}{c:Code}{vs caps:Lv_}(am:b.roundOf=none)(O:P.funcs[f]? =some fn)(V:(fn.name== "runtime.NumGoroutine")=false)(hb:fn.body=some c)(Y:(vs++caps).length<=fn.ntmps)
  (h:∀T,Has n L T->∀todo,JL J Q (baseD f) fn.ntmps (F1 0 (vs++caps)) [] [.code c] (GL b T ds todo ch::cs) s):JP J Q b n L (Kr f vs.toArray caps.toArray::ds) cs ch s:=λT Z todo=>by
 have ac:¬fn.name= "runtime.NumGoroutine" :=by simpa using V
 refine Judge.Dg rfl (λw=>?_) (h T Z todo ((vs++caps).toArray++Array.replicate (fn.ntmps - (vs++caps).length) undef) ⟨by simp;simp at Y;omega,λt v ag=>?_⟩)
 ·rw [BN (b:=baseD f) rfl];have:=enter_atD (P:=P) (vs++caps).toArray O hb;simp only [List.size_toArray] at this;rw [← this];simp [G,stepG,unwind,callDeferred,GL,Kr,invoke,callFunc,O,ac,hb,GStep.after,seen_none]
 ·obtain⟨_,K⟩:=Jj ag;have al:t<(vs++caps).length:=by
   rcases Nat.lt_or_ge t (vs++caps).length with U | U
   ·exact U
   ·simp only [Nat.sub_zero] at K;have:=(List.getElem?_eq_some_iff.1 K).1;omega
  rw [Array.getD_eq_getD_getElem?,Array.getElem?_append_left (by simpa using al)];simp only [Nat.sub_zero] at K;rw [List.getElem?_toArray,K];rfl
theorem U4{ats:Array TypeId}{K:List PanicEntry}(O:ops[i]? =some ⟨d,.call ⟨.builtin .recover,#[],ats⟩,ty,p,af,g⟩)(U:b.roundOf=none)(V:b.kind= .deferred)(ac:Bg n d=true)(hw:AR L ops ⟨d,.call ⟨.builtin .recover,#[],ats⟩,ty,p,af,g⟩=some true)
  (h:JL J Q b n (As L d v) ds (.inRegion ops rest::k) (GL bc Tc dsc todoc ({v,recovered:=true}::K)::cs) s):
  JL J Q b n L ds (.inRegion ops (i::rest)::k) (GL bc Tc dsc todoc ({v,recovered:=false}::K)::cs) s:=λT Y=>
 Judge.Dg rfl (λw=>by
  have he:execOp (BA T) ⟨d,.call ⟨.builtin .recover,#[],ats⟩,ty,p,af,g⟩= .pure .recover:=by
   simp [execOp,resolve,Deferred.ofValue,invoke,bind,Sem.bind,pure,Go.builtin]
  have Z:=Gf (b:=b) (ds:=ds) (k:=k) T ops i rest v _ O
  simp only [fr,U,V] at Z
  rw [stepG_op O (B6 Y hw)]
  simp [U,V,stepG.apply,he,Sem.run,Sem.runT,Sem.events,GStep.after,fr,GL,tryRecover,G,seen_none,Z]) (h _ (Y.put ac _))
theorem U6{ats:Array TypeId}(K:ops[i]? =some ⟨d,.call ⟨.builtin .recover,#[],ats⟩,ty,p,af,g⟩)(O:b.roundOf=none)(U:b.kind= .deferred)(Z:Bg n d=true)(hw:AR L ops ⟨d,.call ⟨.builtin .recover,#[],ats⟩,ty,p,af,g⟩=some true)
  (h:JL J Q b n (As L d .nilIface) ds (.inRegion ops rest::k) (El bc Tc dsc todoc::cs) s):
  JL J Q b n L ds (.inRegion ops (i::rest)::k) (El bc Tc dsc todoc::cs) s:=λT V=>
 Judge.Dg rfl (λw=>by
  have he:execOp (BA T) ⟨d,.call ⟨.builtin .recover,#[],ats⟩,ty,p,af,g⟩= .pure .recover:=by
   simp [execOp,resolve,Deferred.ofValue,invoke,bind,Sem.bind,pure,Go.builtin]
  have Y:=Gf (b:=b) (ds:=ds) (k:=k) T ops i rest .nilIface _ K
  simp only [fr,O,U] at Y
  rw [stepG_op K (B6 V hw)]
  simp [O,U,stepG.apply,he,Sem.run,Sem.runT,Sem.events,GStep.after,fr,El,tryRecover,G,seen_none,Y]) (h _ (V.put Z _))
theorem JO.Y6{fn:Func}(O:b.kind= .deferred)(U:P.funcs[b.fn]? =some fn)(K:fn.results= #[])(h:J.ok Q (G (El bc Tc dsc todoc) cs) s):JO J Q b n L [] (GL bc Tc dsc todoc (taken v)::cs) s:=λT Y todo=>by
 refine Judge.Dg rfl (λw=>?_) h
 have V:=results_none K T P w
 have e2:=λ(x:Array Event)=>events_results_none (P:=P) (w:=w) K T x
 simp [G,stepG,unwind,El,GL,U,V,e2,doReturn,O,GStep.after,seen_none,taken]
end
open Go.Proofs
abbrev Dq:=Int×Int×Int
abbrev Aw:=List Dq
abbrev AZ:=List Aw
abbrev Bc:=List (List Int)
abbrev AT:=Bc×Aw
abbrev Au:=rP rI Dm
open Go.Proofs.Tryz
def Ay:=AJ Tryz.type3
def Bi:=AJ Tryz.type42
def Fw:=AJ Tryz.type122
def Gx:=AJ Tryz.type82
def Mv:=AJ Tryz.type245
def Bb:=Cm Tryz.underlying3
def Ln:=A1 Tryz.func83 rfl
def Cc:=AJ Tryz.type25
def CJ:=Cm Tryz.underlying25
def EX:=AJ Tryz.type26
def Gv:=Cm Tryz.underlying26
def Ds:=Cm Tryz.underlying42
def BM:=C5 Tryz.type42
def N4:=A1 Tryz.func84 rfl
def De:=AJ Tryz.type22
def It:=Cm Tryz.underlying22
def Hm:=C5 Tryz.type82
def BP:=AJ Tryz.type28
def Gd:=Cm Tryz.underlying82
def N6:=A1 Tryz.func88 rfl
def Hi:=C5 Tryz.type122
def FL:=C5 Tryz.type78
def Dk:=Cm Tryz.underlying28
def Jg:=A1 Tryz.func41 rfl
def Cr:=AJ Tryz.type78
def Ew:=Cm Tryz.underlying78
def Bx:=C5 Tryz.type3
def Hk:=A1 Tryz.func54 rfl
def Lo:=A1 Tryz.func55 rfl
def N5:=A1 Tryz.func56 rfl
def HS:=A1 Tryz.func64 rfl
def Ji:=AJ Tryz.type4
def Mp:=Cm Tryz.underlying4
def Bh:=AJ Tryz.type96
def BF:=Cm Tryz.underlying96
def Hn:=AJ Tryz.type199
def Hj:=A1 Tryz.func60 rfl
def HT:=C5 Tryz.type22
def Lp:=C5 Tryz.type4
def Mr:=A1 Tryz.func103 rfl
def KD:=C5 Tryz.type253
def Hl:=A1 Tryz.func92 rfl
def N9:=C5 Tryz.type96
def Mm:=Cm Tryz.underlying205
def NW:=Cm Tryz.underlying91
def Lm:=A1 Tryz.func62 rfl
def NX:=A1 Tryz.func197 rfl
def NZ:=A1 Tryz.func177 rfl
def NY:=A1 Tryz.func146 rfl
def Mq:=A1 Tryz.func102 rfl
def J2:=Cm Tryz.underlying199
def N2:=C5 Tryz.type245
def Mn:=Cm Tryz.underlying245
def Jh:=AJ Tryz.type152
def Ms:=C5 Tryz.type152
def Mo:=Cm Tryz.underlying152
def GO:=Cm Tryz.underlying21
def Mw:=AJ Tryz.type93
def Fg:=C5 Tryz.type28
def Gw:=A1 Tryz.func44 rfl
def Iu:=A1 Tryz.func42 rfl
def Eo:=A1 Tryz.func40 rfl
def N3:=A1 Tryz.func50 rfl
def N7:=A1 Tryz.func24 rfl
def IN:=A1 Tryz.func14 rfl
def KB:=A1 Tryz.func34 rfl
def Jf:=A1 Tryz.func46 rfl
def KC:=C5 Tryz.type128
def Ml:=Cm Tryz.underlying177
def Lq:=AJ Tryz.type177
def Mt:=A1 Tryz.func18 rfl
def N8:=A1 Tryz.func47 rfl
def N1:=A1 Tryz.func23 rfl
theorem mixed:Tryz.prog.follows .mixedOrders=true:=rfl
theorem bq:B2 Tryz.prog 42 (rP rI (rP rI rI)) true 2:=B2.three underlying42 (B2.int underlying3 Ay) (B2.int underlying3 Ay) (B2.int underlying3 Ay) (by decide+kernel) (by decide) (by decide) (by decide) V V V Bi
theorem Zj:B2 Tryz.prog 122 (rP rI rI) true 2:=B2.two underlying122 (B2.int underlying3 Ay) (B2.int underlying3 Ay) (by decide+kernel) (by decide) (by decide) V V Fw
theorem O7:B2 Tryz.prog 82 (rA 5 rI) true 2:=B2.arr (kk:=5) (B2.int underlying3 Ay) underlying82 Gx
theorem YO:B2 Tryz.prog 243 (rA 10 rI) true 2:=B2.arr (kk:=10) (B2.int underlying3 Ay) underlying243 (AJ type243)
theorem S4:B2 Tryz.prog 245 (rA 5 (rA 10 rI)) true 3:=B2.arr (kk:=5) YO underlying245 Mv
theorem ZS:B2 Tryz.prog 267 (rP (rN .u8) (rA 5 (rA 10 rI))) true 4:=B2.two underlying267 ((B2.nat underlying5 (AJ type5)).up (by decide)) S4 (by decide+kernel) (by decide) (by decide) V V (AJ type267)
theorem IG:FE Tryz.prog 3 rI false:=(B2.int underlying3 Ay).key (by decide)
theorem Ia:FE Tryz.prog 122 (rP rI rI) true:=Zj.key (by decide)
theorem Tg:FE Tryz.prog 245 (rA 5 (rA 10 rI)) true:=S4.key (by decide)
theorem TC:FE Tryz.prog 267 (rP (rN .u8) (rA 5 (rA 10 rI))) true:=ZS.key (by decide)
end Pal
namespace Pal
open Go Go.Conc Go.Proofs Go.Extern
abbrev EV(t:Nat):Value:= .pointer (some ⟨1,t,none⟩)
abbrev Jc(t:Nat):Value:= .iface 222 (.agg #[EV t])
variable {s:St}{X:Halt->St->Prop}
theorem Va{Q:Value->St->Prop}(t:Addr):lp Tryz.prog (ReflectliteValue.unpack (.iface 130 (.pointer (some t)))) s Q X=(s.q=false/\∀r,s.E r=none->s.H r=none->Q (.agg #[EV 130,.pointer (some ⟨r,0,none⟩),.int .u64 150]) (s.upd r (.cells #[.pointer (some t)] 130 (0,0)))):=by kernel_rfl
theorem U1{Q:Value->St->Prop}(c:Int):lp Tryz.prog (ReflectliteValue.unpack (.iface 128 (.agg #[iV c]))) s Q X=(s.q=false/\∀r,s.E r=none->s.H r=none->Q (.agg #[EV 128,.pointer (some ⟨r,0,none⟩),.int .u64 153]) (s.upd r (.cells #[iV c] 128 (0,0)))):=by kernel_rfl
theorem XE{Q:Value->St->Prop}(a:Addr):lp Tryz.prog (ReflectliteValue.methodAny (ReflectliteValue.valueError "reflectlite.Value.Type" 0) (λt _ _ _=>ReflectliteType.toType t) #[.agg #[EV 130,.pointer (some a),.int .u64 150]]) s Q X=Q (Jc 130) s:=by kernel_rfl
theorem Vv{Q:Value->St->Prop}(v:Value):lp Tryz.prog (ReflectliteType.typeOf #[.iface 128 v]) s Q X=Q (Jc 128) s:=by kernel_rfl
theorem TP{Q:FuncId×Value->St->Prop}(h:Value):lp Tryz.prog (Go.method (Tryz.prog.types.size+Made.depth) 222 (.agg #[h]) "Kind") s Q X=Q (216,h) s:=by kernel_rfl
theorem Zk{Q:FuncId×Value->St->Prop}(h:Value):lp Tryz.prog (Go.method (Tryz.prog.types.size+Made.depth) 222 (.agg #[h]) "Elem") s Q X=Q (227,.agg #[h]) s:=by kernel_rfl
theorem Z2{Q:FuncId×Value->St->Prop}(h:Value):lp Tryz.prog (Go.method (Tryz.prog.types.size+Made.depth) 222 (.agg #[h]) "Implements") s Q X=Q (228,.agg #[h]) s:=by kernel_rfl
theorem bg{Q:FuncId×Value->St->Prop}(h:Value):lp Tryz.prog (Go.method (Tryz.prog.types.size+Made.depth) 222 (.agg #[h]) "AssignableTo") s Q X=Q (225,.agg #[h]) s:=by kernel_rfl
theorem XA{Q:Value->St->Prop}:lp Tryz.prog ((ReflectliteType.abiMethod λt=>(λa:Nat=>Value.int IntKind.u8 (a:Int))<$>Rtype.kind t) #[EV 130]) s Q X=Q (.int .u8 22) s:=by kernel_rfl
theorem W6{Q:Value->St->Prop}:lp Tryz.prog ((ReflectliteType.abiMethod λt=>(λa:Nat=>Value.int IntKind.u8 (a:Int))<$>Rtype.kind t) #[EV 128]) s Q X=Q (.int .u8 25) s:=by kernel_rfl
theorem Xm{Q:Value->St->Prop}:lp Tryz.prog (ReflectliteType.method ReflectliteType.elem #[.agg #[EV 130]]) s Q X=Q (Jc 128) s:=by kernel_rfl
theorem Xb{Q:Value->St->Prop}:lp Tryz.prog (ReflectliteType.relation "Implements" ReflectliteType.implements_ #[.agg #[EV 128],Jc 88]) s Q X=Q (.bool true) s:=by kernel_rfl
theorem YE{Q:Value->St->Prop}:lp Tryz.prog (ReflectliteType.relation "AssignableTo" ReflectliteType.assignableTo #[.agg #[EV 128],Jc 128]) s Q X=Q (.bool true) s:=by kernel_rfl
theorem Rc{Q:Option (TypeId×Addr×Nat)->St->Prop}(a:Addr):lp Tryz.prog (ReflectliteValue.parts (.agg #[EV 130,.pointer (some a),.int .u64 150])) s Q X=Q (some (130,a,150)) s:=by kernel_rfl
theorem Wm{Q:Option (TypeId×Addr×Nat)->St->Prop}(a:Addr):lp Tryz.prog (ReflectliteValue.parts (.agg #[EV 128,.pointer (some a),.int .u64 153])) s Q X=Q (some (128,a,153)) s:=by kernel_rfl
theorem Vm{Q:Option (TypeId×Addr×Nat)->St->Prop}(a:Addr):lp Tryz.prog (ReflectliteValue.parts (.agg #[EV 128,.pointer (some a),.int .u64 409])) s Q X=Q (some (128,a,409)) s:=by kernel_rfl
theorem YI{Q:Option TypeId->St->Prop}:lp Tryz.prog (Rtype.elem? 130) s Q X=Q (some 128) s:=by kernel_rfl
theorem Zu{Q:Value->St->Prop}(p:Addr):lp Tryz.prog (ReflectliteValue.mk 128 p ReflectliteValue.flagAddr) s Q X=Q (.agg #[EV 128,.pointer (some p),.int .u64 409]) s:=by kernel_rfl
theorem XJ{Q:Bool->St->Prop}:lp Tryz.prog (Rtype.directlyAssignable 128 128) s Q X=Q true s:=by kernel_rfl
theorem RB{Q:Value->St->Prop}(a:Addr):lp Tryz.prog (loadVar 130 a) s Q X=(Mode.plain= .plain/\∃v,s.cell? a=some v/\Q v s):=by kernel_rfl
theorem WQ{Q:Value->St->Prop}(a:Addr):lp Tryz.prog (loadVar 128 a) s Q X=(Mode.plain= .plain/\∃v,s.cell? (a.add 0)=some v/\Q (.agg #[v]) s):=by kernel_rfl
theorem Tp:BI Tryz.prog 116 (λargs=>ReflectliteValue.unpack (args.getD 0 (.tuple #[]))):=⟨⟨_,Tryz.func116,by kernel_rfl,by kernel_rfl,by kernel_rfl,by kernel_rfl⟩⟩
theorem ai:BI Tryz.prog 117 (ReflectliteValue.methodAny (ReflectliteValue.valueError "reflectlite.Value.Type" 0) (λt _ _ _=>ReflectliteType.toType t)):=⟨⟨_,Tryz.func117,by kernel_rfl,by kernel_rfl,by kernel_rfl,by kernel_rfl⟩⟩
theorem Zt:BI Tryz.prog 118 (ReflectliteValue.method (ReflectliteValue.valueError "reflectlite.Value.IsNil" 0) ReflectliteValue.isNil):=⟨⟨_,Tryz.func118,by kernel_rfl,by kernel_rfl,by kernel_rfl,by kernel_rfl⟩⟩
theorem ZT:BI Tryz.prog 157 ReflectliteType.typeOf:=⟨⟨_,Tryz.func157,by kernel_rfl,by kernel_rfl,by kernel_rfl,by kernel_rfl⟩⟩
theorem YX:BI Tryz.prog 158 (ReflectliteValue.method (ReflectliteValue.valueError "reflectlite.Value.Elem" 0) ReflectliteValue.elem):=⟨⟨_,Tryz.func158,by kernel_rfl,by kernel_rfl,by kernel_rfl,by kernel_rfl⟩⟩
theorem Zb:BI Tryz.prog 159 ReflectliteValue.set:=⟨⟨_,Tryz.func159,by kernel_rfl,by kernel_rfl,by kernel_rfl,by kernel_rfl⟩⟩
theorem TN:BI Tryz.prog 216 (ReflectliteType.abiMethod λt=>(λa:Nat=>Value.int IntKind.u8 (a:Int))<$>Rtype.kind t):=⟨⟨_,Tryz.func216,by kernel_rfl,by kernel_rfl,by kernel_rfl,by kernel_rfl⟩⟩
theorem Zg:BI Tryz.prog 225 (ReflectliteType.relation "AssignableTo" ReflectliteType.assignableTo):=⟨⟨_,Tryz.func225,by kernel_rfl,by kernel_rfl,by kernel_rfl,by kernel_rfl⟩⟩
theorem Ze:BI Tryz.prog 227 (ReflectliteType.method ReflectliteType.elem):=⟨⟨_,Tryz.func227,by kernel_rfl,by kernel_rfl,by kernel_rfl,by kernel_rfl⟩⟩
theorem ZU:BI Tryz.prog 228 (ReflectliteType.relation "Implements" ReflectliteType.implements_):=⟨⟨_,Tryz.func228,by kernel_rfl,by kernel_rfl,by kernel_rfl,by kernel_rfl⟩⟩
end Pal
namespace Pal
open Go Go.Conc
variable {P:Program}{J:Judge P}{Q:Gs_}{b:Frame}{n:Nat}{L:Env}{ds:Ld_}{k:Li_}{cs:Lf_}{s:St}{ops:Ao_}{rest:List Nat}{v:Value}
variable {d:Option Tmp}{ty:TypeId}{p:String}{af:Ae_}{g:On_}
section
variable {i:Nat}
variable {x:Operand}
theorem QX{f:FuncId}{e:Av_->Sem Value}{args:Av_}{Q:Next->St->Prop}{X:Halt->St->Prop}(he:BI P f e)(h:lp P (e args) s (λv s'=>Q (.value v) s') X):lp P (callFunc f args) s Q X:=by
 obtain⟨fn,K,O,U,V,Y⟩:=he.h;unfold callFunc;simp only [bind,Sem.bind,program,lp,K,O,U,Bool.false_eq_true,if_false,if_true,mark,V,Y];refine⟨.inr ⟨f,rfl⟩,?_⟩;exact Ar _ _ (DO _ h (λv s' Z=>Z) (λ_ _ ac=>ac))
theorem Km{f:FuncId}{e:Av_->Sem Value}{args:Array Operand}{ats:Array TypeId}{vs:Lv_}(he:BI P f e)(O:ops[i]? =some ⟨d,.call ⟨.value (.func f),args,ats⟩,ty,p,af,g⟩)(hw:AR L ops ⟨d,.call ⟨.value (.func f),args,ats⟩,ty,p,af,g⟩=some true)(U:BJ b n ⟨d,.call ⟨.value (.func f),args,ats⟩,ty,p,af,g⟩=true)(V:evs L args.toList=some vs)
  (h:lp P (e vs.toArray) s (λv s'=>JL J Q b n (As L d v) ds (.inRegion ops rest::k) cs s') (λ_ _=>False)):JL J Q b n L ds (.inRegion ops (i::rest)::k) cs s:=by
 refine JL.op O hw U λρ K=>?_;have Y:args.map ρ=vs.toArray:=by
  rw [← FY K V];apply Array.ext';simp
 have Z:ρ (.func f)= .func (.func f) #[] #[]:=K _ _ rfl;simp only [execOp,resolve,bind,Sem.bind,Deferred.ofValue,Z,pure,invoke];have ac: #[]++args.map ρ++ #[]=vs.toArray:=by rw [Y];simp
 rw [ac];exact QX he h
theorem L5{t:TypeId}{K O:Value}{name:String}{f:FuncId}{e:Av_->Sem Value}{args:Array Operand}{ats:Array TypeId}{vs:Lv_}(he:BI P f e)(hm:∀{s:St} {X:Halt->St->Prop} {Q:FuncId×Value->St->Prop},lp P (Go.method (P.types.size+Made.depth) t K name) s Q X=Q (f,O) s)
  (V:ops[i]? =some ⟨d,.call ⟨.invoke x name,args,ats⟩,ty,p,af,g⟩) (hw:AR L ops ⟨d,.call ⟨.invoke x name,args,ats⟩,ty,p,af,g⟩=some true) (Y:BJ b n ⟨d,.call ⟨.invoke x name,args,ats⟩,ty,p,af,g⟩=true) (Z:ev L x=some (.iface t K)) (ac:evs L args.toList=some vs)
  (h:lp P (e (O::vs).toArray) s (λv s'=>JL J Q b n (As L d v) ds (.inRegion ops rest::k) cs s') (λ_ _=>False)):JL J Q b n L ds (.inRegion ops (i::rest)::k) cs s:=by
 refine JL.op V hw Y λρ U=>?_;have ag:args.map ρ=vs.toArray:=by
  rw [← FY U ac];apply Array.ext';simp
 have al:ρ x= .iface t K:=U _ _ Z;simp only [execOp,resolve,bind,Sem.bind,pure,invoke,al,ag];have am:(#[Value.iface t K]++vs.toArray)[0]? =some (.iface t K):=by simp
 have ap:(#[Value.iface t K]++vs.toArray).extract 1 (#[Value.iface t K]++vs.toArray).size=vs.toArray:=by
  apply Array.ext';simp
 simp only [am,ap,callMethod,bind,Sem.bind,program,lp];refine Ar _ _ ?_;rw [hm];have e2: #[O]++vs.toArray=(O::vs).toArray:=by apply Array.ext';simp
 rw [e2];exact QX he h
end
open Go.Proofs Go.Proofs.Tryz
variable {E:LH}
variable {J:Judge Tryz.prog}
def f91(fu_:Nat)(p0:Int)(p1:Int)(p2:Int):Option Bool:= Option.bind (if p1<=p0 then(some (decide (p0<=p2))) else(some false)) λK=> some K
theorem Mb{p0:Int}{p1:Int}{p2:Int}{fu_:Nat}{r:Bool}(K:f91 fu_ p0 p1 p2=some r):AM J 83 [iV p0,iV p1,iV p2] E [] (λw E' B'=>w= .bool r/\B'= []):=by
 refine Be func83 λQ aw cs H O V=>?_;unfold f91 at K;obtain⟨Y,Z,ac⟩:=bs K;refine C 10 rfl (CP 8 1 [] [(14,.bool Y)] (λay ag al=>?_) (λU=>?_))
 ·refine C 2 rfl ?_;obtain rfl:=oi ac;exact AS func83 rfl rfl (V ag rfl ⟨rfl,rfl⟩ al)
 ·refine G1 10 Z (λam ap=>?_) (λam aq=>?_)
  ·refine C 4 rfl ?_;obtain rfl:=oi ap;exact U AA O rfl
  ·refine C 4 rfl ?_;obtain rfl:=oi aq;exact U AA O rfl
def f86(fu_:Nat)(p0:Int×Int×Int)(p1:Int)(p2:Int):Option Int:= (Av (p1 - 1)).bind λK=> (f91 fu_ p0.1 0 K).bind λO=> Option.bind (if(!O)=true then(some true) else((Av (p1 - 1)).bind λU=> (f91 fu_ p0.2.1 0 U).bind λV=> some (!V))) λY=> if Y=true then(some 3) else(if p0.1=p0.2.1 then(some 8) else((f91 fu_ p0.2.2 1 p2).bind λZ=> if(!Z)=true then(some 1) else(some 0)))
theorem PI{p0:Int×Int×Int}{p1:Int}{p2:Int}{fu_:Nat}{r:Int}(ac:f86 fu_ p0 p1 p2=some r):AM J 84 [.agg #[iV p0.1,iV p0.2.1,iV p0.2.2],iV p1,iV p2] E [] (λw E' B'=>w=iV r/\B'= []):=by
 refine Be func84 λQ b6 cs H aq V=>?_;unfold f86 at ac;refine C 2 rfl (CC aq λr2 b7 Y U aw=>?_);refine C 6 rfl (BQ 0 U underlying42 Ay Bb ?_);obtain⟨b8,ay,az⟩:=bs ac;refine C 1 rfl (Dh ay rfl rfl rfl ?_);obtain⟨a0,a1,a2⟩:=bs az;refine BH (Mb a1) rfl rfl Ln aw λb9 K ag=>Am (v:= .bool (!a0)) rfl (λρ h=>Yl.not (h _ _ rfl)) ?_;obtain⟨a3,a4,a5⟩:=bs a2;refine C 1 rfl (CP 14 1 [] [(2,iV p2),(3,Ak r2 0),(21,.bool a3)] (λca O Z=>?_) (λal=>?_))
 ·refine C 2 rfl (Cd a5 (λa6 a7=>?_) (λa6 a8=>?_))
  ·refine C 4 rfl ?_;obtain rfl:=oi a7;exact AS func84 rfl rfl (V ((Y.Ad K).Ad O) rfl ⟨rfl,rfl⟩ Z)
  ·refine C 2 rfl (BQ 0 (U.Ag (K.Ad O)) underlying42 Ay Bb ?_);refine BQ 1 (U.Ag (K.Ad O)) underlying42 Ay Bb ?_;refine C 3 rfl (AU a8 (λa9 bb=>?_) (λa9 bd=>?_))
   ·refine C 4 rfl ?_;obtain rfl:=oi bb;exact AS func84 rfl rfl (V ((Y.Ad K).Ad O) rfl ⟨rfl,rfl⟩ Z)
   ·refine C 2 rfl (BQ 2 (U.Ag (K.Ad O)) underlying42 Ay Bb ?_);obtain⟨be,bi,bn⟩:=bs bd;refine C 1 rfl (BH (Mb bi) rfl rfl Ln Z λcb am ap=>?_);refine Am (v:= .bool (!be)) rfl (λρ h=>Yl.not (h _ _ rfl)) (C 2 rfl ?_);refine Cd bn (λbo bv=>?_) (λbo bw=>?_)
    ·refine C 4 rfl ?_;obtain rfl:=oi bv;exact AS func84 rfl rfl (V (((Y.Ad K).Ad O).Ad am) rfl ⟨rfl,rfl⟩ ap)
    ·refine C 6 rfl ?_;obtain rfl:=oi bw;exact AS func84 rfl rfl (V (((Y.Ad K).Ad O).Ad am) rfl ⟨rfl,rfl⟩ ap)
 ·refine Ci 14 a4 (λbx bz=>?_) (λbx bY=>?_)
  ·refine C 7 rfl ?_;obtain rfl:=oi bz;exact al AA ag rfl
  ·refine BQ 1 (U.Ag K) underlying42 Ay Bb ?_;obtain⟨cc,bZ,b0⟩:=bs bY;refine C 1 rfl (Dh bZ rfl rfl rfl ?_);obtain⟨b1,b2,b3⟩:=bs b0;refine BH (Mb b2) rfl rfl Ln ag λcd b4 b5=>Am (v:= .bool (!b1)) rfl (λρ h=>Yl.not (h _ _ rfl)) (C 1 rfl ?_);obtain rfl:=oi b3;exact al b4 b5 rfl
def No(fu_:Nat)(O:List Int)(K:Int):Option (Bq Int ((Int)⊕(Unit))):= if K<(O.length:Int) then((ix O K).bind λU=> (f91 fu_ U 1 9).bind λV=> if(!V)=true then(some (.done (Sum.inl 1))) else((Av (K+1)).bind λY=> some (.more Y))) else(some (.done (Sum.inr ())))
def Nj(fu_:Nat)(p0:AT)(K:Int):Option (Bq Int ((Int)⊕(Unit))):= if K<(p0.1.length:Int) then((ix p0.1 K).bind λO=> if 3<(O.length:Int) then(some (.done (Sum.inl 6))) else(Option.bind (iter (No fu_ O) fu_ 0) λU=> Sum.elim (λr=>some (.done (Sum.inl r))) (λY=> (Av (K+1)).bind λV=> some (.more V)) U)) else(some (.done (Sum.inr ())))
def Te(fu_:Nat)(p0:AT)(K:Int):Option (Bq Int ((Int)⊕(Unit))):= if K<(p0.2.length:Int) then((ix p0.2 K).bind λU=> (f86 fu_ U (p0.1.length:Int) 9).bind λO=> if O≠0 then(some (.done (Sum.inl O))) else((Av (K+1)).bind λV=> some (.more V))) else(some (.done (Sum.inr ())))
def f47(fu_:Nat)(p0:AT):Option Int:= if(p0.1.length:Int)<2 then(some 7) else(if 5<(p0.1.length:Int) then(some 6) else(Option.bind (iter (Nj fu_ p0) fu_ 0) λK=> Sum.elim (λr=>some r) (λU=> if 8<(p0.2.length:Int) then(some 6) else(Option.bind (iter (Te fu_ p0) fu_ 0) λO=> Sum.elim (λr=>some r) (λV=> some 0) O)) K))
theorem JE{a1:Ao}{c2:Nat}{aw:Ao}{ay:Nat}{p0:AT}(cb:Al (rL rI) E a1 c2 p0.1)(cc:Al Au E aw ay p0.2){fu_:Nat}{r:Int}(a8:f47 fu_ p0=some r):AM J 41 [.agg #[sV a1 p0.1 c2,sV aw p0.2 ay]] E [] (λw E' B'=>w=iV r/\B'= []):=by
 refine Be func41 λQ dL cs H cd O=>?_;unfold f47 at a8;refine C 2 rfl (CC cd λV ce K Y az=>?_);refine C 5 rfl (BQ 0 Y underlying28 Cc CJ ?_);refine JL.ln underlying25 rfl rfl rfl (C 9 rfl ?_);refine AU a8 (λcf cg=>?_) (λcf ci=>?_)
 ·refine C 4 rfl ?_;obtain rfl:=oi cg;exact AS func41 rfl rfl (O K rfl ⟨rfl,rfl⟩ az)
 ·refine C 6 rfl (AU ci (λck cm=>?_) (λck cn=>?_))
  ·refine C 4 rfl ?_;obtain rfl:=oi cm;exact AS func41 rfl rfl (O K rfl ⟨rfl,rfl⟩ az)
  ·refine C 5 rfl (BQ 0 Y underlying28 Cc CJ ?_);refine JL.ln underlying25 rfl rfl rfl ?_;obtain⟨a9,co,a0⟩:=bs cn;refine C 2 rfl (Bu (λL s=>∃(bb:Unit) (a2:LH),a9=Sum.inr bb/\Jm ce H a2 [] [(1,Ak V 0)] L s) ?_ ?_)
   ·rintro _ _ ⟨bb,a2,rfl,rfl,rfl,U,bd⟩;have cp:=elim_inr a0;refine C 3 rfl (BQ 1 (Y.Ag U) underlying28 EX Gv ?_);refine JL.ln underlying26 rfl rfl rfl (C 2 rfl ?_);refine AU cp (λcq cr=>?_) (λcq ct=>?_)
    ·refine C 4 rfl ?_;obtain rfl:=oi cr;exact AS func41 rfl rfl (O (K.Ad U) rfl ⟨rfl,rfl⟩ bd)
    ·refine C 4 rfl (BQ 1 (Y.Ag U) underlying28 EX Gv ?_);refine JL.ln underlying26 rfl rfl rfl ?_;obtain⟨be,cu,bi⟩:=bs ct;refine C 2 rfl (Bu (λL s=>∃(bn:Unit) (bo:LH),be=Sum.inr bn/\Jm a2 H bo [] [] L s) ?_ ?_)
     ·rintro _ _ ⟨bn,bo,rfl,rfl,rfl,cv,cw⟩;have cy:=elim_inr bi;refine C 4 rfl ?_;obtain rfl:=oi cy;exact AS func41 rfl rfl (O ((K.Ad U).Ad cv) rfl ⟨rfl,rfl⟩ cw)
     ·intro cz;refine JL.block (Dx cu (λa3=> []) (λa3=> [(1,Ak V 0),(46,sV aw p0.2 ay),(47,iV (p0.2.length:Int)),(48,iV a3)]) AA bd ?_);rintro a3 cA Z bv bw ⟨dM,am⟩ cB;have bx:=am;unfold Te at bx;refine C 5 rfl (AU bx (λcC cD=>?_) (λcC cE=>?_))
      ·obtain⟨dN,cF,cG⟩:=bs cD;refine C 5 rfl (Dp (cc.Ag ((K.Ad U).Ad Z)) cF underlying26 Bi ?_);rintro dO dP _ ⟨_,_,rfl,rfl,⟨_,_,rfl,rfl,rfl⟩⟩ cH;refine BT cH Ds Bi rfl rfl (Bz bv BM λdQ cI=>?_);refine Bv 0 cI Bi λcJ=>?_;refine B7 0 cJ rfl λdR a4 cK cM=>C 3 rfl (BT cK Ds Bi rfl rfl ?_);refine BQ 0 (Y.Ag ((U.Ad Z).Ad a4)) underlying28 Cc CJ ?_;refine JL.ln underlying25 rfl rfl rfl ?_;obtain⟨dS,cN,cO⟩:=bs cG;refine BH (PI cN) rfl rfl N4 cM λdT bz bY=>C 7 rfl (AU cO (λcP cQ=>?_) (λcP cR=>?_))
       ·refine C 5 rfl ?_;obtain rfl:=oi cQ;obtain rfl:=bw _ am;have cT:=elim_inl bi;obtain rfl:=oi cT;exact AS func41 rfl rfl (O ((((K.Ad U).Ad Z).Ad a4).Ad bz) rfl ⟨rfl,rfl⟩ bY)
       ·obtain⟨cV,cW,cX⟩:=bs cR;refine C 3 rfl (Bn cW rfl rfl rfl ?_);refine C 2 rfl ?_;obtain rfl:=oi cX;exact cB cV ((Z.Ad a4).Ad bz) bY rfl am
      ·refine JL.exit rfl ?_;obtain rfl:=oi cE;have cY:be=(Sum.inr ()):=(bw _ am).symm;exact Az (cz _ _ ⟨(),cA,cY,rfl,rfl,Z,bv⟩) rfl
   ·intro cZ;refine JL.block (Dx co (λac=> []) (λac=> [(1,Ak V 0),(21,sV a1 p0.1 c2),(22,iV (p0.1.length:Int)),(23,iV ac)]) AA az ?_);rintro ac bZ ag a5 a6 ⟨dU,al⟩ c0;have b0:=al;unfold Nj at b0;refine C 5 rfl (AU b0 (λc1 c3=>?_) (λc1 c4=>?_))
    ·obtain⟨b1,c5,c6⟩:=bs c3;refine C 5 rfl (Dp (cb.Ag (K.Ad ag)) c5 underlying25 De ?_);rintro dV dW _ ⟨c7,c8,rfl,c9⟩ da;refine CG 0 da It rfl rfl rfl (C 6 rfl ?_);refine JL.ln underlying22 rfl rfl rfl (C 2 rfl ?_);refine AU c6 (λdb dc=>?_) (λdb dd=>?_)
     ·refine C 4 rfl ?_;obtain rfl:=oi dc;obtain rfl:=a6 _ al;have de:=elim_inl a0;obtain rfl:=oi de;exact AS func41 rfl rfl (O (K.Ad ag) rfl ⟨rfl,rfl⟩ a5)
     ·refine C 4 rfl (JL.ln underlying22 rfl rfl rfl ?_);obtain⟨b2,df,b3⟩:=bs dd;refine C 2 rfl (Bu (λL s=>∃(b4:Unit) (b5:LH),b2=Sum.inr b4/\Jm bZ H b5 [] [(1,Ak V 0),(21,sV a1 p0.1 c2),(22,iV (p0.1.length:Int)),(23,iV ac)] L s) ?_ ?_)
      ·rintro _ _ ⟨b4,b5,rfl,rfl,rfl,dg,dh⟩;have di:=elim_inr b3;obtain⟨dj,dk,dm⟩:=bs di;refine C 2 rfl (Bn dk rfl rfl rfl ?_);refine C 2 rfl ?_;obtain rfl:=oi dm;exact c0 dj (ag.Ad dg) dh rfl al
      ·intro dn;refine JL.block (Dx df (λa7=> []) (λa7=> [(1,Ak V 0),(21,sV a1 p0.1 c2),(22,iV (p0.1.length:Int)),(23,iV ac),(30,sV c7 b1 c8),(31,iV (b1.length:Int)),(32,iV a7)]) AA a5 ?_);rintro a7 dp ap b6 b7 ⟨dX,aq⟩ dq;have b8:=aq;unfold No at b8;refine C 5 rfl (AU b8 (λdr dt=>?_) (λdr du=>?_))
       ·obtain⟨dY,dv,dw⟩:=bs dt;refine C 5 rfl (Dp (c9.Ag ap) dv underlying22 Ay ?_);rintro dZ ea _ rfl dx;refine CG 0 dx Bb rfl rfl rfl ?_;obtain⟨dy,dz,dA⟩:=bs dw;refine C 5 rfl (BH (Mb dz) rfl rfl Ln b6 λeb b9 ca=>?_);refine Am (v:= .bool (!dy)) rfl (λρ h=>Yl.not (h _ _ rfl)) (JL.done ?_);refine Cd dA (λdB dC=>?_) (λdB dD=>?_)
        ·refine C 4 rfl ?_;obtain rfl:=oi dC;obtain rfl:=b7 _ aq;have dE:=elim_inl b3;obtain rfl:=oi dE;obtain rfl:=a6 _ al;have dF:=elim_inl a0;obtain rfl:=oi dF;exact AS func41 rfl rfl (O (((K.Ad ag).Ad ap).Ad b9) rfl ⟨rfl,rfl⟩ ca)
        ·obtain⟨dG,dH,dI⟩:=bs dD;refine C 3 rfl (Bn dH rfl rfl rfl ?_);refine C 2 rfl ?_;obtain rfl:=oi dI;exact dq dG (ap.Ad b9) ca rfl aq
       ·refine JL.exit rfl ?_;obtain rfl:=oi du;have dJ:b2=(Sum.inr ()):=(b7 _ aq).symm;exact Az (dn _ _ ⟨(),dp,dJ,rfl,rfl,ap,b6⟩) rfl
    ·refine JL.exit rfl ?_;obtain rfl:=oi c4;have dK:a9=(Sum.inr ()):=(a6 _ al).symm;exact Az (cZ _ _ ⟨(),bZ,dK,rfl,rfl,ag,a5⟩) rfl
def TJ(fu_:Nat)(p0:AT)(O:(List Int)×Int):Option (Bq ((List Int)×Int) ((List Int))):= if O.2<(p0.2.length:Int) then((ix p0.2 O.2).bind λK=> (ix O.1 K.2.1).bind λV=> (Av (V+K.2.2)).bind λU=> (ix O.1 K.2.1).bind λag=> (ix (O.1.set (Int.toNat K.2.1) U) K.1).bind λY=> (Av (Y - K.2.2)).bind λZ=> (ix (O.1.set (Int.toNat K.2.1) U) K.1).bind λal=> (Av (O.2+1)).bind λac=> some (.more (((O.1.set (Int.toNat K.2.1) U).set (Int.toNat K.1) Z),ac))) else(some (.done O.1))
def f84(fu_:Nat)(p0:AT):Option ((List Int)):= Option.bind (iter (TJ fu_ p0) fu_ ((List.replicate 5 (0:Int)),0)) λK=> some K
theorem Ma{a1:Ao}{c2:Nat}{a8:Ao}{a9:Nat}{p0:AT}(cR:Al (rL rI) E a1 c2 p0.1)(b6:Al Au E a8 a9 p0.2){fu_:Nat}{r:(List Int)}(bv:f84 fu_ p0=some r):AM J 55 [.agg #[sV a1 p0.1 c2,sV a8 p0.2 a9]] E [] (λw E' B'=>∃(bw:Lv_),w= .agg bw.toArray/\B'= []/\(rA 5 rI).r E' bw r):=by
 refine Be func55 λQ cT cs H b7 b8=>?_;unfold f84 at bv;refine C 2 rfl (CC b7 λcV a2 bx b9 ca=>?_);refine Bz ca Hm λa3 cb=>?_;refine C 3 rfl (Bz cb Hm λU cc=>?_);refine C 4 rfl (JL.fd underlying78 BP rfl rfl rfl ?_);refine BQ 1 b9 underlying28 EX Gv ?_;refine JL.ln underlying26 rfl rfl rfl ?_;obtain⟨cd,ce,cf⟩:=bs bv;refine C 2 rfl (Bu (λL s=>∃(aw:LH) (V:Lv_),Jn a2 H aw [bX a3 (([]:Lv_)++(List.replicate 5 (iV 0):Lv_)).toArray 82,bX U (([]:Lv_)++V).toArray 82] [(2,Ak a3 0),(3,Ak U 0)] L s ((rA 5 rI).r aw V cd)) ?_ ?_)
 ·rintro _ _ ⟨aw,V,rfl,rfl,cg,bz,Z⟩;refine C 2 rfl (Am (v:= .agg V.toArray) rfl (λρ h=>F0 (kk:=5) (pp:=rI) Z Gd Gx (h _ _ rfl) (Gh (l:= []) 1 bz rfl)) ?_);refine FM (v:= .agg V.toArray) (l:= []) (ws:=(List.replicate 5 (iV 0):Lv_)) (us:=V) (o:=0) 0 rfl rfl rfl bz rfl rfl rfl (by rw [BG (kk:=5) (pp:=rI) Z];exact AJ type82) ((rA 5 rI).one Z) rfl (by rw [BG (kk:=5) (pp:=rI) Z,BG (kk:=5) (pp:=rI) (Ez (E:=aw) (pp:=rI) rfl)];omega) λbY=>?_;rw [Ho (by rw [BG (kk:=5) (pp:=rI) Z,BG (kk:=5) (pp:=rI) (Ez (E:=aw) (pp:=rI) rfl)])] at bY ⊢;refine JL.done (JS.drop 1 bY rfl λbZ=>?_);obtain rfl:=oi cf;refine JL.ret (v:= .agg V.toArray) rfl rfl (BB.list func55 rfl (vs:= [.agg V.toArray]) ⟨⟨_,rfl,Ld.many (vs:=V) Gd (by rw [BG (kk:=5) (pp:=rI) Z];exact AJ type82) (Gh (l:= []) 0 bZ rfl)⟩,trivial⟩) (DF 0 bZ rfl λci=>?_);exact b8 (bx.Ad cg) rfl ⟨V,rfl,rfl,Z⟩ ci
 ·intro ck;refine JL.block (CZ ce (λL s ag=>∃(a4:LH) (al:Lv_),Jn a2 H a4 [bX a3 (([]:Lv_)++(List.replicate 5 (iV 0):Lv_)).toArray 82,bX U (([]:Lv_)++al).toArray 82] [(2,Ak a3 0),(3,Ak U 0),(8,sV a8 p0.2 a9),(9,iV (p0.2.length:Int)),(10,iV ag.2)] L s ((rA 5 rI).r a4 al ag.1)) ⟨a2,(List.replicate 5 (iV 0):Lv_),rfl,rfl,AA,cc,(Ez (E:=a2) (pp:=rI) rfl)⟩ ?_);rintro _ _ ag ⟨a4,al,rfl,rfl,bb,b0,am⟩ cm ⟨cW,bd⟩ cn;have b1:=bd;unfold TJ at b1;refine C 5 rfl (AU b1 (λco cp=>?_) (λco cq=>?_))
  ·obtain⟨K,cr,ct⟩:=bs cp;refine C 5 rfl (Dp (b6.Ag (bx.Ad bb)) cr underlying26 Bi ?_);rintro cX cY _ ⟨_,_,rfl,rfl,⟨_,_,rfl,rfl,rfl⟩⟩ cu;refine BT cu Ds Bi rfl rfl (Bz b0 BM λcZ cv=>?_);refine Bv 2 cv Bi λcw=>?_;refine B7 2 cw rfl λbe ap a5 ay=>C 2 rfl (FR 6 [U] ⟨⟨1,_,rfl⟩,trivial⟩ ay λO=>?_);refine JG.fd 0 O underlying42 Ay rfl rfl rfl rfl (JG.lp 1 O 1 a5 ay ⟨⟨1,_,rfl⟩,trivial⟩ Bb ?_);obtain⟨cy,b2,cz⟩:=bs ct;obtain⟨_,rfl,_,_,cA⟩:=GA (kk:=5) (pp:=rI) (Rp.Ag _ ap am) b2;refine AN (v:= .pointer (some ⟨U,0+Int.toNat (K.2.1)*1,none⟩)) 2 O rfl rfl (λρ h s' az=>Hp (kk:=5) (pp:=rI) (Rp.Ag _ ap am) b2 underlying82 Ay (h _ _ rfl) (h _ _ rfl)) (AN (v:=iV cy) 3 O rfl rfl (λρ h s' az=>Yl.load Bb (h _ _ rfl) (LC (l:= []) 1 ay rfl (by simp [AG]) az (cA 0 _ rfl))) ?_);refine JG.fd 4 O underlying42 Ay rfl rfl rfl rfl (JG.lp 5 O 2 a5 ay ⟨⟨1,_,rfl⟩,trivial⟩ Bb ?_);refine Cz [6,7,8] ?_;obtain⟨Y,cB,cC⟩:=bs cz;refine Bn cB rfl rfl rfl ?_;obtain⟨c0,bi,cD⟩:=bs cC;obtain⟨_,rfl,_,_,c1⟩:=GA (kk:=5) (pp:=rI) (Rp.Ag _ ap am) bi;refine Am (v:= .pointer (some ⟨U,0+Int.toNat (K.2.1)*1,none⟩)) rfl (λρ h=>Hp (kk:=5) (pp:=rI) (Rp.Ag _ ap am) bi underlying82 Ay (h _ _ rfl) (h _ _ rfl)) ?_;have a6:=LX (us:= [iV Y]) (y:=Y) (Rp.Ag _ ap am) bi rfl;refine FM (v:=iV Y) (l:= []) (ws:=al) (us:= [iV Y]) (o:=Int.toNat (K.2.1)*1) 1 rfl rfl rfl ay rfl rfl rfl Ay (by simp [Value.cells,B3]) rfl a6.2 λaq=>?_;replace a6:=a6.1;generalize cE:HH al (Int.toNat (K.2.1)*1) [iV Y]=bn at aq ⊢;have a0:(rA 5 rI).r be bn (ag.1.set (Int.toNat K.2.1) Y):=by rw [← cE];exact a6
   refine JL.done (FR 6 [U] ⟨⟨1,_,rfl⟩,trivial⟩ aq λO=>?_);refine JG.fd 0 O underlying42 Ay rfl rfl rfl rfl (JG.lp 1 O 0 a5 aq ⟨⟨1,_,rfl⟩,trivial⟩ Bb ?_);obtain⟨cF,b3,cG⟩:=bs cD;obtain⟨_,rfl,_,_,cH⟩:=GA (kk:=5) (pp:=rI) a0 b3;refine AN (v:= .pointer (some ⟨U,0+Int.toNat (K.1)*1,none⟩)) 2 O rfl rfl (λρ h s' az=>Hp (kk:=5) (pp:=rI) a0 b3 underlying82 Ay (h _ _ rfl) (h _ _ rfl)) (AN (v:=iV cF) 3 O rfl rfl (λρ h s' az=>Yl.load Bb (h _ _ rfl) (LC (l:= []) 1 aq rfl (by simp [AG]) az (cH 0 _ rfl))) ?_);refine JG.fd 4 O underlying42 Ay rfl rfl rfl rfl (JG.lp 5 O 2 a5 aq ⟨⟨1,_,rfl⟩,trivial⟩ Bb ?_);refine Cz [6,7,8] ?_;obtain⟨ac,cI,cJ⟩:=bs cG;refine Dh cI rfl rfl rfl ?_;obtain⟨c3,bo,cK⟩:=bs cJ;obtain⟨_,rfl,_,_,c4⟩:=GA (kk:=5) (pp:=rI) a0 bo;refine Am (v:= .pointer (some ⟨U,0+Int.toNat (K.1)*1,none⟩)) rfl (λρ h=>Hp (kk:=5) (pp:=rI) a0 bo underlying82 Ay (h _ _ rfl) (h _ _ rfl)) ?_;have a7:=LX (us:= [iV ac]) (y:=ac) a0 bo rfl;refine FM (v:=iV ac) (l:= []) (ws:=bn) (us:= [iV ac]) (o:=Int.toNat (K.1)*1) 1 rfl rfl rfl aq rfl rfl rfl Ay (by simp [Value.cells,B3]) rfl a7.2 λb4=>?_;replace a7:=a7.1;generalize cM:HH bn (Int.toNat (K.1)*1) [iV ac]=b5 at b4 ⊢;have cN:(rA 5 rI).r be b5 ((ag.1.set (Int.toNat K.2.1) Y).set (Int.toNat K.1) ac):=by rw [← cM];exact a7
   obtain⟨cO,cP,cQ⟩:=bs cK;refine C 3 rfl (Bn cP rfl rfl rfl ?_);refine C 2 rfl ?_;obtain rfl:=oi cQ;exact Az (cn _ _ (((ag.1.set (Int.toNat K.2.1) Y).set (Int.toNat K.1) ac),cO) ⟨be,b5,rfl,rfl,(bb.Ad ap),b4,cN⟩ bd) rfl
  ·refine JL.exit rfl ?_;obtain rfl:=oi cq;obtain rfl:=cm _ bd;exact Az (ck _ _ ⟨a4,al,rfl,rfl,bb,b0,am⟩) rfl
def f204(fu_:Nat)(p0:List Int)(p1:Int×Int×Int):Option ((List Int)):= (ix p0 p1.1).bind λO=> (Av (O+p1.2.2)).bind λK=> (ix p0 p1.1).bind λY=> (ix (p0.set (Int.toNat p1.1) K) p1.2.1).bind λU=> (Av (U - p1.2.2)).bind λV=> (ix (p0.set (Int.toNat p1.1) K) p1.2.1).bind λZ=> some ((p0.set (Int.toNat p1.1) K).set (Int.toNat p1.2.1) V)
theorem Hx{w1:Lv_}{p0:List Int}{p1:Int×Int×Int}(ag:(rA 5 rI).r E w1 p0){fu_:Nat}{r:(List Int)}(a4:f204 fu_ p0 p1=some r):AM J 92 [.agg w1.toArray,.agg #[iV p1.1,iV p1.2.1,iV p1.2.2]] E [] (λw E' B'=>∃(a5:Lv_),w= .agg a5.toArray/\B'= []/\(rA 5 rI).r E' a5 r):=by
 refine Be func92 λQ b7 cs H bb bd=>?_;unfold f204 at a4;refine C 2 rfl (JS.box (v:= .agg w1.toArray) rfl rfl rfl bb rfl λr3 be=>?_);refine CC be λb8 aq Y aw bi=>?_;refine Bz bi Hm λb9 al=>?_;refine C 2 rfl (FR 6 [r3] ⟨⟨1,_,rfl⟩,trivial⟩ al λK=>?_);refine JG.fd 0 K underlying42 Ay rfl rfl rfl rfl (JG.lp 1 K 0 aw al ⟨⟨1,_,rfl⟩,trivial⟩ Bb ?_);obtain⟨bn,a6,bo⟩:=bs a4;obtain⟨_,rfl,_,_,bv⟩:=GA (kk:=5) (pp:=rI) (Rp.Ag _ Y ag) a6;refine AN (v:= .pointer (some ⟨r3,0+Int.toNat (p1.1)*1,none⟩)) 2 K rfl rfl (λρ h s' am=>Hp (kk:=5) (pp:=rI) (Rp.Ag _ Y ag) a6 underlying82 Ay (h _ _ rfl) (h _ _ rfl)) (AN (v:=iV bn) 3 K rfl rfl (λρ h s' am=>Yl.load Bb (h _ _ rfl) (LC (l:= []) 1 al rfl (by simp [AG]) am (bv 0 _ rfl))) ?_);refine JG.fd 4 K underlying42 Ay rfl rfl rfl rfl (JG.lp 5 K 2 aw al ⟨⟨1,_,rfl⟩,trivial⟩ Bb ?_);refine Cz [6,7,8] ?_;obtain⟨U,bw,bx⟩:=bs bo;refine Bn bw rfl rfl rfl ?_;obtain⟨ca,a0,bz⟩:=bs bx;obtain⟨_,rfl,_,_,cb⟩:=GA (kk:=5) (pp:=rI) (Rp.Ag _ Y ag) a0;refine Am (v:= .pointer (some ⟨r3,0+Int.toNat (p1.1)*1,none⟩)) rfl (λρ h=>Hp (kk:=5) (pp:=rI) (Rp.Ag _ Y ag) a0 underlying82 Ay (h _ _ rfl) (h _ _ rfl)) ?_;have ay:=LX (us:= [iV U]) (y:=U) (Rp.Ag _ Y ag) a0 rfl;refine FM (v:=iV U) (l:= []) (ws:=w1) (us:= [iV U]) (o:=Int.toNat (p1.1)*1) 1 rfl rfl rfl al rfl rfl rfl Ay (by simp [Value.cells,B3]) rfl ay.2 λZ=>?_;replace ay:=ay.1;generalize bY:HH w1 (Int.toNat (p1.1)*1) [iV U]=a1 at Z ⊢;have ap:(rA 5 rI).r aq a1 (p0.set (Int.toNat p1.1) U):=by rw [← bY];exact ay
 refine C 2 rfl (FR 6 [r3] ⟨⟨1,_,rfl⟩,trivial⟩ Z λK=>?_);refine JG.fd 0 K underlying42 Ay rfl rfl rfl rfl (JG.lp 1 K 1 aw Z ⟨⟨1,_,rfl⟩,trivial⟩ Bb ?_);obtain⟨bZ,a7,b0⟩:=bs bz;obtain⟨_,rfl,_,_,b1⟩:=GA (kk:=5) (pp:=rI) ap a7;refine AN (v:= .pointer (some ⟨r3,0+Int.toNat (p1.2.1)*1,none⟩)) 2 K rfl rfl (λρ h s' am=>Hp (kk:=5) (pp:=rI) ap a7 underlying82 Ay (h _ _ rfl) (h _ _ rfl)) (AN (v:=iV bZ) 3 K rfl rfl (λρ h s' am=>Yl.load Bb (h _ _ rfl) (LC (l:= []) 1 Z rfl (by simp [AG]) am (b1 0 _ rfl))) ?_);refine JG.fd 4 K underlying42 Ay rfl rfl rfl rfl (JG.lp 5 K 2 aw Z ⟨⟨1,_,rfl⟩,trivial⟩ Bb ?_);refine Cz [6,7,8] ?_;obtain⟨ac,b2,b3⟩:=bs b0;refine Dh b2 rfl rfl rfl ?_;obtain⟨cc,a2,b4⟩:=bs b3;obtain⟨_,rfl,_,_,cd⟩:=GA (kk:=5) (pp:=rI) ap a2;refine Am (v:= .pointer (some ⟨r3,0+Int.toNat (p1.2.1)*1,none⟩)) rfl (λρ h=>Hp (kk:=5) (pp:=rI) ap a2 underlying82 Ay (h _ _ rfl) (h _ _ rfl)) ?_;have az:=LX (us:= [iV ac]) (y:=ac) ap a2 rfl;refine FM (v:=iV ac) (l:= []) (ws:=a1) (us:= [iV ac]) (o:=Int.toNat (p1.2.1)*1) 1 rfl rfl rfl Z rfl rfl rfl Ay (by simp [Value.cells,B3]) rfl az.2 λa3=>?_;replace az:=az.1;generalize b5:HH a1 (Int.toNat (p1.2.1)*1) [iV ac]=O at a3 ⊢;have V:(rA 5 rI).r aq O ((p0.set (Int.toNat p1.1) U).set (Int.toNat p1.2.1) ac):=by rw [← b5];exact az
 refine C 3 rfl (Am (v:= .agg O.toArray) rfl (λρ h=>F0 (kk:=5) (pp:=rI) V Gd Gx (h _ _ rfl) (Gh (l:= []) 1 a3 rfl)) ?_);refine FM (v:= .agg O.toArray) (l:= []) (ws:=(List.replicate 5 (iV 0):Lv_)) (us:=O) (o:=0) 3 rfl rfl rfl a3 rfl rfl rfl (by rw [BG (kk:=5) (pp:=rI) V];exact AJ type82) ((rA 5 rI).one V) rfl (by rw [BG (kk:=5) (pp:=rI) V,BG (kk:=5) (pp:=rI) (Ez (E:=aq) (pp:=rI) rfl)];omega) λa8=>?_;rw [Ho (by rw [BG (kk:=5) (pp:=rI) V,BG (kk:=5) (pp:=rI) (Ez (E:=aq) (pp:=rI) rfl)])] at a8 ⊢;refine JL.done (JS.drop 1 a8 rfl λa9=>?_);obtain rfl:=oi b4;refine JL.ret (v:= .agg O.toArray) rfl rfl (BB.list func92 rfl (vs:= [.agg O.toArray]) ⟨⟨_,rfl,Ld.many (vs:=O) Gd (by rw [BG (kk:=5) (pp:=rI) V];exact AJ type82) (Gh (l:= []) 3 a9 rfl)⟩,trivial⟩) (DF 3 a9 rfl λb6=>?_);exact bd Y rfl ⟨O,rfl,rfl,V⟩ b6
def f106(fu_:Nat)(p0:Int)(p1:Int):Option Nat:= (Av (max p0 p1 - 1)).bind λK=> (ix ([1,2,4,8]:List Nat) K).bind λO=> (Av (4*(min p0 p1))).bind λU=> (Pv O U).bind λV=> some V
theorem Pe{p0:Int}{p1:Int}{fu_:Nat}{r:Nat}(K:f106 fu_ p0 p1=some r):AM J 88 [iV p0,iV p1] E [] (λw E' B'=>w= .int .u32 ((r:Nat):Int)/\B'= []):=by
 refine Be func88 λQ aw cs H O U=>?_;unfold f106 at K;refine C 8 rfl (Am (v:=iV (min p0 p1)) rfl (λρ h=>Yl.min2 (h _ _ rfl) (h _ _ rfl)) ?_);refine C 2 rfl (Am (v:=iV (max p0 p1)) rfl (λρ h=>Yl.max2 (h _ _ rfl) (h _ _ rfl)) ?_);refine C 5 rfl (Am (v:= .agg (([1,2,4,8]:List Nat).map λx=>Value.int .u32 ((x:Nat):Int)).toArray) rfl (λρ h=>Yj h underlying173 (C5 type173) (AJ type94) rfl rfl) ?_);obtain⟨ay,V,Y⟩:=bs K;refine C 1 rfl (Dh V rfl rfl rfl ?_);obtain⟨az,Z,ac⟩:=bs Y;refine Tn (YB (E:=E) ([1,2,4,8]:List Nat)) Z rfl rfl rfl rfl rfl underlying173 (AJ type94) (Cm underlying94) ?_ (λ_=>rfl);rintro _ rfl;obtain⟨a0,ag,al⟩:=bs ac;refine C 1 rfl (Am rfl (λρ h=>M7 (h _ _ rfl) (h _ _ rfl) ag) ?_);obtain⟨am,ap,aq⟩:=bs al;refine Am (v:= .int .u32 ((am:Nat):Int)) rfl (λρ h=>WB (h _ _ rfl) (h _ _ rfl) ap) (C 2 rfl ?_);obtain rfl:=oi aq;exact AS func88 rfl rfl (U AA rfl ⟨rfl,rfl⟩ O)
def f136(fu_:Nat)(p0:Nat)(p1:Int)(p2:Int):Option Bool:= (f106 fu_ p1 p2).bind λK=> (Pg p0 K).bind λO=> some (decide ((((O):Nat):Int)≠(((0):Nat):Int)))
theorem S8{p0:Nat}{p1:Int}{p2:Int}{fu_:Nat}{r:Bool}(K:f136 fu_ p0 p1 p2=some r):AM J 90 [.int .u32 ((p0:Nat):Int),iV p1,iV p2] E [] (λw E' B'=>w= .bool r/\B'= []):=by
 refine Be func90 λQ ap cs H O U=>?_;unfold f136 at K;obtain⟨aq,V,Y⟩:=bs K;refine C 9 rfl (BH (Pe V) rfl rfl N6 O λaw Z ac=>?_);obtain⟨ag,al,am⟩:=bs Y;refine Am (v:= .int .u32 ((ag:Nat):Int)) rfl (λρ h=>VT (h _ _ rfl) (h _ _ rfl) al) (C 3 rfl ?_);obtain rfl:=oi am;exact AS func90 rfl rfl (U Z rfl ⟨rfl,rfl⟩ ac)
def R8(fu_:Nat)(O:(AK)×Int)(K:(AK)×Int):Option (Bq ((AK)×Int) ((AK))):= if K.2<O.2 then((room K.1 (K.2,O.2)).bind λU=> (Av (K.2+1)).bind λV=> some (.more (U,V))) else(some (.done K.1))
def R5(fu_:Nat)(p0:AT)(K:(AK)×Int):Option (Bq ((AK)×Int) ((AK))):= if K.2<(p0.1.length:Int) then(Option.bind (iter (R8 fu_ K) fu_ (K.1,0)) λO=> (Av (K.2+1)).bind λU=> some (.more (O,U))) else(some (.done K.1))
def f133(fu_:Nat)(p0:AT):Option ((AK)):= Option.bind (iter (R5 fu_ p0) fu_ ([],0)) λK=> some K
theorem Y3{a1:Ao}{c2:Nat}{a8:Ao}{a9:Nat}{p0:AT}(cO:Al (rL rI) E a1 c2 p0.1)(cP:Al Au E a8 a9 p0.2){fu_:Nat}{r:(AK)}(bb:f133 fu_ p0=some r):AM J 143 [.agg #[sV a1 p0.1 c2,sV a8 p0.2 a9]] E [] (λw E' B'=>∃(bd:Ao) (be:Nat),w= sV bd r be/\B'= []/\Al Dm E' bd be r):=by
 refine Be func143 λQ cQ cs H b0 b1=>?_;unfold f133 at bb;refine C 2 rfl (CC b0 λcR a2 b2 b3 b4=>?_);refine C 9 rfl (JL.fd underlying78 BP rfl rfl rfl ?_);refine BQ 0 b3 underlying28 Cc CJ ?_;refine JL.ln underlying25 rfl rfl rfl ?_;obtain⟨bi,b5,b6⟩:=bs bb;refine C 2 rfl (Bu (λL s=>∃(a3:LH) (am:Ao) (ap:Nat) (a4:Seg),Jn a2 H a3 [a4] [(3,sV am bi ap)] L s (OL 122 Dm a3 am ap a4 bi)) ?_ ?_)
 ·rintro _ _ ⟨a3,am,ap,a4,rfl,rfl,b7,b8,b9⟩;refine C 5 rfl (Bd 0 b9 b8 rfl λcT ca cb cc=>?_);obtain rfl:=oi b6;exact AS func143 rfl rfl (b1 ((b2.Ad b7).Ad ca) rfl ⟨am,ap,rfl,rfl,cb⟩ cc)
 ·intro cd;refine JL.block (CZ b5 (λL s K=>∃(O:LH) (V:Ao) (Y:Nat) (Z:Seg),Jn a2 H O [Z] [(3,sV V K.1 Y),(9,iV (p0.1.length:Int)),(10,iV K.2)] L s (OL 122 Dm O V Y Z K.1)) ⟨a2,none,0,[],rfl,rfl,AA,b4,OL.nil⟩ ?_);rintro _ _ K ⟨O,V,Y,Z,rfl,rfl,bn,bo,bv⟩ ce ⟨cV,a5⟩ cf;have bw:=a5;unfold R5 at bw;refine C 5 rfl (AU bw (λcg ci=>?_) (λcg ck=>?_))
  ·obtain⟨a6,cm,cn⟩:=bs ci;refine C 13 rfl (Bu (λL s=>∃(aq:LH) (aw:Ao) (ay:Nat) (az:Seg),Jn O H aq [az] [(3,sV aw a6 ay),(9,iV (p0.1.length:Int)),(10,iV K.2)] L s (OL 122 Dm aq aw ay az a6)) ?_ ?_)
   ·rintro _ _ ⟨aq,aw,ay,az,rfl,rfl,co,cp,cq⟩;obtain⟨cr,ct,cu⟩:=bs cn;refine C 2 rfl (Bn ct rfl rfl rfl ?_);refine C 2 rfl ?_;obtain rfl:=oi cu;exact Az (cf _ _ (a6,cr) ⟨aq,aw,ay,az,rfl,rfl,(bn.Ad co),cp,cq⟩ a5) rfl
   ·intro cv;refine JL.block (CZ cm (λL s U=>∃(ac:LH) (ag:Ao) (al:Nat) (a0:Seg),Jn O H ac [a0] [(3,sV ag U.1 al),(4,iV K.2),(9,iV (p0.1.length:Int)),(10,iV K.2),(13,iV K.2),(14,iV U.2)] L s (OL 122 Dm ac ag al a0 U.1)) ⟨O,V,Y,Z,rfl,rfl,AA,bo,bv⟩ ?_);rintro _ _ U ⟨ac,ag,al,a0,rfl,rfl,bx,bz,bY⟩ cw ⟨cW,a7⟩ cy;have bZ:=a7;unfold R8 at bZ;refine C 5 rfl (AU bZ (λcz cA=>?_) (λcz cB=>?_))
    ·refine C 12 rfl (Am (v:= .agg #[iV U.2,iV K.2]) rfl (λρ h=>Ch [(0,1),(1,1)] h Hi underlying122 ⟨rfl,AJ type3,rfl,AJ type3,trivial⟩ rfl rfl) ?_);obtain⟨cC,cD,cE⟩:=bs cA;refine JS.app (pp:=Dm) (v:= .agg #[iV U.2,iV K.2]) (a:=ag) (c:=al) 0 cD rfl rfl rfl rfl (λ_=>rfl) rfl (λ_=>rfl) rfl rfl rfl underlying205 underlying205 underlying205 Fw (Dt type122) Hi rfl (by decide) (by decide) (by decide) (by decide) bY ⟨_,_,rfl,rfl,rfl⟩ bz rfl λcX cF cG cH cI cJ=>?_;obtain⟨cK,cM,cN⟩:=bs cE;refine C 4 rfl (Bn cM rfl rfl rfl ?_);refine C 2 rfl ?_;obtain rfl:=oi cN;exact Az (cy _ _ (cC,cK) ⟨ac,cF,cG,cH,rfl,rfl,bx,cJ,cI⟩ a7) rfl
    ·refine JL.exit rfl ?_;obtain rfl:=oi cB;obtain rfl:=cw _ a7;exact Az (cv _ _ ⟨ac,ag,al,a0,rfl,rfl,bx,bz,bY⟩) rfl
  ·refine JL.exit rfl ?_;obtain rfl:=oi ck;obtain rfl:=ce _ a5;exact Az (cd _ _ ⟨O,V,Y,Z,rfl,rfl,bn,bo,bv⟩) rfl
def f113(fu_:Nat)(p0:Int×Int×Int)(p1:Int×Int×Int):Option Int:= if p0.1≠p1.1 then((Av (p0.1 - p1.1)).bind λK=> some K) else(if p0.2.1≠p1.2.1 then((Av (p0.2.1 - p1.2.1)).bind λO=> some O) else((Av (p0.2.2 - p1.2.2)).bind λU=> some U))
theorem Tv{p0:Int×Int×Int}{p1:Int×Int×Int}{fu_:Nat}{r:Int}(ac:f113 fu_ p0 p1=some r):AM J 105 [.agg #[iV p0.1,iV p0.2.1,iV p0.2.2],.agg #[iV p1.1,iV p1.2.1,iV p1.2.2]] E [] (λw E' B'=>w=iV r/\B'= []):=by
 refine Be func105 λQ a6 cs H ag V=>?_;unfold f113 at ac;refine C 2 rfl (CC ag λr2 a7 Y O al=>?_);refine CC al λa8 a9 K U Z=>?_;refine C 6 rfl (BQ 0 (O.Ag K) underlying42 Ay Bb ?_);refine BQ 0 U underlying42 Ay Bb ?_;refine C 3 rfl (AU ac (λam ap=>?_) (λam aq=>?_))
 ·refine C 2 rfl (BQ 0 (O.Ag K) underlying42 Ay Bb ?_);refine BQ 0 U underlying42 Ay Bb ?_;obtain⟨bb,aw,ay⟩:=bs ap;refine Dh aw rfl rfl rfl (C 2 rfl ?_);obtain rfl:=oi ay;exact AS func105 rfl rfl (V (Y.Ad K) rfl ⟨rfl,rfl⟩ Z)
 ·refine C 2 rfl (BQ 1 (O.Ag K) underlying42 Ay Bb ?_);refine BQ 1 U underlying42 Ay Bb ?_;refine C 3 rfl (AU aq (λaz a0=>?_) (λaz a1=>?_))
  ·refine C 2 rfl (BQ 1 (O.Ag K) underlying42 Ay Bb ?_);refine BQ 1 U underlying42 Ay Bb ?_;obtain⟨bd,a2,a3⟩:=bs a0;refine Dh a2 rfl rfl rfl (C 2 rfl ?_);obtain rfl:=oi a3;exact AS func105 rfl rfl (V (Y.Ad K) rfl ⟨rfl,rfl⟩ Z)
  ·refine C 4 rfl (BQ 2 (O.Ag K) underlying42 Ay Bb ?_);refine BQ 2 U underlying42 Ay Bb ?_;obtain⟨be,a4,a5⟩:=bs a1;refine Dh a4 rfl rfl rfl (C 2 rfl ?_);obtain rfl:=oi a5;exact AS func105 rfl rfl (V (Y.Ad K) rfl ⟨rfl,rfl⟩ Z)
def Ts(fu_:Nat)(p0:List Int)(K:Int×Int):Option (Bq (Int×Int) Int):= if K.2<(p0.length:Int) then((ix p0 K.2).bind λO=> (Av (K.1+O)).bind λU=> (Av (K.2+1)).bind λV=> some (.more (U,V))) else(some (.done K.1))
def f85(fu_:Nat)(p0:List Int):Option Int:= Option.bind (iter (Ts fu_ p0) fu_ (0,0)) λK=> some K
theorem Hz{a1:Ao}{c2:Nat}{p0:List Int}(ac:Al rI E a1 c2 p0){fu_:Nat}{r:Int}(V:f85 fu_ p0=some r):AM J 60 [sV a1 p0 c2] E [] (λw E' B'=>w=iV r/\B'= []):=by
 refine Be func60 λQ bo cs H ag al=>?_;unfold f85 at V;refine C 12 rfl (JL.ln underlying22 rfl rfl rfl ?_);obtain⟨am,ap,aq⟩:=bs V;refine C 2 rfl (Ec [] [(3,iV am)] (λbv aw ay=>?_) (λaz=>?_))
 ·refine C 5 rfl ?_;obtain rfl:=oi aq;exact AS func60 rfl rfl (al aw rfl ⟨rfl,rfl⟩ ay)
 ·refine JL.block (Dx ap (λK=> []) (λK=> [(3,iV K.1),(6,sV a1 p0 c2),(7,iV (p0.length:Int)),(8,iV K.2)]) AA ag ?_);rintro K bw O Y a0 ⟨bx,U⟩ a2;have Z:=U;unfold Ts at Z;refine C 5 rfl (AU Z (λa3 a4=>?_) (λa3 a5=>?_))
  ·obtain⟨bz,a6,a7⟩:=bs a4;refine C 5 rfl (Dp (ac.Ag O) a6 underlying22 Ay ?_);rintro bY bZ _ rfl a8;refine CG 0 a8 Bb rfl rfl rfl ?_;obtain⟨a9,bb,bd⟩:=bs a7;refine C 5 rfl (Bn bb rfl rfl rfl ?_);obtain⟨be,bi,bn⟩:=bs bd;refine C 4 rfl (Bn bi rfl rfl rfl ?_);refine C 2 rfl ?_;obtain rfl:=oi bn;exact a2 (a9,be) O Y rfl U
  ·refine JL.exit rfl ?_;obtain rfl:=oi a5;obtain rfl:=a0 _ U;exact az O Y rfl
end Pal
namespace Pal
open Go Go.Conc
variable {P:Program}{Q:Gs_}{b:Frame}{n:Nat}{ds:Ld_}{ops:Ao_}{k:Li_}{cs:Lf_}{L:Env}{E H:LH}{S:List Seg}
variable {d:Option Tmp}{w:Operand}{t u ty:TypeId}{p:String}{af:Ae_}{g:On_}{rest:List Nat}{s:St}{ρ:Operand->Value}
section
variable {J:Judge P}
variable {x y:Operand}{e:TypeId}{i:Nat}
theorem Al.bQ{α:Type}{pp:Rp α}{kk bk o:Nat}{ws:Lv_}{xs ys:List α}{hi:Int}(U:At E bk o ws)(O:(rA kk pp).r E ws xs)(hC:G9 xs 0 hi=some ys):Al pp E (some ⟨bk,o,none⟩) kk ys:=by
 have ac:=O.1;unfold G9 at hC;split at hC
 ·rename_i hb;cases hC;refine⟨by simp;omega,.inr ⟨bk,o,rfl,λq z K=>?_⟩⟩;simp only [Int.toNat_zero,List.drop_zero,List.getElem?_take] at K;split at K
  ·have V:ix xs (q:Int)=some z:=by unfold ix;rw [if_pos (by omega)];simpa using K
   obtain⟨us,Y,Z,_,_⟩:=T0 O U V;exact⟨us,Y,by simpa using Z⟩
  ·cases K
 ·cases hC
theorem X7{α:Type}{pp:Rp α}{kk bk o:Nat}{ws:Lv_}{xs ys:List α}{hi:Int}(U:At E bk o ws)(K:(rA kk pp).r E ws xs)(hC:G9 xs 0 hi=some ys)
  (V:ops[i]? =some ⟨d,.slice t x none (some w) none,ty,p,af,g⟩) (hw:AR L ops ⟨d,.slice t x none (some w) none,ty,p,af,g⟩=some true) (Y:BJ b n ⟨d,.slice t x none (some w) none,ty,p,af,g⟩=true)
  (Z:ev L x=some (.pointer (some ⟨bk,o,none⟩))) (ac:ev L w=some (iV hi)) (ag:P.underlying t=some (.array kk e)) (al:Bo P e=some pp.n)
  (h:Al pp E (some ⟨bk,o,none⟩) kk ys->JL J Q b n (As L d (.slice (some ⟨bk,o,none⟩) ys.length kk)) ds (.inRegion ops rest::k) cs s):
  JL J Q b n L ds (.inRegion ops (i::rest)::k) cs s:=by
 have am:=Al.bQ U K hC;have aw:=K.1;refine A4 V hw Y (λρ O=>?_) (h am);refine EN (sm:=Instr.sliceAt t (ρ x) none (some (ρ w)) none) rfl ?_;rw [O _ _ Z,O _ _ ac];unfold G9 at hC;split at hC
 ·rename_i hb;cases hC;obtain⟨ay,az,a0⟩:=hb;unfold Instr.sliceAt;refine Ar _ _ (Ce ag ?_);simp only [Instr.sureAddr,bind,Sem.bind,pure];have ap:Instr.sliceBounds false kk kk none (some (iV hi)) none=(pure (0,hi.toNat,kk):Sem _):=by
   simp only [Instr.sliceBounds,Instr.sliceBound,asIntOf,bind,Sem.bind,pure];rw [if_pos (by omega)];rfl
  rw [ap];simp only [pure,Sem.bind];refine Ar (x:=Go.sizeOf e) _ (EJ al ?_);have aq:(if kk=0 then(⟨bk,o,none⟩:Addr) else Addr.add ⟨bk,o,none⟩ (0*pp.n))=⟨bk,o,none⟩:=by
   split
   ·rfl
   ·rw [Ei rfl];simp
  rw [aq];have e2:((xs.take hi.toNat).drop (0:Int).toNat).length=hi.toNat - 0:=by simp;omega
  rw [e2];exact⟨rfl,rfl⟩
 ·cases hC
theorem We{a:Option Addr}{l c:Nat}(K:P.underlying t=some (.slice e))(O:ρ x= .slice a l c)(U:ρ (.const (.slice none 0 0))= .slice none 0 0):Yl P ⟨d,.binOp .neq t x (.const (.slice none 0 0)) u,ty,p,af,g⟩ ρ s (.bool (!a.isNone)):=by
 have V:∀o,eqGuard o t x (.const (.slice none 0 0)) (.slice a l c) (.slice none 0 0)=Sem.pure ():=λo=>by cases o <;> rfl
 refine EN (sm:=do eqGuard .neq t x (.const (.slice none 0 0)) (ρ x) (ρ (.const (.slice none 0 0)));binOp .neq t (ρ x) (ρ (.const (.slice none 0 0)))) rfl ?_
 rw [O,U,V];simp only [bind,Sem.bind];have hb:binOp .neq t (.slice a l c) (.slice none 0 0)=(do pure (.bool (!(← Op.equal t (.slice a l c) (.slice none 0 0))))):=rfl
 rw [hb];refine Ar (x:=Op.equal t _ _) _ ?_;unfold Op.equal Op.maxDepth Op.equalIn;refine Ar _ _ (Ce K ?_);cases a with
 | none=>exact⟨rfl,rfl⟩
 | some ad=>exact⟨rfl,rfl⟩
end
open Go.Proofs Go.Proofs.Tryz
variable {J:Judge Tryz.prog}
def Tr(fu_:Nat)(p0:AT)(p1:List Int)(K:Int):Option (Bq Int ((AT×Int)⊕(Unit))):= if K<(p1.length:Int) then((ix p1 K).bind λO=> (Av ((p0.1.length:Int) - 1)).bind λU=> (f91 fu_ O 0 U).bind λV=> if(!V)=true then(some (.done (Sum.inl (([],[]),3)))) else((Av (K+1)).bind λY=> some (.more Y))) else(some (.done (Sum.inr ())))
def f70(fu_:Nat)(p0:AT)(p1:List Int):Option (AT×Int):= (f47 fu_ p0).bind λK=> if K≠0 then(some (([],[]),K)) else(Option.bind (iter (Tr fu_ p0 p1) fu_ 0) λO=> Sum.elim (λr=>some r) (λZ=> Option.bind (if(p1.length:Int)=2 then((ix p1 (0)).bind λU=> (ix p1 (1)).bind λV=> some (decide (U=V))) else(some false)) λY=> if Y=true then(some (([],[]),8)) else(some (p0,0))) O)
theorem HD{a1:Ao}{c2:Nat}{V:Ao}{Y:Nat}{ag:Ao}{al:Nat}{p0:AT}{p1:List Int}(a4:Al (rL rI) E a1 c2 p0.1)(a5:Al Au E V Y p0.2)(aw:Al rI E ag al p1){fu_:Nat}{r:AT×Int}(a6:f70 fu_ p0 p1=some r):AM J 54 [.agg #[sV a1 p0.1 c2,sV V p0.2 Y],sV ag p1 al] E [] (λw E' B'=>∃(a7:Ao) (a8:Nat) (a9:Ao) (bb:Nat),w= .tuple #[.agg #[sV a7 r.1.1 a8,sV a9 r.1.2 bb],iV r.2]/\B'= []/\Al (rL rI) E' a7 a8 r.1.1/\Al Au E' a9 bb r.1.2):=by
 refine Be func54 λQ c3 cs H b6 ap=>?_;unfold f70 at a6;refine C 2 rfl (CC b6 λay c4 K az b7=>?_);refine Bz b7 FL λac b8=>?_;refine C 5 rfl (BT az Dk BP rfl rfl ?_);obtain⟨bd,b9,ca⟩:=bs a6;refine BH (JE (a4.Ag K) (a5.Ag K) b9) rfl rfl Jg b8 λcb O be=>C 7 rfl (AU ca (λcc cd=>?_) (λcc ce=>?_))
 ·refine C 2 rfl (Am (v:= .agg #[nS,nS]) rfl (λρ h=>Ch [(0,2)] h FL underlying78 ⟨rfl,AJ type28,trivial⟩ rfl rfl) ?_);refine C 1 rfl (Bv 2 be Cr λbi=>?_);refine C 2 rfl ?_;obtain rfl:=oi cd;refine JL.ret (v:= .tuple #[.agg #[nS,nS],iV bd]) rfl rfl (BB.list func54 rfl (vs:= [.agg #[nS,nS],iV bd]) ⟨⟨_,rfl,Ld.many (vs:= [nS,nS]) Ew Cr (EY (off:=0) 2 bi rfl rfl)⟩,rfl,trivial⟩) (DF 2 bi rfl λcf=>?_);exact ap (K.Ad O) rfl ⟨none,0,none,0,rfl,rfl,Al.nil,Al.nil⟩ cf
 ·refine C 5 rfl (JL.ln underlying22 rfl rfl rfl ?_);obtain⟨bn,cg,bo⟩:=bs ce;refine C 2 rfl (Bu (λL s=>∃(bv:Unit) (a0:LH),bn=Sum.inr bv/\Jm cb H a0 [bX ac #[nS,nS] 78] [(1,sV ag p1 al),(2,Ak ay 0),(4,Ak ac 0)] L s) ?_ ?_)
  ·rintro _ _ ⟨bv,a0,rfl,rfl,rfl,Z,bw⟩;have ci:=elim_inr bo;refine C 2 rfl (DK 12 λU=>?_);refine BR 0 U rfl rfl (AN 1 U rfl rfl (λρ h s' c5=>Yl.len rfl underlying22 (h _ _ rfl)) ?_);refine A3 U rfl [2,3] rfl ?_;obtain⟨ck,bx,cm⟩:=bs ci;refine DL 0 #[true,true,true,true,true,true,true,true,true,true,true,true] (λL s=>L= [(2,Ak ay 0),(4,Ak ac 0),(41,.bool ck)]/\s=Aj a0 H [bX ac #[nS,nS] 78]) ?_ ?_
   ·rintro _ _ ⟨rfl,rfl⟩;refine AO.fin (by decide+kernel) (Cd cm (λcn co=>?_) (λcn cp=>?_))
    ·refine C 2 rfl (Am (v:= .agg #[nS,nS]) rfl (λρ h=>Ch [(0,2)] h FL underlying78 ⟨rfl,AJ type28,trivial⟩ rfl rfl) ?_);refine Bv 0 bw Cr λbz=>?_;refine C 2 rfl ?_;obtain rfl:=oi co;refine JL.ret (v:= .tuple #[.agg #[nS,nS],iV 8]) rfl rfl (BB.list func54 rfl (vs:= [.agg #[nS,nS],iV 8]) ⟨⟨_,rfl,Ld.many (vs:= [nS,nS]) Ew Cr (EY (off:=0) 0 bz rfl rfl)⟩,rfl,trivial⟩) (DF 0 bz rfl λcq=>?_);exact ap ((K.Ad O).Ad Z) rfl ⟨none,0,none,0,rfl,rfl,Al.nil,Al.nil⟩ cq
    ·refine C 3 rfl (BT (az.Ag (O.Ad Z)) Dk BP rfl rfl ?_);refine Am (v:= .agg #[sV a1 p0.1 c2,sV V p0.2 Y]) rfl (λρ h=>Ch [(0,2)] h FL underlying78 ⟨rfl,AJ type28,trivial⟩ rfl rfl) (Bv 0 bw Cr λbY=>?_);refine C 2 rfl ?_;obtain rfl:=oi cp;refine JL.ret (v:= .tuple #[.agg #[sV a1 p0.1 c2,sV V p0.2 Y],iV 0]) rfl rfl (BB.list func54 rfl (vs:= [.agg #[sV a1 p0.1 c2,sV V p0.2 Y],iV 0]) ⟨⟨_,rfl,Ld.many (vs:= [sV a1 p0.1 c2,sV V p0.2 Y]) Ew Cr (EY (off:=0) 0 bY rfl rfl)⟩,rfl,trivial⟩) (DF 0 bY rfl λcr=>?_);exact ap ((K.Ad O).Ad Z) rfl ⟨a1,c2,V,Y,rfl,rfl,(a4.Ag ((K.Ad O).Ad Z)),(a5.Ag ((K.Ad O).Ad Z))⟩ cr
   ·intro bZ;refine Gy (q:=(p1.length:Int)=2) (i:=33) rfl (λa2=>?_) (λa2=>?_)
    ·have ct:=ip bx a2;refine BR 4 U rfl rfl ?_;obtain⟨c6,cu,cv⟩:=bs ct;refine EK 5 (aw.Ag ((K.Ad O).Ad Z)) cu U underlying22 Ay ?_;rintro c7 c8 _ rfl cw;refine CK 6 U 0 cw Bb rfl rfl rfl rfl ?_;refine BR 7 U rfl rfl ?_;obtain⟨c9,cy,cz⟩:=bs cv;refine EK 8 (aw.Ag ((K.Ad O).Ad Z)) cy U underlying22 Ay ?_;rintro da db _ rfl cA;refine CK 9 U 0 cA Bb rfl rfl rfl rfl ?_;refine A3 U rfl [10,11] rfl ?_;obtain rfl:=oi cz;refine B8 ?_ (bZ _ _ ⟨rfl,rfl⟩);exact⟨rfl,rfl,rfl,trivial⟩
    ·have cB:=im bx a2;refine A3 U rfl [4,5,6,7,8,9,10,11] rfl ?_;obtain rfl:=oi cB;refine B8 ?_ (bZ _ _ ⟨rfl,rfl⟩);exact⟨rfl,rfl,rfl,trivial⟩
  ·intro cC;refine JL.block (Dx cg (λa3=> [bX ac #[nS,nS] 78]) (λa3=> [(1,sV ag p1 al),(2,Ak ay 0),(4,Ak ac 0),(15,sV ag p1 al),(16,iV (p1.length:Int)),(17,iV a3)]) AA be ?_);rintro a3 cD am b0 b1 ⟨dc,aq⟩ cE;have b2:=aq;unfold Tr at b2;refine C 5 rfl (AU b2 (λcF cG=>?_) (λcF cH=>?_))
   ·obtain⟨dd,cI,cJ⟩:=bs cG;refine C 5 rfl (Dp (aw.Ag ((K.Ad O).Ad am)) cI underlying22 Ay ?_);rintro de df _ rfl cK;refine CG 0 cK Bb rfl rfl rfl (C 5 rfl ?_);refine BQ 0 (az.Ag (O.Ad am)) underlying28 Cc CJ ?_;refine JL.ln underlying25 rfl rfl rfl ?_;obtain⟨dg,cM,cN⟩:=bs cJ;refine Dh cM rfl rfl rfl ?_;obtain⟨cO,cP,cQ⟩:=bs cN;refine BH (Mb cP) rfl rfl Ln b0 λdh b3 b4=>Am (v:= .bool (!cO)) rfl (λρ h=>Yl.not (h _ _ rfl)) (JL.done ?_);refine Cd cQ (λcR cT=>?_) (λcR cV=>?_)
    ·refine C 2 rfl (Am (v:= .agg #[nS,nS]) rfl (λρ h=>Ch [(0,2)] h FL underlying78 ⟨rfl,AJ type28,trivial⟩ rfl rfl) ?_);refine Bv 0 b4 Cr λb5=>?_;refine C 2 rfl ?_;obtain rfl:=oi cT;obtain rfl:=b1 _ aq;have cW:=elim_inl bo;obtain rfl:=oi cW;refine JL.ret (v:= .tuple #[.agg #[nS,nS],iV 3]) rfl rfl (BB.list func54 rfl (vs:= [.agg #[nS,nS],iV 3]) ⟨⟨_,rfl,Ld.many (vs:= [nS,nS]) Ew Cr (EY (off:=0) 0 b5 rfl rfl)⟩,rfl,trivial⟩) (DF 0 b5 rfl λcX=>?_);exact ap (((K.Ad O).Ad am).Ad b3) rfl ⟨none,0,none,0,rfl,rfl,Al.nil,Al.nil⟩ cX
    ·obtain⟨cY,cZ,c0⟩:=bs cV;refine C 3 rfl (Bn cZ rfl rfl rfl ?_);refine C 2 rfl ?_;obtain rfl:=oi c0;exact cE cY (am.Ad b3) b4 rfl aq
   ·refine JL.exit rfl ?_;obtain rfl:=oi cH;have c1:bn=(Sum.inr ()):=(b1 _ aq).symm;exact Az (cC _ _ ⟨(),cD,c1,rfl,rfl,am,b0⟩) rfl
def NN(fu_:Nat)(p0:List Int):Option ((List Int)):= (Dw ([]:List Int) p0).bind λK=> some K
theorem Z9{ad:Addr}{c2:Nat}{p0:List Int}(V:Al rI E (some ad) c2 p0){fu_:Nat}{r:(List Int)}(K:NN fu_ p0=some r):AM J 56 [.slice (some ad) p0.length c2] E [] (λw E' B'=>∃(O:Ao) (U:Nat) (g0:Seg),w= sV O r U/\B'=g0/\OL 3 rI E' O U g0 r):=by
 refine Be func56 λQ a0 cs H Y Z=>?_;unfold NN at K;refine C 8 rfl (Am (v:= .bool false) rfl (λρ h=>ML (a:=(some ad)) underlying22 (h _ _ rfl) (h _ _ rfl)) ?_);refine C 5 rfl (Sa (pp:=rI) rfl rfl rfl underlying22 Ay Y λr1 g2 ac ag=>?_);obtain⟨a1,al,am⟩:=bs K;refine C 1 rfl (Hs (pp:=rI) 1 al rfl rfl rfl rfl rfl rfl rfl underlying22 underlying22 Ay (Dt type3) Bx rfl (by decide) (by decide) ac V ag rfl λap aq aw ay az=>?_);refine C 2 rfl ?_;obtain rfl:=oi am;exact AS func56 rfl rfl (Z AA rfl ⟨ap,aq,aw,rfl,(by first | rfl | simp | (simp [Value.cells])),ay⟩ az)
def Un(fu_:Nat)(p0:List Int):Option ((List Int)):= some ([])
theorem Zq{c2:Nat}{p0:List Int}(Z:Al rI E none c2 p0){fu_:Nat}{r:(List Int)}(K:Un fu_ p0=some r):AM J 56 [sV none p0 c2] E [] (λw E' B'=>∃(O:Ao) (U:Nat) (g0:Seg),w= sV O r U/\B'=g0/\OL 3 rI E' O U g0 r):=by
 refine Be func56 λQ ac cs H V Y=>?_;unfold Un at K;refine C 8 rfl (Am (v:= .bool true) rfl (λρ h=>ML (a:=none) underlying22 (h _ _ rfl) (h _ _ rfl)) ?_);refine C 6 rfl ?_;obtain rfl:=oi K;exact AS func56 rfl rfl (Y AA rfl ⟨none,0,[],rfl,rfl,OL.nil⟩ V)
def f87(fu_:Nat)(p0:List Int):Option (List Int):=NN fu_ p0
theorem PX{a1:Ao}{c2:Nat}{p0:List Int}(O:Al rI E a1 c2 p0){fu_:Nat}{r:List Int}(K:f87 fu_ p0=some r):AM J 56 [.slice a1 p0.length c2] E [] (λw E' B'=>∃(U:Ao) (V:Nat) (g0:Seg),w= .slice U r.length V/\B'=g0/\OL 3 rI E' U V g0 r):=by
 cases a1 with
 | some ad=>exact Z9 O K
 | none=>
  have Y:p0= []:=by
   rcases O.2 with h | ⟨_,_,h,_⟩
   ·exact h.1
   ·cases h
  subst Y;have Z:r= []:=by
   have ac:NN fu_ []=some []:=rfl;unfold f87 at K;rw [ac] at K;exact(Option.some.inj K).symm
  subst Z;exact Zq (fu_:=fu_) O rfl
def L4(fu_:Nat)(p0:Aw):Option (Aw):= (Dw ([]:Aw) p0).bind λK=> some K
theorem XT{ad:Addr}{c2:Nat}{p0:Aw}(V:Al Au E (some ad) c2 p0){fu_:Nat}{r:Aw}(K:L4 fu_ p0=some r):AM J 113 [.slice (some ad) p0.length c2] E [] (λw E' B'=>∃(O:Ao) (U:Nat) (g0:Seg),w= sV O r U/\B'=g0/\OL 42 Au E' O U g0 r):=by
 refine Be func113 λQ a0 cs H Y Z=>?_;unfold L4 at K;refine C 8 rfl (Am (v:= .bool false) rfl (λρ h=>ML (a:=(some ad)) underlying96 (h _ _ rfl) (h _ _ rfl)) ?_);refine C 5 rfl (Sa (pp:=Au) rfl rfl rfl underlying96 Bi Y λr1 g2 ac ag=>?_);obtain⟨a1,al,am⟩:=bs K;refine C 1 rfl (Hs (pp:=Au) 1 al rfl rfl rfl rfl rfl rfl rfl underlying96 underlying96 Bi (Dt type42) BM rfl (by decide) (by decide) ac V ag rfl λap aq aw ay az=>?_);refine C 2 rfl ?_;obtain rfl:=oi am;exact AS func113 rfl rfl (Z AA rfl ⟨ap,aq,aw,rfl,(by first | rfl | simp | (simp [Value.cells])),ay⟩ az)
def Ue(fu_:Nat)(p0:Aw):Option (Aw):= some ([])
theorem Yx{c2:Nat}{p0:Aw}(Z:Al Au E none c2 p0){fu_:Nat}{r:Aw}(K:Ue fu_ p0=some r):AM J 113 [sV none p0 c2] E [] (λw E' B'=>∃(O:Ao) (U:Nat) (g0:Seg),w= sV O r U/\B'=g0/\OL 42 Au E' O U g0 r):=by
 refine Be func113 λQ ac cs H V Y=>?_;unfold Ue at K;refine C 8 rfl (Am (v:= .bool true) rfl (λρ h=>ML (a:=none) underlying96 (h _ _ rfl) (h _ _ rfl)) ?_);refine C 6 rfl ?_;obtain rfl:=oi K;exact AS func113 rfl rfl (Y AA rfl ⟨none,0,[],rfl,rfl,OL.nil⟩ V)
def f129(fu_:Nat)(p0:Aw):Option Aw:=L4 fu_ p0
theorem ZZ{a1:Ao}{c2:Nat}{p0:Aw}(O:Al Au E a1 c2 p0){fu_:Nat}{r:Aw}(K:f129 fu_ p0=some r):AM J 113 [.slice a1 p0.length c2] E [] (λw E' B'=>∃(U:Ao) (V:Nat) (g0:Seg),w= .slice U r.length V/\B'=g0/\OL 42 Au E' U V g0 r):=by
 cases a1 with
 | some ad=>exact XT O K
 | none=>
  have Y:p0= []:=by
   rcases O.2 with h | ⟨_,_,h,_⟩
   ·exact h.1
   ·cases h
  subst Y;have Z:r= []:=by
   have ac:L4 fu_ []=some []:=rfl;unfold f129 at K;rw [ac] at K;exact(Option.some.inj K).symm
  subst Z;exact Yx (fu_:=fu_) O rfl
def f43(fu_:Nat)(p0:AT):Option ((List Int)×Int):= (f70 fu_ p0 ([])).bind λK=> if K.2≠0 then(some ([],K.2)) else((f84 fu_ K.1).bind λO=> (G9 O 0 (p0.1.length:Int)).bind λU=> (f87 fu_ U).bind λV=> some (V,0))
theorem bm{a1:Ao}{c2:Nat}{Z:Ao}{ac:Nat}{p0:AT}(a3:Al (rL rI) E a1 c2 p0.1)(a4:Al Au E Z ac p0.2){fu_:Nat}{r:(List Int)×Int}(ag:f43 fu_ p0=some r):AM J 12 [.agg #[sV a1 p0.1 c2,sV Z p0.2 ac]] E [] (λw E' B'=>∃(al:Ao) (am:Nat),w= .tuple #[sV al r.1 am,iV r.2]/\B'= []/\Al rI E' al am r.1):=by
 refine Be func12 λQ cf cs H a5 ap=>?_;unfold f43 at ag;refine C 2 rfl (CC a5 λcg ci U aq a6=>?_);refine C 5 rfl (BT aq Dk BP rfl rfl ?_);obtain⟨ck,a7,a8⟩:=bs ag;refine A2 (HD (a3.Ag U) (a4.Ag U) Al.nil a7) rfl rfl Hk a6 ?_;rintro _ cm _ V ⟨cn,co,cp,cq,rfl,rfl,a9,bb⟩ bd;refine C 3 rfl (Bz bd FL λcr be=>?_);refine Bv 3 be Cr λbi=>?_;refine B7 3 bi rfl λct K bn aw=>C 8 rfl (AU a8 (λbo bv=>?_) (λbo bw=>?_))
 ·refine C 6 rfl ?_;obtain rfl:=oi bv;exact AS func12 rfl rfl (ap ((U.Ad V).Ad K) rfl ⟨none,0,rfl,rfl,Al.nil⟩ aw)
 ·refine C 3 rfl (BT bn Ew Cr rfl rfl ?_);obtain⟨cu,bx,bz⟩:=bs bw;refine A2 (Ma (a9.Ag K) (bb.Ag K) bx) rfl rfl Lo aw ?_;rintro _ ay _ az ⟨Y,rfl,rfl,O⟩ bY;refine Bz bY Hm λcv bZ=>?_;refine FM (v:= .agg Y.toArray) (l:= []) (ws:=(List.replicate 5 (iV 0):Lv_)) (us:=Y) (o:=0) 5 rfl rfl rfl bZ rfl rfl rfl (by rw [BG (kk:=5) (pp:=rI) O];exact AJ type82) ((rA 5 rI).one O) rfl (by rw [BG (kk:=5) (pp:=rI) O,BG (kk:=5) (pp:=rI) (Ez (E:=ay) (pp:=rI) rfl)];omega) λa0=>?_;rw [Ho (by rw [BG (kk:=5) (pp:=rI) O,BG (kk:=5) (pp:=rI) (Ez (E:=ay) (pp:=rI) rfl)])] at a0 ⊢;refine C 3 rfl (BQ 0 (aq.Ag ((V.Ad K).Ad az)) underlying28 Cc CJ ?_);refine JL.ln underlying25 rfl rfl rfl (B7 5 a0 rfl λcw a2 b0 b1=>?_);obtain⟨cy,b2,b3⟩:=bs bz;refine X7 (ws:=Y) (pp:=rI) b0 (Rp.Ag _ a2 O) b2 rfl rfl rfl rfl rfl underlying82 Ay λb4=>?_;obtain⟨cz,b5,b6⟩:=bs b3;refine A2 (PX b4 b5) rfl rfl N5 b1 ?_;rintro _ cA cB b7 ⟨b8,b9,_,rfl,rfl,ca⟩ cb;refine C 3 rfl (Bd 6 ca cb rfl λcC cc cd ce=>?_);obtain rfl:=oi b6;exact AS func12 rfl rfl (ap ((((((U.Ad V).Ad K).Ad az).Ad a2).Ad b7).Ad cc) rfl ⟨b8,b9,rfl,rfl,cd⟩ ce)
def Sc(fu_:Nat)(p0:Aw)(p1:Aw)(K:Int):Option (Bq Int ((Int)⊕(Unit))):= if K<(p0.length:Int) then((ix p0 K).bind λU=> if(p1.length:Int)<=K then(some (.done (Sum.inl 1))) else((ix p1 K).bind λV=> (f113 fu_ U V).bind λO=> if O≠0 then(some (.done (Sum.inl O))) else((Av (K+1)).bind λY=> some (.more Y)))) else(some (.done (Sum.inr ())))
def f112(fu_:Nat)(p0:Aw)(p1:Aw):Option Int:= Option.bind (iter (Sc fu_ p0 p1) fu_ 0) λK=> Sum.elim (λr=>some r) (λO=> if(p0.length:Int)<(p1.length:Int) then(some (-1)) else(some 0)) K
theorem ZH{a1:Ao}{c2:Nat}{U:Ao}{V:Nat}{p0:Aw}{p1:Aw}(a9:Al Au E a1 c2 p0)(bb:Al Au E U V p1){fu_:Nat}{r:Int}(aw:f112 fu_ p0 p1=some r):AM J 104 [sV a1 p0 c2,sV U p1 V,(fV 105)] E [] (λw E' B'=>w=iV r/\B'= []):=by
 refine Be func104 λQ cw cs H bd Y=>?_;unfold f112 at aw;refine C 8 rfl (JL.ln underlying96 rfl rfl rfl ?_);obtain⟨ay,be,ac⟩:=bs aw;refine C 2 rfl (Bu (λL s=>∃(az:Unit) (a0:LH),ay=Sum.inr az/\Jm E H a0 [] [(0,sV a1 p0 c2),(1,sV U p1 V)] L s) ?_ ?_)
 ·rintro _ _ ⟨az,a0,rfl,rfl,rfl,a2,a3⟩;have bi:=elim_inr ac;refine C 4 rfl (JL.ln underlying96 rfl rfl rfl ?_);refine C 1 rfl (JL.ln underlying96 rfl rfl rfl ?_);refine C 2 rfl (AU bi (λbn bo=>?_) (λbn bv=>?_))
  ·refine C 4 rfl ?_;obtain rfl:=oi bo;exact AS func104 rfl rfl (Y a2 rfl ⟨rfl,rfl⟩ a3)
  ·refine C 5 rfl ?_;obtain rfl:=oi bv;exact AS func104 rfl rfl (Y a2 rfl ⟨rfl,rfl⟩ a3)
 ·intro bw;refine JL.block (Dx be (λag=> []) (λag=> [(0,sV a1 p0 c2),(1,sV U p1 V),(2,(fV 105)),(11,sV a1 p0 c2),(12,iV (p0.length:Int)),(13,iV ag)]) AA bd ?_);rintro ag bx K a4 al ⟨cy,O⟩ bz;have a5:=O;unfold Sc at a5;refine C 5 rfl (AU a5 (λbY bZ=>?_) (λbY b0=>?_))
  ·obtain⟨am,b1,b2⟩:=bs bZ;refine C 6 rfl (Dp (a9.Ag K) b1 underlying96 Bi ?_);rintro cz cA _ ⟨_,_,rfl,rfl,⟨_,_,rfl,rfl,rfl⟩⟩ b3;refine BT b3 Ds Bi rfl rfl (Bz a4 BM λcB b4=>?_);refine C 1 rfl (Bv 0 b4 Bi λb5=>?_);refine B7 0 b5 rfl λcC Z b6 a6=>C 6 rfl (JL.ln underlying96 rfl rfl rfl ?_);refine C 2 rfl (AU b2 (λb7 b8=>?_) (λb7 b9=>?_))
   ·refine C 4 rfl ?_;obtain rfl:=oi b8;obtain rfl:=al _ O;have ca:=elim_inl ac;obtain rfl:=oi ca;exact AS func104 rfl rfl (Y (K.Ad Z) rfl ⟨rfl,rfl⟩ a6)
   ·obtain⟨ap,cb,cc⟩:=bs b9;refine C 5 rfl (Dp (bb.Ag (K.Ad Z)) cb underlying96 Bi ?_);rintro cD cE _ ⟨_,_,rfl,rfl,⟨_,_,rfl,rfl,rfl⟩⟩ cd;refine BT cd Ds Bi rfl rfl (Bz a6 BM λcF ce=>?_);refine Bv 1 ce Bi λcf=>?_;refine B7 1 cf rfl λcG aq cg ci=>C 4 rfl (BT (b6.Ag aq) Ds Bi rfl rfl ?_);refine BT cg Ds Bi rfl rfl ?_;obtain⟨cH,ck,cm⟩:=bs cc;refine Kc (vs:= [.agg #[iV am.1,iV am.2.1,iV am.2.2],.agg #[iV ap.1,iV ap.2.1,iV ap.2.2]]) (Tv ck) rfl rfl rfl rfl (A1 func105 rfl) rfl ci ?_;rintro _ cI _ a7 ⟨rfl,rfl⟩ a8;refine C 7 rfl (AU cm (λcn co=>?_) (λcn cp=>?_))
    ·refine C 5 rfl ?_;obtain rfl:=oi co;obtain rfl:=al _ O;have cq:=elim_inl ac;obtain rfl:=oi cq;exact AS func104 rfl rfl (Y (((K.Ad Z).Ad aq).Ad a7) rfl ⟨rfl,rfl⟩ a8)
    ·obtain⟨cr,ct,cu⟩:=bs cp;refine C 3 rfl (Bn ct rfl rfl rfl ?_);refine C 2 rfl ?_;obtain rfl:=oi cu;exact bz cr (((K.Ad Z).Ad aq).Ad a7) a8 rfl O
  ·refine JL.exit rfl ?_;obtain rfl:=oi b0;have cv:ay=(Sum.inr ()):=(al _ O).symm;exact Az (bw _ _ ⟨(),bx,cv,rfl,rfl,K,a4⟩) rfl
def f74(fu_:Nat)(p0:Aw)(p1:Aw):Option Int:= (f112 fu_ p0 p1).bind λK=> some K
theorem Ig{a1:Ao}{c2:Nat}{K:Ao}{O:Nat}{p0:Aw}{p1:Aw}(V:Al Au E a1 c2 p0)(Y:Al Au E K O p1){fu_:Nat}{r:Int}(U:f74 fu_ p0 p1=some r):AM J 64 [sV a1 p0 c2,sV K p1 O] E [] (λw E' B'=>w=iV r/\B'= []):=by
 refine Be func64 λQ aq cs H Z ac=>?_;unfold f74 at U;obtain⟨aw,ag,al⟩:=bs U;refine C 8 rfl (BH (ZH V Y ag) rfl rfl (A1 func104 rfl) Z λay am ap=>?_);refine C 2 rfl ?_;obtain rfl:=oi al;exact AS func64 rfl rfl (ac am rfl ⟨rfl,rfl⟩ ap)
def f73(fu_:Nat)(p0:Aw)(p1:Aw):Option Bool:= (f74 fu_ p0 p1).bind λK=> some (decide (K<0))
theorem bD{a1:Ao}{c2:Nat}{K:Ao}{O:Nat}{p0:Aw}{p1:Aw}(V:Al Au E a1 c2 p0)(Y:Al Au E K O p1){fu_:Nat}{r:Bool}(U:f73 fu_ p0 p1=some r):AM J 78 [sV a1 p0 c2,sV K p1 O] E [] (λw E' B'=>w= .bool r/\B'= []):=by
 refine Be func78 λQ aq cs H Z ac=>?_;unfold f73 at U;obtain⟨aw,ag,al⟩:=bs U;refine C 8 rfl (BH (Ig V Y ag) rfl rfl HS Z λay am ap=>?_);refine C 3 rfl ?_;obtain rfl:=oi al;exact AS func78 rfl rfl (ac am rfl ⟨rfl,rfl⟩ ap)
def f72(fu_:Nat)(p0:Aw×Bool)(p1:Aw):Option ((Aw×Bool)):= Option.bind (if(!p0.2)=true then(some true) else((f73 fu_ p1 p0.1).bind λK=> some K)) λO=> Option.bind (if O=true then(some (p1,true)) else(some p0)) λU=> some U
theorem aN{bk:Nat}{a1:Ao}{c2:Nat}{K:Ao}{O:Nat}{p0:Aw×Bool}{p1:Aw}(am:Al Au E a1 c2 p0.1)(ap:Al Au E K O p1){fu_:Nat}{r:(Aw×Bool)}(aq:f72 fu_ p0 p1=some r):AM J 77 [Ak bk 0,sV K p1 O,(fV 78)] E [(bk,.cells #[sV a1 p0.1 c2,.bool p0.2] 112 (0,0))] (λw E' B'=>∃(aw:Ao) (ay:Nat),w= .tuple #[]/\B'= [(bk,.cells #[sV aw r.1 ay,.bool r.2] 112 (0,0))]/\Al Au E' aw ay r.1):=by
 refine Be func77 λQ b3 cs H V a3=>?_;unfold f72 at aq;refine C 4 rfl (JL.fd underlying112 Ji rfl rfl rfl ?_);refine Am (v:= .bool p0.2) rfl (λρ h=>Yl.load Mp (h _ _ rfl) (BC (j:=0) (off:=1) V rfl rfl)) (Am (v:= .bool (!p0.2)) rfl (λρ h=>Yl.not (h _ _ rfl)) ?_);obtain⟨a4,a5,a6⟩:=bs aq;refine C 1 rfl (Fx [] (λL s=>∃(U:LH),Jm E H U [bX bk #[sV a1 p0.1 c2,.bool p0.2] 112] [(0,Ak bk 0),(1,sV K p1 O),(19,.bool a4)] L s) ?_ ?_)
 ·rintro _ _ ⟨U,rfl,rfl,ac,az⟩;obtain⟨ag,a7,a8⟩:=bs a6;refine JL.done (Bu (λL s=>∃(al:LH) (Y:Ao) (Z:Nat),Jn U H al [bX bk #[sV Y ag.1 Z,.bool ag.2] 112] [] L s (Al Au al Y Z ag.1)) ?_ ?_)
  ·rintro _ _ ⟨al,Y,Z,rfl,rfl,a9,bb,bd⟩;obtain rfl:=oi a8;exact JL.fin (v:= .tuple #[]) rfl rfl (BB.list func77 rfl (vs:= []) trivial) (a3 (ac.Ad a9) rfl ⟨Y,Z,rfl,rfl,bd⟩ bb)
  ·intro a0;refine Cd a7 (λbe bi=>?_) (λbe bn=>?_)
   ·refine C 5 rfl (JL.fd underlying112 Bh rfl rfl rfl ?_);refine Bv 0 az Bh λbo=>?_;refine C 1 rfl (JL.fd underlying112 Ji rfl rfl rfl ?_);refine Bv 0 bo Ji λbv=>?_;refine JL.done ?_;obtain rfl:=oi bi;exact Az (a0 _ _ ⟨U,K,O,rfl,rfl,AA,bv,(ap.Ag ac)⟩) rfl
   ·refine JL.skip ?_;obtain rfl:=oi bn;exact Az (a0 _ _ ⟨U,a1,c2,rfl,rfl,AA,az,(am.Ag ac)⟩) rfl
 ·intro a2;refine Ci 11 a5 (λbw bx=>?_) (λbw bz=>?_)
  ·refine C 8 rfl ?_;obtain rfl:=oi bx;exact Az (a2 _ _ ⟨E,rfl,rfl,AA,V⟩) rfl
  ·refine C 4 rfl (JL.fd underlying112 Bh rfl rfl rfl ?_);refine Am (v:= sV a1 p0.1 c2) rfl (λρ h=>Yl.load BF (h _ _ rfl) (BC (j:=0) (off:=0) V rfl rfl)) ?_;obtain⟨b4,bY,bZ⟩:=bs bz;refine Kc (vs:= [sV K p1 O,sV a1 p0.1 c2]) (bD ap am bY) rfl rfl rfl rfl (A1 func78 rfl) rfl V ?_;rintro _ b0 _ b1 ⟨rfl,rfl⟩ b2;refine C 1 rfl ?_;obtain rfl:=oi bZ;exact Az (a2 _ _ ⟨b0,rfl,rfl,b1,b2⟩) rfl
variable {J:Judge Tryz.prog}
def R0(fu_:Nat)(O:List Int)(K:(AK)×Int):Option (Bq ((AK)×Int) ((AK))):= if K.2<(O.length:Int) then((ix O K.2).bind λU=> (Av (((Bf K.1 U).getD 0)+1)).bind λV=> (Av (K.2+1)).bind λY=> some (.more ((Bp K.1 U V),Y))) else(some (.done K.1))
def R9(fu_:Nat)(p0:AT)(K:(List AK)×Int):Option (Bq ((List AK)×Int) ((List AK))):= if K.2<(p0.1.length:Int) then((ix p0.1 K.2).bind λO=> Option.bind (iter (R0 fu_ O) fu_ (([]:AK),0)) λU=> (room K.1 U).bind λV=> (Av (K.2+1)).bind λY=> some (.more (V,Y))) else(some (.done K.1))
def f120(fu_:Nat)(p0:AT):Option ((List AK)):= Option.bind (iter (R9 fu_ p0) fu_ ([],0)) λK=> some K
theorem Y5{a1:Ao}{c2:Nat}{bb:Ao}{bd:Nat}{p0:AT}(b4:Al (rL rI) E a1 c2 p0.1)(dc:Al Au E bb bd p0.2){fu_:Nat}{r:(List AK)}(be:f120 fu_ p0=some r):AM J 97 [.agg #[sV a1 p0.1 c2,sV bb p0.2 bd]] E [] (λw E' B'=>∃(bi:Ao) (bn:Nat),w= sV bi r bn/\B'= []/\Al (rM rI false rI false) E' bi bn r):=by
 refine Be func97 λQ dd cs H b5 b6=>?_;unfold f120 at be;refine C 2 rfl (CC b5 λde ay bo b7 b8=>?_);refine C 9 rfl (JL.fd underlying78 BP rfl rfl rfl ?_);refine BQ 0 b7 underlying28 Cc CJ ?_;refine JL.ln underlying25 rfl rfl rfl ?_;obtain⟨bv,b9,ca⟩:=bs be;refine C 2 rfl (Bu (λL s=>∃(az:LH) (al:Ao) (am:Nat) (a0:Seg),Jn ay H az [a0] [(3,sV al bv am)] L s (OL 199 (rM rI false rI false) az al am a0 bv)) ?_ ?_)
 ·rintro _ _ ⟨az,al,am,a0,rfl,rfl,cb,cc,cd⟩;refine C 5 rfl (Bd 0 cd cc rfl λdf ce cf cg=>?_);obtain rfl:=oi ca;exact AS func97 rfl rfl (b6 ((bo.Ad cb).Ad ce) rfl ⟨al,am,rfl,rfl,cf⟩ cg)
 ·intro ci;refine JL.block (CZ b9 (λL s K=>∃(O:LH) (U:Ao) (V:Nat) (Z:Seg),Jn ay H O [Z] [(3,sV U K.1 V),(11,sV a1 p0.1 c2),(12,iV (p0.1.length:Int)),(13,iV K.2)] L s (OL 199 (rM rI false rI false) O U V Z K.1)) ⟨ay,none,0,[],rfl,rfl,AA,b8,OL.nil⟩ ?_);rintro _ _ K ⟨O,U,V,Z,rfl,rfl,a2,bw,bx⟩ ck ⟨dg,a3⟩ cm;have bz:=a3;unfold R9 at bz;refine C 5 rfl (AU bz (λcn co=>?_) (λcn cp=>?_))
  ·obtain⟨bY,cq,cr⟩:=bs co;refine C 5 rfl (Dp (b4.Ag (bo.Ad a2)) cq underlying25 De ?_);rintro dh di _ ⟨ct,cu,rfl,cv⟩ cw;refine CG 0 cw It rfl rfl rfl (C 4 rfl ?_);refine JS.makeMap rfl rfl rfl bw λac cy=>C 6 rfl (JL.ln underlying22 rfl rfl rfl ?_);obtain⟨bZ,cz,cA⟩:=bs cr;refine C 2 rfl (Bu (λL s=>∃(a4:LH) (ap:Obj),Jn O H a4 [Z,[(ac,ap)]] [(3,sV U K.1 V),(6,.map (some ac)),(11,sV a1 p0.1 c2),(12,iV (p0.1.length:Int)),(13,iV K.2)] L s (Bw rI false rI false a4 ap bZ)) ?_ ?_)
   ·rintro _ _ ⟨a4,ap,rfl,rfl,b0,cB,cC⟩;refine C 3 rfl (MG 1 cB rfl λb1 a5 cD cE=>?_);have cF:Bw rI false rI false b1 ap bZ:=(cC.Ag a5);obtain⟨cG,cH,cI⟩:=bs cA;refine JS.app (pp:=(rM rI false rI false)) (v:= .map (some ac)) (a:=U) (c:=V) 0 cH rfl rfl rfl rfl (λ_=>rfl) rfl (λ_=>rfl) rfl rfl rfl underlying152 underlying152 underlying152 Hn (Dt type199) (C5 type199) rfl (by decide) (by decide) (by decide) (by decide) (bx.Ag (b0.Ad a5)) ⟨_,_,rfl,cD,cF⟩ cE rfl λdj cJ cK cM cN cO=>?_;obtain⟨cP,cQ,cR⟩:=bs cI;refine C 4 rfl (Bn cQ rfl rfl rfl ?_);refine C 2 rfl ?_;obtain rfl:=oi cR;exact Az (cm _ _ (cG,cP) ⟨b1,cJ,cK,cM,rfl,rfl,((a2.Ad b0).Ad a5),cO,cN⟩ a3) rfl
   ·intro cT;refine JL.block (CZ cz (λL s Y=>∃(ag:LH) (aq:Obj),Jn O H ag [Z,[(ac,aq)]] [(3,sV U K.1 V),(6,.map (some ac)),(11,sV a1 p0.1 c2),(12,iV (p0.1.length:Int)),(13,iV K.2),(18,sV ct bY cu),(19,iV (bY.length:Int)),(20,iV Y.2)] L s (Bw rI false rI false ag aq Y.1)) ⟨O,(.map #[] 0),rfl,rfl,AA,cy,Bw.nil⟩ ?_);rintro _ _ Y ⟨ag,aq,rfl,rfl,a6,a7,a8⟩ cV ⟨dk,a9⟩ cW;have b2:=a9;unfold R0 at b2;refine C 5 rfl (AU b2 (λcX cY=>?_) (λcX cZ=>?_))
    ·obtain⟨aw,c0,c1⟩:=bs cY;refine C 5 rfl (Dp (cv.Ag a6) c0 underlying22 Ay ?_);rintro dm dn _ rfl c3;refine CG 0 c3 Bb rfl rfl rfl (C 5 rfl ?_);refine Am (v:=iV ((Bf Y.1 aw).getD 0)) rfl (λρ h=>Yl.lookup (ok:=false) (xs:=Y.1) (x0:=aw) (z0:=0) IG underlying199 Bx ⟨_,rfl,rfl⟩ a8 ⟨_,rfl,rfl⟩ (by rintro _ ⟨_,rfl,rfl⟩;rfl) (h _ _ rfl) (h _ _ rfl) (C6 (j:=1) (i:=0) a7 rfl rfl)) ?_;obtain⟨b3,c4,c5⟩:=bs c1;refine Bn c4 rfl rfl rfl (JS.mapUpdate (xs:=Y.1) (x0:=aw) (v0:=b3) 1 IG underlying199 a8 ⟨_,rfl,rfl⟩ ⟨_,rfl,rfl⟩ a7 rfl rfl rfl rfl rfl rfl rfl λc6 c7 c8=>?_);obtain⟨c9,da,db⟩:=bs c5;refine C 3 rfl (Bn da rfl rfl rfl ?_);refine C 2 rfl ?_;obtain rfl:=oi db;exact Az (cW _ _ ((Bp Y.1 aw b3),c9) ⟨ag,c6,rfl,rfl,a6,c8,c7⟩ a9) rfl
    ·refine JL.exit rfl ?_;obtain rfl:=oi cZ;obtain rfl:=cV _ a9;exact Az (cT _ _ ⟨ag,aq,rfl,rfl,a6,a7,a8⟩) rfl
  ·refine JL.exit rfl ?_;obtain rfl:=oi cp;obtain rfl:=ck _ a3;exact Az (ci _ _ ⟨O,U,V,Z,rfl,rfl,a2,bw,bx⟩) rfl
def TF(fu_:Nat)(p0:AT)(O:(List Int))(K:(List Int)×Int):Option (Bq ((List Int)×Int) ((List Int))):= if K.2<5 then((ix O K.2).bind λU=> Option.bind (if K.2<(p0.1.length:Int) then((ix p0.1 K.2).bind λV=> (f85 fu_ V).bind λY=> (Av (-(U))).bind λZ=> some (decide (Y<Z))) else(some false)) λac=> Option.bind (if ac=true then((room K.1 K.2).bind λag=> some ag) else(some K.1)) λal=> (Av (K.2+1)).bind λam=> some (.more (al,am))) else(some (.done K.1))
def f39(fu_:Nat)(p0:AT):Option ((List Int)×Int):= (f70 fu_ p0 ([])).bind λK=> if K.2≠0 then(some ([],K.2)) else((f84 fu_ K.1).bind λO=> Option.bind (iter (TF fu_ p0 O) fu_ ([],0)) λU=> some (U,0))
theorem Ui{a1:Ao}{c2:Nat}{bn:Ao}{bo:Nat}{p0:AT}(bv:Al (rL rI) E a1 c2 p0.1)(b5:Al Au E bn bo p0.2){fu_:Nat}{r:(List Int)×Int}(bw:f39 fu_ p0=some r):AM J 22 [.agg #[sV a1 p0.1 c2,sV bn p0.2 bo]] E [] (λw E' B'=>∃(bx:Ao) (bz:Nat),w= .tuple #[sV bx r.1 bz,iV r.2]/\B'= []/\Al rI E' bx bz r.1):=by
 refine Be func22 λQ dn cs H b6 bY=>?_;unfold f39 at bw;refine C 2 rfl (CC b6 λa3 dp ag a4 b7=>?_);refine C 5 rfl (BT a4 Dk BP rfl rfl ?_);obtain⟨dq,b8,b9⟩:=bs bw;refine A2 (HD (bv.Ag ag) (b5.Ag ag) Al.nil b8) rfl rfl Hk b7 ?_;rintro _ dr _ al ⟨dt,du,dv,dw,rfl,rfl,ca,cb⟩ cc;refine C 3 rfl (Bz cc FL λdx cd=>?_);refine Bv 3 cd Cr λce=>?_;refine B7 3 ce rfl λdy O cf bZ=>C 8 rfl (AU b9 (λcg ci=>?_) (λcg ck=>?_))
 ·refine C 6 rfl ?_;obtain rfl:=oi ci;exact AS func22 rfl rfl (bY ((ag.Ad al).Ad O) rfl ⟨none,0,rfl,rfl,Al.nil⟩ bZ)
 ·refine C 8 rfl (BT cf Ew Cr rfl rfl ?_);obtain⟨dz,cm,cn⟩:=bs ck;refine A2 (Ma (ca.Ag O) (cb.Ag O) cm) rfl rfl Lo bZ ?_;rintro _ a5 _ ap ⟨a6,rfl,rfl,co⟩ cp;obtain⟨b0,cq,cr⟩:=bs cn;refine C 2 rfl (Bu (λL s=>∃(a7:LH) (aq:Ao) (aw:Nat) (a8:Seg),Jn a5 H a7 [a8] [(6,sV aq b0 aw)] L s (OL 3 rI a7 aq aw a8 b0)) ?_ ?_)
  ·rintro _ _ ⟨a7,aq,aw,a8,rfl,rfl,ct,cu,cv⟩;refine C 6 rfl (Bd 0 cv cu rfl λdA cw cy cz=>?_);obtain rfl:=oi cr;exact AS func22 rfl rfl (bY (((((ag.Ad al).Ad O).Ad ap).Ad ct).Ad cw) rfl ⟨aq,aw,rfl,rfl,cy⟩ cz)
  ·intro cA;refine JL.block (CZ cq (λL s K=>∃(Y:LH) (U:Ao) (V:Nat) (Z:Seg),Jn a5 H Y [Z] [(1,Ak a3 0),(6,sV U K.1 V),(18,.agg a6.toArray),(19,iV K.2)] L s (OL 3 rI Y U V Z K.1)) ⟨a5,none,0,[],rfl,rfl,AA,cp,OL.nil⟩ ?_);rintro _ _ K ⟨Y,U,V,Z,rfl,rfl,ac,a9,bb⟩ cB ⟨dB,bd⟩ cC;have b1:=bd;unfold TF at b1;refine C 5 rfl (AU b1 (λcD cE=>?_) (λcD cF=>?_))
   ·obtain⟨dC,cG,cH⟩:=bs cE;refine C 6 rfl (Tn (Rp.Ag _ ac co) cG rfl rfl rfl rfl rfl underlying82 Ay Bb ?_ (λ_=>rfl));rintro _ rfl;refine C 6 rfl (BQ 0 (a4.Ag (((al.Ad O).Ad ap).Ad ac)) underlying28 Cc CJ ?_);refine JL.ln underlying25 rfl rfl rfl ?_;obtain⟨cI,cJ,cK⟩:=bs cH;refine C 2 rfl (Fx [] (λL s=>∃(am:LH),Jm Y H am [Z] [(1,Ak a3 0),(6,sV U K.1 V),(7,iV K.2),(18,.agg a6.toArray),(19,iV K.2),(38,.bool cI)] L s) ?_ ?_)
    ·rintro _ _ ⟨am,rfl,rfl,be,b2⟩;obtain⟨bi,cM,cN⟩:=bs cK;refine JL.done (Bu (λL s=>∃(ay:LH) (az:Ao) (a0:Nat) (a2:Seg),Jn am H ay [a2] [(1,Ak a3 0),(6,sV az bi a0),(18,.agg a6.toArray),(19,iV K.2)] L s (OL 3 rI ay az a0 a2 bi)) ?_ ?_)
     ·rintro _ _ ⟨ay,az,a0,a2,rfl,rfl,cO,cP,cQ⟩;obtain⟨cR,cT,cV⟩:=bs cN;refine C 2 rfl (Bn cT rfl rfl rfl ?_);refine C 2 rfl ?_;obtain rfl:=oi cV;exact Az (cC _ _ (bi,cR) ⟨ay,az,a0,a2,rfl,rfl,((ac.Ad be).Ad cO),cP,cQ⟩ bd) rfl
     ·intro b3;refine Cd cM (λcW cX=>?_) (λcW cY=>?_)
      ·obtain⟨dD,cZ,c0⟩:=bs cX;refine C 3 rfl (JS.app (pp:=rI) (v:=iV K.2) (a:=U) (c:=V) 0 cZ rfl rfl rfl rfl (λ_=>rfl) rfl (λ_=>rfl) rfl rfl rfl underlying22 underlying22 underlying22 Ay (Dt type3) Bx rfl (by decide) (by decide) (by decide) (by decide) (bb.Ag be) rfl b2 rfl λdE c1 c3 c4 c5 c6=>?_);refine C 2 rfl ?_;obtain rfl:=oi c0;exact Az (b3 _ _ ⟨am,c1,c3,c4,rfl,rfl,AA,c6,c5⟩) rfl
      ·refine JL.skip ?_;obtain rfl:=oi cY;exact Az (b3 _ _ ⟨am,U,V,Z,rfl,rfl,AA,b2,(bb.Ag be)⟩) rfl
    ·intro b4;refine G1 28 cJ (λc7 c8=>?_) (λc7 c9=>?_)
     ·refine BQ 0 (a4.Ag (((al.Ad O).Ad ap).Ad ac)) underlying28 Cc CJ ?_;obtain⟨dF,da,db⟩:=bs c8;refine C 1 rfl (Dp (bv.Ag ((((ag.Ad al).Ad O).Ad ap).Ad ac)) da underlying25 De ?_);rintro dG dH _ ⟨dI,dJ,rfl,dc⟩ dd;refine CG 0 dd It rfl rfl rfl ?_;obtain⟨dK,de,df⟩:=bs db;refine BH (Hz dc de) rfl rfl Hj a9 λdg dh di=>?_;obtain⟨dj,dk,dm⟩:=bs df;refine C 1 rfl (Am (v:=iV dj) rfl (λρ h=>Hr (h _ _ rfl) dk) ?_);refine C 2 rfl ?_;obtain rfl:=oi dm;exact Az (b4 _ _ ⟨dg,rfl,rfl,dh,di⟩) rfl
     ·refine C 10 rfl ?_;obtain rfl:=oi c9;exact Az (b4 _ _ ⟨Y,rfl,rfl,AA,a9⟩) rfl
   ·refine JL.exit rfl ?_;obtain rfl:=oi cF;obtain rfl:=cB _ bd;exact Az (cA _ _ ⟨Y,U,V,Z,rfl,rfl,ac,a9,bb⟩) rfl
def R3(fu_:Nat)(p0:List Int)(p1:Int)(K:Int):Option (Bq Int ((Int)⊕(Unit))):= if K<(p0.length:Int) then((ix p0 K).bind λO=> if p1=O then(some (.done (Sum.inl K))) else((Av (K+1)).bind λU=> some (.more U))) else(some (.done (Sum.inr ())))
def f128(fu_:Nat)(p0:List Int)(p1:Int):Option Int:= Option.bind (iter (R3 fu_ p0 p1) fu_ 0) λK=> Sum.elim (λr=>some r) (λO=> some (-1)) K
theorem Z4{a1:Ao}{c2:Nat}{p0:List Int}{p1:Int}(aw:Al rI E a1 c2 p0){fu_:Nat}{r:Int}(Y:f128 fu_ p0 p1=some r):AM J 115 [sV a1 p0 c2,iV p1] E [] (λw E' B'=>w=iV r/\B'= []):=by
 refine Be func115 λQ bZ cs H ay Z=>?_;unfold f128 at Y;refine C 8 rfl (JL.ln underlying22 rfl rfl rfl ?_);obtain⟨ac,az,ag⟩:=bs Y;refine C 2 rfl (Bu (λL s=>∃(al:Unit) (am:LH),ac=Sum.inr al/\Jm E H am [] [] L s) ?_ ?_)
 ·rintro _ _ ⟨al,am,rfl,rfl,rfl,a0,a2⟩;have a3:=elim_inr ag;refine C 4 rfl ?_;obtain rfl:=oi a3;exact AS func115 rfl rfl (Z a0 rfl ⟨rfl,rfl⟩ a2)
 ·intro a4;refine JL.block (Dx az (λU=> []) (λU=> [(0,sV a1 p0 c2),(1,iV p1),(7,iV (p0.length:Int)),(8,iV U)]) AA ay ?_);rintro U a5 K V ap ⟨b0,O⟩ a6;have aq:=O;unfold R3 at aq;refine C 5 rfl (AU aq (λa7 a8=>?_) (λa7 a9=>?_))
  ·obtain⟨b1,bb,bd⟩:=bs a8;refine C 13 rfl (Dp (aw.Ag K) bb underlying22 Ay ?_);rintro b2 b3 _ rfl be;refine CG 0 be Bb rfl rfl rfl (C 2 rfl ?_);refine AU bd (λbi bn=>?_) (λbi bo=>?_)
   ·refine C 5 rfl ?_;obtain rfl:=oi bn;obtain rfl:=ap _ O;have bv:=elim_inl ag;obtain rfl:=oi bv;exact AS func115 rfl rfl (Z K rfl ⟨rfl,rfl⟩ V)
   ·obtain⟨bw,bx,bz⟩:=bs bo;refine C 3 rfl (Bn bx rfl rfl rfl ?_);refine C 2 rfl ?_;obtain rfl:=oi bz;exact a6 bw K V rfl O
  ·refine JL.exit rfl ?_;obtain rfl:=oi a9;have bY:ac=(Sum.inr ()):=(ap _ O).symm;exact Az (a4 _ _ ⟨(),a5,bY,rfl,rfl,K,V⟩) rfl
def f82(fu_:Nat)(p0:List Int)(p1:Int):Option Bool:= (f128 fu_ p0 p1).bind λK=> some (decide (0<=K))
theorem bC{a1:Ao}{c2:Nat}{p0:List Int}{p1:Int}(O:Al rI E a1 c2 p0){fu_:Nat}{r:Bool}(K:f82 fu_ p0 p1=some r):AM J 86 [sV a1 p0 c2,iV p1] E [] (λw E' B'=>w= .bool r/\B'= []):=by
 refine Be func86 λQ al cs H U V=>?_;unfold f82 at K;obtain⟨am,Y,Z⟩:=bs K;refine C 8 rfl (BH (Z4 O Y) rfl rfl (A1 func115 rfl) U λap ac ag=>?_);refine C 3 rfl ?_;obtain rfl:=oi Z;exact AS func86 rfl rfl (V ac rfl ⟨rfl,rfl⟩ ag)
def TM(fu_:Nat)(O:AT×Int)(K:(List ((Int×Int)×Bool))×Int):Option (Bq ((List ((Int×Int)×Bool))×Int) ((List ((Int×Int)×Bool)))):= if K.2<(O.1.2.length:Int) then((ix O.1.2 K.2).bind λU=> (Av (K.2+1)).bind λV=> some (.more ((Bp K.1 (U.1,U.2.1) true),V))) else(some (.done K.1))
def TO(fu_:Nat)(U:AT×Int)(V:(List ((Int×Int)×Bool)))(O:List Int)(K:Bc×Int):Option (Bq (Bc×Int) (Bc)):= if K.2<(U.1.1.length:Int) then(Option.bind ((f82 fu_ O K.2).bind λY=> Option.bind (if Y=true then(some true) else(if 0<(O.length:Int) then((Av ((O.length:Int) - 1)).bind λZ=> (ix O Z).bind λac=> some (!((Bf V (ac,K.2)).getD false))) else(some false))) λag=> if ag=true then(some K.1) else((Dw O ([K.2]:List Int)).bind λal=> (room K.1 al).bind λam=> some am)) λap=> (Av (K.2+1)).bind λaq=> some (.more (ap,aq))) else(some (.done K.1))
def Tx(fu_:Nat)(Y:AT×Int)(U:(List ((Int×Int)×Bool)))(V:Bc)(O:Bc×Int):Option (Bq (Bc×Int) (((List Int)×Int)⊕(Bc))):= if O.2<(V.length:Int) then((ix V O.2).bind λK=> Option.bind (if 1<(K.length:Int) then((Av ((K.length:Int) - 1)).bind λZ=> (ix K Z).bind λac=> (ix K (0)).bind λag=> some ((Bf U (ac,ag)).getD false)) else(some false)) λal=> if al=true then(some (.done (Sum.inl (K,0)))) else(Option.bind (iter (TO fu_ Y U K) fu_ (O.1,0)) λam=> (Av (O.2+1)).bind λap=> some (.more (am,ap)))) else(some (.done (Sum.inr O.1)))
def TL(fu_:Nat)(U:AT×Int)(V:(List ((Int×Int)×Bool)))(K:Bc):Option (Bq (Bc) (((List Int)×Int)⊕(Unit))):= if 0<(K.length:Int) then(Option.bind (iter (Tx fu_ U V K) fu_ ([],0)) λY=> Sum.elim (λr=>some (.done (Sum.inl r))) (λO=> if(O.length:Int)=0 then(some (.done (Sum.inr ()))) else(some (.more O))) Y) else(some (.done (Sum.inr ())))
def f33(fu_:Nat)(p0:AT):Option ((List Int)×Int):= (f70 fu_ p0 ([])).bind λK=> if K.2≠0 then(some ([],K.2)) else(Option.bind (iter (TM fu_ K) fu_ (([]:List ((Int×Int)×Bool)),0)) λO=> Option.bind (iter (TL fu_ K O) fu_ ([[]]:Bc)) λU=> Sum.elim (λr=>some r) (λV=> some ([],11)) U)
theorem TY{a1:Ao}{c2:Nat}{cI:Ao}{cJ:Nat}{p0:AT}(dj:Al (rL rI) E a1 c2 p0.1)(dk:Al Au E cI cJ p0.2){fu_:Nat}{r:(List Int)×Int}(cK:f33 fu_ p0=some r):AM J 45 [.agg #[sV a1 p0.1 c2,sV cI p0.2 cJ]] E [] (λw E' B'=>∃(cM:Ao) (cN:Nat),w= .tuple #[sV cM r.1 cN,iV r.2]/\B'= []/\Al rI E' cM cN r.1):=by
 refine Be func45 λQ gl cs H dm cq=>?_;unfold f33 at cK;refine C 2 rfl (CC dm λgm gn bw dn dp=>?_);refine C 6 rfl (BT dn Dk BP rfl rfl ?_);obtain⟨bx,dq,dr⟩:=bs cK;refine A2 (HD (dj.Ag bw) (dk.Ag bw) Al.nil dq) rfl rfl Hk dp ?_;rintro _ gp _ cr ⟨gq,gr,dt,du,rfl,rfl,gt,dv⟩ dw;refine C 3 rfl (Bz dw FL λac dx=>?_);refine Bv 3 dx Cr λdy=>?_;refine B7 3 dy rfl λct b3 cO cP=>C 8 rfl (AU dr (λdz dA=>?_) (λdz dB=>?_))
 ·refine C 6 rfl ?_;obtain rfl:=oi dA;exact AS func45 rfl rfl (cq ((bw.Ad cr).Ad b3) rfl ⟨none,0,rfl,rfl,Al.nil⟩ cP)
 ·refine C 3 rfl (JS.makeMap rfl rfl rfl cP λK dC=>?_);refine C 5 rfl (JL.fd underlying78 BP rfl rfl rfl ?_);refine BQ 1 cO underlying28 EX Gv ?_;refine JL.ln underlying26 rfl rfl rfl ?_;obtain⟨a9,dD,dE⟩:=bs dB;refine C 2 rfl (Bu (λL s=>∃(bb:LH) (Z:Obj),Jn ct H bb [[(K,Z)]] [(4,Ak ac 0),(6,.map (some K))] L s (Bw Dm true rB false bb Z a9)) ?_ ?_)
  ·rintro _ _ ⟨bb,Z,rfl,rfl,cu,dF,cQ⟩;refine C 2 rfl (Da (pp:=(rL rI)) [nS] [[]] rfl rfl rfl underlying25 De HT (by decide) rfl rfl rfl ⟨⟨_,_,rfl,Al.nil⟩,trivial⟩ dF λdG dH dI dJ=>?_);refine C 3 rfl (JL.label ?_);obtain⟨cv,dK,cR⟩:=bs dE;refine JL.seq (Bu (λL s=>∃(cT:Unit) (cV:LH),cv=Sum.inr cT/\Jm bb H cV [] [] L s) ?_ ?_)
   ·rintro _ _ ⟨cT,cV,rfl,rfl,rfl,dL,dM⟩;have dN:=elim_inr cR;refine C 5 rfl ?_;obtain rfl:=oi dN;exact AS func45 rfl rfl (cq ((((bw.Ad cr).Ad b3).Ad cu).Ad dL) rfl ⟨none,0,rfl,rfl,Al.nil⟩ dM)
   ·intro cW;refine JL.block (CZ dK (λL s O=>∃(a0:LH) (ag:Ao) (al:Nat) (am:Seg),Jn bb H a0 [[(K,Z)],am] [(4,Ak ac 0),(6,.map (some K)),(9,sV ag O al)] L s (OL 22 (rL rI) a0 ag al am O)) ⟨bb,(A0 dG),1,dH,rfl,rfl,AA,dJ,dI⟩ ?_);rintro _ _ O ⟨a0,ag,al,am,rfl,rfl,a2,cX,dO⟩ cw ⟨gu,bz⟩ dP;have cY:=bz;unfold TL at cY;refine C 4 rfl (JL.ln underlying25 rfl rfl rfl ?_);refine C 2 rfl (AU cY (λdQ dR=>?_) (λdQ dS=>?_))
    ·refine C 10 rfl (JL.ln underlying25 rfl rfl rfl ?_);obtain⟨cZ,dT,c0⟩:=bs dR;refine C 2 rfl (Bu (λL s=>∃(bY:Bc) (bZ:LH) (b4:Ao) (b5:Nat) (b6:Seg),cZ=Sum.inr bY/\Jn a0 H bZ [[(K,Z)],b6] [(4,Ak ac 0),(6,.map (some K)),(10,sV b4 bY b5)] L s (OL 22 (rL rI) bZ b4 b5 b6 bY)) ?_ ?_)
     ·rintro _ _ ⟨bY,bZ,b4,b5,b6,rfl,rfl,rfl,c1,c3,dU⟩;have dV:=elim_inr c0;refine C 8 rfl (JL.ln underlying25 rfl rfl rfl ?_);refine C 2 rfl (AU dV (λdW dX=>?_) (λdW dY=>?_))
      ·refine JL.exit rfl (JS.drop 0 c3 rfl λdZ=>?_);refine JS.drop 1 dZ rfl λea=>?_;obtain rfl:=oi dX;have eb:cv=(Sum.inr ()):=(cw _ bz).symm;exact Az (cW _ _ ⟨(),bZ,eb,rfl,rfl,(a2.Ad c1),ea⟩) rfl
      ·refine C 2 rfl ?_;obtain rfl:=oi dY;exact Az (dP _ _ bY ⟨bZ,b4,b5,b6,rfl,rfl,(a2.Ad c1),c3,dU⟩ bz) rfl
     ·intro ec;refine JL.block (CZ dT (λL s V=>∃(aq:LH) (bd:Ao) (be:Nat) (bi:Seg),Jn a0 H aq [[(K,Z)],am,bi] [(4,Ak ac 0),(6,.map (some K)),(10,sV bd V.1 be),(43,sV ag O al),(44,iV (O.length:Int)),(45,iV V.2)] L s (OL 22 (rL rI) aq bd be bi V.1)) ⟨a0,none,0,[],rfl,rfl,AA,cX,OL.nil⟩ ?_);rintro _ _ V ⟨aq,bd,be,bi,rfl,rfl,a3,b0,c4⟩ c5 ⟨gv,b7⟩ ed;have c6:=b7;unfold Tx at c6;refine C 5 rfl (AU c6 (λee ef=>?_) (λee eg=>?_))
      ·obtain⟨aw,eh,ei⟩:=bs ef;refine C 5 rfl (KS 1 (dO.Ag a3) eh rfl rfl rfl rfl rfl rfl underlying25 De ?_);rintro gw gx f155 _ ej ⟨a4,bn,rfl,ay⟩ ek gy gz gA gB;refine Am (v:= sV a4 aw bn) rfl (λρ h=>Yl.load It (h _ _ rfl) (BC (j:=1) b0 ej (ek 0 _ rfl))) (C 6 rfl ?_);refine JL.ln underlying22 rfl rfl rfl (C 3 rfl ?_);refine PG 15 λY=>A3 Y rfl [0,1,2] rfl ?_;obtain⟨el,c7,em⟩:=bs ei;refine DL 0 #[true,true,true,true,true,true,true,true,true,true,true,true,true,true,true] (λL s=>L= [(4,Ak ac 0),(6,.map (some K)),(10,sV bd V.1 be),(12,sV a4 aw bn),(43,sV ag O al),(44,iV (O.length:Int)),(45,iV V.2),(65,.bool el)]/\s=Aj aq H [[(K,Z)],am,bi]) ?_ ?_
       ·rintro _ _ ⟨rfl,rfl⟩;refine AO.fin (by decide+kernel) (Cd em (λen eo=>?_) (λen ep=>?_))
        ·refine C 6 rfl (JS.drop 0 b0 rfl λer=>?_);refine JS.drop 1 er rfl λet=>JS.drop 2 et rfl λeu=>?_;obtain rfl:=oi eo;obtain rfl:=c5 _ b7;have ew:=elim_inl c0;obtain rfl:=oi ew;obtain rfl:=cw _ bz;have ex:=elim_inl cR;obtain rfl:=oi ex;exact AS func45 rfl rfl (cq (((((bw.Ad cr).Ad b3).Ad cu).Ad a2).Ad a3) rfl ⟨a4,bn,rfl,rfl,ay⟩ eu)
        ·refine C 3 rfl (JL.fd underlying78 BP rfl rfl rfl ?_);refine BQ 0 (cO.Ag ((cu.Ad a2).Ad a3)) underlying28 Cc CJ ?_;refine JL.ln underlying25 rfl rfl rfl ?_;obtain⟨cy,ey,ez⟩:=bs ep;refine C 2 rfl (Bu (λL s=>∃(b8:LH) (b9:Ao) (ca:Nat) (cb:Seg),Jn aq H b8 [[(K,Z)],am,cb] [(4,Ak ac 0),(6,.map (some K)),(10,sV b9 cy ca),(43,sV ag O al),(44,iV (O.length:Int)),(45,iV V.2)] L s (OL 22 (rL rI) b8 b9 ca cb cy)) ?_ ?_)
         ·rintro _ _ ⟨b8,b9,ca,cb,rfl,rfl,eA,eB,eC⟩;obtain⟨eD,eE,eF⟩:=bs ez;refine C 2 rfl (Bn eE rfl rfl rfl ?_);refine C 2 rfl ?_;obtain rfl:=oi eF;exact Az (ed _ _ (cy,eD) ⟨b8,b9,ca,cb,rfl,rfl,(a3.Ad eA),eB,eC⟩ b7) rfl
         ·intro eG;refine JL.block (CZ ey (λL s U=>∃(b1:LH) (a5:Ao) (a6:Nat) (bo:Seg),Jn aq H b1 [[(K,Z)],am,bo] [(4,Ak ac 0),(6,.map (some K)),(10,sV a5 U.1 a6),(12,sV a4 aw bn),(43,sV ag O al),(44,iV (O.length:Int)),(45,iV V.2),(70,iV (bx.1.1.length:Int)),(71,iV U.2)] L s (OL 22 (rL rI) b1 a5 a6 bo U.1)) ⟨aq,bd,be,bi,rfl,rfl,AA,b0,c4⟩ ?_);rintro _ _ U ⟨b1,a5,a6,bo,rfl,rfl,az,c8,cz⟩ eH ⟨gC,cA⟩ eI;have c9:=cA;unfold TO at c9;refine C 5 rfl (AU c9 (λeJ eK=>?_) (λeJ eL=>?_))
          ·obtain⟨cB,eM,eN⟩:=bs eK;refine C 2 rfl (Bu (λL s=>∃(cc:LH) (cd:Ao) (ce:Nat) (cf:Seg),Jn b1 H cc [[(K,Z)],am,cf] [(4,Ak ac 0),(6,.map (some K)),(10,sV cd cB ce),(12,sV a4 aw bn),(43,sV ag O al),(44,iV (O.length:Int)),(45,iV V.2),(70,iV (bx.1.1.length:Int)),(71,iV U.2)] L s (OL 22 (rL rI) cc cd ce cf cB)) ?_ ?_)
           ·rintro _ _ ⟨cc,cd,ce,cf,rfl,rfl,eO,eP,eQ⟩;obtain⟨eR,eS,eT⟩:=bs eN;refine JL.region (Bn eS rfl rfl rfl ?_);refine C 2 rfl ?_;obtain rfl:=oi eT;exact Az (eI _ _ (cB,eR) ⟨cc,cd,ce,cf,rfl,rfl,(az.Ad eO),eP,eQ⟩ cA) rfl
           ·intro da;obtain⟨gD,eU,eV⟩:=bs eM;refine C 11 rfl (BH (bC (ay.Ag az) eU) rfl rfl (A1 func86 rfl) c8 λcg ap ci=>?_);obtain⟨eW,eX,eY⟩:=bs eV;refine C 1 rfl (Fx [] (λL s=>∃(cC:LH),Jm cg H cC [[(K,Z)],am,bo] [(4,Ak ac 0),(6,.map (some K)),(10,sV a5 U.1 a6),(12,sV a4 aw bn),(14,iV U.2),(43,sV ag O al),(44,iV (O.length:Int)),(45,iV V.2),(70,iV (bx.1.1.length:Int)),(71,iV U.2),(94,.bool eW)] L s) ?_ ?_)
            ·rintro _ _ ⟨cC,rfl,rfl,a7,db⟩;refine JL.done (Cd eY (λeZ e0=>?_) (λeZ e1=>?_))
             ·refine JL.exit rfl ?_;obtain rfl:=oi e0;exact Az (da _ _ ⟨cC,a5,a6,bo,rfl,rfl,(ap.Ad a7),db,(cz.Ag (ap.Ad a7))⟩) rfl
             ·refine C 5 rfl (JL.ln underlying22 rfl rfl rfl ?_);refine C 1 rfl (JL.ln underlying22 rfl rfl rfl ?_);refine Am (v:= .slice a4 aw.length aw.length) rfl (λρ h=>ME (Al.spot (ay.Ag ((az.Ad ap).Ad a7))) (And.left (ay.Ag ((az.Ad ap).Ad a7))) underlying22 Ay (h _ _ rfl) (h _ _ rfl) (h _ _ rfl)) (C 1 rfl ?_);refine Da (pp:=rI) [iV U.2] [U.2] rfl rfl rfl underlying22 Ay Bx (by decide) rfl rfl rfl ⟨rfl,trivial⟩ db λgE gF e3 e4=>Bd 3 e3 e4 rfl λgG cD e5 e6=>?_;obtain⟨e7,e8,e9⟩:=bs e1;refine QG (pp:=rI) e8 rfl rfl rfl rfl rfl rfl rfl underlying22 underlying22 Ay (Dt type3) Bx rfl (by decide) (by decide) (ay.Ag (((az.Ad ap).Ad a7).Ad cD)) e5 e6 λfa fb fc dc fe ff=>?_;obtain⟨gH,fg,fh⟩:=bs e9;refine JS.app (pp:=(rL rI)) (v:= sV fb e7 fc) (a:=a5) (c:=a6) 2 fg rfl rfl rfl rfl (λ_=>rfl) rfl (λ_=>rfl) rfl rfl rfl underlying25 underlying25 underlying25 De (Dt type22) HT rfl (by decide) (by decide) (by decide) (by decide) (cz.Ag (((ap.Ad a7).Ad cD).Ad dc)) ⟨_,_,rfl,fe⟩ ff rfl λgI fj fk fl fm fo=>C 3 rfl ?_;obtain rfl:=oi fh;exact Az (da _ _ ⟨fa,fj,fk,fl,rfl,rfl,(((ap.Ad a7).Ad cD).Ad dc),fo,fm⟩) rfl
            ·intro cE;refine Ci 77 eX (λfp fq=>?_) (λfp fs=>?_)
             ·refine C 17 rfl ?_;obtain rfl:=oi fq;exact Az (cE _ _ ⟨cg,rfl,rfl,AA,ci⟩) rfl
             ·refine C 1 rfl (JL.ln underlying22 rfl rfl rfl ?_);refine C 2 rfl (G1 81 fs (λfu fv=>?_) (λfu fw=>?_))
              ·refine C 3 rfl (JL.ln underlying22 rfl rfl rfl ?_);obtain⟨gJ,fx,fy⟩:=bs fv;refine Dh fx rfl rfl rfl ?_;obtain⟨ck,fz,fA⟩:=bs fy;refine Dp (ay.Ag (az.Ad ap)) fz underlying22 Ay ?_;rintro gK gL _ rfl fB;refine CG 0 fB Bb rfl rfl rfl (C 1 rfl ?_);refine Am (v:= .agg #[iV ck,iV U.2]) rfl (λρ h=>Ch [(0,1),(1,1)] h Hi underlying122 ⟨rfl,AJ type3,rfl,AJ type3,trivial⟩ rfl rfl) (Am (v:= .bool (((Bf a9 (ck,U.2)).getD false))) rfl (λρ h=>Yl.lookup (ok:=false) (xs:=a9) (x0:=(ck,U.2)) (z0:=false) Ia underlying124 Lp ⟨_,rfl,rfl⟩ (cQ.Ag (((a2.Ad a3).Ad az).Ad ap)) ⟨_,⟨_,_,rfl,rfl,rfl⟩,rfl⟩ (by rintro _ ⟨_,rfl,rfl⟩;rfl) (h _ _ rfl) (h _ _ rfl) (C6 (j:=0) (i:=0) ci rfl rfl)) ?_);refine Am (v:= .bool ((!((Bf a9 (ck,U.2)).getD false)))) rfl (λρ h=>Yl.not (h _ _ rfl)) (C 2 rfl ?_);obtain rfl:=oi fA;exact Az (cE _ _ ⟨cg,rfl,rfl,AA,ci⟩) rfl
              ·refine C 13 rfl ?_;obtain rfl:=oi fw;exact Az (cE _ _ ⟨cg,rfl,rfl,AA,ci⟩) rfl
          ·refine JL.exit rfl ?_;obtain rfl:=oi eL;obtain rfl:=eH _ cA;exact Az (eG _ _ ⟨b1,a5,a6,bo,rfl,rfl,az,c8,cz⟩) rfl
       ·intro dd;refine Gy (q:=1<(aw.length:Int)) (i:=53) rfl (λcF=>?_) (λcF=>?_)
        ·have fC:=ip c7 cF;refine A3 Y rfl [3,4,5] rfl ?_;obtain⟨gM,fD,fE⟩:=bs fC;refine AN 6 Y rfl rfl (λρ h s' a8=>Ej (h _ _ rfl) (h _ _ rfl) fD) ?_;obtain⟨cm,fF,fG⟩:=bs fE;refine EK 7 ay fF Y underlying22 Ay ?_;rintro gN gO _ rfl fH;refine AN (v:=iV cm) 8 Y rfl rfl (λρ h s' a8=>Yl.load Bb (h _ _ rfl) (L2 a8 (At.I4 (j:=0) fH rfl))) ?_;refine BR 9 Y rfl rfl ?_;obtain⟨cn,fI,fJ⟩:=bs fG;refine EK 10 ay fI Y underlying22 Ay ?_;rintro gP gQ _ rfl fK;refine AN (v:=iV cn) 11 Y rfl rfl (λρ h s' a8=>Yl.load Bb (h _ _ rfl) (L2 a8 (At.I4 (j:=0) fK rfl))) ?_;refine AN (v:= .agg #[iV cm,iV cn]) 12 Y rfl rfl (λρ h s' a8=>Ch [(0,1),(1,1)] h Hi underlying122 ⟨rfl,AJ type3,rfl,AJ type3,trivial⟩ rfl rfl) ?_;refine AN (v:= .bool (((Bf a9 (cm,cn)).getD false))) 13 Y rfl rfl (λρ h s' a8=>Yl.lookup (ok:=false) (xs:=a9) (x0:=(cm,cn)) (z0:=false) Ia underlying124 Lp ⟨_,rfl,rfl⟩ (cQ.Ag (a2.Ad a3)) ⟨_,⟨_,_,rfl,rfl,rfl⟩,rfl⟩ (by rintro _ ⟨_,rfl,rfl⟩;rfl) (h _ _ rfl) (h _ _ rfl) (P3 a8 (C6 (j:=0) (i:=0) b0 rfl rfl))) ?_;refine BR 14 Y rfl rfl ?_;obtain rfl:=oi fJ;refine B8 ?_ (dd _ _ ⟨rfl,rfl⟩);exact⟨rfl,rfl,rfl,rfl,rfl,rfl,rfl,rfl,trivial⟩
        ·have fL:=im c7 cF;refine A3 Y rfl [3,4,5,6,7,8,9,10,11,12,13,14] rfl ?_;obtain rfl:=oi fL;refine B8 ?_ (dd _ _ ⟨rfl,rfl⟩);exact⟨rfl,rfl,rfl,rfl,rfl,rfl,rfl,rfl,trivial⟩
      ·refine JL.exit rfl (JS.drop 1 b0 rfl λfM=>?_);obtain rfl:=oi eg;have fN:cZ=(Sum.inr V.1):=(c5 _ b7).symm;exact Az (ec _ _ ⟨V.1,aq,bd,be,bi,fN,rfl,rfl,a3,fM,c4⟩) rfl
    ·refine JL.exit rfl (JS.drop 0 cX rfl λfO=>?_);refine JS.drop 1 fO rfl λfP=>?_;obtain rfl:=oi dS;have fQ:cv=(Sum.inr ()):=(cw _ bz).symm;exact Az (cW _ _ ⟨(),a0,fQ,rfl,rfl,a2,fP⟩) rfl
  ·intro fR;refine JL.block (CZ dD (λL s b2=>∃(co:LH) (cp:Obj),Jn ct H co [[(K,cp)]] [(4,Ak ac 0),(6,.map (some K)),(26,sV dt bx.1.2 du),(27,iV (bx.1.2.length:Int)),(28,iV b2.2)] L s (Bw Dm true rB false co cp b2.1)) ⟨ct,(.map #[] 0),rfl,rfl,AA,dC,Bw.nil⟩ ?_);rintro _ _ b2 ⟨co,cp,rfl,rfl,cG,de,df⟩ fS ⟨gR,cH⟩ fT;have dg:=cH;unfold TM at dg;refine C 5 rfl (AU dg (λfU fW=>?_) (λfU fX=>?_))
   ·obtain⟨bv,fY,fZ⟩:=bs fW;refine C 5 rfl (Dp (dv.Ag (b3.Ad cG)) fY underlying26 Bi ?_);rintro gS gT _ ⟨_,_,rfl,rfl,⟨_,_,rfl,rfl,rfl⟩⟩ ga;refine BT ga Ds Bi rfl rfl (Bz de BM λgU gb=>?_);refine Bv 1 gb Bi λgc=>?_;refine B7 1 gc rfl λgd dh di ge=>C 3 rfl (BQ 0 di underlying42 Ay Bb ?_);refine BQ 1 di underlying42 Ay Bb ?_;refine Am (v:= .agg #[iV bv.1,iV bv.2.1]) rfl (λρ h=>Ch [(0,1),(1,1)] h Hi underlying122 ⟨rfl,AJ type3,rfl,AJ type3,trivial⟩ rfl rfl) (JS.mapUpdate (xs:=b2.1) (x0:=(bv.1,bv.2.1)) (v0:=true) 0 Ia underlying124 (df.Ag dh) ⟨_,⟨_,_,rfl,rfl,rfl⟩,rfl⟩ ⟨_,rfl,rfl⟩ ge rfl rfl rfl rfl rfl rfl rfl λgf gg gh=>?_);obtain⟨gi,gj,gk⟩:=bs fZ;refine C 3 rfl (Bn gj rfl rfl rfl ?_);refine C 2 rfl ?_;obtain rfl:=oi gk;exact Az (fT _ _ ((Bp b2.1 (bv.1,bv.2.1) true),gi) ⟨gd,gf,rfl,rfl,(cG.Ad dh),gh,gg⟩ cH) rfl
   ·refine JL.exit rfl ?_;obtain rfl:=oi fX;obtain rfl:=fS _ cH;exact Az (fR _ _ ⟨co,cp,rfl,rfl,cG,de,df⟩) rfl
variable {J:Judge Tryz.prog}
def TH:List Nat:= [0,1,2,2,3,3,3,3,4,4,4,4,4,4,4,4,5,5,5,5,5,5,5,5,5,5,5,5,5,5,5,5,6,6,6,6,6,6,6,6,6,6,6,6,6,6,6,6,6,6,6,6,6,6,6,6,6,6,6,6,6,6,6,6,7,7,7,7,7,7,7,7,7,7,7,7,7,7,7,7,7,7,7,7,7,7,7,7,7,7,7,7,7,7,7,7,7,7,7,7,7,7,7,7,7,7,7,7,7,7,7,7,7,7,7,7,7,7,7,7,7,7,7,7,7,7,7,7,8,8,8,8,8,8,8,8,8,8,8,8,8,8,8,8,8,8,8,8,8,8,8,8,8,8,8,8,8,8,8,8,8,8,8,8,8,8,8,8,8,8,8,8,8,8,8,8,8,8,8,8,8,8,8,8,8,8,8,8,8,8,8,8,8,8,8,8,8,8,8,8,8,8,8,8,8,8,8,8,8,8,8,8,8,8,8,8,8,8,8,8,8,8,8,8,8,8,8,8,8,8,8,8,8,8,8,8,8,8,8,8,8,8,8,8,8,8,8,8,8,8,8,8,8,8,8,8]
def f146(fu_:Nat)(p0:Nat):Option Int:= Option.bind (if(((4294967296):Nat):Int)<=(((p0):Nat):Int) then(some (p0>>>32,32)) else(some (p0,0))) λK=> Option.bind (if(((65536):Nat):Int)<=(((K.1):Nat):Int) then((Av (K.2+16)).bind λV=> some (K.1>>>16,V)) else(some K)) λO=> Option.bind (if(((256):Nat):Int)<=(((O.1):Nat):Int) then((Av (O.2+8)).bind λY=> some (O.1>>>8,Y)) else(some O)) λU=> (P8 TH (((((U.1) % 256):Nat):Int))).bind λZ=> (Av (((Z):Nat):Int)).bind λac=> (Av (U.2+ac)).bind λag=> some ag
theorem Y7{p0:Nat}{fu_:Nat}{r:Int}(V:f146 fu_ p0=some r):AM J 155 [.int .u64 ((p0:Nat):Int)] E [] (λw E' B'=>w=iV r/\B'= []):=by
 refine Be func155 λQ b5 cs H Y ap=>?_;unfold f146 at V;obtain⟨K,aq,aw⟩:=bs V;refine C 10 rfl (Ec [] [(0,.int .u64 ((K.1:Nat):Int)),(2,iV K.2)] (λb6 ay Z=>?_) (λac=>?_))
 ·obtain⟨O,az,a0⟩:=bs aw;refine C 6 rfl (Ec [] [(0,.int .u64 ((O.1:Nat):Int)),(2,iV O.2)] (λb7 a1 ag=>?_) (λal=>?_))
  ·obtain⟨U,a2,a3⟩:=bs a0;refine C 6 rfl (Ec [] [(0,.int .u64 ((U.1:Nat):Int)),(2,iV U.2)] (λb8 a4 a5=>?_) (λam=>?_))
   ·refine C 4 rfl (Am (v:= .int .u8 (((U.1) % 256:Nat):Int)) rfl (λρ h=>Yf underlying72 underlying5 (h _ _ rfl)) ?_);obtain⟨a6,a7,a8⟩:=bs a3;refine Am (v:= .int .u8 ((a6:Nat):Int)) rfl (λρ h=>VM (l:=TH) (by decide+kernel) underlying9 (h _ _ rfl) (h _ _ rfl) a7) ?_;obtain⟨a9,bb,bd⟩:=bs a8;refine Am (v:=iV a9) rfl (λρ h=>Yn underlying5 underlying3 (h _ _ rfl) bb) ?_;obtain⟨b9,be,bi⟩:=bs bd;refine Bn be rfl rfl rfl (C 2 rfl ?_);obtain rfl:=oi bi;exact AS func155 rfl rfl (ap ((ay.Ad a1).Ad a4) rfl ⟨rfl,rfl⟩ a5)
   ·refine AU a2 (λbn bo=>?_) (λbn bv=>?_)
    ·refine C 3 rfl (Am (v:= .int .u64 ((O.1>>>8:Nat):Int)) rfl (λρ h=>OM 8 (h _ _ rfl) (h _ _ rfl) (by decide)) ?_);obtain⟨ca,bw,bx⟩:=bs bo;refine C 4 rfl (Bn bw rfl rfl rfl ?_);refine C 2 rfl ?_;obtain rfl:=oi bx;exact am AA ag rfl
    ·refine JL.skip ?_;obtain rfl:=oi bv;exact am AA ag rfl
  ·refine AU az (λbz bY=>?_) (λbz bZ=>?_)
   ·refine C 3 rfl (Am (v:= .int .u64 ((K.1>>>16:Nat):Int)) rfl (λρ h=>OM 16 (h _ _ rfl) (h _ _ rfl) (by decide)) ?_);obtain⟨cb,b0,b1⟩:=bs bY;refine C 4 rfl (Bn b0 rfl rfl rfl ?_);refine C 2 rfl ?_;obtain rfl:=oi b1;exact al AA Z rfl
   ·refine JL.skip ?_;obtain rfl:=oi bZ;exact al AA Z rfl
 ·refine AU aq (λb2 b3=>?_) (λb2 b4=>?_)
  ·refine C 3 rfl (Am (v:= .int .u64 ((p0>>>32:Nat):Int)) rfl (λρ h=>OM 32 (h _ _ rfl) (h _ _ rfl) (by decide)) ?_);refine C 5 rfl ?_;obtain rfl:=oi b3;exact ac AA Y rfl
  ·refine JL.skip ?_;obtain rfl:=oi b4;exact ac AA Y rfl
def f115(fu_:Nat)(p0:Nat):Option Int:= (f146 fu_ p0).bind λK=> some K
theorem Nm{p0:Nat}{fu_:Nat}{r:Int}(K:f115 fu_ p0=some r):AM J 103 [.int .u64 ((p0:Nat):Int)] E [] (λw E' B'=>w=iV r/\B'= []):=by
 refine Be func103 λQ ag cs H O U=>?_;unfold f115 at K;obtain⟨al,V,Y⟩:=bs K;refine C 10 rfl (BH (Y7 V) rfl rfl (A1 func155 rfl) O λam Z ac=>?_);refine C 2 rfl ?_;obtain rfl:=oi Y;exact AS func103 rfl rfl (U Z rfl ⟨rfl,rfl⟩ ac)
def M9(fu_:Nat)(p1:Int)(K:Int×Aw):Option (Bq (Int×Aw) (Aw)):= Option.bind (if p1<K.1 then((ix K.2 K.1).bind λV=> (Av (K.1 - 1)).bind λY=> (ix K.2 Y).bind λZ=> (f113 fu_ V Z).bind λac=> some (decide (ac<0))) else(some false)) λag=> if ag=true then((Av (K.1 - 1)).bind λO=> (Av (K.1 - 1)).bind λal=> (ix K.2 al).bind λU=> (ix K.2 K.1).bind λam=> (ix (K.2.set (Int.toNat K.1) U) O).bind λaq=> (Av (K.1 - 1)).bind λap=> some (.more (ap,((K.2.set (Int.toNat K.1) U).set (Int.toNat O) am)))) else(some (.done K.2))
def Nb(fu_:Nat)(p1:Int)(p2:Int)(K:Int×Aw):Option (Bq (Int×Aw) (Aw)):= if K.1<p2 then(Option.bind (iter (M9 fu_ p1) fu_ K) λO=> (Av (K.1+1)).bind λU=> some (.more (U,O))) else(some (.done K.2))
def f193(fu_:Nat)(p0:Aw)(p1:Int)(p2:Int):Option (Aw):= (Av (p1+1)).bind λK=> Option.bind (iter (Nb fu_ p1 p2) fu_ (K,p0)) λO=> some O
theorem Zi{K:Nat}{U:Nat}{nw:Nat}{a4:Av_}{p0:Aw}{p1:Int}{p2:Int}(hW:WL 42 Au E K U nw a4 p0){fu_:Nat}{r:Aw}(bb:f193 fu_ p0 p1 p2=some r):AM J 179 [.slice (A0 K) nw U,iV p1,iV p2,(fV 105)] E [(K,.cells a4 42 (0,0))] (λw E' B'=>∃(bd:Av_),w= .tuple #[]/\B'= [(K,.cells bd 42 (0,0))]/\WL 42 Au E' K U nw bd r):=by
 refine Be func179 λQ da cs H b5 b6=>?_;unfold f193 at bb;obtain⟨db,b7,b8⟩:=bs bb;refine C 3 rfl (Bn b7 rfl rfl rfl ?_);obtain⟨b9,ca,cb⟩:=bs b8;refine C 2 rfl (Bu (λL s=>∃(a5:LH) (f17:Av_),Jn E H a5 [bX K f17 42] [] L s (WL 42 Au a5 K U nw f17 b9)) ?_ ?_)
 ·rintro _ _ ⟨a5,f17,rfl,rfl,cc,cd,ce⟩;obtain rfl:=oi cb;exact JL.fin (v:= .tuple #[]) rfl rfl (BB.list func179 rfl (vs:= []) trivial) (b6 cc rfl ⟨f17,rfl,(by first | rfl | simp | (simp [Value.cells])),ce⟩ cd)
 ·intro cf;refine JL.block (CZ ca (λL s al=>∃(ag:LH) (f25:Av_),Jn E H ag [bX K f25 42] [(0,.slice (A0 K) nw U),(1,iV p1),(2,iV p2),(3,(fV 105)),(8,iV al.1)] L s (WL 42 Au ag K U nw f25 al.2)) ⟨E,a4,rfl,rfl,AA,b5,hW⟩ ?_);rintro _ _ al ⟨ag,f25,rfl,rfl,be,bi,bn⟩ cg ⟨dc,a6⟩ ci;have bo:=a6;unfold Nb at bo;refine C 7 rfl (AU bo (λck cm=>?_) (λck cn=>?_))
  ·obtain⟨bv,co,cp⟩:=bs cm;refine C 8 rfl (Bu (λL s=>∃(a0:LH) (f48:Av_),Jn ag H a0 [bX K f48 42] [(0,.slice (A0 K) nw U),(1,iV p1),(2,iV p2),(3,(fV 105)),(8,iV al.1)] L s (WL 42 Au a0 K U nw f48 bv)) ?_ ?_)
   ·rintro _ _ ⟨a0,f48,rfl,rfl,cq,cr,ct⟩;obtain⟨cu,cv,cw⟩:=bs cp;refine C 3 rfl (Bn cv rfl rfl rfl ?_);refine C 2 rfl ?_;obtain rfl:=oi cw;exact Az (ci _ _ (cu,bv) ⟨a0,f48,rfl,rfl,(be.Ad cq),cr,ct⟩ a6) rfl
   ·intro cy;refine JL.block (CZ co (λL s ac=>∃(aw:LH) (f58:Av_),Jn ag H aw [bX K f58 42] [(0,.slice (A0 K) nw U),(1,iV p1),(2,iV p2),(3,(fV 105)),(8,iV al.1),(9,iV ac.1)] L s (WL 42 Au aw K U nw f58 ac.2)) ⟨ag,f25,rfl,rfl,AA,bi,bn⟩ ?_);rintro _ _ ac ⟨aw,f58,rfl,rfl,bw,ay,O⟩ cz ⟨dd,a7⟩ cA;have bx:=a7;unfold M9 at bx;refine C 2 rfl (FR 17 [K] ⟨⟨0,_,rfl⟩,trivial⟩ ay λZ=>?_);refine A3 Z rfl [0,1,2,3] rfl ?_;obtain⟨cB,bz,cC⟩:=bs bx;refine DL 0 #[true,true,true,true,true,true,true,true,true,true,true,true,true,true,true,true,true] (λL s=>∃(a1:LH),Jm aw H a1 [bX K f58 42] [(0,.slice (A0 K) nw U),(1,iV p1),(2,iV p2),(3,(fV 105)),(8,iV al.1),(9,iV ac.1),(34,.bool cB)] L s) ?_ ?_
    ·rintro _ _ ⟨a1,rfl,rfl,am,a2⟩;refine AO.fin (by decide+kernel) (Cd cC (λcD cE=>?_) (λcD cF=>?_))
     ·refine C 3 rfl (Ix [15,17] [K] [] mixed rfl ?_);refine Bt 0 rfl rfl (Bt 1 rfl rfl ?_);refine Bt 2 rfl rfl (Bt 3 rfl rfl ?_);obtain⟨bY,cG,cH⟩:=bs cE;refine HJ 4 true rfl rfl (λρ h s' bZ=>Ej (h _ _ rfl) (h _ _ rfl) cG) (Bt 5 rfl rfl ?_);refine Bt 6 rfl rfl ?_;obtain⟨de,cI,cJ⟩:=bs cH;refine HJ 7 true rfl rfl (λρ h s' bZ=>Ej (h _ _ rfl) (h _ _ rfl) cI) ?_;obtain⟨V,b0,cK⟩:=bs cJ;obtain⟨_,⟨_,_,rfl,rfl,⟨_,_,rfl,rfl,rfl⟩⟩,cM⟩:=WL.at (O.Ag am) b0;refine Cq 8 O.2 b0 underlying26 Bi ?_;refine T6 9 [iV V.1,iV V.2.1,iV V.2.2] 0 a2 cM Ds Bi ?_;refine Bt 10 rfl rfl (Bt 11 rfl rfl ?_);obtain⟨Y,a3,cN⟩:=bs cK;obtain⟨_,⟨_,_,rfl,rfl,⟨_,_,rfl,rfl,rfl⟩⟩,cO⟩:=WL.at (O.Ag am) a3;refine Cq 12 O.2 a3 underlying26 Bi ?_;refine T6 13 [iV Y.1,iV Y.2.1,iV Y.2.2] 0 a2 cO Ds Bi ?_;refine Cq 14 O.2 a3 underlying26 Bi ?_;have az:=WL.put (x':=V) (ws':= [iV V.1,iV V.2.1,iV V.2.2]) (O.Ag am) O.2 a3 ⟨_,_,rfl,rfl,⟨_,_,rfl,rfl,rfl⟩⟩;refine Fb 15 0 a2 Bi trivial az.2 λcP=>?_;obtain⟨df,a8,cQ⟩:=bs cN;obtain⟨_,⟨_,_,rfl,rfl,⟨_,_,rfl,rfl,rfl⟩⟩,dg⟩:=WL.at az.1 a8;refine Cq 16 (az.1).2 a8 underlying26 Bi ?_;have b1:=WL.put (x':=Y) (ws':= [iV Y.1,iV Y.2.1,iV Y.2.2]) az.1 (az.1).2 a8 ⟨_,_,rfl,rfl,⟨_,_,rfl,rfl,rfl⟩⟩;refine Fb 17 0 cP Bi trivial b1.2 λcR=>?_;refine JB.fin (by decide+kernel) ?_;obtain⟨cT,cV,cW⟩:=bs cQ;refine C 3 rfl (Dh cV rfl rfl rfl ?_);refine C 2 rfl ?_;obtain rfl:=oi cW;exact Az (cA _ _ (cT,((ac.2.set (Int.toNat ac.1) V).set (Int.toNat bY) Y)) ⟨a1,(A7 (A7 f58 (Int.toNat (ac.1)*3) [iV V.1,iV V.2.1,iV V.2.2]) (Int.toNat (bY)*3) [iV Y.1,iV Y.2.1,iV Y.2.2]),rfl,rfl,(bw.Ad am),cR,b1.1⟩ a7) rfl
     ·refine JL.exit rfl ?_;obtain rfl:=oi cF;obtain rfl:=cz _ a7;exact Az (cy _ _ ⟨a1,f58,rfl,rfl,(bw.Ad am),a2,(O.Ag am)⟩) rfl
    ·intro b2;refine Gy (q:=p1<ac.1) (i:=21) rfl (λa9=>?_) (λa9=>?_)
     ·have cX:=ip bz a9;refine A3 Z rfl [4,5,6] rfl ?_;obtain⟨ap,b3,cY⟩:=bs cX;obtain⟨_,⟨_,_,rfl,rfl,⟨_,_,rfl,rfl,rfl⟩⟩,cZ⟩:=WL.at O b3;refine HC 7 Z (O).2 b3 underlying26 Bi ?_;refine Ug 8 Z [iV ap.1,iV ap.2.1,iV ap.2.2] 0 ay cZ Ds Bi ?_;refine A3 Z rfl [9,10] rfl ?_;obtain⟨dh,c0,c1⟩:=bs cY;refine AN 11 Z rfl rfl (λρ h s' bZ=>Ej (h _ _ rfl) (h _ _ rfl) c0) ?_;obtain⟨aq,b4,c2⟩:=bs c1;obtain⟨_,⟨_,_,rfl,rfl,⟨_,_,rfl,rfl,rfl⟩⟩,c3⟩:=WL.at O b4;refine HC 12 Z (O).2 b4 underlying26 Bi ?_;refine Ug 13 Z [iV aq.1,iV aq.2.1,iV aq.2.2] 0 ay c3 Ds Bi ?_;obtain⟨di,c4,c5⟩:=bs c2;refine Jk (i:=14) ⟨⟨0,_,rfl⟩,trivial⟩ (vs:= [.agg #[iV ap.1,iV ap.2.1,iV ap.2.2],.agg #[iV aq.1,iV aq.2.1,iV aq.2.2]]) (Tv c4) (by decide+kernel) rfl rfl rfl rfl (A1 func105 rfl) rfl ay ?_;rintro _ c6 _ c7 ⟨rfl,rfl⟩ c8;refine A3 Z rfl [15,16] rfl ?_;obtain rfl:=oi c5;refine B8 ?_ (b2 _ _ ⟨c6,rfl,rfl,c7,c8⟩);exact⟨rfl,rfl,rfl,rfl,rfl,rfl,rfl,trivial⟩
     ·have c9:=im bz a9;refine A3 Z rfl [4,5,6,7,8,9,10,11,12,13,14,15,16] rfl ?_;obtain rfl:=oi c9;refine B8 ?_ (b2 _ _ ⟨aw,rfl,rfl,AA,ay⟩);exact⟨rfl,rfl,rfl,rfl,rfl,rfl,rfl,trivial⟩
  ·refine JL.exit rfl ?_;obtain rfl:=oi cn;obtain rfl:=cg _ a6;exact Az (cf _ _ ⟨ag,f25,rfl,rfl,be,bi,bn⟩) rfl
def OP(fu_:Nat)(p0:Aw)(p1:Int)(p2:Int)(p3:Int)(U:Unit):Option (Bq Unit ((Aw)⊕(Unit))):= (Av (p2 - p1)).bind λK=> if K<=12 then((f193 fu_ p0 p1 p2).bind λO=> some (.done (Sum.inl O))) else(if p3=0 then(none) else(none))
def f169(fu_:Nat)(p0:Aw)(p1:Int)(p2:Int)(p3:Int):Option (Aw):= Option.bind (iter (OP fu_ p0 p1 p2 p3) fu_ ()) λK=> Sum.elim (λr=>some r) (λO=> none) K
theorem ZL{K:Nat}{O:Nat}{nw:Nat}{U:Av_}{p0:Aw}{p1:Int}{p2:Int}{p3:Int}(hW:WL 42 Au E K O nw U p0){fu_:Nat}{r:Aw}(V:f169 fu_ p0 p1 p2 p3=some r):AM J 156 [.slice (A0 K) nw O,iV p1,iV p2,iV p3,(fV 105)] E [(K,.cells U 42 (0,0))] (λw E' B'=>∃(Y:Av_),w= .tuple #[]/\B'= [(K,.cells Y 42 (0,0))]/\WL 42 Au E' K O nw Y r):=by
 refine Be func156 λQ bo cs H am ap=>?_;unfold f169 at V;obtain⟨bv,aq,aw⟩:=bs V;refine C 8 rfl (Bu (λL s=>False) ?_ ?_)
 ·intro _ _ ay;exact ay.elim
 ·intro bw;refine JL.block (Dx aq (λZ=> [bX K U 42]) (λZ=> [(0,.slice (A0 K) nw O),(1,iV p1),(2,iV p2),(3,iV p3),(4,(fV 105)),(10,.bool true),(11,.bool true)]) AA am ?_);rintro Z bx ac az a0 ⟨bz,ag⟩ bY;have al:=ag;unfold OP at al;obtain⟨bZ,a1,a2⟩:=bs al;refine C 5 rfl (Dh a1 rfl rfl rfl ?_);refine C 8 rfl (AU a2 (λa3 a4=>?_) (λa3 a5=>?_))
  ·obtain⟨b0,a6,a7⟩:=bs a4;refine C 6 rfl (DR 0 (Zi (hW.Ag ac) a6) rfl rfl (A1 func179 rfl) az rfl ?_);rintro _ b1 _ a8 ⟨f32,rfl,rfl,a9⟩ bb;refine JL.done ?_;obtain rfl:=oi a7;obtain rfl:=a0 _ ag;have bd:=elim_inl aw;obtain rfl:=oi bd;exact AS func156 rfl rfl (ap (ac.Ad a8) rfl ⟨f32,rfl,(by first | rfl | simp | (simp [Value.cells])),a9⟩ bb)
  ·refine C 7 rfl (AU a5 (λbe bi=>?_) (λbe bn=>?_))
   ·refine C 6 rfl ?_;cases bi
   ·refine C 5 rfl (Am (v:= .bool false) rfl (λρ h=>Yl.not (c:=true) (h _ _ rfl)) ?_);refine C 9 rfl ?_;cases bn
def f130(fu_:Nat)(p0:Aw):Option (Aw):= (f115 fu_ (FV (p0.length:Int))).bind λK=> (f169 fu_ p0 0 (p0.length:Int) K).bind λO=> some O
theorem Zp{K:Nat}{O:Nat}{nw:Nat}{U:Av_}{p0:Aw}(hW:WL 42 Au E K O nw U p0){fu_:Nat}{r:Aw}(V:f130 fu_ p0=some r):AM J 114 [.slice (A0 K) nw O,(fV 105)] E [(K,.cells U 42 (0,0))] (λw E' B'=>∃(Y:Av_),w= .tuple #[]/\B'= [(K,.cells Y 42 (0,0))]/\WL 42 Au E' K O nw Y r):=by
 refine Be func114 λQ a1 cs H ac ag=>?_;unfold f130 at V;refine C 3 rfl (Am (v:=iV (p0.length:Int)) rfl (λρ h=>Ss (hW).2 rfl underlying96 (h _ _ rfl)) ?_);refine C 6 rfl (Am (v:= .int .u64 ((FV (p0.length:Int):Nat):Int)) rfl (λρ h=>Yl.FV underlying3 underlying160 (h _ _ rfl)) ?_);obtain⟨a2,al,am⟩:=bs V;refine BH (Nm al) rfl rfl Mr ac λa3 Z ap=>?_;obtain⟨a4,aq,aw⟩:=bs am;refine C 1 rfl (DR 0 (ZL (hW.Ag Z) aq) rfl rfl (A1 func156 rfl) ap rfl ?_);rintro _ a5 _ ay ⟨f12,rfl,rfl,az⟩ a0;refine JL.done ?_;obtain rfl:=oi aw;exact JL.fin (v:= .tuple #[]) rfl rfl (BB.list func114 rfl (vs:= []) trivial) (ag (Z.Ad ay) rfl ⟨f12,rfl,(by first | rfl | simp | (simp [Value.cells])),az⟩ a0)
def Ru(fu_:Nat)(p1:Int)(K:Int)(U:Unit):Option (Bq Unit Unit):= Option.bind (if p1<K then(none) else(some false)) λO=> if O=true then((Av (K - 1)).bind λV=> (Av (K - 1)).bind λY=> none) else(some (.done ()))
def RG(fu_:Nat)(p1:Int)(p2:Int)(K:Int):Option (Bq Int Unit):= if K<p2 then(Option.bind (iter (Ru fu_ p1 K) fu_ ()) λU=> (Av (K+1)).bind λO=> some (.more O)) else(some (.done ()))
def PC(fu_:Nat)(p1:Int)(p2:Int):Option Unit:= (Av (p1+1)).bind λK=> Option.bind (iter (RG fu_ p1 p2) fu_ K) λO=> some ()
theorem Yk{p1:Int}{p2:Int}{fu_:Nat}{r:Unit}(Y:PC fu_ p1 p2=some r):AM J 179 [nS,iV p1,iV p2,(fV 105)] E [] (λw E' B'=>w= .tuple #[]/\B'= []):=by
 refine Be func179 λQ ci cs H az a0=>?_;unfold PC at Y;obtain⟨ck,a1,a2⟩:=bs Y;refine C 3 rfl (Bn a1 rfl rfl rfl ?_);obtain⟨cm,a3,a4⟩:=bs a2;refine C 2 rfl (Ec [] [] (λcn a5 a6=>?_) (λa7=>?_))
 ·obtain rfl:=oi a4;exact JL.fin (v:= .tuple #[]) rfl rfl (BB.list func179 rfl (vs:= []) trivial) (a0 a5 rfl ⟨rfl,rfl⟩ a6)
 ·refine JL.block (Dx a3 (λK=> []) (λK=> [(0,.slice none 0 0),(1,iV p1),(2,iV p2),(3,(fV 105)),(8,iV K)]) AA az ?_);rintro K co Z ac a8 ⟨cp,U⟩ a9;have ag:=U;unfold RG at ag;refine C 7 rfl (AU ag (λbb bd=>?_) (λbb be=>?_))
  ·obtain⟨cq,bi,bn⟩:=bs bd;refine C 8 rfl (Ec [] [(0,.slice none 0 0),(1,iV p1),(2,iV p2),(3,(fV 105)),(8,iV K)] (λcr bo bv=>?_) (λbw=>?_))
   ·obtain⟨bx,bz,bY⟩:=bs bn;refine C 3 rfl (Bn bz rfl rfl rfl ?_);refine C 2 rfl ?_;obtain rfl:=oi bY;exact a9 bx (Z.Ad bo) bv rfl U
   ·refine JL.block (Dx bi (λal=> []) (λal=> [(0,.slice none 0 0),(1,iV p1),(2,iV p2),(3,(fV 105)),(8,iV K),(9,iV K)]) AA ac ?_);rintro al am bZ b0 b1 ⟨ct,ap⟩ cu;have aq:=ap;unfold Ru at aq;refine C 2 rfl (DK 17 λO=>?_);refine A3 O rfl [0,1,2,3] rfl ?_;obtain⟨b2,aw,b3⟩:=bs aq;refine DL 0 #[true,true,true,true,true,true,true,true,true,true,true,true,true,true,true,true,true] (λL s=>∃(ay:LH),Jm am H ay [] [(0,.slice none 0 0),(1,iV p1),(2,iV p2),(3,(fV 105)),(8,iV K),(9,iV K),(34,.bool b2)] L s) ?_ ?_
    ·rintro _ _ ⟨ay,rfl,rfl,b4,b5⟩;refine AO.fin (by decide+kernel) (Cd b3 (λb6 b7=>?_) (λb6 b8=>?_))
     ·refine C 3 rfl (DK 16 λO=>?_);refine A3 O rfl [0,1,2,3] rfl ?_;obtain⟨cv,b9,ca⟩:=bs b7;refine AN 4 O rfl rfl (λρ h s' cb=>Ej (h _ _ rfl) (h _ _ rfl) b9) (A3 O rfl [5,6] rfl ?_);obtain⟨cw,cc,cd⟩:=bs ca;refine AN 7 O rfl rfl (λρ h s' cb=>Ej (h _ _ rfl) (h _ _ rfl) cc) ?_;cases cd
     ·refine JL.exit rfl ?_;obtain rfl:=oi b8;obtain rfl:=b1 _ ap;exact bw (bZ.Ad b4) b5 rfl
    ·intro ce;refine Gy (q:=p1<K) (i:=21) rfl (λV=>?_) (λV=>?_)
     ·have cf:=ip aw V;refine A3 O rfl [4,5,6] rfl ?_;cases cf
     ·have cg:=im aw V;refine A3 O rfl [4,5,6,7,8,9,10,11,12,13,14,15,16] rfl ?_;obtain rfl:=oi cg;refine B8 ?_ (ce _ _ ⟨am,rfl,rfl,AA,b0⟩);exact⟨rfl,rfl,rfl,rfl,rfl,rfl,rfl,trivial⟩
  ·refine JL.exit rfl ?_;obtain rfl:=oi be;obtain rfl:=a8 _ U;exact a7 Z ac rfl
def Ry(fu_:Nat)(p1:Int)(p2:Int)(p3:Int)(O:Unit):Option (Bq Unit ((Unit)⊕(Unit))):= (Av (p2 - p1)).bind λK=> if K<=12 then((PC fu_ p1 p2).bind λU=> some (.done (Sum.inl ()))) else(if p3=0 then(none) else(none))
def PV(fu_:Nat)(p1:Int)(p2:Int)(p3:Int):Option Unit:= Option.bind (iter (Ry fu_ p1 p2 p3) fu_ ()) λK=> Sum.elim (λr=>some r) (λO=> none) K
theorem XI{p1:Int}{p2:Int}{p3:Int}{fu_:Nat}{r:Unit}(K:PV fu_ p1 p2 p3=some r):AM J 156 [nS,iV p1,iV p2,iV p3,(fV 105)] E [] (λw E' B'=>w= .tuple #[]/\B'= []):=by
 refine Be func156 λQ bb cs H Y Z=>?_;unfold PV at K;obtain⟨bd,ac,ag⟩:=bs K;refine C 8 rfl (Bu (λL s=>False) ?_ ?_)
 ·intro _ _ al;exact al.elim
 ·intro be;refine JL.block (Dx ac (λO=> []) (λO=> [(0,.slice none 0 0),(1,iV p1),(2,iV p2),(3,iV p3),(4,(fV 105)),(10,.bool true),(11,.bool true)]) AA Y ?_);rintro O bi am ap aq ⟨bn,U⟩ bo;have V:=U;unfold Ry at V;obtain⟨bv,aw,ay⟩:=bs V;refine C 5 rfl (Dh aw rfl rfl rfl ?_);refine C 8 rfl (AU ay (λaz a0=>?_) (λaz a1=>?_))
  ·obtain⟨bw,a2,a3⟩:=bs a0;refine C 6 rfl (BH (Yk a2) rfl rfl (A1 func179 rfl) ap λbx a4 a5=>?_);refine JL.done ?_;obtain rfl:=oi a3;obtain rfl:=aq _ U;have a6:=elim_inl ag;obtain rfl:=oi a6;exact AS func156 rfl rfl (Z (am.Ad a4) rfl ⟨rfl,rfl⟩ a5)
  ·refine C 7 rfl (AU a1 (λa7 a8=>?_) (λa7 a9=>?_))
   ·refine C 6 rfl ?_;cases a8
   ·refine C 5 rfl (Am (v:= .bool false) rfl (λρ h=>Yl.not (c:=true) (h _ _ rfl)) ?_);refine C 9 rfl ?_;cases a9
def TV(fu_:Nat):Option Unit:= (f115 fu_ (FV ((0:Nat):Int))).bind λK=> (PV fu_ 0 ((0:Nat):Int) K).bind λO=> some ()
theorem Yr{fu_:Nat}{r:Unit}(K:TV fu_=some r):AM J 114 [nS,(fV 105)] E [] (λw E' B'=>w= .tuple #[]/\B'= []):=by
 refine Be func114 λQ aq cs H O U=>?_;unfold TV at K;refine C 3 rfl (JL.ln underlying96 rfl rfl rfl ?_);refine C 6 rfl (Am (v:= .int .u64 ((FV ((0:Nat):Int):Nat):Int)) rfl (λρ h=>Yl.FV underlying3 underlying160 (h _ _ rfl)) ?_);obtain⟨aw,V,Y⟩:=bs K;refine BH (Nm V) rfl rfl Mr O λay Z ac=>?_;obtain⟨az,ag,al⟩:=bs Y;refine C 1 rfl (BH (XI ag) rfl rfl (A1 func156 rfl) ac λa0 am ap=>?_);refine JL.done ?_;obtain rfl:=oi al;exact JL.fin (v:= .tuple #[]) rfl rfl (BB.list func114 rfl (vs:= []) trivial) (U (Z.Ad am) rfl ⟨rfl,rfl⟩ ap)
theorem Yc{J:Judge Tryz.prog}{E:LH}{a:Ao}{c:Nat}{g:Seg}{p0:Aw}(V:OL 42 Au E a c g p0){fu_:Nat}{r:Aw}(K:f130 fu_ p0=some r):
  AM J 114 [.slice a p0.length c,.func (.func 105) #[] #[]] E g (λw E' B'=>w= .tuple #[]/\OL 42 Au E' a c B' r/\r.length=p0.length):=by
 rcases V.cases with⟨rfl,rfl,rfl,rfl⟩ | ⟨bk,f,rfl,rfl,hW⟩
 ·have Y:r= []:=by
   cases fu_ with
   | zero=>exact absurd K (by simp [f130,f169,f193,iter])
   | succ fu_=>
    cases fu_ with
    | zero=>exact(Option.some.inj (K.symm.trans (by rfl:f130 1 []=some []))).trans rfl
    | succ fu_=>exact(Option.some.inj (K.symm.trans (by rfl:f130 (fu_+2) []=some []))).trans rfl
  subst Y;refine(Yr (fu_:=10) (r:=()) rfl).Ag ?_;rintro w E' B' hle ⟨O,rfl⟩;exact⟨O,OL.nil,rfl⟩
 ·refine(Zp hW K).Ag ?_;rintro w E' B' hle ⟨Z,O,rfl,U⟩;exact⟨O,U.1,U.2⟩
def f90(fu_:Nat)(p0:Aw):Option (Aw):= (f129 fu_ p0).bind λK=> (f130 fu_ K).bind λO=> some O
theorem T8{a1:Ao}{c2:Nat}{p0:Aw}(ag:Al Au E a1 c2 p0){fu_:Nat}{r:Aw}(Y:f90 fu_ p0=some r):AM J 85 [sV a1 p0 c2] E [] (λw E' B'=>∃(Z:Ao) (ac:Nat),w= sV Z r ac/\B'= []/\Al Au E' Z ac r):=by
 refine Be func85 λQ a9 cs H al am=>?_;unfold f90 at Y;obtain⟨bb,ap,aq⟩:=bs Y;refine C 7 rfl (A2 (ZZ ag ap) rfl rfl (A1 func113 rfl) al ?_);rintro _ bd be aw ⟨K,O,_,rfl,rfl,ay⟩ az;obtain⟨U,a0,a2⟩:=bs aq;refine C 5 rfl (DR 1 (Yc ay a0) rfl rfl (A1 func114 rfl) az rfl ?_);rintro _ bi bn a3 ⟨rfl,a4,V⟩ a5;refine EO (L':= [(6,.tuple #[]),(0,.slice K U.length O),(2,.slice none 0 0),(3,.slice a1 p0.length c2),(4,.slice K U.length O),(5,.slice K U.length O)]) ⟨rfl,by rw [V];rfl,rfl,rfl,by rw [V];rfl,by rw [V];rfl,trivial⟩ ?_;refine C 6 rfl (Bd 1 a4 a5 rfl λbo a6 a7 a8=>?_);obtain rfl:=oi a2;exact AS func85 rfl rfl (am ((aw.Ad a3).Ad a6) rfl ⟨K,O,rfl,rfl,a7⟩ a8)
end Pal
namespace Pal
open Go Go.Conc
variable {P:Program}{Q:Gs_}{b:Frame}{n:Nat}{ds:Ld_}{ops:Ao_}{k:Li_}{cs:Lf_}{m:Nat}{L:Env}{s:St}{E H:LH}{S:List Seg}
variable {d:Option Tmp}{t ty:TypeId}{p:String}{af:Ae_}{g:On_}{v:Value}
section
variable {J:Judge P}{fuel:Nat}{listed:Array Bool}
variable {x y:Operand}{e:TypeId}{i:Nat}
theorem Take.y0{oi:Oper}(hi:ops[i]? =some oi)(K:(!DW oi.op&&Bg n oi.dst)=true)(hw:AR L ops oi=some true)(O:∀ρ,EP L ρ->Yl P oi ρ s v)
  (h:AO J Q b n ds ops k cs m C3 fuel (A8 listed i) (As L oi.dst v) s):Take J Q b n ds ops k cs m C3 fuel listed L s i:=
 Take.JW hi K hw λρ U=>by
  have:=O ρ U
  unfold Yl at this
  refine DO _ this ?_ (λ_ _ h=>h)
  rintro V s' ⟨rfl,rfl⟩
  exact h
end
def Gs{P:Program}(J:Judge P)(f:FuncId)(args:Lv_)(E:LH)(B:Seg)(p:Bool)(pv:Value)(R:Value->LH->Seg->Prop):Prop:=
 ∀(Q:Gs_) (bc:Frame) (Tc:Av_) (dsc:Ld_) (K:Li_) (cs:Lf_) (H:LH),Nd E H B->
  (p=false->∀v E' B',Le E E'->R v E' B'->Nd E' H B'->J.ok Q (G ((fr bc Tc dsc K).finish v) cs) (mk E' H B'))->
  (p=true->∀E' B',Le E E'->Nd E' H B'->J.ok Q (G (GL bc Tc dsc K (raised pv)) cs) (mk E' H B'))->
  J.ok Q (G (Frame.enter P f args.toArray .normal) (fr bc Tc dsc K::cs)) (mk E H B)
variable {bc:Frame}{dsc:Ld_}{rest:List Nat}{pp:String}{pv:Value}
section
variable {J:Judge P}{i:Nat}{e:TypeId}
theorem Gs.enter{f:FuncId}{fn:Func}{c:Code}{vs:Lv_}{B:Seg}{R:Value->LH->Seg->Prop}{p:Bool}(Z:P.funcs[f]? =some fn)(hb:fn.body=some c)(ay:vs.length<=fn.ntmps)
  (h:∀(Q:Gs_) (bc:Frame) (Tc:Av_) (dsc:Ld_) (O:Li_) (cs:Lf_) (H:LH),Ap E H [B]->
   (p=false->∀v E' S' B',Le E E'->S'.flatten=B'->R v E' B'->Ap E' H S'->J.ok Q (G ((fr bc Tc dsc O).finish v) cs) (Aj E' H S'))->
   (p=true->∀E' S',Le E E'->Ap E' H S'->J.ok Q (G (GL bc Tc dsc O (raised pv)) cs) (Aj E' H S'))->
   JL J Q (base f) fn.ntmps (F1 0 vs) [] [.code c] (fr bc Tc dsc O::cs) (Aj E H [B])):Gs J f vs E B p pv R:=λQ bc Tc dsc O cs H ac ag K=>by
 have he:Frame.enter P f vs.toArray .normal=fr (base f) (vs.toArray++Array.replicate (fn.ntmps - vs.length) undef) [] [.code c]:=by
  simp [Frame.enter,fr,Z,hb,base];rfl
 have al:mk E H B=Aj E H [B]:=by unfold Aj;simp
 rw [he,al];refine h Q bc Tc dsc O cs H (by unfold Ap;simpa using ac) (λU v E' S' B' hle am ap V=>?_) (λU E' S' hle V=>?_) _ ⟨by simp;omega,λt v aq=>?_⟩
 ·subst am;exact ag U v E' S'.flatten hle ap V
 ·exact K U E' S'.flatten hle V
 ·obtain⟨_,K⟩:=Jj aq;have aw:t<vs.length:=by
   rcases Nat.lt_or_ge t vs.length with Y | Y
   ·exact Y
   ·simp at K;have:=(List.getElem?_eq_some_iff.1 K).1;omega
  rw [Array.getD_eq_getD_getElem?,Array.getElem?_append_left (by simpa using aw)];simp at K;simp [K]
theorem VH{x:Operand}{f:FuncId}{caps:Lv_}{args:Array Operand}{ats:Array TypeId}{s:St}{vs:Lv_}(hb:Du P f=true)
  (U:ops[i]? =some ⟨d,.call ⟨.value x,args,ats⟩,ty,pp,af,g⟩) (hw:AR L ops ⟨d,.call ⟨.value x,args,ats⟩,ty,pp,af,g⟩=some true) (O:((b.kind != .early)&&Bg n d)=true)
  (V:ev L x=some (.func (.func f) #[] caps.toArray)) (Y:evs L args.toList=some vs)
  (h:∀T,Has n L T->J.ok Q (G (Frame.enter P f (vs++caps).toArray .normal) (fr b T ds (.inRegion ops (i::rest)::k)::cs)) s):
  JL J Q b n L ds (.inRegion ops (i::rest)::k) cs s:=λT K=>by
 simp only [Bool.and_eq_true] at O
 have Z:args.map (BA T)=vs.toArray:=by
  rw [← FY K.F2 Y];apply Array.ext';simp
 refine Judge.oper U (B6 K hw) (by simpa using O.1) (.inr λc ac=>by cases ac) ?_;have hd:lp P (execOp (BA T) ⟨d,.call ⟨.value x,args,ats⟩,ty,pp,af,g⟩) s (upon J Q b T ds ops i rest k cs d) (K0 J Q b T ds ops i rest k cs):=by
  have ag:execOp (BA T) ⟨d,.call ⟨.value x,args,ats⟩,ty,pp,af,g⟩=(do let d ← Deferred.ofValue (.func (.func f) #[] caps.toArray) vs.toArray;invoke d.target d.args):=by
   simp only [execOp,resolve,Z,K.F2 _ _ V]
  rw [ag];simp only [Deferred.ofValue,bind,Sem.bind,pure,invoke];have e: #[]++vs.toArray++caps.toArray=(vs++caps).toArray:=by simp
  rw [e];exact IP hb (h T K)
 exact hd
theorem Ws{f:FuncId}{args:Array Operand}{ats:Array TypeId}{s:St}{vs:Lv_}(hb:Du P f=true)
  (U:ops[i]? =some ⟨d,.call ⟨.value (.func f),args,ats⟩,ty,pp,af,g⟩) (hw:AR L ops ⟨d,.call ⟨.value (.func f),args,ats⟩,ty,pp,af,g⟩=some true) (O:((b.kind != .early)&&Bg n d)=true)
  (V:evs L args.toList=some vs)
  (h:∀T,Has n L T->J.ok Q (G (Frame.enter P f vs.toArray .normal) (fr b T ds (.inRegion ops (i::rest)::k)::cs)) s):
  JL J Q b n L ds (.inRegion ops (i::rest)::k) cs s:=λT K=>by
 simp only [Bool.and_eq_true] at O
 have Y:args.map (BA T)=vs.toArray:=by
  rw [← FY K.F2 V];apply Array.ext';simp
 refine Judge.oper U (B6 K hw) (by simpa using O.1) (.inr λc Z=>by cases Z) ?_;have hd:lp P (execOp (BA T) ⟨d,.call ⟨.value (.func f),args,ats⟩,ty,pp,af,g⟩) s (upon J Q b T ds ops i rest k cs d) (K0 J Q b T ds ops i rest k cs):=by
  simp only [execOp,resolve,bind,Sem.bind,Deferred.ofValue,BA,pure,invoke];have e: #[]++args.map (BA T)++ #[]=vs.toArray:=by rw [Y];simp
  rw [e];exact IP hb (h T K)
 exact hd
theorem Yz{g:Frame}{s:St}(O:s.q=false)(h:(∃w,Fits s w)->J.ok Q (G g cs) s):J.ok Q (G g cs) s:=by
 by_cases K:∃w,Fits s w
 ·exact h K
 ·exact J.step ⟨V,λw f=>absurd ⟨w,f⟩ K,λe=>by subst e;cases O⟩
theorem Gs.use{f:FuncId}{vs:Lv_}{B:Seg}{R:Value->LH->Seg->Prop}{p:Bool}{Tc:Av_}{V:Li_}(j:Nat)(am:Gs J f vs E B p pv R)(Z:Ap E H S)(ac:S[j]? =some B)
  (Y:p=false->∀v E' B',Le E E'->R v E' B'->Ap E' H (S.set j B')->J.ok Q (G ((fr bc Tc dsc V).finish v) cs) (Aj E' H (S.set j B')))
  (ap:p=true->∀E' B',Le E E'->Ap E' H (S.set j B')->J.ok Q (G (GL bc Tc dsc V (raised pv)) cs) (Aj E' H (S.set j B'))):
  J.ok Q (G (Frame.enter P f vs.toArray .normal) (fr bc Tc dsc V::cs)) (Aj E H S):=by
 have K:S.flatten.Perm (B++(S.set j []).flatten):=(Ey (seg':=B) ac).1.trans List.perm_append_comm;have ag:Nd E H (B++(S.set j []).flatten):=Nd.perm Z K;have aq:Aj E H S=mk E (Bl (S.set j []).flatten H) B:=by
  rw [show Aj E H S=mk E H S.flatten from rfl,Fi Z K];unfold mk;rw [FZ]
 have aw:Nd E H (S.set j []).flatten:=by
  have:=ag;rw [Nd.iff] at this ⊢;rw [List.map_append,List.nodup_append] at this;exact⟨this.1.2.1,λq ay=>this.2 q (List.mem_append_right _ ay)⟩
 have back:∀(g:Frame) (E':LH) (B':Seg),Le E E'->Nd E' (Bl (S.set j []).flatten H) B'->(Ap E' H (S.set j B')->J.ok Q (G g cs) (Aj E' H (S.set j B')))->J.ok Q (G g cs) (mk E' (Bl (S.set j []).flatten H) B'):=λg E' B' hle U az=>by
  have e2:mk E' (Bl (S.set j []).flatten H) B'=mk E' H (B'++(S.set j []).flatten):=by unfold mk;rw [FZ]
  refine Yz rfl λ⟨w,a0⟩=>?_;have a1:Nd E' H (S.set j []).flatten:=aw.grow λx a2=>by
   have a3:=a0.d x a2;have Y:Bl B' (Bl (S.set j []).flatten H) x=none:=a3;exact(HU Y).1
  have O:Nd E' H (B'++(S.set j []).flatten):=Nd.glue U a1;rw [e2];have al:(B'++(S.set j []).flatten).Perm (S.set j B').flatten:=List.perm_append_comm.trans (Ey ac).2.symm;rw [Fi O al];exact az (Nd.perm O al)
 rw [aq];refine am Q bc Tc dsc V cs _ (Nd.front ag) (λK v E' B' hle a4 U=>back _ E' B' hle U λO=>Y K v E' B' hle a4 O) (λK E' B' hle U=>back _ E' B' hle U λO=>ap K E' B' hle O)
theorem Q5{x:Operand}{f:FuncId}{caps:Lv_}{args:Array Operand}{ats:Array TypeId}{vs:Lv_}{seg:Seg}{R:Value->LH->Seg->Prop}{p:Bool}(j:Nat)(hb:Du P f=true)
  (Z:Gs J f (vs++caps) E seg p pv R) (V:ops[i]? =some ⟨d,.call ⟨.value x,args,ats⟩,ty,pp,af,g⟩) (hw:AR L ops ⟨d,.call ⟨.value x,args,ats⟩,ty,pp,af,g⟩=some true) (K:((b.kind != .early)&&Bg n d)=true)
  (ac:ev L x=some (.func (.func f) #[] caps.toArray)) (ag:evs L args.toList=some vs) (al:Ap E H S) (am:S[j]? =some seg)
  (ap:p=true->∀E' seg',Le E E'->Ap E' H (S.set j seg')->JP J Q b n L ds cs (raised pv) (Aj E' H (S.set j seg')))
  (aq:p=false->∀v E' seg',Le E E'->R v E' seg'->Ap E' H (S.set j seg')->JL J Q b n (As L d v) ds (.inRegion ops rest::k) cs (Aj E' H (S.set j seg'))):
  JL J Q b n L ds (.inRegion ops (i::rest)::k) cs (Aj E H S):=
 VH hb V hw K ac ag λT Y=>Gs.use j Z al am
  (λO v E' B' hle aw U=>by
   rw [Gf (o:=⟨d,.call ⟨.value x,args,ats⟩,ty,pp,af,g⟩) _ _ _ _ _ V]
   simp only [Bool.and_eq_true] at K
   exact aq O v E' B' hle aw U _ (Y.put K.2 v))
  (λO E' B' hle U=>ap O E' B' hle U T Y _)
theorem Wl{f:FuncId}{args:Array Operand}{ats:Array TypeId}{vs:Lv_}{seg:Seg}{R:Value->LH->Seg->Prop}{p:Bool}(j:Nat)(hb:Du P f=true)
  (Z:Gs J f vs E seg p pv R) (V:ops[i]? =some ⟨d,.call ⟨.value (.func f),args,ats⟩,ty,pp,af,g⟩) (hw:AR L ops ⟨d,.call ⟨.value (.func f),args,ats⟩,ty,pp,af,g⟩=some true) (K:((b.kind != .early)&&Bg n d)=true)
  (ac:evs L args.toList=some vs) (ag:Ap E H S) (al:S[j]? =some seg)
  (am:p=true->∀E' seg',Le E E'->Ap E' H (S.set j seg')->JP J Q b n L ds cs (raised pv) (Aj E' H (S.set j seg')))
  (ap:p=false->∀v E' seg',Le E E'->R v E' seg'->Ap E' H (S.set j seg')->JL J Q b n (As L d v) ds (.inRegion ops rest::k) cs (Aj E' H (S.set j seg'))):
  JL J Q b n L ds (.inRegion ops (i::rest)::k) cs (Aj E H S):=
 Ws hb V hw K ac λT Y=>Gs.use j Z ag al
  (λO v E' B' hle aq U=>by
   rw [Gf (o:=⟨d,.call ⟨.value (.func f),args,ats⟩,ty,pp,af,g⟩) _ _ _ _ _ V]
   simp only [Bool.and_eq_true] at K
   exact ap O v E' B' hle aq U _ (Y.put K.2 v))
  (λO E' B' hle U=>am O E' B' hle U T Y _)
theorem Xy{ρ:Operand->Value}{x y z1:Operand}{s:St}{p:String}{a:Option Addr}{l c K m:Nat}{hi:Int}(O:∀ad,a=some ad->ad.spot=none∨c=0)(U:m<=c)(he:hi=(m:Int))(V:P.underlying t=some (.slice e))(Y:Bo P e=some K)(Z:ρ x= .slice a l c)(ac:ρ y=iV hi)(ag:ρ z1=iV hi):
  Yl P ⟨d,.slice t x none (some y) (some z1),ty,p,af,g⟩ ρ s (.slice a m m):=by
 subst he;have h:=Yl.slice (P:=P) (s:=s) (d:=d) (ty:=ty) (p:=p) (af:=af) (g:=g) (olo:=none) (ohi:=some y) (omx:=some z1) (lo:=0) (hi:=m) (mx:=m) V Y Z ag ac rfl U (Nat.le_refl _) (Nat.zero_le _);have al:(if m=0 then a else a.map (·.add (0*K)))=a:=by
  split
  ·rfl
  ·cases a with
   | none=>rfl
   | some ad=>
    have:=(O ad rfl).resolve_right (by omega);simp only [Option.map_some,Nat.zero_mul];rw [Ei this];obtain⟨b,o,sp⟩:=ad;simp only at this;subst this;simp
 rw [al] at h;simpa using h
theorem Al.bl{α:Type}{q:Rp α}{a:Option Addr}{c:Nat}{xs ys:List α}{hi:Int}(U:Al q E a c xs)(hC:G9 xs 0 hi=some ys):Al q E a c ys/\ys.length<=c/\hi=(ys.length:Int):=by
 unfold G9 at hC;split at hC
 rotate_left
 ·cases hC
 rename_i hb;obtain⟨Y,Z,ac⟩:=hb;cases hC;have ag:=U.1;have hlen:(((xs.take hi.toNat).drop (0:Int).toNat)).length=hi.toNat:=by simp;omega
 refine⟨⟨by rw [hlen];omega,?_⟩,by rw [hlen];omega,by rw [hlen];omega⟩;rcases U.2 with⟨h,O⟩ | ⟨bk,off,V,O⟩
 ·exact .inl ⟨by rw [h];simp,O⟩
 ·refine .inr ⟨bk,off,V,λi x K=>O i x ?_⟩;simp only [Int.toNat_zero,List.drop_zero] at K;rw [List.getElem?_take] at K;split at K
  ·exact K
  ·cases K
theorem Take.OD{m fuel:Nat}{listed:Array Bool}{x y:Operand}{p:String}{α:Type}{q:Rp α}{t1:TypeId}{V c cx:Nat}{a ax:Option Addr}{xs ys Y:List α}{ats:Array TypeId}{z:Value}(U:Dw xs ys=some Y)
  (aw:ops[i]? =some ⟨d,.call ⟨.builtin .append,#[x,y],ats⟩,ty,p,af,g⟩) (hw:AR L ops ⟨d,.call ⟨.builtin .append,#[x,y],ats⟩,ty,p,af,g⟩=some true) (ay:Bg n d=true)
  (az:ev L x=some (.slice a xs.length xs.length)) (a0:ev L y=some (.slice ax ys.length cx)) (a1:ats[0]? =some t) (a2:ats[1]? =some t1) (a3:P.underlying t=some (.slice e)) (a4:P.underlying t1=some (.slice e)) (a5:Bo P e=some q.n) (hb:FB P e=some V) (a6:zeroOf P e=some z) (a7:z.cells.size=q.n)
  (a8:0<V) (a9:V<=64) (Z:Al q E a c xs) (bb:Al q E ax cx ys) (ac:Ap E H S)
  (h:∀E' ag K,Le E E'->Al q E' ag K Y->Ap E' H (S++ [[]])->AO J Q b n ds ops k cs m C3 fuel (A8 listed i) (As L d (.slice ag Y.length K)) (Aj E' H (S++ [[]]))):
  Take J Q b n ds ops k cs m C3 fuel listed L (Aj E H S) i:=by
 unfold Dw at U;split at U
 rotate_left
 ·cases U
 rename_i bd;cases U;obtain⟨wss,al,be,bi,b7⟩:=Al.LK (H:=H) (B:=S.flatten) Z.full;obtain⟨bn,bo,bv,bw,bx⟩:=Al.LK (H:=H) (B:=S.flatten) bb;have hlen:(xs++ys).length=xs.length+ys.length:=by simp
 show Take J Q b n ds ops k cs m C3 fuel listed L (mk E H S.flatten) i;refine Take.JW aw (by simp [DW,ay]) hw λρ am=>?_;rw [Lr,am x _ az,am y _ a0];refine Ar _ _ (Ql a1 a2 a4 a3 a5 hb a6 a7 ac bi bw bx a8 bd a9 ?_ ?_)
 ·intro hm;have bz:ys= []:=List.eq_nil_of_length_eq_zero hm;subst bz;have bY:Ap E H (S++ [[]]):=by unfold Ap at*;rw [Gg,List.append_nil];exact ac
  have bZ:mk E H S.flatten=Aj E H (S++ [[]]):=by unfold Aj;rw [Gg,List.append_nil]
  rw [bZ];have:=h E a xs.length (Le.refl _) (by rw [List.append_nil];exact Z.full) bY;rw [hlen] at this;exact this
 ·intro r O K b0 b1 b2 b3;have b4:OL e q E (some ⟨r,0,none⟩) K [(r,.cells O e (0,0))] (xs++ys):=
   ⟨wss++bn,.inr ⟨r,O,rfl,rfl,b1,by rw [hlen];exact b0,by rw [hlen,List.flatten_append];exact b2.symm⟩,by simp [al,bo],MI al be bv⟩
  have ap:=Fh (S:=S) (seg:= [(r,.cells O e (0,0))]) b3;show AO J Q b n ds ops k cs m C3 fuel _ _ (mk E H (S.flatten++ [(r,.cells O e (0,0))]));rw [ap.1];refine Cs S.length b4 ap.2 (by simp) λE' hle b5 aq=>?_;have b6:(S++ [[(r,Obj.cells O e (0,0))]]).set S.length []=S++ [[]]:=H4 _ _ _ _;rw [b6] at aq ⊢;have:=h E' (some ⟨r,0,none⟩) K hle b5 aq;rw [hlen] at this;exact this
theorem UR{ρ:Operand->Value}{x:Operand}{s:St}{p:String}{v:Value}{xt t1:TypeId}{f1:Array Field}(K:P.underlying t1=some (.struct f1))(O:ρ x= .iface t1 v):Yl P ⟨d,.typeAssert x xt t1 true,ty,p,af,g⟩ ρ s (.tuple #[v,.bool true]):=by
 refine EN (sm:=Instr.typeAssert (ρ x) xt t1 true) V ?_;rw [O];unfold Instr.typeAssert;refine Ar _ _ (Ce K ?_);simp [lp,pure]
theorem UQ{ρ:Operand->Value}{x:Operand}{s:St}{p:String}{z:Value}{xt t1:TypeId}{f1:Array Field}(K:P.underlying t1=some (.struct f1))(O:zeroOf P t1=some z)(U:ρ x= .nilIface):Yl P ⟨d,.typeAssert x xt t1 true,ty,p,af,g⟩ ρ s (.tuple #[z,.bool false]):=by
 refine EN (sm:=Instr.typeAssert (ρ x) xt t1 true) V ?_;rw [U];unfold Instr.typeAssert;refine Ar _ _ (Ce K ?_);exact Ar (x:=zeroValue t1) _ (GQ O ⟨V,V⟩)
end
end Pal
