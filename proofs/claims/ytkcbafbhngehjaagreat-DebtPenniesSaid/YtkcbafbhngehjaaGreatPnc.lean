/- DebtPennies is true for every input: if all coins are one pound: a part (3 of 9) of the proof of its row. -/
import Derived.Test.YtkcbafbhngehjaaGreatPna
import Derived.Test.YtkcbafbhngehjaaGreatPnb
import Derived.Test.YtkcbafbhngehjaaGreatRows
import Derived.Test.YtkcbafbhngehjaaGreatChecked
import Derived.Conc.LeavingOf
import Derived.Conc.HoldsTime
import Derived.Carry
import Derived.ChangeSame
import Derived.ChangeVars
import Derived.ChangeSlices
import Derived.JoinedOf
import Derived.RowKit
import Derived.Deep.Strs
import Derived.Stop.Joined
import Derived.Test.YtkcbafbhngehjaaGreatProg
set_option linter.all false
set_option maxRecDepth 100000
namespace Pal
open Go Go.Conc
open Go.ConcN (sumTo upd sumTo_upd upd_ne upd_same)
def NF(P:Program)(R:Value->St->Prop):GP:=λg s=>
 g.status=.running/\∃v,R v s/\∀w,stepG P true g w=.ended (.done v) w #[]
variable {P:Program}{R:Value->St->Prop}{J:Judge P}{n:Nat}{L:Env}{s:St}{b:Frame}
theorem JO.end{fn:Func}{t:Tmp}{v:Value}(K:b.kind=.normal)(hi:P.inits.idxOf? b.fn=none)(O:P.funcs[b.fn]?=some fn)(U:fn.results=#[.tmp t])(Y:look L t=some v)(Z:R v s):JO J (NF P R) b n L [] [] s:=λT ac todo=>by
 refine J.stop ⟨rfl,v,Z,λw=>?_⟩
 have e:results fn T=Sem.pure v:=by
  have:=ac.at_ t v Y;simp only[results,U,q7];show Sem.pure (T.getD t undef)=_;rw[this]
 have ag:(results fn T).run P w=.ok v w:=by rw[e];rfl
 have e2:(results fn T).events P w #[]=#[]:=by rw[e];simp[Sem.events_pure']
 simp[G,stepG,unwind,EJ,O,ag,e2,doReturn,K,GStep.after,hi,seen_none]
def After(P:Program)(R:Value->St->Prop)(K:World)(s₀:St)(v:Value)(w':World):Prop:=
 ∃s,R v s/\Fits s w'/\(∀b o,s₀.E b=some o->s.E b=some o)/\w'.tape=K.tape/\GZ K.os w'.os/\w'.output=K.output
def Ta(P:Program)(R:Value->St->Prop)(K:World)(s₀:St)(O:Nat)(m:Machine)(t:Trace):Prop:=
 ∃gs w sl q Sh g s,m=crowd gs w sl/\HX P gs w t q Sh g s/\NF P R g s/\O=sumTo gs.size q/\(∀b o,s₀.E b=some o->s.E b=some o)/\w.tape=K.tape/\GZ K.os w.os/\w.output=K.output
theorem ZW{am:World}{s₀:St}(aw:Nat)(m:Machine)(t:Trace)(h:Ta P R am s₀ aw m t):
  (∃o w ops,stepT P m=(.ended o w,ops)/\Good P (After P R am s₀) m o w (t++ops))∨(∃m' ops ay,stepT P m=(.next m',ops)/\ay<aw/\Ta P R am s₀ ay m' (t++ops)):=by
 obtain⟨gs,w,sl,q,Sh,g,s,rfl,hC,be,rfl,az,a0,a1,a2⟩:=h;obtain⟨ac,v,a3,a4⟩:=be;have bi:∀x∈gs,awake x:=by
  intro x Y;obtain⟨i,hi,rfl⟩:=sN.1 Y;rcases qo i with rfl | ap
  .have:gs[0]=g:=by simpa [pP hi] using hC.main
   rw[this];exact awake_of (.inl ac)
  .exact awake_of ((hC.lv.old i _ ap (pP hi)).status.elim .inl λx=>.inr (.inr x))
 let⟨i,x,d,a5,hi,Y,a6⟩:=crowd_pick (P:=P) (w:=w) (sl:=sl) bi ⟨0,g,hC.main,ac⟩;have a7:=hC.at_ d;have bn:0<gs.size:=(f8.1 hC.main).1;have bo:∀(a:Nat) (fn:FuncId) (pos:String),MemOp.ofEvents a fn pos #[]=#[]:=λa fn pos=>by rw[ofEvents_eq];simp
 rcases qo i with rfl | ap
 .obtain rfl:x=g:=by rw[hC.main] at hi;exact(f5 hi).symm
  have ag:=runT_many_ended (P:=P) (sl:=a5) (i:=0) hi (show stepG P (0==0) x (w.at d)=_ from a4 (w.at d));rw[bo] at ag;refine .inl ⟨_,_,_,a6.trans ag,v,V,⟨s,a3,a7.Cm.fits 0 bn,az,a0,a1,a2⟩,?_,?_,⟨λy K=>?_,V⟩,λj y K O=>?_⟩;simpa using hC.Cm.clean;simpa using hC.over;let⟨j,O⟩:=pS.1 K;rw[rJ] at O;exact⟨_,(hC.lv.old (1+j) y (by omega) (by simpa [crowd] using O)).leaves⟩;have Z:=hC.lv.old j y (by omega) K;exact⟨q j,by simp only[sn];exact Z.hears w⟩
 .have Z:=hC.lv.old i x ap hi;have bv:(i==0)=false:=by simp;omega
  have a8:i<gs.size:=(f8.1 hi).1;cases aq:q i with
  | zero=>rw[aq] at Z;rw[Z.1] at Y;cases Y
  | succ k=>
   rw[aq] at Z;rcases Z with⟨bw,_⟩ | ⟨_,x',es,hm,bx,bz⟩;rw[bw] at Y;cases Y
   have b3:sumTo gs.size (upd q i k)+(k+1)=sumTo gs.size q+k:=by
    have:=sumTo_upd q k id a8;simpa [aq] using this
   have ag:=runT_crowd_go (P:=P) (sl:=a5) (i:=i) hi (by rw[bv];exact bx (w.at d));have av:((gs.map (woken P x x' (w.at d))).setIfInBounds i x').size=gs.size:=by simp
   have ai:∀op∈MemOp.ofEvents i x.frame.fn x.frame.place es,op.g=i:=λop U=>by obtain⟨e,_,rfl⟩:=mem_ofEvents U;rfl
   have a9:∀op∈MemOp.ofEvents i x.frame.fn x.frame.place es,op.act.touch?=none:=λop U=>by obtain⟨e,he,rfl⟩:=mem_ofEvents U;exact touch_mute (hm e he)
   have b0:HX P ((gs.map (woken P x x' (w.at d))).setIfInBounds i x') (w.at d) (t++MemOp.ofEvents i x.frame.fn x.frame.place es) (upd q i k) Sh g s:=by
    refine⟨?_,⟨λj y O K=>?_,λj O=>?_⟩,?_,?_,?_⟩
    .have b1:i≠0:=by omega
     rw[pe b1,q1,hC.main];simp[woken_run ac]
    by_cases al:i=j;subst al;rw[pq (by simpa using a8)] at K;obtain rfl:=f5 K;rw[upd_same,Deaf_own];exact bz;rw[pe al,q1] at K;obtain⟨z,b2,rfl⟩:=p7.1 K;have bb:=hC.lv.old j z O b2;rw[woken_quitsD bb,upd_ne q k (p6 al),Deaf_other t al _ ai];exact bb;rw[Deaf_other t (g':=i) (by simp at O;omega) _ ai];exact hC.lv.above j (by simpa using O);rw[av];exact a7.Cm.mute ai a9 (λop U=>by obtain⟨e,he,rfl⟩:=mem_ofEvents U;exact low_mute (hm e he) _) V;exact handedOver_app hC.over λop U=>.inr (a9 op U);rw[Deaf_other t (by omega) _ ai];exact hC.hears
   exact .inr ⟨_,_,_,a6.trans ag,by rw[← av];rw[av];omega,_,_,_,_,_,_,_,V,b0,⟨ac,v,a3,a4⟩,V,az,a0,a1,a2⟩
variable{t:Trace}{g:Goroutine}
theorem ends{gs:Array Goroutine}{w:World}{sl:Option (Nat×Nat)}{q:Nat->Nat}{Sh:Nat->Prop}{s:St}(hC:HX P gs w t q Sh g s)(O:NF P R g s):
  ∃N last o w' K,runNT P (N+1) (crowd gs w sl) t=(.ended o w',K)/\runN P N (crowd gs w sl)=.next last/\step P last=.ended o w'/\Good P (After P R w s) last o w' K:=
 run_of_inv Nat.lt_wfRel.wf (Ta P R w s) (Good P (After P R w s)) ZW _ _ _ ⟨gs,w,sl,q,Sh,g,s,V,hC,O,V,λ_ _ h=>h,V,.refl _,V⟩
theorem YC{m m':Machine}{K:Trace}{n:Nat}(h:runNT P n m t=(.next m',K)):runN P n m=.next m':=by rw[← runNT_fst P n m t,h]
def HD(W:World):St:=⟨λb=>W.heap[b]?,λ_=>none,false⟩
theorem bA{W:World}(h:(Ho P).ok (NF P R) g (HD W)):
  ∃M last o w' K,runNT P (M+1) (solo g W) #[]=(.ended o w',K)/\runN P M (solo g W)=.next last/\step P last=.ended o w'/\Good P (After P R W (HD W)) last o w' K:=by
 have hC:HX P #[g] W #[] (λ_=>0) (λ_=>False) g (HD W):=by
  have Y:∀{i:Nat}{a:Touch},touchAt #[] i=some a->False:=λ{i a} h=>by simp[touchAt,Trace.act?] at h
  refine⟨V,leavers_one P g,⟨λi hi=>?_,λi j hi ac be=>by simp at hi ac;omega,λi hi b hb=>hb.elim,λb hb=>hb.elim,λsaid=>?_,by simp,λi _ b _ x a O=>(Y O).elim,λi _ b _ x a O=>(Y O).elim⟩,λi g ag=>by simp[Trace.g?] at ag,V⟩
  .have:i=0:=by simp at hi;exact hi
   subst this;exact⟨λb o U=>U,λb o U=>(by cases U),λb _=>V⟩
  .rintro⟨i,j,_,⟨a,b,ai,_⟩,_⟩;simp[Trace.act?] at ai
 let⟨n,gs',w',al,K,q',bi,g',s',Z,am,ap,aq,av,aw,ay⟩:=h #[g] W none #[] _ _ hC;let⟨N,last,o,az,a0,k1,a2,a3,a4⟩:=ends (sl:=al) am ap;refine⟨n+N,last,o,az,a0,?_,?_,a3,?_⟩;rw[solo_eq_crowd,rt,runNT_add,Z];exact k1;have a5:=YC Z;rw[solo_eq_crowd,runN_add,a5];exact a2;obtain⟨v,e,⟨s2,a1,a6,a7,a8,a9,bb⟩,r⟩:=a4;exact⟨v,e,⟨s2,a1,a6,λb o hb=>a7 b o (aq b o hb),a8.trans av,aw.trans a9,bb.trans ay⟩,r⟩
end Pal
namespace Pal
open Go Go.Conc
theorem Y6{P:Program}{Q:Gs_}{E H:LH}{f:FuncId}{fn:Func}{c:Code}{vs:Lv_}(U:P.funcs[f]?=some fn)(hb:fn.body=some c)(ag:fn.ntmps=fn.ntmps)(ai:vs.length<=fn.ntmps)
  (h:JL (Ho P) Q (base f) fn.ntmps (GQ 0 vs) [] [.code c] [] (Aj E H [[]])):(Ho P).ok Q (G (Frame.enter P f vs.toArray .normal) []) (mk E H []):=by
 have he:Frame.enter P f vs.toArray .normal=fr (base f) (vs.toArray++Array.replicate (fn.ntmps - vs.length) undef) [] [.code c]:=by
  simp[Frame.enter,fr,U,hb,base];rfl
 rw[he];have Y:mk E H []=Aj E H [[]]:=by unfold Aj;simp
 rw[Y];refine h _ ⟨by simp;omega,λt v Z=>?_⟩;let⟨_,K⟩:=KF Z;have ac:t<vs.length:=by
  rcases mt t vs.length with O | O;exact O;simp at K;have:=(fx.1 K).1;omega
 rw[pd,qC (by simpa using ac)];simp at K;simp[K]
open Go.ChangeAt Go.ChangeShapes Go.Proofs Go.Proofs.YtkcbafbhngehjaaGreat Go.RowKit Go.WideShapes
theorem Tryz.own:ownKnob Tryz.prog.godebug=none:=by kernel_rfl
theorem Tryz.laidOut:laidOutB Tryz.prog=true:=by kernel_rfl
theorem Tryz.eh:Tryz.prog.cellsOf 3=1:=by kernel_rfl
variable{v:Value}
theorem Yk{R:Value->St->Prop}{W w':World}(h:After Tryz.prog R W (HD W) v w'):(∃s,R v s)/\Below W.heap.size W {w' with os:=W.os}/\Go.ConcM.OsLater W.os w'.os:=by
 obtain⟨s,Y,Z,ac,ag,ai,al⟩:=h;have hb:∀k,k<W.heap.size->w'.heap[k]?=W.heap[k]? :=λk O=>by
  have K:(HD W).E k=some W.heap[k]:=pP O;have U:=Z.e k _ (ac k _ K);rw[U,pP O]
 refine⟨⟨s,Y⟩,⟨V,ag,al,?_,hb⟩,ai⟩;show W.heap.size<=w'.heap.size;rcases qo W.heap.size with am | am;omega;have K:=hb (W.heap.size - 1) (by omega);have ap:W.heap[W.heap.size - 1]?=some W.heap[W.heap.size - 1]:=pP (by omega);rw[ap] at K;have U:=(f8.1 K).1;omega
theorem UB(a:Addr):a.add 0=a:=by unfold Addr.add;rw[eS rfl]
variable {H:Type}{enc:TypeId×Value->H}{W:World}{cs:Lv_}
variable{b off:Nat}
section
variable {fuel:Nat}{x:DataW H×List MemPlace}
theorem bq(h:W.cell? ⟨b,off,none⟩=some v):At (HD W).E b off [v]:=by
 unfold World.cell? at h;split at h
 .rename_i c e f hW;simp only[rG,px,qp] at h;refine⟨c,e,f,hW,λj w K=>?_⟩
  match j,K with
  | 0,K=>simp at K;subst K;simpa using h
  | j+1,K=>simp at K
 .cases h
theorem ZE(O:0<cs.length)(h:∀j,j<cs.length->W.cell? ⟨b,off+j,none⟩=cs[j]?):At (HD W).E b off cs:=by
 have U:=h 0 O;rw[d6 O] at U;let⟨f,e,fr,Y,_⟩:=bq U;have hW:W.heap[b]?=some (.cells f e fr):=Y;refine⟨f,e,fr,Y,λj w Z=>?_⟩;have ac:=(fx.1 Z).1;have K:=h j ac;rw[Z] at K;unfold World.cell? at K;simp only[hW] at K;simpa using K
theorem fz{α:Type}{p:Rp α}{t e:TypeId}(a0:Tryz.prog.underlying t=some (.slice e))(a1:Tryz.prog.cellsOf e=p.n)(a2:0<p.n)
  (a3:∀n cs x,DataW.trod enc Tryz.prog W 0 (λ_=>true) true n e cs=some x->∃v,p.r (HD W).E cs v)
  (a4:DataW.trod enc Tryz.prog W 0 (λ_=>true) true fuel t cs=some x):∃(a:Option Addr) (c:Nat) (ap:List α),cs=[.slice a ap.length c]/\Ap p (HD W).E a c ap:=by
 rcases DataW.trod_slice a0 a4 with⟨ac,a5⟩ | ⟨a,len,cap,elems,rest,n,_,ac,a5,_,a6,_,hlen,aq,av,_⟩;exact⟨none,0,[],ac,Ap.nil⟩
 .rw [a1] at aq av;rcases qo cap with aw | aw
  .have:len=0:=by omega
   subst this;subst aw;exact⟨some a,0,[],ac,no _,.inl ⟨V,λ_ _=>.inr V⟩⟩
  .have ay:∀i,i<len->∃vs y,vs.length=p.n/\(∀j,j<p.n->W.cell? ((a.add (i*p.n)).add j)=vs[j]?)/\DataW.trod enc Tryz.prog W 0 (λ_=>true) true n e vs=some y:=λi hi=>by
    have K:=aq i hi;rw[d6 (by omega)] at K;let⟨vs,ai,Y⟩:=qW.1 K;let⟨_,O,al⟩:=World.cells?_some ai;exact⟨vs,_,O,al,Y⟩
   have am:a.spot=none:=by
    have key:∀vs:Lv_,vs.length=p.n->(∀j,j<p.n->W.cell? ((a.add (0*p.n)).add j)=vs[j]?)->a.spot=none:=λvs ag U=>by
     have:=U 0 a2;rw[d6 (by omega),UB,rl,UB] at this;exact World.cell?_spot this
    rcases qo len with K | K;let⟨ai,Y⟩:=av V;have O:=Y 0 (by omega);rw[d6 (by omega)] at O;let⟨vs,al,_⟩:=qW.1 O;let⟨_,ag,U⟩:=World.cells?_some al;rw[K] at U;exact key vs ag U;let⟨vs,y,ag,U,_⟩:=ay 0 K;exact key vs ag U
   have az:∀i:Fin len,∃z:α,∃vs,p.r (HD W).E vs z/\At (HD W).E a.block (a.off+i*p.n) vs:=λi=>by
    let⟨vs,y,ai,Y,O⟩:=ay i i.2;let⟨z,Z⟩:=a3 _ _ _ O;refine⟨z,vs,Z,ZE (by omega) λj a7=>?_⟩;have:=Y j (by omega);rw[Ek am,Ek rfl] at this;exact this
   refine⟨some a,cap,List.ofFn λi=>Classical.choose (az i),by simpa using ac,by simpa using a6,.inr ⟨a.block,a.off,?_,λi z Z=>?_⟩⟩;obtain⟨b,o,s⟩:=a;simp only at am;subst am;rfl
   .have hi:i<len:=by have:=(fx.1 Z).1;simpa using this
    simp[hi] at Z;have:=qG (az ⟨i,hi⟩);rw[Z] at this;exact this
theorem bV(h:DataW.trod enc Tryz.prog W 0 (λ_=>true) true fuel 3 cs=some x):∃z:Int,cs=[iV z]:=by
 let⟨n1,K,_⟩:=DataW.trod_int Tryz.underlying3 h;exact⟨n1,K⟩
theorem bI(O:DataW.trod enc Tryz.prog W 0 (λ_=>true) true fuel 22 cs=some x):∃(a:Option Addr) (c:Nat) (K:List Int),cs=[.slice a K.length c]/\Ap rI (HD W).E a c K:=
 fz (p:=rI) Tryz.underlying22 Tryz.eh Nat.one_pos (λn cs x h=>by
  obtain⟨z,rfl⟩:=bV h
  exact⟨z,rfl⟩) O
theorem aR{c2:Nat}{d:DataW H}{p:List MemPlace}(U:Value.okWide Tryz.prog W .any c2 22 v)(hd:DataW.Trod enc Tryz.prog W 0 (λ_=>true) true 22 v d p):
  ∃(a:Option Addr) (c:Nat) (K:List Int),v=.slice a K.length c/\Ap rI (HD W).E a c K:=by
 obtain⟨Z,len,cap,rfl⟩:=okWide_slice Tryz.underlying22 U;obtain⟨fuel,Y⟩:=hd;let⟨a,c,K,e,g⟩:=bI Y;simp[Value.cells] at e;obtain⟨rfl,rfl,rfl⟩:=e;exact⟨_,_,_,V,g⟩
end
end Pal
namespace Pal
open Go Go.Conc
def HY(K:Bool)(ws:Lv_):Value:=if K then .agg ws.toArray else ws.headD undef
def Vr{α:Type}(pp:Rp α)(K:Bool)(E:LH)(v:Value)(x:α):Prop:=∃ws,pp.r E ws x/\v=HY K ws
variable{K:Bool}
theorem Vr.M{α:Type}{pp:Rp α}{E E':LH}{v:Value}{x:α}(h:Vr pp K E v x)(hle:Le E E'):Vr pp K E' v x:=
 let ⟨ws,O,U⟩:=h;⟨ws,pp.M hle O,U⟩
structure Hb (P:Program) (t:TypeId) {κ:Type} [DecidableEq κ] (pk:Rp κ) (ka:Bool):Prop where
 BU:∀{em:Bool}{E:LH}{v:Value}{x:κ}{s:St}{Q:Unit->St->Prop}{X:Halt->St->Prop},Vr pk ka E v x->Q () s->lp P (Instr.checkKey em 10000 t v) s Q X
 kind:∃kd,P.underlying t=some kd/\((∀v w,Instr.sameNow kd v w=none)∨∀{E:LH}{v w:Value}{x y:κ},Vr pk ka E v x->Vr pk ka E w y->Instr.sameNow kd v w=some (decide (x=y)))
 eq:∀{E:LH}{v w:Value}{x y:κ}{s:St}{Q:Bool->St->Prop}{X:Halt->St->Prop},Vr pk ka E v x->Vr pk ka E w y->Q (decide (x=y)) s->lp P (Op.equal t v w) s Q X
 same:∀{E:LH}{v:Value}{x:κ},Vr pk ka E v x->Instr.sameBits 10000 v v=true
 uniq:∀{E:LH}{v w:Value}{x:κ},Vr pk ka E v x->Vr pk ka E w x->v=w
variable {κ ν:Type}{pk:Rp κ}{pv:Rp ν}{ka va:Bool}{E E':LH}
variable {P:Program}{s:St}{t tm te:TypeId}{X:Halt->St->Prop}
section
variable [DecidableEq κ]
def Eg(pk:Rp κ)(ka:Bool)(pv:Rp ν)(va:Bool)(E:LH):List MapEntry->List (κ×ν)->Prop
 | [],[]=>True
 | e::es,x::xs=>Vr pk ka E e.key x.1/\Vr pv va E e.val x.2/\Eg pk ka pv va E es xs
 | _,_=>False
theorem Eg.M(hle:Le E E'):∀{es:List MapEntry}{xs:List (κ×ν)},Eg pk ka pv va E es xs->Eg pk ka pv va E' es xs
 | [],[],_=>trivial
 | e::es,x::xs,h=>⟨h.1.M hle,h.2.1.M hle,Eg.M hle h.2.2⟩
 | [],_::_,h=>h.elim
 | _::_,[],h=>h.elim
theorem Eg.len:∀{es:List MapEntry}{xs:List (κ×ν)},Eg pk ka pv va E es xs->es.length=xs.length
 | [],[],_=>rfl
 | e::es,x::xs,h=>by simp[Eg.len h.2.2]
 | [],_::_,h=>h.elim
 | _::_,[],h=>h.elim
def G0(x:κ):List MapEntry->List (κ×ν)->Nat->Option (Nat×Value)
 | e::es,y::ys,i=>if x=y.1 then some (i,e.val) else G0 x es ys (i+1)
 | _,_,_=>none
def A8(xs:List (κ×ν))(x:κ):Option ν:=(xs.find? λy=>decide (x=y.1)).map (·.2)
def Ce(xs:List (κ×ν))(x:κ)(v:ν):List (κ×ν):=match xs with
 | []=>[(x,v)]
 | y::ys=>if x=y.1 then(x,v)::ys else y::Ce ys x v
theorem V1{x:κ}:∀{es:List MapEntry}{xs:List (κ×ν)}{i:Nat},Eg pk ka pv va E es xs->(G0 x es xs i=none/\A8 xs x=none)∨∃j w v0,G0 x es xs i=some (j,w)/\A8 xs x=some v0/\Vr pv va E w v0
 | [],[],i,_=>.inl ⟨rfl,rfl⟩
 | e::es,y::ys,i,h=>by
  unfold G0 A8
  by_cases K:x=y.1;exact .inr ⟨i,e.val,y.2,by rw[eS K],by simp[K],h.2.1⟩;rcases V1 (x:=x) (i:=i+1) h.2.2 with⟨O,U⟩ | ⟨j,w,v0,O,U,Y⟩;exact .inl ⟨by rw[d9 K];exact O,by simpa [K,A8] using U⟩;exact .inr ⟨j,w,v0,by rw[d9 K];exact O,by simpa [K,A8] using U,Y⟩
 | [],_::_,_,h=>h.elim
 | _::_,[],_,h=>h.elim
theorem Eg.put{x:κ}{v0:ν}{O w:Value}(U:Vr pk ka E O x)(hw:Vr pv va E w v0)(Z:Nat):∀{es:List MapEntry}{xs:List (κ×ν)}{i:Nat},Eg pk ka pv va E es xs->
  (G0 x es xs i=none/\Eg pk ka pv va E (es++ [{key:=O,val:=w,born:=Z}]) (Ce xs x v0))∨
  ∃j u,G0 x es xs i=some (i+j,u)/\j<es.length/\(∀e,es[j]?=some e->Vr pk ka E e.key x)/\Eg pk ka pv va E (es.modify j λe=>{e with key:=O,val:=w}) (Ce xs x v0)
 | [],[],i,_=>.inl ⟨rfl,U,hw,trivial⟩
 | e::es,y::ys,i,h=>by
  unfold G0 Ce
  by_cases K:x=y.1;refine .inr ⟨0,e.val,by rw[eS K];rfl,by simp,λac he=>?_,?_⟩;simp at he;subst he;rw[K];exact h.1;rw[eS K];exact⟨U,hw,h.2.2⟩;rcases Eg.put U hw Z (i:=i+1) h.2.2 with⟨Y,ag⟩ | ⟨j,u,Y,ag,ai,al⟩;exact .inl ⟨by rw[d9 K];exact Y,by rw[d9 K];exact⟨h.1,h.2.1,ag⟩⟩;refine .inr ⟨j+1,u,by rw[d9 K,Y];congr 2;omega,by simp;omega,λac he=>ai ac (by simpa using he),?_⟩;rw[d9 K];exact⟨h.1,h.2.1,al⟩
 | [],_::_,_,h=>h.elim
 | _::_,[],_,h=>h.elim
def LZ(pk:Rp κ)(ka:Bool)(pv:Rp ν)(va:Bool)(E:LH)(o:Obj)(xs:List (κ×ν)):Prop:=
 ∃es clock,o=.map es clock/\Eg pk ka pv va E es.toList xs/\(es.toList.map (·.born)).Pairwise (·<·)/\∀e∈es.toList,e.born<clock
theorem LZ.M{o:Obj}{xs:List (κ×ν)}(h:LZ pk ka pv va E o xs)(hle:Le E E'):LZ pk ka pv va E' o xs:=
 let ⟨es,c,K,O,U⟩:=h;⟨es,c,K,O.M hle,U⟩
theorem Tu(U:Hb P t pk ka){k:Value}{x:κ}(Y:Vr pk ka E k x){Q:Option (Nat×Value)->St->Prop}:∀{es:List MapEntry}{xs:List (κ×ν)}{i:Nat},Eg pk ka pv va E es xs->Q (G0 x es xs i) s->lp P (Instr.findAsking t k es i) s Q X
 | [],[],i,_,h=>h
 | e::es,y::ys,i,h,K=>by
  unfold Instr.findAsking
  refine Az _ _ (U.eq Y h.1 ?_)
  unfold G0 at K
  by_cases O:x=y.1
  .rw [qf O]
   rw[eS O] at K;exact K
  .rw [p5 O];rw[d9 O] at K;exact Tu U Y h.2.2 K
 | [],_::_,_,h,_=>h.elim
 | _::_,[],_,h,_=>h.elim
theorem TG{kd:TypeDesc}{k:Value}{x:κ}(O:Vr pk ka E k x)(U:∀{E:LH}{v w:Value}{x y:κ},Vr pk ka E v x->Vr pk ka E w y->Instr.sameNow kd v w=some (decide (x=y))):∀{es:List MapEntry}{xs:List (κ×ν)}{i:Nat},Eg pk ka pv va E es xs->Instr.findNow kd k es i=some (G0 x es xs i)
 | [],[],i,_=>rfl
 | e::es,y::ys,i,h=>by
  unfold Instr.findNow G0
  rw[U O h.1]
  by_cases K:x=y.1;simp[K];simp only[p5 K,d9 K];exact TG O U h.2.2
 | [],_::_,_,h=>h.elim
 | _::_,[],_,h=>h.elim
theorem Q5(O:Hb P t pk ka){k:Value}{x:κ}(U:Vr pk ka E k x){Q:Option (Nat×Value)->St->Prop}{es:List MapEntry}{xs:List (κ×ν)}(h:Eg pk ka pv va E es xs)(K:Q (G0 x es xs 0) s):lp P (Instr.findKey t k es) s Q X:=by
 unfold Instr.findKey;obtain⟨kd,Y,Z | ac⟩:=O.kind
 .refine Az _ _ (CG Y ?_);cases es with
  | nil=>
   cases xs with
   | nil=>exact K
   | cons y ys=>exact h.elim
  | cons e es=>
   have ag:Instr.findNow kd k (e::es) 0=none:=by unfold Instr.findNow;rw[Z]
   rw[ag];exact Tu O U h K
 .refine Az _ _ (CG Y ?_);rw[TG U ac h];exact K
theorem ZS(O:Hb P t pk ka)(hm:P.underlying tm=some (.map t te)){z:Value}{z0:ν}(Z:zeroOf P te=some z)(ac:Vr pv va E z z0){bk:Nat}{o:Obj}{xs:List (κ×ν)}{k:Value}{x:κ}(ag:s.get bk=some o)(ai:LZ pk ka pv va E o xs)(U:Vr pk ka E k x)(ok:Bool){Q:Value->St->Prop}
  (h:∀w,Vr pv va E w ((A8 xs x).getD z0)->Q (if ok then .tuple #[w,.bool (A8 xs x).isSome] else w) s):lp P (Instr.lookup tm (.map (some bk)) k ok) s Q X:=by
 obtain⟨es,c,rfl,Y,am,ap⟩:=ai;unfold Instr.lookup;refine Az _ _ (CG hm ?_);refine Az _ _ ?_;unfold getObj;simp only[bind,Sem.bind,lp];refine⟨_,ag,V,?_⟩;refine Az (x:=Instr.checkKey _ 10000 t k) _ (O.BU U ?_);refine Az (x:=Instr.findKey t k es.toList) _ (Q5 O U Y ?_);rcases V1 (x:=x) (i:=0) Y with⟨K,e2⟩ | ⟨j,w,v0,K,e2,al⟩;rw[K];simp only;refine Az (x:=zeroValue te) _ (H8 Z ?_);have:=h z (by rw[e2];exact ac);rw[e2] at this;exact this;rw[K];have:=h w (by rw[e2];exact al);rw[e2] at this;exact this
theorem X2(O:Hb P t pk ka)(hm:P.underlying tm=some (.map t te)){bk:Nat}{o:Obj}{xs:List (κ×ν)}{k w:Value}{x:κ}{v0:ν}(al:s.get bk=some o)(Z:s.H bk=some o)(am:LZ pk ka pv va E o xs)(K:Vr pk ka E k x)(hw:Vr pv va E w v0){Q:Unit->St->Prop}
  (h:∀o',LZ pk ka pv va E o' (Ce xs x v0)->Q () (s.upd bk o')):lp P (Instr.mapUpdate tm (.map (some bk)) k w) s Q X:=by
 obtain⟨es,c,rfl,ac,ag,U⟩:=am;unfold Instr.mapUpdate;refine Az _ _ (CG hm ?_);unfold getObj;simp only[bind,Sem.bind,lp];refine⟨_,al,V,?_⟩;refine Az (x:=Instr.checkKey false 10000 t k) _ (O.BU K ?_);refine Az (x:=Instr.findKey t k es.toList) _ (Q5 O K ac ?_);rcases Eg.put K hw c (i:=0) ac with⟨Y,e2⟩ | ⟨j,u,Y,e2,ap,aq⟩;rw[Y];simp only[setObj,lp];refine⟨⟨_,Z,V⟩,V,h _ ⟨es.push {key:=k,val:=w,born:=c},c+1,V,by simpa using e2,?_,?_⟩⟩;rw[Array.toList_push,ql,tI];refine⟨ag,by simp,λa av b hb=>?_⟩;simp at hb;subst hb;obtain⟨e,he,rfl⟩:=pO.1 av;exact U e he;intro e he;rw[Array.toList_push] at he;rcases pg.1 he with he | he;have:=U e he;omega;simp at he;subst he;simp
 .rw [Y];have ai:es[j]?=some (es[j]'(by simpa using e2)):=pP (by simpa using e2);have aw:(es[j]'(by simpa using e2)).key=k:=O.uniq (ap _ (by rw[qn];exact ai)) K;simp only[qZ,ai,qH,Option.getD_some,aw];refine Az (x:=Instr.keyThatStays k k) _ ?_;unfold Instr.keyThatStays;rw[eS (O.same K)];simp only[lp,pure,setObj];refine⟨⟨_,Z,V⟩,V,h _ ⟨_,c,V,by simpa using aq,?_,?_⟩⟩
  .have:(es.modify j λe=>{e with key:=k,val:=w}).toList.map (·.born)=es.toList.map (·.born):=by
    rw[Array.toList_modify];apply qN;intro q;simp only[qe,List.getElem?_modify];split<;>cases es.toList[q]?<;>rfl
   rw[this];exact ag
  .intro e he;rw[Array.toList_modify] at he;obtain⟨q,ay,rfl⟩:=r4.1 he;rw[List.getElem_modify];have az:q<es.toList.length:=by simpa using ay
   split;show(es.toList[q]'az).born<c;exact U _ (pj _);exact U _ (pj _)
end
variable{us:Lv_}
theorem Vw{l r:Lv_}:∀j w,us[j]?=some w->(l++us++r).toArray[l.length+j]?=some w:=λj w h=>by
 have K:j<us.length:=(fx.1 h).1
 rw[pR,pF,pf (by omega),show l.length+j - l.length=j by omega,po K]
 exact h
variable{off:Nat}{O:Bool}
section
variable {e:TypeId}
theorem My{c:Av_}(Y:DJ P e=some O)(Z:Bp P e=some us.length)(ac:O=false->us.length=1)(hw:∀j w,us[j]?=some w->c[off+j]?=some w)
  {Q:Value->St->Prop}(k:Q (HY O us) s):lp P (Go.part e c off) s Q X:=by
 unfold Go.part;refine Az (x:=isAgg e) _ (OY Y ?_);cases O with
 | true=>
  simp only[qs];refine Az (x:=Go.sizeOf e) _ (Fp Z ?_);have ag:c.extract off (off+us.length)=us.toArray:=by
   apply qm;intro j;by_cases U:j<us.length;have K:=hw j us[j] (d6 U);have ai:off+j<c.size:=(f8.1 K).1;simp only[sH];rw[eS (by omega),K];simp[U];simp only[sH];rw[d9 (by omega)];simp;omega
  show Q (.agg (c.extract off (off+us.length))) s;rw[ag];exact k
 | false=>
  obtain⟨w,rfl⟩:∃w,us=[w]:=by
   match us,ac rfl with
   | [w],_=>exact⟨w,rfl⟩
  have K:=hw 0 w V;rw[qq] at K;simp only[px,qp,K];exact k
end
structure Cg (P:Program) (t:TypeId) {α:Type} [DecidableEq α] (pp:Rp α) (K:Bool) (dep:Nat):Prop where
 agg:DJ P t=some K
 size:Bp P t=some pp.n
 one:K=false->pp.n=1
 eq:∀{n:Nat}{E E':LH}{ws ws':Lv_}{x y:α}{s:St}{Q:Bool->St->Prop}{X:Halt->St->Prop},dep<=n->pp.r E ws x->pp.r E' ws' y->Q (decide (x=y)) s->lp P (Op.equalIn n t (HY K ws) (HY K ws')) s Q X
 BU:∀{n:Nat}{em:Bool}{E:LH}{ws:Lv_}{x:α}{s:St}{Q:Unit->St->Prop}{X:Halt->St->Prop},dep<=n->pp.r E ws x->Q () s->lp P (Instr.checkKey em n t (HY K ws)) s Q X
 uniq:∀{E E':LH}{ws ws':Lv_}{x:α},pp.r E ws x->pp.r E' ws' x->ws=ws'
 same:∀{E:LH}{ws:Lv_}{x:α},pp.r E ws x->∀w∈ws,∀m,Instr.sameBits (m+1) w w=true
 now:∃kd,P.underlying t=some kd/\((∀v w,Instr.sameNow kd v w=none)∨∀{E E':LH}{ws ws':Lv_}{x y:α},pp.r E ws x->pp.r E' ws' y->Instr.sameNow kd (HY K ws) (HY K ws')=some (decide (x=y)))
variable {ρ:Operand->Value}{d:Option Tmp}{u ty:TypeId}{p:String}{af:Ae_}{g:On_}{ws ws':Lv_}
variable{U dep:Nat}{cx:Av_}{β:Type}{f1 f2:Field}
section
variable {e:TypeId}
theorem Cg.int{kd:IntKind}(U:P.underlying t=some (.int kd))(Y:Bp P t=some 1):Cg P t (rK kd) false 1 where
 agg:=by unfold DJ;rw[U]
 size:=Y
 one _:=rfl
 eq {n E E' ws ws' x y s Q X} Z K O k:=by
  obtain⟨m,rfl⟩:∃m,n=m+1:=⟨n - 1,by omega⟩;have K:ws=[.int kd x]:=K;have O:ws'=[.int kd y]:=O;subst K O;refine Wu U ?_;have e:(x==y)=decide (x=y):=by by_cases h:x=y<;>simp[h]
  rw[e];exact k
 BU {n em E ws x s Q X} Z K k:=by
  obtain⟨m,rfl⟩:∃m,n=m+1:=⟨n - 1,by omega⟩;have K:ws=[.int kd x]:=K;subst K;unfold Instr.checkKey;refine Az _ _ (CG U ?_);exact k
 uniq K O:=by
  have K:_=[Value.int kd _]:=K;have O:_=[Value.int kd _]:=O;rw[K,O]
 same {E ws x} h w hw m:=by
  have h:ws=[Value.int kd x]:=h;subst h;simp at hw;subst hw;simp[Instr.sameBits]
 now:=⟨_,U,.inr λ{E E' ws ws' x y} K O=>by
  have K:ws=[.int kd x]:=K
  have O:ws'=[.int kd y]:=O
  subst K O
  have e:(x==y)=decide (x=y):=by by_cases h:x=y<;>simp[h]
  show(if kd=kd then some (x==y) else none)=_
  rw[eS rfl,e]⟩
theorem Cg.nat{kd:IntKind}(U:P.underlying t=some (.int kd))(Z:Bp P t=some 1):Cg P t (rN kd) false 1 where
 agg:=by unfold DJ;rw[U]
 size:=Z
 one _:=rfl
 eq {n E E' ws ws' x y s Q X} ac K O k:=by
  obtain⟨m,rfl⟩:∃m,n=m+1:=⟨n - 1,by omega⟩;have K:ws=[.int kd ((x:Nat):Int)]:=K;have O:ws'=[.int kd ((y:Nat):Int)]:=O;subst K O;refine Wu U ?_;have e:((x:Int)==(y:Int))=decide (x=y):=by
   by_cases h:x=y;simp[h]
   .have Y:¬(x:Int)=(y:Int):=by omega
    simp[h,Y]
  rw[e];exact k
 BU {n em E ws x s Q X} ac K k:=by
  obtain⟨m,rfl⟩:∃m,n=m+1:=⟨n - 1,by omega⟩;have K:ws=[.int kd ((x:Nat):Int)]:=K;subst K;unfold Instr.checkKey;refine Az _ _ (CG U ?_);exact k
 uniq K O:=by
  have K:_=[Value.int kd _]:=K;have O:_=[Value.int kd _]:=O;rw[K,O]
 same {E ws x} h w hw m:=by
  have h:ws=[Value.int kd ((x:Nat):Int)]:=h;subst h;simp at hw;subst hw;simp[Instr.sameBits]
 now:=⟨_,U,.inr λ{E E' ws ws' x y} K O=>by
  have K:ws=[.int kd ((x:Nat):Int)]:=K
  have O:ws'=[.int kd ((y:Nat):Int)]:=O
  subst K O
  have e:((x:Int)==(y:Int))=decide (x=y):=by
   by_cases h:x=y;simp[h]
   .have Y:¬(x:Int)=(y:Int):=by omega
    simp[h,Y]
  show(if kd=kd then some ((x:Int)==(y:Int)) else none)=_
  rw[eS rfl,e]⟩
theorem Cg.up{α:Type} [DecidableEq α] {pp:Rp α}(h:Cg P t pp O dep)(hd:dep<=U):Cg P t pp O U:=
 ⟨h.agg,h.size,h.one,λK=>h.eq (qg hd K),λK=>h.BU (qg hd K),h.uniq,h.same,h.now⟩
theorem RA{α:Type}{kk:Nat}{pp:Rp α}{E:LH}{ws:Lv_}{xs:List α}(K:(rA kk pp).r E ws xs){i:Nat}(hi:i<kk):∃x us,xs[i]?=some x/\pp.r E us x/\us.length=pp.n/\∀j w,us[j]?=some w->ws.toArray[i*pp.n+j]?=some w:=by
 have O:xs[i]?=some (xs[i]'(by rw[K.1];exact hi)):=d6 (by rw[K.1];exact hi);have Y:ix xs (i:Int)=some (xs[i]'(by rw[K.1];exact hi)):=by unfold ix;rw[eS (by omega)];simpa using O
 let⟨us,U,_,_,Z⟩:=Ib (m:=(i:Int)) K Y;exact⟨_,us,O,U,pp.len U,λj w ac=>by have:=Z j w ac;rw[pR];simpa using this⟩
theorem Cg.arr{α:Type} [DecidableEq α] {pp:Rp α}{a5:Bool}{kk:Nat}(h:Cg P e pp a5 dep)(Z:P.underlying t=some (.array kk e))(a6:Bp P t=some (kk*pp.n)):Cg P t (rA kk pp) true (dep+1) where
 agg:=by unfold DJ;rw[Z]
 size:=a6
 one:=λh=>by cases h
 eq {n E E' ws ws' xs ys s Q X} a7 ac az k:=by
  obtain⟨n,rfl⟩:∃m,n=m+1:=⟨n - 1,by omega⟩;have bw:=ac.1;have bx:=az.1;unfold Op.equalIn;refine Az _ _ (CG Z ?_);refine Az (x:=Go.sizeOf e) _ (Fp h.size ?_);simp only[HY,qs];simp only[sc,Std.Legacy.Range.size,ro,Nat.add_one_sub_one,Nat.div_one];let bd:Nat->Option Bool×Unit->Sem (ForInStep (Option Bool×Unit)):=λi _=>do
   if !(← Op.equalIn n e (← Go.part e ws.toArray (i*pp.n)) (← Go.part e ws'.toArray (i*pp.n))) then pure (ForInStep.done (some false,())) else pure (ForInStep.yield (none,()))
  have key:∀(m st:Nat),st+m=kk->(∀i,i<st->xs[i]?=ys[i]?)->∀{K:Option Bool×Unit->St->Prop},K (if xs=ys then(none,()) else(some false,())) s->lp P (forIn (List.range' st m) (none,()) bd:Sem _) s K X:=by
   intro m
   induction m with
   | zero=>
    intro st ai al K O;have U:xs=ys:=by
     apply qN;intro i;rcases mt i st with hi | hi;exact al i hi;rw[pU (by omega),pU (by omega)]
    rw[eS U] at O;simp only[List.range'_zero,rW];exact O
   | succ m am=>
    intro st ai al K O;simp only[ti,rO];obtain⟨a,us,ag,ap,Y,aq⟩:=RA ac (i:=st) (by omega);obtain⟨c,bz,av,a8,a0,a9⟩:=RA az (i:=st) (by omega);refine Az _ _ (Az _ _ (My h.agg (by rw[Y];exact h.size) (λq=>by rw[Y];exact h.one q) aq ?_));refine Az _ _ (My h.agg (by rw[a0];exact h.size) (λq=>by rw[a0];exact h.one q) a9 ?_);refine Az _ _ (h.eq (by omega) ap a8 ?_);by_cases aw:a=c
    .subst aw;simp only[decide_true,s6,px,qp,lp,pure];exact am (st+1) (by omega) (λi hi=>by
      rcases mt i st with a2 | a2;exact al i a2
      .obtain rfl:i=st:=by omega
       rw[ag,av]) O
    .have bb:¬xs=ys:=λq=>aw (by rw[q] at ag;rw[ag] at av;exact f5 av);rw[d9 bb] at O;simp only[aw,decide_false,tB,qs,lp,pure];exact O
  refine Az _ _ (key kk 0 (by omega) (λi hi=>by omega) ?_);by_cases U:xs=ys;rw[eS U];simpa [lp,pure,U] using k;rw[d9 U];simpa [lp,pure,U] using k
 BU {n em E ws xs s Q X} a7 ac k:=by
  obtain⟨n,rfl⟩:∃m,n=m+1:=⟨n - 1,by omega⟩;unfold Instr.checkKey;refine Az _ _ (CG Z ?_);simp only[HY,qs];simp only[sc,Std.Legacy.Range.size,ro,Nat.add_one_sub_one,Nat.div_one];let bd:Nat->Unit->Sem (ForInStep Unit):=λi _=>do
   Instr.checkKey em n e (← Go.part e ws.toArray (i*(← Go.sizeOf e)))
   pure (ForInStep.yield ())
  have key:∀(m st:Nat),st+m=kk->∀{K:Unit->St->Prop},K () s->lp P (forIn (List.range' st m) () bd:Sem _) s K X:=by
   intro m
   induction m with
   | zero=>
    intro st ai K O;simp only[List.range'_zero,rW];exact O
   | succ m am=>
    intro st ai K O;simp only[ti,rO];obtain⟨a,us,ag,ap,Y,aq⟩:=RA ac (i:=st) (by omega);refine Az _ _ (Az (x:=Go.sizeOf e) _ (Fp h.size ?_));refine Az _ _ (My h.agg (by rw[Y];exact h.size) (λq=>by rw[Y];exact h.one q) aq ?_);refine Az _ _ (h.BU (by omega) ap ?_);exact am (st+1) (by omega) O
  exact Az _ _ (key kk 0 (by omega) k)
 uniq {E E' ws ws' xs} ay be:=by
  obtain⟨a1,wss,rfl,a3,c1⟩:=ay;obtain⟨b0,bi,rfl,b1,c2⟩:=be;have:wss=bi:=by
   apply List.ext_getElem (by omega);intro i hi bn;have a4:xs[i]?=some (xs[i]'(by omega)):=d6 (by omega);exact h.uniq (c1 i _ _ a4 (d6 hi)) (c2 i _ _ a4 (d6 bn))
  rw[this]
 same {E ws xs} ay w hw m:=by
  obtain⟨a1,wss,rfl,a3,c1⟩:=ay;let⟨us,bo,hw⟩:=rg.1 hw;let⟨i,hi⟩:=pS.1 bo;have bv:i<xs.length:=by rw[a1,← a3];exact(fx.1 hi).1
  exact h.same (c1 i _ us (d6 bv) hi) w hw m
 now:=⟨_,Z,.inl λv w=>rfl⟩
theorem Cg.field{α:Type} [DecidableEq α] {pp:Rp α}{ac:Bool}{n:Nat}{f:Field}{s:St}{X:Halt->St->Prop}(h:Cg P f.type pp ac dep)(hd:dep<=n)(ag:f.name≠ "_"){E E':LH}{Y:Lv_}{x y:α}(r1:pp.r E us x)(r2:pp.r E' Y y){Z:Av_}
  (w1:∀j w,us[j]?=some w->cx[f.offset+j]?=some w) (w2:∀j w,Y[j]?=some w->Z[f.offset+j]?=some w) {K:ForInStep (Option Bool×Unit)->St->Prop}(O:K (if x=y then .yield (none,()) else .done (some false,())) s):
  lp P (if f.name≠ "_" then do
   if !(← Op.equalIn n f.type (← Go.part f.type cx f.offset) (← Go.part f.type Z f.offset)) then pure (ForInStep.done (some false,())) else pure (ForInStep.yield (none,()))
   else pure (ForInStep.yield (none,()))) s K X:=by
 rw[eS ag]
 refine Az _ _ (My h.agg (by rw[pp.len r1];exact h.size) (λq=>by rw[pp.len r1];exact h.one q) w1 ?_)
 refine Az _ _ (My h.agg (by rw[pp.len r2];exact h.size) (λq=>by rw[pp.len r2];exact h.one q) w2 ?_)
 refine Az _ _ (h.eq hd r1 r2 ?_)
 by_cases U:x=y;rw[eS U] at O;simpa [lp,pure,U] using O;rw[d9 U] at O;simpa [lp,pure,U] using O
theorem Cg.NK{α:Type} [DecidableEq α] {pp:Rp α}{em:Bool}{n:Nat}{f:Field}{s:St}{X:Halt->St->Prop}(h:Cg P f.type pp O dep)(hd:dep<=n)(U:f.name≠ "_"){E:LH}{x:α}(r1:pp.r E us x)
  (w1:∀j w,us[j]?=some w->cx[f.offset+j]?=some w) {K:ForInStep Unit->St->Prop}(Y:K (.yield ()) s):
  lp P (if f.name≠ "_" then do
   Instr.checkKey em n f.type (← Go.part f.type cx f.offset)
   pure (ForInStep.yield ())
   else pure (ForInStep.yield ())) s K X:=by
 rw[eS U]
 refine Az _ _ (My h.agg (by rw[pp.len r1];exact h.size) (λq=>by rw[pp.len r1];exact h.one q) w1 ?_)
 refine Az _ _ (h.BU hd r1 ?_)
 exact Y
theorem MT{r:Lv_}{o:Nat}(K:o=0):∀j w,us[j]?=some w->(us++r).toArray[o+j]?=some w:=λj w h=>by subst K;exact Vw (l:=[]) j w h
theorem Qf{l r:Lv_}{o:Nat}(K:o=l.length):∀j w,us[j]?=some w->(l++(us++r)).toArray[o+j]?=some w:=λj w h=>by
 subst K
 have:=Vw (l:=l) (r:=r) j w h
 rwa[pF] at this
theorem Qc{l:Lv_}{o:Nat}(K:o=l.length):∀j w,us[j]?=some w->(l++us).toArray[o+j]?=some w:=λj w h=>by
 have:=Qf (r:=[]) K j w h
 rwa[pG] at this
theorem Sk{l m:Lv_}{o:Nat}(K:o=l.length+m.length):∀j w,us[j]?=some w->(l++(m++us)).toArray[o+j]?=some w:=λj w h=>by
 have:=Qc (l:=l++m) (o:=o) (by simp[K]) j w h
 rwa[pF] at this
theorem Cg.two{α:Type} [DecidableEq α] [DecidableEq β] {p1:Rp α}{p2:Rp β}{a1 aq:Bool}(K:P.underlying t=some (.struct #[f1,f2]))(O:Cg P f1.type p1 a1 dep)(U:Cg P f2.type p2 aq dep)(av:P.stoodInHeld t=false)
  (n1:f1.name≠ "_") (n2:f2.name≠ "_") (ac:f1.offset=0) (ag:f2.offset=p1.n) (aw:Bp P t=some (p1.n+p2.n)):Cg P t (rP p1 p2) true (dep+1) where
 agg:=by unfold DJ;rw[K]
 size:=aw
 one:=λh=>by cases h
 eq {n E E' ws ws' x y s Q X} ay ai az k:=by
  obtain⟨n,rfl⟩:∃m,n=m+1:=⟨n - 1,by omega⟩;obtain⟨al,am,rfl,r1,r2⟩:=ai;obtain⟨v1,v2,rfl,Y,ap⟩:=az;simp only[HY,qs];unfold Op.equalIn;refine Az _ _ (CG K ?_);refine Az (x:=program) _ ?_;show lp P (if P.stoodInHeld t=true then _ else _) s _ _
  rw[d9 (by rw[av];exact q2)]
  dsimp only;rw[← sy];simp only[rO,rW];refine Az _ _ (Az _ _ (O.field (by omega) n1 r1 Y (MT ac) (MT ac) ?_));by_cases Z:x.1=y.1;rw[eS Z];refine Az _ _ (U.field (by omega) n2 r2 ap (Qc (ag.trans (p1.len r1).symm)) (Qc (ag.trans (p1.len Y).symm)) ?_);by_cases e2:x.2=y.2;have e:x=y:=sK Z e2;rw[eS e2];simpa [lp,pure,e] using k;have e:¬x=y:=λq=>e2 (by rw[q]);rw[d9 e2];simpa [lp,pure,e] using k;have e:¬x=y:=λq=>Z (by rw[q]);rw[d9 Z];simpa [lp,pure,e] using k
 BU {n em E ws x s Q X} ay ai k:=by
  obtain⟨n,rfl⟩:∃m,n=m+1:=⟨n - 1,by omega⟩;obtain⟨al,am,rfl,r1,r2⟩:=ai;simp only[HY,qs];unfold Instr.checkKey;refine Az _ _ (CG K ?_)
  dsimp only;rw[← sy];simp only[rO,rW];refine Az _ _ (Az _ _ (O.NK (by omega) n1 r1 (MT ac) ?_));refine Az _ _ (U.NK (by omega) n2 r2 (Qc (ag.trans (p1.len r1).symm)) ?_);exact k
 uniq {E E' ws ws' x} a b:=by
  obtain⟨al,am,rfl,r1,r2⟩:=a;obtain⟨v1,v2,rfl,Y,ap⟩:=b;rw[O.uniq r1 Y,U.uniq r2 ap]
 same {E ws x} a w hw m:=by
  obtain⟨al,am,rfl,r1,r2⟩:=a;rcases pg.1 hw with hw | hw;exact O.same r1 w hw m;exact U.same r2 w hw m
 now:=⟨_,K,.inl λv w=>rfl⟩
theorem Cg.three{α a0:Type} [DecidableEq α] [DecidableEq β] [DecidableEq a0] {p1:Rp α}{p2:Rp β}{p3:Rp a0}{a1 a3 a4:Bool}{f3:Field}(O:P.underlying t=some (.struct #[f1,f2,f3]))(U:Cg P f1.type p1 a1 dep)(Y:Cg P f2.type p2 a3 dep)(Z:Cg P f3.type p3 a4 dep)(a5:P.stoodInHeld t=false)
  (n1:f1.name≠ "_") (n2:f2.name≠ "_") (a2:f3.name≠ "_") (al:f1.offset=0) (am:f2.offset=p1.n) (ap:f3.offset=p1.n+p2.n) (a6:Bp P t=some (p1.n+(p2.n+p3.n))):Cg P t (rP p1 (rP p2 p3)) true (dep+1) where
 agg:=by unfold DJ;rw[O]
 size:=a6
 one:=λh=>by cases h
 eq {n E E' ws ws' x y s Q X} a7 aq a8 k:=by
  obtain⟨n,rfl⟩:∃m,n=m+1:=⟨n - 1,by omega⟩;obtain⟨av,_,rfl,r1,aw,ay,rfl,r2,r3⟩:=aq;obtain⟨v1,_,rfl,K,v2,a9,rfl,ac,az⟩:=a8;simp only[HY,qs];unfold Op.equalIn;refine Az _ _ (CG O ?_);refine Az (x:=program) _ ?_;show lp P (if P.stoodInHeld t=true then _ else _) s _ _
  rw[d9 (by rw[a5];exact q2)]
  dsimp only;rw[← sy];simp only[rO,rW];refine Az _ _ (Az _ _ (U.field (by omega) n1 r1 K (MT al) (MT al) ?_));by_cases ag:x.1=y.1;rw[eS ag];refine Az _ _ (Y.field (by omega) n2 r2 ac (Qf (am.trans (p1.len r1).symm)) (Qf (am.trans (p1.len K).symm)) ?_);by_cases e2:x.2.1=y.2.1;rw[eS e2];refine Az _ _ (Z.field (by omega) a2 r3 az (Sk (by rw[ap,p1.len r1,p2.len r2])) (Sk (by rw[ap,p1.len K,p2.len ac])) ?_);by_cases ai:x.2.2=y.2.2;have e:x=y:=sK ag (sK e2 ai);rw[eS ai];simpa [lp,pure,e] using k;have e:¬x=y:=λq=>ai (by rw[q]);rw[d9 ai];simpa [lp,pure,e] using k;have e:¬x=y:=λq=>e2 (by rw[q]);rw[d9 e2];simpa [lp,pure,e] using k;have e:¬x=y:=λq=>ag (by rw[q]);rw[d9 ag];simpa [lp,pure,e] using k
 BU {n em E ws x s Q X} a7 aq k:=by
  obtain⟨n,rfl⟩:∃m,n=m+1:=⟨n - 1,by omega⟩;obtain⟨av,_,rfl,r1,aw,ay,rfl,r2,r3⟩:=aq;simp only[HY,qs];unfold Instr.checkKey;refine Az _ _ (CG O ?_)
  dsimp only;rw[← sy];simp only[rO,rW];refine Az _ _ (Az _ _ (U.NK (by omega) n1 r1 (MT al) ?_));refine Az _ _ (Y.NK (by omega) n2 r2 (Qf (am.trans (p1.len r1).symm)) ?_);refine Az _ _ (Z.NK (by omega) a2 r3 (Sk (by rw[ap,p1.len r1,p2.len r2])) ?_);exact k
 uniq {E E' ws ws' x} a b:=by
  obtain⟨av,_,rfl,r1,aw,ay,rfl,r2,r3⟩:=a;obtain⟨v1,_,rfl,K,v2,a9,rfl,ac,az⟩:=b;rw[U.uniq r1 K,Y.uniq r2 ac,Z.uniq r3 az]
 same {E ws x} a w hw m:=by
  obtain⟨av,_,rfl,r1,aw,ay,rfl,r2,r3⟩:=a;rcases pg.1 hw with hw | hw;exact U.same r1 w hw m;rcases pg.1 hw with hw | hw;exact Y.same r2 w hw m;exact Z.same r3 w hw m
 now:=⟨_,O,.inl λv w=>rfl⟩
theorem Cg.key{α:Type} [DecidableEq α] {pp:Rp α}(h:Cg P t pp K dep)(hd:dep<=10000):Hb P t pp K where
 BU:=by
  rintro em E v x s Q X ⟨ws,Y,rfl⟩ k;exact h.BU hd Y k
 kind:=by
  obtain⟨kd,O,Z⟩:=h.now;refine⟨kd,O,Z.imp id λac=>?_⟩;rintro E v w x y ⟨ws,r1,rfl⟩ ⟨ws',r2,rfl⟩;exact ac r1 r2
 eq:=by
  rintro E v w x y s Q X ⟨ws,r1,rfl⟩ ⟨ws',r2,rfl⟩ k;exact h.eq hd r1 r2 k
 same:=by
  rintro E v x ⟨ws,r1,rfl⟩;cases K with
  | false=>
   obtain⟨w,rfl⟩:∃w,ws=[w]:=by
    have:=(pp.len r1).trans (h.one V)
    match ws,this with
    | [w],_=>exact⟨w,rfl⟩
   exact h.same r1 w (by simp) 9999
  | true=>
   show(ws.toArray.size==ws.toArray.size&&(ws.toArray.toList.zip ws.toArray.toList).all λ(x,y)=>Instr.sameBits 9999 x y)=true;rw[gQ];refine⟨by simp,pJ.2 ?_⟩;rintro⟨a,b⟩ ag;have O:∀(l:Lv_) a b,(a,b)∈l.zip l->a=b/\a∈l:=by
    intro l
    induction l with
    | nil=>intro a b h;simp at h
    | cons c l U=>
     intro a b h;simp only[sB,iO,f4] at h;rcases h with⟨rfl,rfl⟩ | h;exact⟨V,by simp⟩;exact⟨(U a b h).1,f7 _ (U a b h).2⟩
   obtain⟨rfl,hm⟩:=O _ a b ag;exact h.same r1 a (by simpa using hm) 9998
 uniq:=by
  rintro E v w x ⟨ws,r1,rfl⟩ ⟨ws',r2,rfl⟩;rw[h.uniq r1 r2]
section
variable {x y:Operand}
theorem VR{α:Type} [DecidableEq α] {pp:Rp α}{a b:α}(h:Cg P t pp true dep)(hd:dep<=10000)(K:P.eqGuardType P.depth t=false)(r1:pp.r E ws a)(r2:pp.r E' ws' b)(O:ρ x=.agg ws.toArray)(U:ρ y=.agg ws'.toArray):Yl P ⟨d,.binOp .neq t x y u,ty,p,af,g⟩ ρ s (.bool (decide (a≠b))):=by
 refine Gp (sm:=do eqGuard .neq t x y (ρ x) (ρ y);binOp .neq t (ρ x) (ρ y)) V ?_
 rw[O,U];refine Az _ _ (Zn (.inr V) K ?_);have hb:binOp .neq t (.agg ws.toArray) (.agg ws'.toArray)=(do pure (.bool (!(← Op.equal t (.agg ws.toArray) (.agg ws'.toArray))))):=V
 rw[hb];exact Az (x:=Op.equal t _ _) _ (h.eq hd r1 r2 ⟨by simp,V⟩)
end
end
theorem X4{E H:LH}{B:List (Nat×Obj)}(i:Nat){bk:Nat}{o:Obj}(K:Nd E H B)(h:B[i]?=some (bk,o)):∃E',Le E E'/\E' bk=some o/\Nd E' H (B.eraseIdx i)/\Cu (mk E H B) (mk E' H (B.eraseIdx i)):=by
 have am:=pC h;have ap:E bk=none/\H bk=none:=by
  have:∀{B:List (Nat×Obj)},Nd E H B->(bk,o)∈B->E bk=none/\H bk=none:=by
   intro B K O
   induction B with
   | nil=>simp at O
   | cons q B Y=>
    rcases iO.1 O with rfl | O;exact⟨K.1,K.2.1⟩;exact Y K.2.2.2 O
  exact this K am
 let E':LH:=λx=>if x=bk then some o else E x
 have ag:E' bk=some o:=by simp[E']
 have hle:Le E E':=λx u U=>by
  have:x≠bk:=λe=>by subst e;rw[ap.1] at U;cases U
  simp[E',this,U]
 have aq:Nd E' H (B.eraseIdx i):=by
  have:∀{B:List (Nat×Obj)}{i:Nat},Nd E H B->B[i]?=some (bk,o)->Nd E' H (B.eraseIdx i)/\∀p∈B.eraseIdx i,p.1≠bk:=by
   intro B
   induction B with
   | nil=>intro i _ h;simp at h
   | cons q B Y=>
    obtain⟨c,v⟩:=q;intro i K h;have up:∀{B:List (Nat×Obj)},Nd E H B->(∀p∈B,p.1≠bk)->Nd E' H B:=by
     intro B K ai
     induction B with
     | nil=>trivial
     | cons q B av=>exact⟨by simpa [E',ai q (by simp)] using K.1,K.2.1,K.2.2.1,av K.2.2.2 λp O=>ai p (f7 _ O)⟩
    cases i with
    | zero=>
     simp at h;obtain⟨rfl,rfl⟩:=h;exact⟨up K.2.2.2 K.2.2.1,K.2.2.1⟩
    | succ i=>
     simp at h;let⟨Z,ac⟩:=Y K.2.2.2 h;have al:c≠bk:=λe=>K.2.2.1 (bk,o) (pC h) e.symm;refine⟨⟨by simpa [E',al] using K.1,K.2.1,λp O=>K.2.2.1 p (q9 O),Z⟩,λp O=>?_⟩;rcases iO.1 O with rfl | O;exact al;exact ac p O
  exact(this K h).1
 refine⟨E',hle,ag,aq,⟨λx u U=>hle x u U,λx u U=>(No K h U).2,λx u U=>?_,V⟩⟩;by_cases e:x=bk
 .subst e;right;have:u=o:=by have:E' x=some u:=U;rw[ag] at this;exact(f5 this).symm
  subst this;refine⟨Ka K h,?_⟩;cases aw:(mk E' H (B.eraseIdx i)).H x with
  | none=>rfl
  | some y=>exact absurd rfl (No K h aw).1
 .left;have Z:E' x=some u:=U;have ac:E' x=E x:=by simp[E',e]
  show E x=some u;rw[← ac];exact Z
variable{sz:Nat}
theorem XS{E H:LH}{B0:List (Nat×Obj)}{e:TypeId}{l c:Nat}{a:Option Addr}{blk:List (Nat×Obj)}{xs:Lv_}(ac:GS e sz a l c blk xs)(O:Nd E H (B0++blk)):∃E',Le E E'/\QB E' sz (.slice a l c) l xs/\Nd E' H B0/\Cu (mk E H (B0++blk)) (mk E' H B0):=by
 rcases ac with⟨rfl,rfl,rfl,rfl,rfl⟩ | ⟨bk,f,rfl,rfl,ag,U,rfl⟩;simp only[pG] at O ⊢;exact⟨E,Le.refl _,.nil,O,.refl _⟩
 .have ai:(B0++ [(bk,Obj.cells f e (0,0))])[B0.length]?=some (bk,Obj.cells f e (0,0)):=by simp
  let⟨E',hle,al,Y,Z⟩:=X4 B0.length O ai;have am:(B0++ [(bk,Obj.cells f e (0,0))]).eraseIdx B0.length=B0:=by rw[q0 (no _)];simp
  rw[am] at Y Z;refine⟨E',hle,⟨_,c,V,U,?_,.inr ⟨bk,0,f,e,(0,0),V,al,λj w K=>?_⟩⟩,Y,Z⟩;have:l*sz<=c*sz:=qi _ U;simp[ag,ra this];rw[qI] at K;split at K;simpa using K;cases K
variable{seg:Seg}
theorem XX{α:Type}{pp:Rp α}{E H:LH}{S:List Seg}{e:TypeId}{a:Option Addr}{c:Nat}{xs:List α}(j:Nat)(U:OL e pp E a c seg xs)(am:Aq E H S)(ap:S[j]?=some seg):∃E',Le E E'/\Ap pp E' a c xs/\Aq E' H (S.set j [])/\Cu (Aj E H S) (Aj E' H (S.set j [])):=by
 obtain⟨wss,U,ac,ag⟩:=U;have aq:∀ad:Addr,a=some ad->ad.spot=none:=λad K=>by
  rcases U with⟨O,_⟩ | ⟨bk,f,O,_⟩;rw[O] at K;cases K;rw[O] at K;cases K;rfl
 let⟨O,av⟩:=HI am ap;let⟨E',hle,aw,ay,ai⟩:=XS U av;rw[← O] at ai;refine⟨E',hle,?_,ay,ai⟩;obtain⟨az,a0,Y,a1,a6,Z⟩:=aw;obtain⟨rfl,-,rfl⟩:a=az/\xs.length=xs.length/\c=a0:=by
  simp only[Value.slice.injEq] at Y;exact⟨Y.1,V,Y.2.2⟩
 refine⟨a1,?_⟩;rcases Z with Z | ⟨bk,off,f,a2,fr,a3,g2,a4⟩;exact .inl ⟨pL Z,λad K=>.inl (aq ad K)⟩
 .refine .inr ⟨bk,off,a3,λi x al=>?_⟩;have a5:i<wss.length:=by rw[ac];exact(fx.1 al).1
  have hw:=d6 a5;refine⟨wss[i],pp.M hle (ag i x _ al hw),f,a2,fr,g2,λm w hm=>?_⟩;rw[rt];exact a4 _ w (Li (IN ac ag) hw m w hm)
variable{s₀:St}
theorem Cu.get{s:St}(h:Cu s s₀){b:Nat}{o:Obj}(K:s₀.get b=some o):s.get b=some o:=by
 unfold St.get at K ⊢;cases O:s₀.E b with
 | some o'=>
  rw[O] at K;simp only at K;cases K;rcases h.Fg _ _ O with U | ⟨U,_⟩;rw[U]
  .cases he:s.E b with
   | none=>exact U
   | some Y=>
    have:=h.ext _ _ he;rw[O] at this;cases this;rfl
 | none=>
  rw[O] at K;simp only at K;cases he:s.E b with
  | none=>exact h.own _ _ K
  | some Y=>
   have:=h.ext _ _ he;rw[O] at this;cases this
theorem Cu.upd{s:St}(h:Cu s s₀){b:Nat}(o:Obj)(hb:(∃u,s₀.H b=some u)∨s₀.E b=none):Cu (s.upd b o) (s₀.upd b o):=by
 refine⟨h.ext,λx u K=>?_,λx u K=>?_,h.q⟩;simp only[St.upd] at K ⊢;by_cases e:x=b;rw[eS e] at K ⊢;exact K;rw[d9 e] at K ⊢;exact h.own _ _ K
 .have O:s₀.E x=some u:=K;rcases h.Fg _ _ O with U | ⟨U,Y⟩;exact .inl U
  .refine .inr ?_;have e:x≠b:=λe=>by
    subst e;rcases hb with⟨w,hw⟩ | hb;rw[hw] at Y;cases Y;rw[hb] at O;cases O
   simp only[St.upd,d9 e];exact⟨U,Y⟩
theorem Cu.none{s:St}(h:Cu s s₀){b:Nat}(U:s.E b=none)(O:s.H b=none):s₀.E b=none/\s₀.H b=none:=by
 constructor
 .cases he:s₀.E b with
  | none=>rfl
  | some o=>
   rcases h.Fg _ _ he with K | ⟨K,_⟩;rw[U] at K;cases K;rw[O] at K;cases K
 .cases he:s₀.H b with
  | none=>rfl
  | some o=>have:=h.own _ _ he;rw[O] at this;cases this
theorem aF{P:Program}{α:Type}(x:Sem α):∀{s s₀:St}{Q:α->St->Prop}{X:Halt->St->Prop},Cu s s₀->lp P x s₀ Q X->lp P x s (λa s'=>∃Z,Cu s' Z/\Q a Z) (λh s'=>∃Z,Cu s' Z/\X h Z):=by
 induction x with
 | pure a=>intro s s₀ Q X g h;exact⟨s₀,g,h⟩
 | load m a k K=>
  intro s s₀ Q X g h;obtain⟨O,v,U,Y⟩:=h;let⟨o,ai,al⟩:=qW.1 U;exact⟨O,v,by unfold St.cell?;rw[g.get ai];exact al,K v g Y⟩
 | store m a v k K=>
  intro s s₀ Q X g h;obtain⟨O,U,o,Y,am,ap,aq⟩:=h;exact⟨O,U,o,g.own _ _ Y,am,ap,K (g.upd _ (.inl ⟨o,Y⟩)) aq⟩
 | new o k K=>
  intro s s₀ Q X g h;refine⟨by rw[← g.q];exact h.1,λr O U=>?_⟩;let⟨ag,e2⟩:=g.none O U;exact K r (g.upd _ (.inr ag)) (h.2 r ag e2)
 | shape r k K=>intro s s₀ Q X g h;obtain⟨o,O,U⟩:=h;exact⟨o,g.get O,K _ g U⟩
 | freeze a n k K=>intro s s₀ Q X g h;exact h.elim
 | frozen a k K=>intro s s₀ Q X g h;obtain⟨o,O,U⟩:=h;exact⟨o,g.get O,K _ g U⟩
 | getObj r k K=>intro s s₀ Q X g h;obtain⟨o,O,U,Y⟩:=h;exact⟨o,g.get O,U,K _ g Y⟩
 | setObj r o k K=>
  intro s s₀ Q X g h;obtain⟨⟨o',O,av⟩,U,Y⟩:=h;exact⟨⟨o',g.own _ _ O,av⟩,U,K (g.upd _ (.inl ⟨o',O⟩)) Y⟩
 | choose q k K=>
  intro s s₀ Q X g h;simp only[lp] at h ⊢;split;rename_i ac;rw[eS ac] at h;exact K _ g h;rename_i ac;rw[d9 ac] at h;exact⟨by rw[← g.q];exact h.1,λt=>K _ g (h.2 t)⟩
 | sys c k K=>intro s s₀ Q X g h;exact h.elim
 | program k K=>intro s s₀ Q X g h;exact K _ g h
 | mark m k K=>
  intro s s₀ Q X g h;refine⟨?_,K g h.2⟩;rcases h.1 with⟨O,U⟩ | O;exact .inl ⟨by rw[← g.q];exact O,U⟩;exact .inr O
 | halt h=>intro s s₀ Q X g aw;exact⟨s₀,g,aw⟩
variable {J:Judge P}{Q:Gs_}{b:Frame}{n:Nat}{ds:Ld_}{ops:Ao_}{k:Li_}{cs:Lf_}{m:Nat}{D:Nat->Bool}{L:Env}{H:LH}{S:List Seg}
variable {v:Value}{kd:IntKind}
variable{f:FuncId}{args:Array Operand}{ats:Array TypeId}{vs:Lv_}{R:Value->LH->Seg->Prop}
section
variable {fuel:Nat}{listed:Array Bool}
variable {x y:Operand}{e:TypeId}{i:Nat}
theorem Ur(j:Nat)(az:∀x,D x=true->∃(O:Nat) (o:Obj),(S.set j [])[O]?=some [(x,o)])(a0:A6 J f vs E seg R)(a1:Region.ready .any ops listed=[i])
  (a2:ops[i]?=some ⟨d,.call ⟨.value (.func f),args,ats⟩,ty,p,af,g⟩) (a3:Bo n d=true) (hw:AY L ops ⟨d,.call ⟨.value (.func f),args,ats⟩,ty,p,af,g⟩=some true) (hb:Ef P f=true) (a4:evs L args.toList=some vs) (Z:Aq E H S) (ac:S[j]?=some seg)
  (a5:∀v E' seg',Le E E'->R v E' seg'->Aq E' H (S.set j seg')->AT J Q b n ds ops k cs m D fuel (Bf listed i) (Ay L d v) (Aj E' H (S.set j seg'))):
  AT J Q b n ds ops k cs m D (fuel+1) listed L (Aj E H S):=by
 have ai:S.flatten.Perm (seg++(S.set j []).flatten):=(Ds (seg':=seg) ac).1.trans pr;have al:Nd E H (seg++(S.set j []).flatten):=Nd.perm Z ai;have a6:Aj E H S=mk E (Bn (S.set j []).flatten H) seg:=by
  rw[show Aj E H S=mk E H S.flatten from rfl,FH Z ai];unfold mk;rw[Gq]
 have am:=Fh.M7 (a0 (Bn (S.set j []).flatten H) (Nd.front al)) (by rintro v s' ⟨E',B',_,_,_,rfl⟩;rfl);rw[← a6] at am;refine AT.call V a1 a2 a3 hw hb a4 am ?_;rintro v bv ⟨⟨E',B',hle,a7,a8,rfl⟩,w,a9⟩;have e2:mk E' (Bn (S.set j []).flatten H) B'=mk E' H (B'++(S.set j []).flatten):=by unfold mk;rw[Gq]
 have bb:Nd E H (S.set j []).flatten:=by
  have:=al;rw[Nd.iff] at this ⊢;rw[ql,qx] at this;exact⟨this.1.2.1,λq be=>this.2 q (qd _ be)⟩
 have bi:Nd E' H (S.set j []).flatten:=bb.grow λx U=>by
  have bn:=a9.d x U;have ag:Bn B' (Bn (S.set j []).flatten H) x=none:=bn;exact(IE ag).1
 have ap:Nd E' H (B'++(S.set j []).flatten):=Nd.glue a8 bi;have aq:(B'++(S.set j []).flatten).Perm (S.set j B').flatten:=pr.trans (Ds ac).2.symm;have av:Aq E' H (S.set j B'):=Nd.perm ap aq;rw[e2,FH ap aq];refine⟨V,λx o U=>?_,a5 v E' B' hle a7 av⟩;by_cases hd:D x=true
 .let⟨O,o',Y⟩:=az x hd;have aw:j≠O:=λh=>by
   subst h;rw[qh (fx.1 ac).1] at Y;cases Y
  have ay:S[O]?=some [(x,o')]:=by rw[qa aw] at Y;exact Y
  have ag:(Aj E H S).get x=some o':=DU (i:=0) Z ay V;have bo:(Aj E' H (S.set j B')).get x=some o':=DU (i:=0) av (by rw[qa aw];exact ay) rfl;have K:(if D x then(Aj E H S).get x else E x)=some o:=U
  show(if D x then(Aj E' H (S.set j B')).get x else E' x)=some o
  rw[eS hd] at K ⊢;rw[bo,← ag];exact K
 .have K:(if D x then(Aj E H S).get x else E x)=some o:=U
  show(if D x then(Aj E' H (S.set j B')).get x else E' x)=some o
  rw[d9 hd] at K ⊢;exact hle _ _ K
theorem AT.perm{S':List Seg}(K:S.flatten.Perm S'.flatten)(O:Aq E H S)(h:Aq E H S'->AT J Q b n ds ops k cs m D fuel listed L (Aj E H S')):AT J Q b n ds ops k cs m D fuel listed L (Aj E H S):=by
 have e:Aj E H S=Aj E H S':=FH O K;rw[e];exact h (Nd.perm O K)
theorem JA.ghost:∀(fuel:Nat) {listed:Array Bool}{T:Av_}{s s₀:St},Cu s s₀->JA J Q b ds ops k cs m DG fuel listed T s₀->JA J Q b ds ops k cs m DG fuel listed T s
 | 0,listed,T,s,s₀,g,h=>⟨h.1,J.ghost g h.2⟩
 | fuel+1,listed,T,s,s₀,g,h=>by
  rcases h with⟨O,U⟩ | ⟨O,U,ac⟩;exact .inl ⟨O,λt=>J.ghost g (U t)⟩
  .refine .inr ⟨O,by rw[← g.q];exact U,λi hi o ag=>?_⟩;let⟨a1,ai,al⟩:=ac i hi o ag;refine⟨a1,λe=>JA.ghost fuel g (ai e),λe=>?_⟩;have am:=aF _ (s:=BA DG s) (s₀:=BA DG s₀) g (al e);refine EI _ am ?_ (λ_ s' ⟨_,_,h⟩=>h);intro ap s' K;obtain⟨Y,Z,K⟩:=K;cases ap with
   | value v=>exact JA.ghost fuel (s:=s') (s₀:=Y) Z K
   | skip=>exact JA.ghost fuel (s:=s') (s₀:=Y) Z K
   | enter f args=>
    obtain⟨R,aq,av⟩:=K;refine⟨R,λQ c cs aw=>J.ghost (s:=s') (s₀:=Y) Z (aq Q c cs aw),λv ay az=>?_⟩;let⟨a0,a2,a3⟩:=av v ay az;exact⟨a0,λx o K=>a2 x o (g.ext x o K),a3⟩
   | _=>exact K.elim
theorem GF{α:Type}{pp:Rp α}{a:Option Addr}{c:Nat}{xs:List α}(j:Nat)(K:OL e pp E a c seg xs)(O:Aq E H S)(U:S[j]?=some seg)
  (h:∀E',Le E E'->Ap pp E' a c xs->Aq E' H (S.set j [])->AT J Q b n ds ops k cs m DG fuel listed L (Aj E' H (S.set j []))):AT J Q b n ds ops k cs m DG fuel listed L (Aj E H S):=λT Y=>by
 let⟨E',Z,ac,ag,ai⟩:=XX j K O U
 exact JA.ghost _ ai (h E' Z ac ag T Y)
end
theorem oi{α:Type}{a b:α}(h:some a=some b):a=b:=f5 h
theorem bs{α:Type}{o:Option α}{f:α->Option β}{r:β}(h:o.bind f=some r):∃x,o=some x/\f x=some r:=bind_some h
def IV(L:Env):Env->List (Option Value)
 | []=>[]
 | (t,_)::L'=>look L t::IV L L'
def IY:Env->List (Option Value)
 | []=>[]
 | (_,v)::L'=>some v::IY L'
theorem PX{L:Env}:∀{L':Env},IV L L'=IY L'->Sub L' L
 | [],_=>trivial
 | (t,v)::L',h=>by
  simp only[IV,IY,sf] at h
  exact⟨h.1,PX h.2⟩
variable {L':Env}{k':Li_}{rest:List Nat}
variable {op:Op}
variable{fn:Func}
section
variable {i:Nat}
theorem EV(L':Env)(h:IV L L'=IY L')(k':JL J Q b n L' ds k cs s):JL J Q b n L ds k cs s:=Fz (PX h) k'
theorem AF(k':JL J Q b n L' ds k cs s)(h:IV L L'=IY L'):JL J Q b n L ds k cs s:=Fz (PX h) k'
def Fw(b:Frame)(n:Nat)(L:Env)(ops:Ao_)(i:Nat):Option Oper:=
 match Kr ops.toList i with
 | some ⟨d,op,ty,p,af,g⟩=>match AY L ops ⟨d,op,ty,p,af,g⟩ with
  | some true=>match BU b n ⟨d,op,ty,p,af,g⟩ with
   | true=>some ⟨d,op,ty,p,af,g⟩
   | false=>none
  | _=>none
 | none=>none
theorem Lo{o:Oper}(h:Fw b n L ops i=some o):ops[i]?=some o/\AY L ops o=some true/\BU b n o=true:=by
 unfold Fw at h;split at h;rename_i K;rw[MF,qn] at K;split at h;rename_i hw;split at h;rename_i O;cases h;exact⟨K,hw,O⟩;cases h;cases h;cases h
theorem Al(K:Fw b n L ops i=some ⟨d,op,ty,p,af,g⟩)(h:∀ρ,FA L ρ->Yl P ⟨d,op,ty,p,af,g⟩ ρ s v)(O:JL J Q b n (Ay L d v) ds (.inRegion ops rest::k) cs s):
  JL J Q b n L ds (.inRegion ops (i::rest)::k) cs s:=
 let ⟨U,Y,Z⟩:=Lo K
 A9 U Y Z h O
theorem SC{c:Code}{E:LH}{B:Seg}(O:P.funcs[f]?=some fn)(hb:fn.body=some c)(U:Nat.ble vs.length fn.ntmps=true)
  (h:∀(Q:Gs_) (K:Frame) (cs:Lf_) (H:LH),Aq E H [B]->(∀v E' S' B',Le E E'->S'.flatten=B'->R v E' B'->Aq E' H S'->J.ok Q (G (K.finish v) cs) (Aj E' H S'))->JL J Q (base f) fn.ntmps (GQ 0 vs) [] [.code c] (K::cs) (Aj E H [B])):A6 J f vs E B R:=
 A6.enter O hb (pt U) h
def QD(n:Nat)(L:Env)(ops:Ao_)(i:Nat):Option Env:=
 match Kr ops.toList i with
 | some ⟨d,op,ty,p,af,g⟩=>match AY L ops ⟨d,op,ty,p,af,g⟩ with
  | some true=>match Bo n d with
   | true=>match LV L op with
    | some v=>match d with
     | some d=>some ((d,v)::L)
     | none=>some L
    | none=>none
   | false=>none
  | some false=>match Bo n d with
   | true=>match d with
    | some d=>some ((d,undef)::L)
    | none=>some L
   | false=>none
  | none=>none
 | none=>none
def Hw(n:Nat)(L:Env)(ops:Ao_)(i:Nat):Option Oper:=
 match Kr ops.toList i with
 | some ⟨d,op,ty,p,af,g⟩=>match AY L ops ⟨d,op,ty,p,af,g⟩ with
  | some true=>match Bo n d with
   | true=>some ⟨d,op,ty,p,af,g⟩
   | false=>none
  | _=>none
 | none=>none
theorem Ra{o:Oper}(h:Hw n L ops i=some o):ops[i]?=some o/\AY L ops o=some true/\Bo n o.dst=true:=by
 unfold Hw at h;split at h;rename_i K;rw[MF,qn] at K;split at h;rename_i hw;split at h;rename_i O;cases h;exact⟨K,hw,O⟩;cases h;cases h;cases h
theorem bl(h:QD n L ops i=some L'):∃o,ops[i]?=some o/\Bo n o.dst=true/\((∃v,AY L ops o=some true/\LV L o.op=some v/\L'=Ay L o.dst v)∨(AY L ops o=some false/\L'=Ay L o.dst undef)):=by
 unfold QD at h;split at h
 .rename_i d op ty p af g O;rw[MF,qn] at O;refine⟨_,O,?_⟩;split at h
  .rename_i hw;split at h
   .rename_i K;refine⟨K,.inl ?_⟩;split at h
    .rename_i v U;refine⟨v,hw,U,?_⟩;cases d with
     | none=>cases h;rfl
     | some d=>cases h;rfl
    .cases h
   .cases h
  .rename_i hw;split at h
   .rename_i K;refine⟨K,.inr ⟨hw,?_⟩⟩;cases d with
    | none=>cases h;rfl
    | some d=>cases h;rfl
   .cases h
  .cases h
 .cases h
variable {fuel:Nat}{listed:Array Bool}
theorem Dw(i:Nat)(K:El ops m=true)(O:s.q=false)(h:QD n L ops i=some L')
  (U:AT J Q b n ds ops k cs m D fuel (Bf listed i) L' s) (Y:GX ops listed m i=true:=by decide+kernel):AT J Q b n ds ops k cs m D (fuel+1) listed L s:=by
 obtain⟨o,Z,ac,⟨v,hw,ag,rfl⟩ | ⟨hw,rfl⟩⟩:=bl h;exact JG.val i Z K Y O hw ac (λρ ai s' _=>PC ai ag) U;exact iP i Z K Y O hw ac U
theorem AP(i:Nat)(K:El ops m=true)(O:s.q=false)(U:Hw n L ops i=some ⟨d,op,ty,p,af,g⟩)
  (Y:∀ρ,FA L ρ->∀s':St,(∀x o,(BA D s).E x=some o->s'.E x=some o)->Yl P ⟨d,op,ty,p,af,g⟩ ρ s' v)
  (Z:AT J Q b n ds ops k cs m D fuel (Bf listed i) (Ay L d v) s) (ac:GX ops listed m i=true:=by decide+kernel):AT J Q b n ds ops k cs m D (fuel+1) listed L s:=by
 let⟨ag,ai,al⟩:=Ra U;exact JG.val i ag K ac O ai al Y Z
end
abbrev Jn(E H E':LH)(S:List Seg)(K L:Env)(s:St)(R:Prop):Prop:=L=K/\s=Aj E' H S/\Le E E'/\Aq E' H S/\R
abbrev Jm(E H E':LH)(S:List Seg)(K L:Env)(s:St):Prop:=L=K/\s=Aj E' H S/\Le E E'/\Aq E' H S
def Qu(L:Env):List ResultVar->Option (Lv_)
 | []=>some []
 | .tmp t::rs=>match look L t with
  | some v=>match Qu L rs with
   | some vs=>some (v::vs)
   | none=>none
  | none=>none
 | _=>none
theorem V8{P:Program}{L:Env}{s:St}:∀{rs:List ResultVar}{vs:Lv_},Qu L rs=some vs->RV P L s rs vs
 | [],vs,h=>by cases h;trivial
 | .tmp t::rs,vs,h=>by
  unfold Qu at h
  split at h
  .rename_i v K
   split at h;rename_i ws hw;cases h;exact⟨K,V8 hw⟩;cases h
  .cases h
 | .cell _ _::_,_,h=>by cases h
variable {ft:TypeId}
variable{m':Int}
section
variable {i:Nat}
variable {x y:Operand}{e:TypeId}
theorem Ba{c:Frame}(O:P.funcs[b.fn]?=some fn)(K:(b.kind== .normal&&b.roundOf.isNone)=true)(U:Qu L fn.results.toList=some vs)(h:J.ok Q (G (c.finish (Pa vs)) cs) s):JL J Q b n L [] (.code .ret::k) (c::cs) s:=by
 simp only[gQ,rb,Option.isNone_iff_eq_none] at K;exact JL.ret K.1 K.2 (BO.list O V (V8 U)) h
theorem Cl
  (O:A6 J f vs E [] R) (U:Fw b n L ops i=some ⟨d,.call ⟨.value (.func f),args,ats⟩,ty,p,af,g⟩) (Y:evs L args.toList=some vs) (hb:Ef P f=true)
  (Z:Aq E H S) (ac:∀v E' seg',Le E E'->R v E' seg'->Aq E' H (S++ [seg'])->JL J Q b n (Ay L d v) ds (.inRegion ops rest::k) cs (Aj E' H (S++ [seg']))):
  JL J Q b n L ds (.inRegion ops (i::rest)::k) cs (Aj E H S):=by
 let⟨ag,ai,K⟩:=Lo U;refine JS.call O ag ai ?_ hb Y Z ac;simp only[BU,gQ] at K ⊢;exact⟨K.1,K.2.1⟩
theorem Dg{v:Value}
  (O:A6 J f vs E [] (λw E' B'=>w=v/\B'=[])) (U:Fw b n L ops i=some ⟨d,.call ⟨.value (.func f),args,ats⟩,ty,p,af,g⟩) (Y:evs L args.toList=some vs) (hb:Ef P f=true)
  (K:Aq E H S) (Z:∀E',Le E E'->Aq E' H (S++ [[]])->JL J Q b n (Ay L d v) ds (.inRegion ops rest::k) cs (Aj E' H (S++ [[]]))):
  JL J Q b n L ds (.inRegion ops (i::rest)::k) cs (Aj E H S):=Cl O U Y hb K (by rintro _ E' _ hle ⟨rfl,rfl⟩ K;exact Z E' hle K)
theorem Cr(j:Nat)
  (O:A6 J f vs E seg R) (U:Fw b n L ops i=some ⟨d,.call ⟨.value (.func f),args,ats⟩,ty,p,af,g⟩) (Y:evs L args.toList=some vs) (hb:Ef P f=true)
  (Z:Aq E H S) (ac:S[j]?=some seg) (ag:∀v E' seg',Le E E'->R v E' seg'->Aq E' H (S.set j seg')->JL J Q b n (Ay L d v) ds (.inRegion ops rest::k) cs (Aj E' H (S.set j seg'))):
  JL J Q b n L ds (.inRegion ops (i::rest)::k) cs (Aj E H S):=by
 let⟨ai,al,K⟩:=Lo U;refine Vq j O ai al ?_ hb Y Z ac ag;simp only[BU,gQ] at K ⊢;exact⟨K.1,K.2.1⟩
def NP(K:Array Field)(i:Nat):Option (Nat×TypeId):=match K[i]? with
 | some f=>some (f.offset,f.type)
 | none=>none
theorem Bz{r m:Int}{u:TypeId}(h:Au (m+m')=some r)(K:Fw b n L ops i=some ⟨d,.binOp .add t x y u,ty,p,af,g⟩)(O:ev L x=some (iV m))(U:ev L y=some (iV m'))
  (Y:JL J Q b n (Ay L d (iV r)) ds (.inRegion ops rest::k) cs s):JL J Q b n L ds (.inRegion ops (i::rest)::k) cs s:=Al K (λ_ q=>DO (q _ _ O) (q _ _ U) h) Y
theorem BY{r m:Int}{u:TypeId}(h:Au (m - m')=some r)(K:Fw b n L ops i=some ⟨d,.binOp .sub t x y u,ty,p,af,g⟩)(O:ev L x=some (iV m))(U:ev L y=some (iV m'))
  (Y:JL J Q b n (Ay L d (iV r)) ds (.inRegion ops rest::k) cs s):JL J Q b n L ds (.inRegion ops (i::rest)::k) cs s:=Al K (λ_ q=>EF (q _ _ O) (q _ _ U) h) Y
theorem JL.ln{a:Option Addr}{e:TypeId}{l c:Nat}(K:P.underlying t=some (.slice e))(O:Fw b n L ops i=some ⟨d,.call ⟨.builtin .len,#[x],ats⟩,ty,p,af,g⟩)(U:ats[0]?=some t)(Y:ev L x=some (.slice a l c))
  (Z:JL J Q b n (Ay L d (.int .i64 l)) ds (.inRegion ops rest::k) cs s):JL J Q b n L ds (.inRegion ops (i::rest)::k) cs s:=Al O (λ_ q=>Yl.len U K (q _ _ Y)) Z
theorem JL.fd{bk o:Nat}{O:Array Field}(Y:P.underlying t=some (.struct O))(Z:Bp P ft=some (sz+1))(ac:Fw b n L ops i=some ⟨d,.fieldAddr t x U,ty,p,af,g⟩)(ag:ev L x=some (.pointer (some ⟨bk,o,none⟩)))(K:NP O U=some (off,ft))
  (ai:JL J Q b n (Ay L d (.pointer (some ⟨bk,o+off,none⟩))) ds (.inRegion ops rest::k) cs s):
  JL J Q b n L ds (.inRegion ops (i::rest)::k) cs s:=by
 unfold NP at K;split at K;rename_i f al;cases K;refine Al ac (λρ h=>Kh (a:=⟨bk,o,none⟩) sz f.offset Y Z al V V (h _ _ ag)) ?_;rw[Ek rfl];exact ai;cases K
theorem DC{bk o:Nat}{ws:Lv_}(j:Nat)(K:At E bk o ws)(O:DJ P t=some false)(U:Fw b n L ops i=some ⟨d,.load t x,ty,p,af,g⟩)(Y:ev L x=some (.pointer (some ⟨bk,o+j,none⟩)))(Z:ws[j]?=some v)
  (ac:JL J Q b n (Ay L d v) ds (.inRegion ops rest::k) cs (Aj E H S)):
  JL J Q b n L ds (.inRegion ops (i::rest)::k) cs (Aj E H S):=
 Al U (λ_ h=>Yl.load O (h _ _ Y) (At.MQ K Z)) ac
theorem Xi{bk:Nat}{c:Av_}(j:Nat)(K:Aq E H S)(O:Bp P t=some v.cells.size)(U:Fw b n L ops i=some ⟨d,.store t x y,ty,p,af,g⟩)
  (Y:ev L x=some (.pointer (some ⟨bk,off,none⟩))) (Z:ev L y=some v) (ac:S[j]?=some [(bk,.cells c e (0,0))])
  (h:Aq E H (S.set j [(bk,.cells (A3 c off v.cells.toList) e (0,0))])->JL J Q b n (Ay L d undef) ds (.inRegion ops rest::k) cs (Aj E H (S.set j [(bk,.cells (A3 c off v.cells.toList) e (0,0))])))
  (hle:off+v.cells.size<=c.size:=by exact pt rfl) (ag:∀u∈v.cells.toList,C5 u=true:=by simp[Value.cells,C5]):
  JL J Q b n L ds (.inRegion ops (i::rest)::k) cs (Aj E H S):=by
 let⟨ai,al,am⟩:=Lo U;exact JS.store j ai al am K Y Z O ag ac hle h
theorem Du{bk o:Nat}{ws:Lv_}(K:At E bk o ws)(O:DJ P t=some true)(U:Bp P t=some ws.length)(Y:Fw b n L ops i=some ⟨d,.load t x,ty,p,af,g⟩)(Z:ev L x=some (.pointer (some ⟨bk,o,none⟩)))
  (ac:JL J Q b n (Ay L d (.agg ws.toArray)) ds (.inRegion ops rest::k) cs (Aj E H S)):
  JL J Q b n L ds (.inRegion ops (i::rest)::k) cs (Aj E H S):=
 Al Y (λ_ h=>Ia O U (h _ _ Z) (At.Si K)) ac
variable {fuel:Nat}{listed:Array Bool}
theorem JG.fd{bk o:Nat}{O:Array Field}(i:Nat)(Y:El ops m=true)(Z:P.underlying t=some (.struct O))(ac:Bp P ft=some (sz+1))(ag:s.q=false)(ai:Hw n L ops i=some ⟨d,.fieldAddr t x U,ty,p,af,g⟩)(al:ev L x=some (.pointer (some ⟨bk,o,none⟩)))(K:NP O U=some (off,ft))
  (am:AT J Q b n ds ops k cs m D fuel (Bf listed i) (Ay L d (.pointer (some ⟨bk,o+off,none⟩))) s) (ap:GX ops listed m i=true:=by decide+kernel):AT J Q b n ds ops k cs m D (fuel+1) listed L s:=by
 unfold NP at K;split at K;rename_i f aq;cases K;refine AP i Y ag ai (λρ h _ _=>Kh (a:=⟨bk,o,none⟩) sz f.offset Z ac aq V V (h _ _ al)) ?_ ap;rw[Ek rfl];exact am;cases K
theorem Fs{bk o:Nat}{ws:Lv_}(i:Nat)(K:El ops m=true)(j:Nat)(O:At (BA D s).E bk o ws)(U:DJ P t=some false)(Y:s.q=false)(Z:Hw n L ops i=some ⟨d,.load t x,ty,p,af,g⟩)(ac:ev L x=some (.pointer (some ⟨bk,o+j,none⟩)))(ag:ws[j]?=some v)
  (ai:AT J Q b n ds ops k cs m D fuel (Bf listed i) (Ay L d v) s) (al:GX ops listed m i=true:=by decide+kernel):AT J Q b n ds ops k cs m D (fuel+1) listed L s:=
 AP i K Y Z (λ_ h _ am=>Yl.load U (h _ _ ac) (At.SU O am ag)) ai al
theorem KT{bk o:Nat}{ws:Lv_}(i:Nat)(K:El ops m=true)(O:At (BA D s).E bk o ws)(U:DJ P t=some true)(Y:Bp P t=some ws.length)(Z:s.q=false)(ac:Hw n L ops i=some ⟨d,.load t x,ty,p,af,g⟩)(ag:ev L x=some (.pointer (some ⟨bk,o,none⟩)))
  (ai:AT J Q b n ds ops k cs m D fuel (Bf listed i) (Ay L d (.agg ws.toArray)) s) (al:GX ops listed m i=true:=by decide+kernel):AT J Q b n ds ops k cs m D (fuel+1) listed L s:=
 AP i K Z ac (λ_ h _ am=>Ia U Y (h _ _ ag) (At.gm O am)) ai al
end
abbrev Tj:=Int×List Int×Nat
abbrev AV:=List (Int×Int)
abbrev Cx:=List Int×Int×Nat
abbrev Aw:=Option Addr
abbrev Gz:Rp (Int×Int):=rP rI rI
theorem ip{α:Type}{p:Prop} [Decidable p] {A B:Option α}{r:α}(h:(if p then A else B)=some r)(c:p):A=some r:=by rwa[eS c] at h
theorem im{α:Type}{p:Prop} [Decidable p] {A B:Option α}{r:α}(h:(if p then A else B)=some r)(c:¬p):B=some r:=by rwa[d9 c] at h
theorem ib{α:Type}{c:Bool}{A B:Option α}{r:α}(h:(if c=true then A else B)=some r)(K:c=false):B=some r:=by subst K;simpa using h
def Tb(n:Nat)(ops:Ao_):List Nat->Nat->Env->Option (Nat×Env)
 | [],f,L=>some (f,L)
 | i::l,f+1,L=>match QD n L ops i with
  | some L'=>Tb n ops l f L'
  | none=>none
 | _::_,0,_=>none
def SZ(ops:Ao_)(m:Nat):Array Bool->List Nat->Bool
 | _,[]=>true
 | listed,i::l=>GX ops listed m i&&SZ ops m (Bf listed i) l
def Xp:Array Bool->List Nat->Array Bool
 | listed,[]=>listed
 | listed,i::l=>Xp (Bf listed i) l
theorem A5{P:Program}{J:Judge P}{Q:Gs_}{b:Frame}{n:Nat}{ds:Ld_}{k:Li_}{cs:Lf_}{s:St}{ops:Ao_}{m:Nat}{D:Nat->Bool}{L':Env}{U:Nat}(Y:El ops m=true)(Z:s.q=false):
  ∀(l:List Nat) {fuel:Nat}{listed:Array Bool}{L:Env},Tb n ops l fuel L=some (U,L')->AT J Q b n ds ops k cs m D U (Xp listed l) L' s->(K:SZ ops m listed l=true:=by decide+kernel)->AT J Q b n ds ops k cs m D fuel listed L s
 | [],fuel,listed,L,h,O,_=>by cases h;exact O
 | i::l,fuel,listed,L,h,O,K=>by
  cases fuel with
  | zero=>cases h
  | succ fuel=>
   unfold SZ at K;rw[gQ] at K;unfold Tb at h;split at h;rename_i ac e;exact Dw i Y Z e (A5 Y Z l h O K.2) K.1;cases h
theorem zg{P:Program}{J:Judge P}{Q:Gs_}{b:Frame}{n:Nat}{L L':Env}{ds:Ld_}{k k':Li_}{cs:Lf_}{s:St}(m:Nat)(h:P2 b n m k L=some (k',L'))(K:JL J Q b n L' ds k' cs s):JL J Q b n L ds k cs s:=JL.go m h K
abbrev C:=@zg
abbrev bX(r:Nat)(c:Av_)(t:TypeId):Seg:=[(r,.cells c t (0,0))]
variable {α:Type}{A B:Option α}{r:α}
variable{p1:Int}
section
theorem A4{c:Operand}{x y:Code}{p:Prop} [Decidable p] (K:(if p then A else B)=some r)(O:p->A=some r->JL J Q b n L ds (.code x::k) cs s)(U:¬p->B=some r->JL J Q b n L ds (.code y::k) cs s)
  (Y:ev L c=some (.bool (decide p)):=by exact rfl):JL J Q b n L ds (.code (.cond c x y)::k) cs s:=GN Y (λh=>O h (ip K h)) λh=>U h (im K h)
theorem CO{c:Operand}{x y:Code}{t:Bool}(K:(if t=true then A else B)=some r)(O:t=true->A=some r->JL J Q b n L ds (.code x::k) cs s)(U:t=false->B=some r->JL J Q b n L ds (.code y::k) cs s)
  (Y:ev L c=some (.bool t):=by exact rfl):JL J Q b n L ds (.code (.cond c x y)::k) cs s:=Ry Y (λh=>O h (ip K h)) λh=>U h (ib K h)
theorem I2{q:Prop} [Decidable q] (i:Nat)(K:(if q then A else B)=some r)(O:q->A=some r->JL J Q b n (Ay L (some i) (.bool true)) ds k cs s)(U:¬q->B=some r->JL J Q b n (Ay L (some i) (.bool false)) ds k cs s)
  (Y:look L i=some (.bool (decide q)):=by exact rfl):JL J Q b n L ds k cs s:=Nt Y (λh=>O h (ip K h)) λh=>U h (im K h)
theorem FR{t:Bool}(i:Nat)(K:(if t=true then A else B)=some r)(O:t=true->A=some r->JL J Q b n (Ay L (some i) (.bool true)) ds k cs s)(U:t=false->B=some r->JL J Q b n (Ay L (some i) (.bool false)) ds k cs s)
  (Y:look L i=some (.bool t):=by exact rfl):JL J Q b n L ds k cs s:=Ln Y (λh=>O h (ip K h)) λh=>U h (ib K h)
theorem Cv{O:Type}{c:Code}{body:β->Option (Bj β O)}{f:Nat}{U:β}{a:O}(Z:iter body f U=some a)(I:Env->St->β->Prop)(ac:I L' s U)
  (round:∀L s x,I L s x->(∀Y,body x=some (.done Y)->Y=a)->(∃st,body x=some st)->(∀L' s' x',I L' s' x'->body x=some (.more x')->JL J Q b n L' ds (.inLoop c::k) cs s')->JL J Q b n L ds (.code c:: .inLoop c::k) cs s)
  (ag:IV L L'=IY L':=by exact rfl):JL J Q b n L ds (.code (.loop c)::k) cs s:=EV L' ag (U4 Z I ac round)
variable {fuel:Nat}{listed:Array Bool}
def Qi(ops:Ao_):Array Bool->List Nat->Bool
 | _,[]=>true
 | l,i::t=>Region.ready .any ops l== [i]&&Qi ops (Bf l i) t
theorem Wb:∀{t:List Nat}{l:Array Bool},Qi ops l t=true->∀u,Region.linearise.go .any ops t.length u l []=t
 | [],_,_,_=>rfl
 | i::t,l,h,u=>by
  unfold Qi at h
  rw[gQ,rb] at h
  exact gz h.1 (Wb h.2) u
theorem Dl(t:List Nat)(O:JL J Q b n L ds (.inRegion ops t::k) cs s)(K:(SF m listed&&Qi ops listed t&&(fuel+1==t.length))=true:=by decide+kernel):AT J Q b n ds ops k cs m D (fuel+1) listed L s:=by
 rw[gQ,gQ,rb] at K;exact AT.leaf K.1.1 (by rw[K.2];exact Wb K.1.2) O
theorem FU(m:Nat){id:Nat}(h:El ops m=true->AT J Q b n ds ops k cs m DG ops.size (Array.replicate ops.size false) L (Aj E H S))(hm:P.follows .mixedOrders=true:=by exact rfl)(K:(b.kind != .early)=true:=by exact rfl)(O:El ops m=true:=by decide+kernel):
  JL J Q b n L ds (.code (.region id ops true)::k) cs (Aj E H S):=bD m hm K O h
theorem Em(m:Nat)(bks:List Nat){id:Nat}(K:Il S bks)(O:Aq E H S)(h:El ops m=true->AT J Q b n ds ops k cs m (AI bks) ops.size (Array.replicate ops.size false) L (Aj E H S))(hm:P.follows .mixedOrders=true:=by exact rfl)(U:(b.kind != .early)=true:=by exact rfl)(Y:El ops m=true:=by decide+kernel):
  JL J Q b n L ds (.code (.region id ops true)::k) cs (Aj E H S):=Z8 m bks K O hm U Y h
theorem F9{α:Type}{pp:Rp α}{a:Option Addr}{c:Nat}{xs:List α}{xv:α}{d:Option Tmp}{x y:Operand}{t ty e:TypeId}{p:String}{af:Ae_}{g:On_}{kd:IntKind}(i:Nat)(O:Ap pp E a c xs)(U:ix xs p1=some xv)(Y:El ops m=true)(Z:P.underlying t=some (.slice e))(ac:Bp P e=some pp.n)
  (h:∀bk o ws,pp.r E ws xv->At E bk o ws->AT J Q b n ds ops k cs m D fuel (Bf listed i) (Ay L d (.pointer (some ⟨bk,o,none⟩))) s)
  (ag:ops[i]?=some ⟨d,.indexAddr t x y,ty,p,af,g⟩:=by exact rfl) (ai:GX ops listed m i=true:=by decide+kernel) (al:s.q=false:=by exact rfl)
  (hw:AY L ops ⟨d,.indexAddr t x y,ty,p,af,g⟩=some true:=by exact rfl) (am:Bo n d=true:=by exact rfl)
  (ap:ev L x=some (.slice a xs.length c):=by exact rfl) (aq:ev L y=some (.int kd p1):=by exact rfl):
  AT J Q b n ds ops k cs m D (fuel+1) listed L s:=gk i O U ag Y ai al hw am ap aq Z ac h
end
variable{c2:Nat}
theorem EU{P:Program}{J:Judge P}{Q:Gs_}{b:Frame}{n:Nat}{ds:Ld_}{ops:Ao_}{k:Li_}{cs:Lf_}{m:Nat}{D:Nat->Bool}{listed:Array Bool}{L L':Env}{s:St}(k':AT J Q b n ds ops k cs m D c2 listed L' s)(h:IV L L'=IY L'):AT J Q b n ds ops k cs m D c2 listed L s:=Dz (PX h) k'
instance {α:Type} [DecidableEq α] (xs:List α):Decidable (xs=[]):=inferInstance
variable {w:Value}
section
variable {i:Nat}
variable {x y:Operand}{e:TypeId}
end
variable{j:Nat}
section
variable {fuel:Nat}{listed:Array Bool}
variable {x y:Operand}{e:TypeId}{i:Nat}
theorem OV{s:St}{D:Nat->Bool}{i l:Nat}(K:s.q=false)(O:Region.ready .any ops listed=[i,j,l])(hi:Take J Q b n ds ops k cs m D fuel listed L s i)(U:Take J Q b n ds ops k cs m D fuel listed L s j)(Y:Take J Q b n ds ops k cs m D fuel listed L s l):AT J Q b n ds ops k cs m D (fuel+1) listed L s:=
 QZ K O (by simp) (by intro q K;simp at K;rcases K with rfl | rfl | rfl<;>assumption)
end
theorem Ap.cut{α:Type}{pp:Rp α}{E:LH}{a:Option Addr}{c:Nat}{xs ys:List α}{lo hi:Int}(Y:Ap pp E a c xs)(hC:HT xs lo hi=some ys):
  ∃Z ac,Ap pp E Z ac ys/\∀{P:Program}{ρ:Operand->Value}{s:St}{d:Option Tmp}{x:Operand}{t ty e:TypeId}{p:String}{af:Ae_}{g:On_}{olo ohi:Option Operand},P.underlying t=some (.slice e)->Bp P e=some pp.n->ρ x=.slice a xs.length c->
   (match ohi with | some w=>ρ w=iV hi | none=>hi=xs.length)->(match olo with | some w=>ρ w=iV lo | none=>lo=0)->Yl P ⟨d,.slice t x olo ohi none,ty,p,af,g⟩ ρ s (.slice Z ys.length ac):=by
 unfold HT at hC;split at hC
 rotate_left
 .cases hC
 rename_i hb;obtain⟨a0,a1,am⟩:=hb;cases hC;obtain⟨lo,rfl⟩:∃l:Nat,lo=l:=⟨lo.toNat,by omega⟩;obtain⟨hi,rfl⟩:∃l:Nat,hi=l:=⟨hi.toNat,by omega⟩;simp only[qF] at*;have a2:=Y.1;have hlen:((xs.take hi).drop lo).length=hi - lo:=by simp;omega
 have ag:∀ad:Addr,a=some ad->ad.spot=none∨c=0:=λad K=>by
  rcases Y.2 with⟨_,h⟩ | ⟨bk,off,h,_⟩;exact h ad K;rw[h] at K;cases K;exact .inl V
 refine⟨if c=lo then a else a.map (·.add (lo*pp.n)),c - lo,⟨by rw[hlen];omega,?_⟩,?_⟩
 .by_cases ap:hi - lo=0
  .left;refine⟨pL (by rw[hlen];exact ap),λad K=>?_⟩;split at K;(exact(ag ad K).imp id λh=>by omega)
   .cases a with
    | none=>cases K
    | some aq=>
     simp only[qH,qv] at K;subst K;exact .inl (by rw[Ek ((ag aq rfl).resolve_right (by omega))])
  .right;rcases Y.2 with⟨h,_⟩ | ⟨bk,off,rfl,O⟩;subst h;simp at am;omega;refine⟨bk,off+lo*pp.n,?_,λq z U=>?_⟩;rw[d9 (by omega),qH,Ek rfl];rw[rJ,qI] at U;split at U;let⟨ws,av,ai⟩:=O _ z U;refine⟨ws,av,?_⟩;rw[q8] at ai;rw[rt];exact ai;cases U
 .intro P ρ s d x t ty e p af g olo ohi aw ay az O al;rw[hlen];refine Yl.slice (mx:=c) (hi:=hi) (lo:=lo) aw ay az V ?_ ?_ (no _) (by omega) (by omega)
  .cases ohi with
   | none=>exact⟨by simp only at O;omega,rfl⟩
   | some w=>exact O
  .cases olo with
   | none=>simp only at al;show lo=0;omega
   | some w=>exact al
section
variable {fuel:Nat}{listed:Array Bool}
end
def DX{α:Type}(e e2:TypeId)(p:Rp α)(E:LH)(a:Option Addr)(c:Nat)(seg:Seg)(K:List (List α)):Prop:=
 ∃(g0:Seg) (O:Lv_) (rows:List Seg),seg=g0++rows.flatten/\OL e rV E a c g0 O/\O.length=K.length/\rows.length=K.length/\
  ∀(i:Nat) xs r h,K[i]?=some xs->rows[i]?=some r->O[i]?=some h->∃U ci,h=.slice U xs.length ci/\OL e2 p E U ci r xs
variable{t1:TypeId}
theorem DX.M{α:Type}{e:TypeId}{p:Rp α}{E E':LH}{a:Option Addr}{c:Nat}{K:List (List α)}(h:DX e t1 p E a c seg K)(hle:Le E E'):DX e t1 p E' a c seg K:=
 let ⟨g0,O,rows,U,Y,Z,ac,ag⟩:=h
 ⟨g0,O,rows,U,Y.M hle,Z,ac,λi xs r q a b c=>let ⟨ai,ci,k1,al⟩:=ag i xs r q a b c;⟨ai,ci,k1,al.M hle⟩⟩
variable{rows:List Seg}
theorem VL{m:Nat}{r:Seg}(h:rows[m]?=some r):rows.flatten=(rows.take m).flatten++r++(rows.drop (m+1)).flatten:=by
 have K:=(fx.1 h).1;have e:rows=rows.take m++r::rows.drop (m+1):=by
  rw[(fx.1 h).2.symm];rw[← qL K,tC]
 conv=>lhs;rw[e]
 simp
theorem Uk{m:Nat}{r:Seg}(h:m<rows.length):(rows.set m r).flatten=(rows.take m).flatten++r++(rows.drop (m+1)).flatten:=by
 rw[VL (rows:=rows.set m r) (m:=m) (r:=r) (by rw[qh h]),List.take_set_of_le (no _),List.drop_set_of_lt (by omega)]
theorem DX.row{α:Type}{e:TypeId}{p:Rp α}{E:LH}{a:Option Addr}{c:Nat}{ac:List (List α)}{m:Int}{xs:List α}(h:DX e t1 p E a c seg ac)(hm:ix ac m=some xs):
  ∃(bk:Nat) (f:Av_) (U:Option Addr) (ci:Nat) (ai r g2:Seg),a=some ⟨bk,0,none⟩/\seg=(bk,.cells f e (0,0))::(ai++r++g2)/\f[m.toNat*1]?=some (.slice U xs.length ci)/\m.toNat*1+1<=f.size/\OL t1 p E U ci r xs/\
   (∀E' r' O,Le E E'->O.length=xs.length->OL t1 p E' U ci r' O->DX e t1 p E' a c ((bk,.cells f e (0,0))::(ai++r'++g2)) (ac.set m.toNat O))/\
   (∀E' Y Z r' O,Le E E'->OL t1 p E' Y Z r' O->DX e t1 p E' a c ((bk,.cells (A3 f (m.toNat*1) [.slice Y O.length Z]) e (0,0))::(ai++r'++g2)) (ac.set m.toNat O)):=by
 obtain⟨g0,ag,rows,rfl,av,aw,ay,al⟩:=h;obtain⟨K,rfl,az⟩:=F8 hm;have a9:=(fx.1 az).1;have a0:rows[K]?=some rows[K]:=d6 (by omega);have hh:ag[K]?=some ag[K]:=d6 (by omega);let⟨U,ci,a3,a4⟩:=al K xs _ _ az a0 hh;rw[a3] at hh;obtain⟨bk,f,ws,rfl,rfl,a5,a1,a6,a2⟩:=OL.get av hh;obtain⟨rfl,-⟩:=a5;have a7:(rV).n=1:=V;rw[a7] at a1 a6 a2;simp only[qF];refine⟨bk,f,U,ci,(rows.take K).flatten,rows[K],(rows.drop (K+1)).flatten,V,by rw[VL a0];rfl,by have:=a1 0 _ rfl;simpa using this,by omega,a4,λE' r' O hle a8 am=>?_,λE' Y Z r' O hle am=>?_⟩;refine⟨_,ag,rows.set K r',by rw[Uk (by omega)];rfl,av.M hle,by simpa using aw,by simpa using ay,λi ys q v a b c=>?_⟩;rw[p8] at a b;by_cases e:K=i;subst e;rw[eS rfl,eS (by omega)] at a b;cases a;cases b;rw[hh] at c;cases c;exact⟨U,ci,by rw[a8],am⟩;rw[d9 e] at a b;let⟨ap,aq,l1,l2⟩:=al i ys q v a b c;exact⟨ap,aq,l1,l2.M hle⟩;refine⟨_,ag.set K (.slice Y O.length Z),rows.set K r',by rw[Uk (by omega)];rfl,(a2 _ _ ⟨V,V⟩).M hle,by simpa using aw,by simpa using ay,λi ys q v a b c=>?_⟩;rw[p8] at a b c;by_cases e:K=i;subst e;rw[eS rfl,eS (by omega)] at a b c;cases a;cases b;cases c;exact⟨Y,Z,V,am⟩;rw[d9 e] at a b c;let⟨ap,aq,l1,l2⟩:=al i ys q v a b c;exact⟨ap,aq,l1,l2.M hle⟩
theorem aV{E H:LH}{S:List Seg}{bk:Nat}{o:Obj}(K:Aq E H S)(O:S[j]?=some seg)(h:(bk,o)∈seg):(Aj E H S).get bk=some o:=by
 let⟨i,hi⟩:=pS.1 h;exact DU K O hi
theorem T8{E H:LH}{S:List Seg}{bk:Nat}{c:Av_}{e:TypeId}{f:Nat×Nat}{v:Value}(K:Aq E H S)(O:S[j]?=some seg)(h:(bk,.cells c e f)∈seg)(U:c[off]?=some v):(Aj E H S).cell? ⟨bk,off,none⟩=some v:=by
 unfold St.cell?;rw[aV K O h];exact U
variable {e2:TypeId}
variable{q:Nat×Obj}{seg':Seg}{a1:Aw}{s':St}
section
variable {i:Nat}
variable {x y:Operand}{e:TypeId}
theorem Tr{S:List Seg}{A B seg':Seg}(K:S[j]?=some seg)(h:seg.Perm (q::A)):S.flatten.Perm (S.set j A++ [[q]]).flatten:=by
 have O:=(Ds (seg':=A) K).1;have U:=(Ds (seg':=A) K).2;rw[GJ];refine O.trans ?_;refine(h.append_left _).trans ?_;refine List.Perm.trans ?_ (U.symm.append_right [q]);rw[pF];exact(pr (l₁:=[q]) (l₂:=A)).append_left _
theorem fA{bk:Nat}{c:Av_}{A:Seg}(j:Nat)(U:Aq E H S)(K:S[j]?=some seg)(Y:seg.Perm ((bk,.cells c e (0,0))::A))(Z:seg'.Perm ((bk,.cells (A3 c off v.cells.toList) e (0,0))::A))(ac:Bp P t=some v.cells.size)(ag:Fw b n L ops i=some ⟨d,.store t x y,ty,p,af,g⟩)
  (ai:ev L x=some (.pointer (some ⟨bk,off,none⟩))) (al:ev L y=some v)
  (hle:off+v.cells.size<=c.size) (am:∀u∈v.cells.toList,C5 u=true)
  (h:Aq E H (S.set j seg')->JL J Q b n (Ay L d undef) ds (.inRegion ops rest::k) cs (Aj E H (S.set j seg'))):
  JL J Q b n L ds (.inRegion ops (i::rest)::k) cs (Aj E H S):=by
 have ap:=(fx.1 K).1;have key:∀q:Nat×Obj,∀g',g'.Perm (q::A)->(S.set j A++ [[q]]).flatten.Perm (S.set j g').flatten:=λq g' aq=>by
  have:=Tr (B:=[]) (seg':=[]) (S:=S.set j g') (j:=j) (seg:=g') (A:=A) (q:=q) (by rw[qh ap]) aq;rw[rk] at this;exact this.symm
 refine JS.perm (S':=S.set j A++ [[(bk,.cells c e (0,0))]]) (Tr (B:=[]) (seg':=[]) K Y) U λav=>?_;have hlen:(S.set j A++ [[(bk,Obj.cells c e (0,0))]])[(S.set j A).length]?=some [(bk,.cells c e (0,0))]:=by simp
 refine Xi (S.set j A).length av ac ag ai al hlen (λO=>?_) hle am;rw[IQ] at O ⊢;exact JS.perm (key _ _ Z) O h
theorem Vl{p:Nat×Obj}{K g2:Seg}:(q::(K++ [p]++g2)).Perm (p::q::(K++g2)):=by
 refine List.Perm.trans ?_ (List.Perm.swap p q _);rw[pF];exact List.Perm.cons _ sL
structure Qq {α:Type}(e e2:TypeId) (pp:Rp α) (E:LH) (a:Aw) (c bk:Nat) (f:Av_) (O:Aw) (ci:Nat) (U r g2:Seg) (Y:List (List α)) (m:Int) (xs:List α):Prop where
 ad:a=some ⟨bk,0,none⟩
 hd:f[m.toNat*1]?=some (.slice O xs.length ci)
 sz:m.toNat*1+1<=f.size
 ol:OL e2 pp E O ci r xs
 set:∀E' r' K,Le E E'->K.length=xs.length->OL e2 pp E' O ci r' K->DX e e2 pp E' a c ((bk,.cells f e (0,0))::(U++r'++g2)) (Y.set m.toNat K)
 put:∀E' Z ac r' K,Le E E'->OL e2 pp E' Z ac r' K->DX e e2 pp E' a c ((bk,.cells (A3 f (m.toNat*1) [.slice Z K.length ac]) e (0,0))::(U++r'++g2)) (Y.set m.toNat K)
theorem DX.rowOf{α:Type}{pp:Rp α}{a:Aw}{c:Nat}{O:List (List α)}{m:Int}{xs:List α}(h:DX e e2 pp E a c seg O)(hm:ix O m=some xs):
  ∃(bk:Nat) (f:Av_) (U:Aw) (ci:Nat) (K r g2:Seg),seg=(bk,.cells f e (0,0))::(K++r++g2)/\Qq e e2 pp E a c bk f U ci K r g2 O m xs:=by
 let⟨bk,f,U,ci,K,r,g2,Z,ac,ag,ai,al,Y⟩:=h.row hm;exact⟨bk,f,U,ci,K,r,g2,ac,Z,ag,ai,al,Y.1,Y.2⟩
theorem Qq.elem{α:Type}{pp:Rp α}{a:Aw}{c bk ci:Nat}{f:Av_}{U r g2:Seg}{Y:List (List α)}{m q:Int}{xs:List α}{x0:α}(h:Qq e e2 pp E a c bk f a1 ci U r g2 Y m xs)(ag:ix xs q=some x0):
  ∃(bk2:Nat) (f2:Av_) (ws:Lv_),a1=some ⟨bk2,0,none⟩/\r=[(bk2,.cells f2 e2 (0,0))]/\pp.r E ws x0/\(∀(j:Nat) w,ws[j]?=some w->f2[q.toNat*pp.n+j]?=some w)/\(q.toNat+1)*pp.n<=f2.size/\
   ∀E' x' ws',Le E E'->pp.r E' ws' x'->DX e e2 pp E' a c ((bk,.cells f e (0,0))::(U++ [(bk2,.cells (A3 f2 (q.toNat*pp.n) ws') e2 (0,0))]++g2)) (Y.set m.toNat (xs.set q.toNat x')):=by
 obtain⟨aw,rfl,Z⟩:=F8 ag;let⟨bk2,f2,ws,ai,ac,al,am,ap,_⟩:=OL.get h.ol Z;refine⟨bk2,f2,ws,ai,ac,al,am,ap,λE' x' ws' hle aq=>?_⟩;let⟨ay,f3,_,_,K,_,_,_,av⟩:=OL.get (h.ol.M hle) Z;rw[ac] at K;simp only[sf,f4,Obj.cells.injEq,tH] at K;obtain⟨rfl,rfl⟩:=K;exact h.set E' _ _ hle (by simp) (av x' ws' aq)
theorem Rv{α:Type}{s:St}{ρ:Operand->Value}{x y:Operand}{d:Option Tmp}{t ty e:TypeId}{p:String}{af:Ae_}{g:On_}{kd:IntKind}{xs:List α}{xv:α}{m:Int}{a:Aw}{bk c:Nat}(K:a=some ⟨bk,0,none⟩)(hm:ix xs m=some xv)(O:P.underlying t=some (.slice e))(U:Bp P e=some sz)(Y:ρ x=.slice a xs.length c)(Z:ρ y=.int kd m):
  Yl P ⟨d,.indexAddr t x y,ty,p,af,g⟩ ρ s (.pointer (some ⟨bk,m.toNat*sz,none⟩)):=by
 subst K;exact Rl hm O U Y Z
def KY(E:LH):Nat->Bool:=λx=>(E x).isNone
theorem e9(x:Nat):(BA (KY E) (Aj E H S)).E x=(Aj E H S).get x:=by
 show(if KY E x then(Aj E H S).get x else E x)=_
 unfold KY;cases h:E x with
 | none=>simp
 | some o=>
  rw[d9 (by simp)];unfold St.get;rw[show(Aj E H S).E x=some o from h]
theorem Td(K:∀x o,(BA (KY E) (Aj E H S)).E x=some o->s'.E x=some o){x:Nat}{o:Obj}(h:(Aj E H S).get x=some o):s'.get x=some o:=by
 have:=K x o (by rw[e9];exact h);unfold St.get;rw[this]
theorem NX(K:∀x o,(BA (KY E) (Aj E H S)).E x=some o->s'.E x=some o){a:Addr}{v:Value}(h:(Aj E H S).cell? a=some v):s'.cell? a=some v:=by
 let⟨o,O,U⟩:=qW.1 h;unfold St.cell?;rw[Td K O];exact U
theorem Wi(K:∀x o,(BA (KY E) (Aj E H S)).E x=some o->s'.E x=some o){a:Addr}(h:∀(i:Nat) v,vs[i]?=some v->(Aj E H S).cell? (Addr.add a i)=some v):∀(i:Nat) v,vs[i]?=some v->s'.cell? (Addr.add a i)=some v:=λi v O=>NX K (h i v O)
theorem SY(m:Nat){id:Nat}(h:El ops m=true->AT J Q b n ds ops k cs m (KY E) ops.size (Array.replicate ops.size false) L (Aj E H S))(hm:P.follows .mixedOrders=true:=by exact rfl)(K:(b.kind != .early)=true:=by exact rfl)(O:El ops m=true:=by decide+kernel):
  JL J Q b n L ds (.code (.region id ops true)::k) cs (Aj E H S):=Rz m (KY E) V hm K (h O)
abbrev rs(q:Nat×Obj)(K:Seg)(p:Nat×Obj)(g2:Seg):Seg:=q::(K++ [p]++g2)
theorem dF{bk bk2:Nat}{f f2:Av_}{K g2:Seg}(j:Nat)(O:Aq E H S)(U:S[j]?=some ((bk,.cells f e (0,0))::(K++ [(bk2,.cells f2 e2 (0,0))]++g2)))
  (Y:Bp P t=some v.cells.size) (Z:Fw b n L ops i=some ⟨d,.store t x y,ty,p,af,g⟩) (ac:ev L x=some (.pointer (some ⟨bk2,off,none⟩))) (ag:ev L y=some v)
  (hle:off+v.cells.size<=f2.size) (ai:∀u∈v.cells.toList,C5 u=true)
  (h:Aq E H (S.set j ((bk,.cells f e (0,0))::(K++ [(bk2,.cells (A3 f2 off v.cells.toList) e2 (0,0))]++g2)))->JL J Q b n (Ay L d undef) ds (.inRegion ops rest::k) cs (Aj E H (S.set j ((bk,.cells f e (0,0))::(K++ [(bk2,.cells (A3 f2 off v.cells.toList) e2 (0,0))]++g2))))):
  JL J Q b n L ds (.inRegion ops (i::rest)::k) cs (Aj E H S):=
 fA j O U Vl Vl Y Z ac ag hle ai h
end
variable {bk:Nat}{o:Obj}{xs:List (κ×ν)}{v0:ν}
variable {kk:Li_}
variable {z:Operand}{x0:κ}
variable{todo:Li_}{es:Array MapEntry}{seen:Array Nat}
section
variable [DecidableEq κ]
def KN(xs:List (κ×ν)):Prop:=(xs.map (·.1)).Nodup
theorem KN.perm{xs ys:List (κ×ν)}(h:KN xs)(p:ys.Perm xs):KN ys:=((p.map (λq:κ×ν=>q.1)).nodup_iff).2 h
theorem U9{xs:List (κ×ν)}(h:KN xs){x:κ}{v:ν}:A8 xs x=some v↔(x,v)∈xs:=by
 induction xs with
 | nil=>simp[A8]
 | cons y ys U=>
  have O:y.1 ∉ ys.map (·.1)/\KN ys:=by simpa [KN] using h
  by_cases e:x=y.1
  .subst e;have K:A8 (y::ys) y.1=some y.2:=by simp[A8]
   rw[K];constructor;intro q;cases q;simp;intro q;rcases iO.1 q with q | q;rw[← q];exact absurd (pO.2 ⟨_,q,V⟩) O.1
  .have K:A8 (y::ys) x=A8 ys x:=by simp[A8,e]
   rw[K,U O.2];constructor;intro q;exact f7 _ q;intro q;rcases iO.1 q with q | q;exact absurd (by rw[← q]) e;exact q
theorem UC{xs ys:List (κ×ν)}(h:KN xs)(p:ys.Perm xs)(x:κ):A8 ys x=A8 xs x:=by
 apply Option.ext;intro v;rw[U9 h,U9 (h.perm p),p.mem_iff]
def DD(xs:List (κ×ν))(x:κ):List (κ×ν):=xs.filter λy=>decide (x≠y.1)
theorem Um{xs:List (κ×ν)}{x:κ}(h:∀y∈xs,x≠y.1):DD xs x=xs:=sd.2 λy K=>by simpa using h y K
theorem OQ{x:κ}{v:ν}:∀{xs:List (κ×ν)},KN xs->(Ce xs x v).Perm ((x,v)::DD xs x)
 | [],_=>.refl _
 | y::ys,h=>by
  have K:y.1 ∉ ys.map (·.1)/\KN ys:=by simpa [KN] using h
  unfold Ce;by_cases e:x=y.1
  .rw [eS e];have e2:DD (y::ys) x=ys:=by
    have:DD (y::ys) x=DD ys x:=by simp[DD,e]
    rw[this];exact Um λz O q=>K.1 (pO.2 ⟨z,O,by rw[← q,e]⟩)
   rw[e2]
  .rw [d9 e];have e2:DD (y::ys) x=y::DD ys x:=by simp[DD,e]
   rw[e2];exact((OQ K.2).cons y).trans (List.Perm.swap _ _ _)
theorem Rb{xs ys:List (κ×ν)}(p:ys.Perm xs)(x:κ):(DD ys x).Perm (DD xs x):=p.filter _
theorem YD{xs ys:List (κ×ν)}(h:KN xs)(p:ys.Perm xs)(x:κ)(v:ν):(Ce ys x v).Perm (Ce xs x v):=
 (OQ (h.perm p)).trans (((Rb p x).cons _).trans (OQ h).symm)
theorem KN.del{xs:List (κ×ν)}(h:KN xs)(x:κ):KN (DD xs x):=by
 unfold KN DD;exact List.Nodup.sublist (List.Sublist.map _ List.filter_sublist) h
theorem KN.put{xs:List (κ×ν)}(h:KN xs)(x:κ)(v:ν):KN (Ce xs x v):=by
 refine KN.perm ?_ (OQ h);unfold KN;simp only[pW,rH];refine⟨λq=>?_,h.del x⟩;let⟨z,K,e⟩:=pO.1 q;have:=(re.1 K).2;simp at this;exact this e.symm
def BW(pk:Rp κ)(ka:Bool)(pv:Rp ν)(va:Bool)(E:LH)(o:Obj)(xs:List (κ×ν)):Prop:=KN xs/\∃ys,ys.Perm xs/\LZ pk ka pv va E o ys
theorem BW.M{o:Obj}{xs:List (κ×ν)}(h:BW pk ka pv va E o xs)(hle:Le E E'):BW pk ka pv va E' o xs:=
 let ⟨K,ys,O,U⟩:=h;⟨K,ys,O,U.M hle⟩
theorem BW.perm{o:Obj}{xs ys:List (κ×ν)}(h:BW pk ka pv va E o xs)(p:ys.Perm xs):BW pk ka pv va E o ys:=
 let ⟨K,O,U,Y⟩:=h;⟨K.perm p,O,U.trans p.symm,Y⟩
theorem BW.nil:BW pk ka pv va E (.map #[] 0) []:=⟨s0,[],.refl _,⟨#[],0,V,trivial,.nil,by simp⟩⟩
def rM(pk:Rp κ)(ka:Bool)(pv:Rp ν)(va:Bool):Rp (List (κ×ν)):=⟨1,λE ws xs=>∃bk o,ws=[.map (some bk)]/\E bk=some o/\BW pk ka pv va E o xs,
 λhle ⟨bk,o,h,K,O⟩=>⟨bk,o,h,hle _ _ K,O.M hle⟩,λ⟨bk,o,h,_,_⟩=>by subst h;rfl,λ⟨bk,o,h,_,_⟩ w hw=>by subst h;simp at hw;subst hw;rfl⟩
section
variable {k:Value}{x:κ}
theorem YL(K:Hb P t pk ka)(hm:P.underlying tm=some (.map t te)){z:Value}{z0:ν}(O:zeroOf P te=some z)(U:Vr pv va E z z0)(Y:s.get bk=some o)(Z:BW pk ka pv va E o xs)(ac:Vr pk ka E k x)(ok:Bool){Q:Value->St->Prop}
  (h:∀w,Vr pv va E w ((A8 xs x).getD z0)->Q (if ok then .tuple #[w,.bool (A8 xs x).isSome] else w) s):lp P (Instr.lookup tm (.map (some bk)) k ok) s Q X:=by
 obtain⟨ag,ys,ai,al⟩:=Z;refine ZS K hm O U Y al ac ok ?_;rw[UC ag ai];exact h
theorem XV(O:Hb P t pk ka)(hm:P.underlying tm=some (.map t te))(U:s.get bk=some o)(Y:s.H bk=some o)(Z:BW pk ka pv va E o xs)(ac:Vr pk ka E k x)(hw:Vr pv va E w v0){Q:Unit->St->Prop}
  (h:∀o',BW pk ka pv va E o' (Ce xs x v0)->Q () (s.upd bk o')):lp P (Instr.mapUpdate tm (.map (some bk)) k w) s Q X:=by
 obtain⟨K,ys,ag,ai⟩:=Z;exact X2 O hm U Y ai ac hw λo' al=>h o' ⟨K.put _ _,_,YD K ag _ _,al⟩
theorem Eg.erase(Y:Vr pk ka E k x):∀{es:List MapEntry}{ys:List (κ×ν)}{i:Nat},Eg pk ka pv va E es ys->KN ys->
  (G0 x es ys i=none/\DD ys x=ys)∨∃j u,G0 x es ys i=some (i+j,u)/\Eg pk ka pv va E (es.eraseIdx j) (DD ys x)
 | [],[],i,_,_=>.inl ⟨rfl,rfl⟩
 | e::es,y::ys,i,h,Z=>by
  have U:y.1 ∉ ys.map (·.1)/\KN ys:=by simpa [KN] using Z
  unfold G0;by_cases K:x=y.1
  .refine .inr ⟨0,e.val,by rw[eS K];rfl,?_⟩;have e2:DD (y::ys) x=ys:=by
    have:DD (y::ys) x=DD ys x:=by simp[DD,K]
    rw[this];exact Um λz ac q=>U.1 (pO.2 ⟨z,ac,by rw[← q,K]⟩)
   rw[e2];exact h.2.2
  .have e2:DD (y::ys) x=y::DD ys x:=by simp[DD,K]
   rcases Eg.erase Y (i:=i+1) h.2.2 U.2 with⟨a1,O⟩ | ⟨j,u,a1,O⟩;exact .inl ⟨by rw[d9 K];exact a1,by rw[e2,O]⟩;refine .inr ⟨j+1,u,by rw[d9 K,a1];congr 2;omega,?_⟩;rw[e2];exact⟨h.1,h.2.1,O⟩
 | [],_::_,_,h,_=>h.elim
 | _::_,[],_,h,_=>h.elim
theorem Yv(ag:Hb P t pk ka)(hm:P.underlying tm=some (.map t te))(aq:s.get bk=some o)(ai:s.H bk=some o)(av:BW pk ka pv va E o xs)(K:Vr pk ka E k x){u:TypeId}{Q:Value->St->Prop}
  (h:∀o',BW pk ka pv va E o' (DD xs x)->Q (.tuple #[]) (s.upd bk o')):lp P (Builtin.delete_ #[tm,t] u #[.map (some bk),k]) s Q X:=by
 obtain⟨O,ys,U,es,c,rfl,Y,al,am⟩:=av;unfold Builtin.delete_;simp only[pR,qD,qX];refine Az _ _ (CG hm ?_)
 dsimp only;refine Az _ _ ?_;unfold getObj;simp only[bind,Sem.bind,lp];refine⟨_,aq,V,?_⟩;refine Az (x:=Instr.checkKey _ 10000 t k) _ (ag.BU K ?_);refine Az (x:=Instr.findKey t k es.toList) _ (Q5 ag K Y ?_);rcases Eg.erase K (i:=0) Y (O.perm U) with⟨Z,e2⟩ | ⟨j,u,Z,e2⟩;rw[Z];simp only[setObj,lp,pure];refine⟨⟨_,ai,V⟩,V,h _ ⟨O.del _,_,Rb U x,es,c,V,by rw[e2];exact Y,al,am⟩⟩
 .rw [Z];simp only[setObj,lp,pure];have ap:(es.toList.eraseIdx j).Sublist es.toList:=List.eraseIdx_sublist _ _;have ac:(es.eraseIdxIfInBounds (0+j)).toList=es.toList.eraseIdx j:=by rw[qZ];simp
  refine⟨⟨_,ai,V⟩,V,h _ ⟨O.del _,_,Rb U x,_,c,V,by rw[ac];exact e2,?_,?_⟩⟩;rw[ac];exact al.sublist (ap.map _);rw[ac];exact λe he=>am e (ap.subset he)
end
section
variable {x y:Operand}{e:TypeId}{i:Nat}{k:Value}
theorem Yl.lookup{zv v:Value}{z0:ν}{ok:Bool}(K:Hb P t pk ka)(hm:P.underlying tm=some (.map t te))(O:zeroOf P te=some zv)(U:Vr pv va E zv z0)(Y:BW pk ka pv va E o xs)(Z:Vr pk ka E k x0)
  (ac:∀w,Vr pv va E w ((A8 xs x0).getD z0)->(if ok then .tuple #[w,.bool (A8 xs x0).isSome] else w)=v) (ag:ρ x=.map (some bk)) (ai:ρ y=k) (al:s.get bk=some o):Yl P ⟨d,.lookup tm x y ok,ty,p,af,g⟩ ρ s v:=by
 refine Gp (sm:=Instr.lookup tm (ρ x) (ρ y) ok) V ?_;rw[ag,ai];exact YL K hm O U al Y Z ok λw hw=>⟨ac w hw,V⟩
theorem JS.makeMap(K:ops[i]?=some ⟨d,.makeMap t none,ty,p,af,g⟩)(hw:AY L ops ⟨d,.makeMap t none,ty,p,af,g⟩=some true)(O:BU b n ⟨d,.makeMap t none,ty,p,af,g⟩=true)(U:Aq E H S)
  (h:∀r,Aq E H (S++ [[(r,.map #[] 0)]])->JL J Q b n (Ay L d (.map (some r))) ds (.inRegion ops rest::kk) cs (Aj E H (S++ [[(r,.map #[] 0)]]))):
  JL J Q b n L ds (.inRegion ops (i::rest)::kk) cs (Aj E H S):=
 JL.op K hw O λρ al=>by
  show lp P (do pure (Next.value (← Instr.makeMap t none))) _ _ _
  refine Az _ _ ?_
  unfold Instr.makeMap
  simp only[newObj,bind,Sem.bind,pure,lp]
  refine⟨rfl,λr Y Z=>?_⟩
  let⟨ac,ag⟩:=Lp Y Z (.map #[] 0) U
  let⟨p1,p2⟩:=F4 ac
  have ai:(Aj E H S).upd r (.map #[] 0)=Aj E H (S++ [[(r,.map #[] 0)]]):=by rw[← p1,← ag];rfl
  show JL J Q b n (Ay L d (.map (some r))) ds (.inRegion ops rest::kk) cs ((Aj E H S).upd r (.map #[] 0));rw[ai];exact h r p2
theorem JS.mapUpdate(j:Nat)(Y:Hb P t pk ka)(hm:P.underlying tm=some (.map t te))(Z:BW pk ka pv va E o xs)(ac:Vr pk ka E k x0)(ag:Vr pv va E w v0)(K:Aq E H S)(O:S[j]?=some [(bk,o)])
  (ai:ops[i]?=some ⟨d,.mapUpdate tm x y z,ty,p,af,g⟩) (hw:AY L ops ⟨d,.mapUpdate tm x y z,ty,p,af,g⟩=some true) (al:BU b n ⟨d,.mapUpdate tm x y z,ty,p,af,g⟩=true) (am:ev L x=some (.map (some bk))) (ap:ev L y=some k) (aq:ev L z=some w)
  (h:∀o',BW pk ka pv va E o' (Ce xs x0 v0)->Aq E H (S.set j [(bk,o')])->JL J Q b n (Ay L d undef) ds (.inRegion ops rest::kk) cs (Aj E H (S.set j [(bk,o')]))):
  JL J Q b n L ds (.inRegion ops (i::rest)::kk) cs (Aj E H S):=
 JL.op ai hw al λρ U=>by
  show lp P (do Instr.mapUpdate tm (ρ x) (ρ y) (ρ z);pure Next.skip) _ _ _
  rw[U _ _ am,U _ _ ap,U _ _ aq]
  refine Az _ _ (XV Y hm (DU (i:=0) K O rfl) (KX K O) Z ac ag λo' av=>?_)
  let⟨aw,ay⟩:=Ls K O o'
  rw[aw]
  exact h o' av ay
theorem XZ{at1:TypeId}(j:Nat)(Y:Hb P t pk ka)(hm:P.underlying tm=some (.map t te))(Z:BW pk ka pv va E o xs)(ac:Vr pk ka E k x0)(K:Aq E H S)(O:S[j]?=some [(bk,o)])
  (ag:ops[i]?=some ⟨d,.call ⟨.builtin .delete,#[x,y],#[tm,t]⟩,ty,p,af,g⟩) (hw:AY L ops ⟨d,.call ⟨.builtin .delete,#[x,y],#[tm,t]⟩,ty,p,af,g⟩=some true) (ai:BU b n ⟨d,.call ⟨.builtin .delete,#[x,y],#[tm,t]⟩,ty,p,af,g⟩=true) (al:ev L x=some (.map (some bk))) (am:ev L y=some k)
  (h:∀o',BW pk ka pv va E o' (DD xs x0)->Aq E H (S.set j [(bk,o')])->JL J Q b n (Ay L d (.tuple #[])) ds (.inRegion ops rest::kk) cs (Aj E H (S.set j [(bk,o')]))):
  JL J Q b n L ds (.inRegion ops (i::rest)::kk) cs (Aj E H S):=
 JL.op ag hw ai λρ U=>by
  have ap:execOp ρ ⟨d,.call ⟨.builtin .delete,#[x,y],#[tm,t]⟩,ty,p,af,g⟩=(do pure (Next.value (← Builtin.delete_ #[tm,t] ty #[ρ x,ρ y]))):=by
   simp[execOp,resolve,Deferred.ofValue,invoke,bind,Sem.bind,pure,Go.builtin]
  rw[ap,U _ _ al,U _ _ am];refine Az _ _ (Yv Y hm (DU (i:=0) K O rfl) (KX K O) Z ac λo' aq=>?_);let⟨av,aw⟩:=Ls K O o';rw[av];exact h o' aq aw
theorem Q2(j:Nat)(O:Aq E H S)(U:S[j]?=some [(bk,o)])
  (h:∀E',Le E E'->E' bk=some o->Aq E' H (S.set j [])->JL J Q b n L ds todo cs (Aj E' H (S.set j []))):JL J Q b n L ds todo cs (Aj E H S):=by
 let⟨Y,Z⟩:=HI O U;rw[Y];have ac:((S.set j []).flatten++ [(bk,o)])[(S.set j []).flatten.length]?=some (bk,o):=by simp
 refine JL.freeze (S.set j []).flatten.length Z ac λE' hle ag K=>?_;have ai:((S.set j []).flatten++ [(bk,o)]).eraseIdx (S.set j []).flatten.length=(S.set j []).flatten:=by rw[q0 (no _)];simp
 rw[ai] at K ⊢;exact h E' hle ag K
theorem Ux{α:Type}{m:Nat}{f:Nat->Sem α}{s:St}{Q:α->St->Prop}{X:Halt->St->Prop}(hm:0<m)(K:s.q=false)(h:∀i,i<m->lp P (f i) s Q X):lp P ((choose (.mapNext m)).bind f) s Q X:=by
 simp only[choose,Sem.bind,lp];split;exact h 0 hm;exact⟨K,λt=>h _ (sE _ hm)⟩
theorem JS.range{c:Nat}(hm:P.underlying tm=some (.map t te))(K:(Aj E H S).get bk=some (.map es c))(O:ops[i]?=some ⟨d,.range tm x,ty,p,af,g⟩)(hw:AY L ops ⟨d,.range tm x,ty,p,af,g⟩=some true)(U:BU b n ⟨d,.range tm x,ty,p,af,g⟩=true)(Y:Aq E H S)
  (Z:ev L x=some (.map (some bk)))
  (h:∀r,Aq E H (S++ [[(r,.mapIter (some bk) c #[] c)]])->JL J Q b n (Ay L d (.pointer (some ⟨r,0,none⟩))) ds (.inRegion ops rest::kk) cs (Aj E H (S++ [[(r,.mapIter (some bk) c #[] c)]]))):
  JL J Q b n L ds (.inRegion ops (i::rest)::kk) cs (Aj E H S):=
 JL.op O hw U λρ ac=>by
  show lp P (do pure (Next.value (← Instr.range tm (ρ x)))) _ _ _
  rw[ac _ _ Z]
  refine Az _ _ ?_
  unfold Instr.range
  refine Az _ _ (CG hm ?_)
  simp only[getObj,newObj,bind,Sem.bind,pure,lp]
  refine⟨_,K,rfl,rfl,λr ag ai=>?_⟩
  let⟨al,am⟩:=Lp ag ai (.mapIter (some bk) c #[] c) Y
  let⟨p1,p2⟩:=F4 al
  have ap:(Aj E H S).upd r (.mapIter (some bk) c #[] c)=Aj E H (S++ [[(r,.mapIter (some bk) c #[] c)]]):=by rw[← p1,← am];rfl
  show JL J Q b n (Ay L d (.pointer (some ⟨r,0,none⟩))) ds (.inRegion ops rest::kk) cs ((Aj E H S).upd r (.mapIter (some bk) c #[] c));rw[ap];exact h r p2
theorem JS.next{c r:Nat}(j:Nat)(al:(Aj E H S).get bk=some (.map es c))(hb:∀e∈es.toList,e.born<c)(K:Aq E H S)(O:S[j]?=some [(r,.mapIter (some bk) c seen c)])
  (am:ops[i]?=some ⟨d,.next x false,ty,p,af,g⟩) (hw:AY L ops ⟨d,.next x false,ty,p,af,g⟩=some true) (ap:BU b n ⟨d,.next x false,ty,p,af,g⟩=true) (U:ev L x=some (.pointer (some ⟨r,0,none⟩)))
  (aq:∀e∈es.toList,e.born ∉ seen->Aq E H (S.set j [(r,.mapIter (some bk) c (seen.push e.born) c)])->JL J Q b n (Ay L d (.tuple #[.bool true,e.key,e.val])) ds (.inRegion ops rest::kk) cs (Aj E H (S.set j [(r,.mapIter (some bk) c (seen.push e.born) c)])))
  (av:(∀e∈es.toList,e.born∈seen)->JL J Q b n (Ay L d (.tuple #[.bool false])) ds (.inRegion ops rest::kk) cs (Aj E H S)):
  JL J Q b n L ds (.inRegion ops (i::rest)::kk) cs (Aj E H S):=
 JL.op am hw ap λρ aw=>by
  show lp P (do pure (Next.value (← Instr.next (ρ x) false ty))) _ _ _
  rw[aw _ _ U]
  refine Az _ _ ?_
  unfold Instr.next
  simp only[getObj,setObj,bind,Sem.bind,pure,lp]
  refine⟨_,DU (i:=0) K O rfl,rfl,?_⟩
  simp only[lp]
  refine⟨_,al,rfl,?_⟩
  have ay:(!seen.isEmpty&& !es.isEmpty&&es.all (λe=>decide (e.born>=c)))=false:=by
   by_cases he:es.toList=[]
   .have:es.isEmpty=true:=by simpa [Array.isEmpty_iff] using he
    simp[this]
   .let⟨e,ag⟩:=si _ he;have be:=hb e ag;have:es.all (λe=>decide (e.born>=c))=false:=by
     cases U:es.all (λe=>decide (e.born>=c)) with
     | false=>rfl
     | true=>
      have:=rm.1 U e (rZ.1 ag);simp at this;omega
    simp[this]
  have az:Array.filter (λx:MapEntry=>decide (x.born<c)) (Array.filter (λe=> !seen.contains e.born) es)=Array.filter (λe=> !seen.contains e.born) es:=by
   apply tj.1;rw[rD,sd];intro e he;rw[rD] at he;simpa using hb e (re.1 he).1
  have e2:Array.filter (λx:MapEntry=>decide (x.born>=c)) (Array.filter (λe=> !seen.contains e.born) es)=#[]:=by
   apply tj.1;rw[rD,tz];intro e he;rw[rD] at he;have:=hb e (re.1 he).1;simp;omega
  dsimp only;rw[d9 (by rw[ay];exact q2),az,e2];have Y:∀e,e∈(Array.filter (λe=> !seen.contains e.born) es).toList↔e∈es.toList/\e.born ∉ seen:=by
   intro e;rw[rD,re];simp
  generalize Array.filter (λe:MapEntry=> !seen.contains e.born) es=left at Y ⊢;by_cases Z:left.toList=[]
  .have a0:left=#[]:=tj.1 Z;subst a0;refine Ux (by simp) rfl λi hi=>?_;obtain rfl:i=0:=by simp at hi;exact hi
   have a1:((if(#[]:Array MapEntry).isEmpty=true then #[none] else #[])++Array.map some ((#[]:Array MapEntry)++ #[]))[0]?=some none:=by simp
   rw[a1];refine av λe he=>?_;by_cases ai:e.born∈seen;exact ai;have:=(Y e).2 ⟨he,ai⟩;simp at this
  .have a2:left.isEmpty=false:=by
    cases a3:left.isEmpty with
    | false=>rfl
    | true=>exact absurd (by simpa [Array.isEmpty_iff] using a3) Z
   rw[a2];simp only[px,qp,sn,Array.empty_append];have a4:0<left.size:=by
    rcases qo left.size with ac | ac;exact absurd (by simpa using Array.eq_empty_of_size_eq_zero ac) Z;exact ac
   refine Ux (by simpa using a4) rfl λi hi=>?_;have a5:i<left.size:=by simpa using hi
   have a6:(Array.map some left)[i]?=some (some left[i]):=by simp[a5]
   rw[a6];simp only[lp];let⟨a7,a8⟩:=(Y left[i]).1 (Array.getElem_mem_toList _);refine⟨⟨_,KX K O,rfl⟩,rfl,?_⟩;let⟨a9,bb⟩:=Ls K O (.mapIter (some bk) c (seen.push left[i].born) c);rw[a9];exact aq _ a7 a8 bb
theorem JS.entry{c r:Nat}{e:MapEntry}(j:Nat)(U:(Aj E H S).get bk=some (.map es c))(he:e∈es.toList)(hb:(es.toList.map (·.born)).Pairwise (·<·))(Y:Aq E H S)(Z:S[j]?=some [(r,.mapIter (some bk) c (seen.push e.born) c)])
  (ac:ops[i]?=some ⟨d,.entry x,ty,p,af,g⟩) (hw:AY L ops ⟨d,.entry x,ty,p,af,g⟩=some true) (ag:BU b n ⟨d,.entry x,ty,p,af,g⟩=true) (ai:ev L x=some (.pointer (some ⟨r,0,none⟩)))
  (h:JL J Q b n (Ay L d (.tuple #[e.key,e.val])) ds (.inRegion ops rest::kk) cs (Aj E H S)):
  JL J Q b n L ds (.inRegion ops (i::rest)::kk) cs (Aj E H S):=
 JL.op ac hw ag λρ al=>by
  show lp P (do pure (Next.value (← Instr.entry (ρ x)))) _ _ _
  rw[al _ _ ai]
  refine Az _ _ ?_
  unfold Instr.entry
  simp only[getObj,bind,Sem.bind,pure,lp]
  refine⟨_,DU (i:=0) Y Z rfl,rfl,?_⟩
  simp only[Array.back?_push,bne_self_eq_false,lp]
  refine⟨_,U,rfl,?_⟩
  have am:es.find? (λx=>x.born==e.born)=some e:=by
   rw[← Array.find?_toList];have key:∀(l:List MapEntry),e∈l->(l.map (·.born)).Pairwise (·<·)->l.find? (λx=>x.born==e.born)=some e:=by
    intro l
    induction l with
    | nil=>intro h;cases h
    | cons y l ap=>
     intro hm K;rw[pW,rp] at K;by_cases O:y.born=e.born;rcases iO.1 hm with rfl | hm;simp;have:=K.1 e.born (pO.2 ⟨e,hm,rfl⟩);omega;rw[rh (by simpa using O)];rcases iO.1 hm with rfl | hm;exact absurd rfl O;exact ap hm K.2
   exact key _ he hb
  simp only[bne_self_eq_false,px,qp,am,lp];exact h
end
end
theorem Lg{E H:LH}{S:List Seg}{bk:Nat}{o:Obj}(h:E bk=some o):(Aj E H S).get bk=some o:=by
 show(match E bk with | some o=>some o | none=>_)=some o
 rw[h]
theorem TE{α:Type}(f:α->β){l:List α}(h:(l.map f).Nodup):l.Nodup:=by
 unfold List.Nodup at h ⊢;rw[List.pairwise_map] at h;exact h.imp λh e=>h (by rw[e])
theorem Vf{α:Type}:∀{l l':List α},l.Nodup->(∀x∈l,x∈l')->l.length<=l'.length
 | [],_,_,_=>qc _
 | x::l,l',h,O=>by
  obtain⟨a,b,rfl⟩:=List.append_of_mem (O x (by simp))
  have U:=rH.1 h
  have:=Vf (l:=l) (l':=a++b) U.2 (λy Y=>by
   have K:=O y (f7 _ Y)
   have Z:y≠x:=λe=>U.1 (e▸Y)
   simp at K ⊢
   rcases K with K | K | K;exact .inl K;exact absurd K Z
   .exact .inr K)
  simp at this ⊢;omega
variable {ys:List (κ×ν)}
section
variable [DecidableEq κ]
def Jv(es:Array MapEntry)(ys:List (κ×ν))(seen:Array Nat)(done:List (κ×ν)):Prop:=
 ∃dn:List (MapEntry×(κ×ν)),done=dn.map (·.2)/\seen.toList=dn.map (·.1.born)/\dn.Nodup/\∀q∈dn,q∈es.toList.zip ys
theorem Jv.nil{ys:List (κ×ν)}:Jv es ys #[] []:=⟨[],V,V,.nil,by simp⟩
theorem UN:∀{es:List MapEntry}{ys:List (κ×ν)},(es.map (·.born)).Pairwise (·<·)->∀{p q:MapEntry×(κ×ν)},p∈es.zip ys->q∈es.zip ys->p.1.born=q.1.born->p=q
 | [],_,_,_,_,h,_,_=>by simp at h
 | _::_,[],_,_,_,h,_,_=>by simp at h
 | e::es,y::ys,U,p,q,K,O,hb=>by
  rw[pW,rp] at U
  rw[sB] at K O
  have Y:∀{z:MapEntry×(κ×ν)},z∈es.zip ys->z.1.born∈es.map (·.born):=λ{z} Z=>by
   have:=(tt Z).1
   exact pO.2 ⟨z.1,this,V⟩
  rcases iO.1 K with rfl | K<;>rcases iO.1 O with rfl | O;rfl;have:=U.1 _ (Y O);simp at hb;omega;have:=U.1 _ (Y K);simp at hb;omega;exact UN U.2 K O hb
theorem Eg.zip:∀{es:List MapEntry}{ys:List (κ×ν)},Eg pk ka pv va E es ys->∀{q:MapEntry×(κ×ν)},q∈es.zip ys->Vr pk ka E q.1.key q.2.1/\Vr pv va E q.1.val q.2.2
 | [],[],_,_,h=>by simp at h
 | e::es,y::ys,h,q,K=>by
  rw[sB] at K
  rcases iO.1 K with rfl | K;exact⟨h.1,h.2.1⟩;exact Eg.zip h.2.2 K
 | [],_::_,h,_,_=>h.elim
 | _::_,[],h,_,_=>h.elim
theorem U1:∀{es:List MapEntry}{ys:List (κ×ν)},KN ys->(es.map (·.born)).Pairwise (·<·)->∀{p q:MapEntry×(κ×ν)},p∈es.zip ys->q∈es.zip ys->p.2.1=q.2.1->p=q
 | [],_,_,_,_,_,h,_,_=>by simp at h
 | _::_,[],_,_,_,_,h,_,_=>by simp at h
 | e::es,y::ys,ac,Y,p,q,K,O,hb=>by
  have U:y.1 ∉ ys.map (·.1)/\KN ys:=by simpa [KN] using ac
  rw[pW,rp] at Y;rw[sB] at K O;have Z:∀{z:MapEntry×(κ×ν)},z∈es.zip ys->z.2.1∈ys.map (·.1):=λ{z} ag=>pO.2 ⟨z.2,(tt ag).2,rfl⟩;rcases iO.1 K with rfl | K<;>rcases iO.1 O with rfl | O;rfl;have:=Z O;simp only at hb;rw[← hb] at this;exact absurd this U.1;have:=Z K;simp only at hb;rw[hb] at this;exact absurd this U.1;exact U1 U.2 Y.2 K O hb
theorem Jv.len{ys:List (κ×ν)}{done:List (κ×ν)}(h:Jv es ys seen done):done.length<=ys.length:=by
 obtain⟨dn,rfl,Y,K,O⟩:=h;rw[qB];have U:=Vf K O;exact qg U (by rw[List.length_zip];exact Nat.min_le_right _ _)
section
variable {x y:Operand}{e:TypeId}{i:Nat}
theorem Vd{c r:Nat}{done:List (κ×ν)}(j:Nat)(ac:Eg pk ka pv va E es.toList ys)(Z:(es.toList.map (·.born)).Pairwise (·<·))(hb:∀e∈es.toList,e.born<c)(ap:KN ys)(aq:Jv es ys seen done)(av:(Aj E' H S).get bk=some (.map es c))(aw:Aq E' H S)(ay:S[j]?=some [(r,.mapIter (some bk) c seen c)])
  (az:ops[i]?=some ⟨d,.next x false,ty,p,af,g⟩) (hw:AY L ops ⟨d,.next x false,ty,p,af,g⟩=some true) (a0:BU b n ⟨d,.next x false,ty,p,af,g⟩=true) (a2:ev L x=some (.pointer (some ⟨r,0,none⟩)))
  (a3:∀e O,Vr pk ka E e.key O.1->Vr pv va E e.val O.2->O∈ys->O.1 ∉ done.map (·.1)->e∈es.toList->Jv es ys (seen.push e.born) (done++ [O])->Aq E' H (S.set j [(r,.mapIter (some bk) c (seen.push e.born) c)])->
   JL J Q b n (Ay L d (.tuple #[.bool true,e.key,e.val])) ds (.inRegion ops rest::kk) cs (Aj E' H (S.set j [(r,.mapIter (some bk) c (seen.push e.born) c)])))
  (a4:done.Perm ys->JL J Q b n (Ay L d (.tuple #[.bool false])) ds (.inRegion ops rest::kk) cs (Aj E' H S)):
  JL J Q b n L ds (.inRegion ops (i::rest)::kk) cs (Aj E' H S):=by
 obtain⟨dn,rfl,a1,ag,Y⟩:=aq;have hlen:=ac.len;refine JS.next j av hb aw ay az hw a0 a2 (λe he a5 a6=>?_) (λa7=>?_)
 .let⟨m,hm,a8⟩:=r4.1 he;have U:(e,ys[m]'(by omega))∈es.toList.zip ys:=by
   rw[← a8];have:(es.toList.zip ys)[m]'(by rw[List.length_zip];omega)=(es.toList[m],ys[m]'(by omega)):=List.getElem_zip;rw[← this];exact pj _
  let⟨k1,a9⟩:=ac.zip U;have ai:(e,ys[m]'(by omega)) ∉ dn:=λq=>a5 (by
   rw[← rZ,a1]
   exact pO.2 ⟨_,q,V⟩)
  refine a3 e _ k1 a9 (pj _) (λq=>?_) he ⟨dn++ [(e,ys[m]'(by omega))],by simp,by simp[a1],?_,λq K=>?_⟩ a6;let⟨O,bb,be⟩:=pO.1 q;obtain⟨z,al,rfl⟩:=pO.1 bb;have:=U1 ap Z (Y z al) U be;exact ai (this▸al);rw[qx];exact⟨ag,by simp,by intro q K z am bi;simp at am;subst am bi;exact ai K⟩;rcases pg.1 K with K | K;exact Y q K;simp at K;subst K;exact U
 .refine a4 ?_;have bn:dn.Perm (es.toList.zip ys):=by
   have bo:(es.toList.zip ys).Nodup:=by
    have:((es.toList.zip ys).map (·.1)).Nodup:=by
     rw[List.map_fst_zip (by omega)];exact TE (λe:MapEntry=>e.born) (Z.imp (λh=>tL h))
    exact TE _ this
   refine(List.perm_ext_iff_of_nodup ag bo).2 λq=>⟨λK=>Y q K,λK=>?_⟩;have:=a7 q.1 (tt K).1;rw[← rZ,a1] at this;let⟨z,U,bv⟩:=pO.1 this;have:=UN Z (Y z U) K bv;exact this▸U
  have:=bn.map (·.2)
  rwa[List.map_snd_zip (by omega)] at this
end
end
variable {l0 bks xl:List Nat}
section
variable {fuel:Nat}{listed:Array Bool}
theorem FK(i:Nat)(pure:Bool)(K:s.q=false)(O:Hw n L ops i=some ⟨d,op,ty,p,af,g⟩)
  (U:∀ρ,FA L ρ->∀s':St,(pure=false->∀x o,(BA (AI (l0++bks)) s).E x=some o->s'.E x=some o)->Yl P ⟨d,op,ty,p,af,g⟩ ρ s' v)
  (Y:GY J Q b n ds ops k cs (AI xl) (AI (l0++bks)) (AI l0) fuel (Bf listed i) (Ay L d v) s) (Z:MX ops listed xl pure i=true:=by decide+kernel):GY J Q b n ds ops k cs (AI xl) (AI (l0++bks)) (AI l0) (fuel+1) listed L s:=by
 let⟨ac,ag,ai⟩:=Ra O;exact JB.val i pure ac Z K ag ai U Y
def Te(n:Nat)(L:Env)(ops:Ao_)(i:Nat):Option Env:=
 match Kr ops.toList i with
 | some ⟨d,op,ty,p,af,g⟩=>match AY L ops ⟨d,op,ty,p,af,g⟩ with
  | some true=>match Bo n d with
   | true=>match LV L op with
    | some v=>match d with
     | some d=>some ((d,v)::L)
     | none=>some L
    | none=>none
   | false=>none
  | _=>none
 | none=>none
theorem bJ{i:Nat}(h:Te n L ops i=some L'):∃o v,ops[i]?=some o/\Bo n o.dst=true/\AY L ops o=some true/\LV L o.op=some v/\L'=Ay L o.dst v:=by
 unfold Te at h;split at h
 .rename_i d op ty p af g K;rw[MF,qn] at K;split at h
  .rename_i hw;split at h
   .rename_i O;split at h
    .rename_i v U;refine⟨_,v,K,O,hw,U,?_⟩;cases d with
     | none=>cases h;rfl
     | some d=>cases h;rfl
    .cases h
   .cases h
  .cases h
 .cases h
theorem AS(i:Nat)(K:s.q=false)(h:Te n L ops i=some L')
  (O:GY J Q b n ds ops k cs (AI xl) (AI (l0++bks)) (AI l0) fuel (Bf listed i) L' s) (U:MX ops listed xl true i=true:=by decide+kernel):GY J Q b n ds ops k cs (AI xl) (AI (l0++bks)) (AI l0) (fuel+1) listed L s:=by
 obtain⟨o,v,Y,Z,hw,ac,rfl⟩:=bJ h;exact JB.val i true Y U K hw Z (λρ ag s' _=>PC ag ac) O
end
variable {i2:Nat}
variable {d2:Option Tmp}{x2:Operand}{t2 ty2:TypeId}{p2:String}{af2:Ae_}{g2:On_}
section
variable {i:Nat}
variable {x y:Operand}{e:TypeId}
theorem Ew(O:Aq E H S)(h:∀r E',Le E E'->At E' r 0 v.cells.toList->Aq E' H (S++ [[]])->JL J Q b n (Ay L d (.pointer (some ⟨r,0,none⟩))) ds (.inRegion ops rest::k) cs (Aj E' H (S++ [[]])))
  (U:Fw b n L ops i=some ⟨d,.box e x,ty,p,af,g⟩:=by exact rfl) (Y:ev L x=some v:=by exact rfl):JL J Q b n L ds (.inRegion ops (i::rest)::k) cs (Aj E H S):=by
 let⟨Z,ac,ag⟩:=Lo U;refine JS.box Z ac ag O Y λr ai=>ED (bk:=r) (c:=v.cells) (e:=e) (f:=(0,0)) S.length ai (by simp) λE' hle al K=>?_;have am:(S++ [[(r,Obj.cells v.cells e (0,0))]]).set S.length []=S++ [[]]:=by simp
 rw[am] at K ⊢;exact h r E' hle al K
theorem Cd{z:Value}(K:Aq E H S)(O:zeroOf P e=some z)(h:∀r,Aq E H (S++ [[(r,.cells z.cells e (0,0))]])->JL J Q b n (Ay L d (.pointer (some ⟨r,0,none⟩))) ds (.inRegion ops rest::k) cs (Aj E H (S++ [[(r,.cells z.cells e (0,0))]])))
  (U:Fw b n L ops i=some ⟨d,.alloc e,ty,p,af,g⟩:=by exact rfl):JL J Q b n L ds (.inRegion ops (i::rest)::k) cs (Aj E H S):=by
 let⟨Y,Z,ac⟩:=Lo U;exact JS.alloc Y Z ac K O h
theorem JS.sx{bk:Nat}{c:Av_}(j:Nat)(K:Aq E H S)(O:Bp P t=some sz)
  (h:Aq E H (S.set j [(bk,.cells (A3 c off v.cells.toList) e (0,0))])->JL J Q b n (Ay L d undef) ds (.inRegion ops rest::k) cs (Aj E H (S.set j [(bk,.cells (A3 c off v.cells.toList) e (0,0))])))
  (U:Fw b n L ops i=some ⟨d,.store t x y,ty,p,af,g⟩:=by exact rfl) (Y:ev L x=some (.pointer (some ⟨bk,off,none⟩)):=by exact rfl) (Z:ev L y=some v:=by exact rfl) (ac:S[j]?=some [(bk,.cells c e (0,0))]:=by exact rfl)
  (ag:sz=v.cells.size:=by exact rfl) (hle:off+v.cells.size<=c.size:=by exact pt rfl) (ai:v.cells.toList.all C5=true:=by first | exact rfl | simp[Value.cells,C5]):
  JL J Q b n L ds (.inRegion ops (i::rest)::k) cs (Aj E H S):=Xi j K (by rw[← ag];exact O) U Y Z ac h hle (pJ.1 ai)
theorem CC{bk o:Nat}{O:Array Field}{ws:Lv_}(j:Nat)(Y:At E bk o ws)(Z:P.underlying t=some (.struct O))(ac:Bp P ft=some (sz+1))(ag:DJ P t2=some false)
  (ai:JL J Q b n (Ay (Ay L d (.pointer (some ⟨bk,c2+off,none⟩))) d2 v) ds (.inRegion ops rest::k) cs (Aj E H S))
  (al:Fw b n L ops i=some ⟨d,.fieldAddr t x U,ty,p,af,g⟩:=by exact rfl) (am:ev L x=some (.pointer (some ⟨bk,c2,none⟩)):=by exact rfl) (ap:NP O U=some (off,ft):=by exact rfl)
  (aq:Fw b n (Ay L d (.pointer (some ⟨bk,c2+off,none⟩))) ops i2=some ⟨d2,.load t2 x2,ty2,p2,af2,g2⟩:=by exact rfl) (av:ev (Ay L d (.pointer (some ⟨bk,c2+off,none⟩))) x2=some (.pointer (some ⟨bk,o+j,none⟩)):=by exact rfl) (aw:ws[j]?=some v:=by exact rfl):
  JL J Q b n L ds (.inRegion ops (i::i2::rest)::k) cs (Aj E H S):=JL.fd Z ac al am ap (DC j Y ag aq av aw ai)
theorem JS.ix{α:Type}{pp:Rp α}{a:Option Addr}{c:Nat}{xs:List α}{xv:α}{m:Int}{kd:IntKind}(K:Ap pp E a c xs)(hm:ix xs m=some xv)(O:P.underlying t=some (.slice e))(U:Bp P e=some pp.n)
  (h:∀bk o ws,pp.r E ws xv->At E bk o ws->JL J Q b n (Ay L d (.pointer (some ⟨bk,o,none⟩))) ds (.inRegion ops rest::k) cs (Aj E H S))
  (Y:Fw b n L ops i=some ⟨d,.indexAddr t x y,ty,p,af,g⟩:=by exact rfl) (Z:ev L x=some (.slice a xs.length c):=by exact rfl) (ac:ev L y=some (.int kd m):=by exact rfl):
  JL J Q b n L ds (.inRegion ops (i::rest)::k) cs (Aj E H S):=by
 let⟨ag,ai,al⟩:=Lo Y;exact V6 K hm ag ai al Z ac O U h
theorem Fc(S0:List Seg)(K:Env){c:Code}(O:∀E',Le E E'->Aq E' H S0->JL J Q b n K ds todo cs (Aj E' H S0))
  (h:(∀{E':LH}{L:Env},Le E E'->Aq E' H S0->IV L K=IY K->JL J Q b n L ds todo cs (Aj E' H S0))->JL J Q b n L ds (.code c::todo) cs (Aj E H S)):JL J Q b n L ds (.code c::todo) cs (Aj E H S):=
 h λU Y Z=>AF (O _ U Y) Z
theorem Ga{O:List Nat}(U Y:Nat)(S0:List Seg)(K:Env)(Z:∀E',Le E E'->Aq E' H S0->JL J Q b n K ds (.inRegion ops (List.range' U Y)::todo) cs (Aj E' H S0))
  (h:(∀{E':LH}{L:Env},Le E E'->Aq E' H S0->IV L K=IY K->JL J Q b n L ds (.inRegion ops (List.range' U Y)::todo) cs (Aj E' H S0))->JL J Q b n L ds (.inRegion ops O::todo) cs (Aj E H S)):JL J Q b n L ds (.inRegion ops O::todo) cs (Aj E H S):=
 h λac ag ai=>AF (Z _ ac ag) ai
theorem Ez{ac:Type}{c:Code}{body:β->Option (Bj β ac)}{f:Nat}{U:β}{a:ac}{Y:LH}{k:Li_}(ai:iter body f U=some a)(S0:β->List Seg)(O:β->Env)(hle:Le Y E)(al:Aq E H (S0 U))
  (round:∀x E',Le Y E'->Aq E' H (S0 x)->(∀ag,body x=some (.done ag)->ag=a)->(∃st,body x=some st)->(∀{L':Env}{Z:LH}(x':β),Le Y Z->Aq Z H (S0 x')->IV L' (O x')=IY (O x')->body x=some (.more x')->JL J Q b n L' ds (.inLoop c::k) cs (Aj Z H (S0 x')))->JL J Q b n (O x) ds (.code c:: .inLoop c::k) cs (Aj E' H (S0 x)))
  (am:IV L (O U)=IY (O U):=by exact rfl) (ap:Aj E H S=Aj E H (S0 U):=by exact rfl):JL J Q b n L ds (.code (.loop c)::k) cs (Aj E H S):=by
 rw[ap];refine EV _ am (U4 ai (λL s x=>∃E',Jm Y H E' (S0 x) (O x) L s) ⟨E,V,V,hle,al⟩ ?_);rintro _ _ x ⟨E',rfl,rfl,aq,av⟩ hd hb aw;exact round x E' aq av hd hb λx' ay g2 az a0=>AF (aw _ _ x' ⟨_,V,V,ay,g2⟩ a0) az
theorem Bu{c:Code}{E:LH}{B:Seg}(O:P.funcs[f]?=some fn)
  (h:∀(Q:Gs_) (K:Frame) (cs:Lf_) (H:LH),Aq E H [B]->(∀{v:Value}{E':LH}{S':List Seg}{B':Seg},Le E E'->S'.flatten=B'->R v E' B'->Aq E' H S'->J.ok Q (G (K.finish v) cs) (Aj E' H S'))->JL J Q (base f) fn.ntmps (GQ 0 vs) [] [.code c] (K::cs) (Aj E H [B]))
  (hb:fn.body=some c:=by exact rfl) (U:Nat.ble vs.length fn.ntmps=true:=by exact rfl):A6 J f vs E B R:=
 SC O hb U λQ K cs H Y Z=>h Q K cs H Y λac ag ai al=>Z _ _ _ _ ac ag ai al
variable {fuel:Nat}{listed:Array Bool}
theorem G9{bk:Nat}{c:Av_}{f:Nat×Nat}(i:Nat)(K:El ops m=true)(o:Nat)(j:Nat)(O:Aq E H S)(U:DJ P t=some false)
  (Y:AT J Q b n ds ops k cs m (AI bks) fuel (Bf listed i) (Ay L d w) (Aj E H S)) (Z:Hw n L ops i=some ⟨d,.load t x,ty,p,af,g⟩:=by exact rfl) (ac:ev L x=some (.pointer (some ⟨bk,o,none⟩)):=by exact rfl)
  (ag:S[j]?=some [(bk,.cells c e f)]:=by exact rfl) (hw:c[o]?=some w:=by exact rfl) (ai:AI bks bk=true:=by simp[AI]) (al:GX ops listed m i=true:=by decide+kernel):AT J Q b n ds ops k cs m (AI bks) (fuel+1) listed L (Aj E H S):=
 AP i K V Z (λρ h s' am=>Yl.load U (h _ _ ac) (BR (o:=o) j O ag ai am hw)) Y al
theorem JG.lp{bk o:Nat}{ws:Lv_}(i:Nat)(K:El ops m=true)(j:Nat)(O:At E bk o ws)(U:Aq E H S)(Y:Il S bks)(Z:DJ P t=some false)
  (ac:AT J Q b n ds ops k cs m (AI bks) fuel (Bf listed i) (Ay L d w) (Aj E H S)) (ag:Hw n L ops i=some ⟨d,.load t x,ty,p,af,g⟩:=by exact rfl) (ai:ev L x=some (.pointer (some ⟨bk,o+j,none⟩)):=by exact rfl)
  (hw:ws[j]?=some w:=by exact rfl) (al:GX ops listed m i=true:=by decide+kernel):AT J Q b n ds ops k cs m (AI bks) (fuel+1) listed L (Aj E H S):=
 AP i K V ag (λρ h s' am=>Yl.load Z (h _ _ ai) (At.SU (j:=j) O (gZ U am Y) hw)) ac al
theorem Xk{bk o:Nat}{c:Av_}{f:Nat×Nat}(i:Nat)(K:El ops m=true)(vs:Lv_)(j:Nat)(O:Aq E H S)(hw:∀(q:Nat) w,vs[q]?=some w->c[o+q]?=some w)(U:DJ P t=some true)(Y:Bp P t=some sz)
  (Z:AT J Q b n ds ops k cs m (AI bks) fuel (Bf listed i) (Ay L d (.agg vs.toArray)) (Aj E H S)) (ac:Hw n L ops i=some ⟨d,.load t x,ty,p,af,g⟩:=by exact rfl) (ag:ev L x=some (.pointer (some ⟨bk,o,none⟩)):=by exact rfl)
  (ai:S[j]?=some [(bk,.cells c e f)]:=by exact rfl) (al:sz=vs.length:=by exact rfl) (am:AI bks bk=true:=by simp[AI]) (ap:GX ops listed m i=true:=by decide+kernel):AT J Q b n ds ops k cs m (AI bks) (fuel+1) listed L (Aj E H S):=
 AP i K V ac (λρ h s' aq=>Ia (vs:=vs) U (by rw[← al];exact Y) (h _ _ ag) (λq w av=>by rw[Ek rfl];exact BR j O ai am aq (hw q w av))) Z ap
theorem JG.ix{D:Nat->Bool}{α:Type}{xs:List α}{xv:α}{bk c:Nat}{kd:IntKind}(i:Nat)(U:El ops m=true)(Y:xs.length=c2)(hm:ix xs p1=some xv)(Z:P.underlying t=some (.slice e))(ac:Bp P e=some sz)
  (ag:AT J Q b n ds ops k cs m D fuel (Bf listed i) (Ay L d (.pointer (some ⟨bk,p1.toNat*sz,none⟩))) s) (ai:s.q=false:=by exact rfl) (al:Hw n L ops i=some ⟨d,.indexAddr t x y,ty,p,af,g⟩:=by exact rfl)
  (am:ev L x=some (.slice (some ⟨bk,0,none⟩) c2 c):=by exact rfl) (ap:ev L y=some (.int kd p1):=by exact rfl) (aq:GX ops listed m i=true:=by decide+kernel):AT J Q b n ds ops k cs m D (fuel+1) listed L s:=
 AP i U ai al (λρ h s' av=>EH Y hm Z ac (h _ _ am) (h _ _ ap)) ag aq
theorem JB.ix{l0 bks:List Nat}{α:Type}{xs:List α}{xv:α}{bk c:Nat}{kd:IntKind}(i:Nat)(U:xs.length=c2)(hm:ix xs p1=some xv)(Y:P.underlying t=some (.slice e))(Z:Bp P e=some sz)
  (ac:GY J Q b n ds ops k cs (AI xl) (AI (l0++bks)) (AI l0) fuel (Bf listed i) (Ay L d (.pointer (some ⟨bk,p1.toNat*sz,none⟩))) s) (ag:s.q=false:=by exact rfl) (ai:Hw n L ops i=some ⟨d,.indexAddr t x y,ty,p,af,g⟩:=by exact rfl)
  (al:ev L x=some (.slice (some ⟨bk,0,none⟩) c2 c):=by exact rfl) (am:ev L y=some (.int kd p1):=by exact rfl) (ap:MX ops listed xl true i=true:=by decide+kernel):GY J Q b n ds ops k cs (AI xl) (AI (l0++bks)) (AI l0) (fuel+1) listed L s:=
 FK i true ag ai (λρ h s' aq=>EH U hm Y Z (h _ _ al) (h _ _ am)) ac ap
theorem W7{l0:List Nat}{bk o:Nat}{c:Av_}{f:Nat×Nat}(i:Nat)(vs:Lv_)(j:Nat)(K:Aq E H S)(hw:∀(q:Nat) w,vs[q]?=some w->c[o+q]?=some w)(O:DJ P t=some true)(U:Bp P t=some sz)
  (Y:GY J Q b n ds ops k cs (AI xl) (AI (l0++bks)) (AI l0) fuel (Bf listed i) (Ay L d (.agg vs.toArray)) (Aj E H S)) (Z:Hw n L ops i=some ⟨d,.load t x,ty,p,af,g⟩:=by exact rfl) (ac:ev L x=some (.pointer (some ⟨bk,o,none⟩)):=by exact rfl)
  (ag:S[j]?=some [(bk,.cells c e f)]:=by exact rfl) (ai:sz=vs.length:=by exact rfl) (al:AI (l0++bks) bk=true:=by simp[AI]) (am:MX ops listed xl false i=true:=by decide+kernel):GY J Q b n ds ops k cs (AI xl) (AI (l0++bks)) (AI l0) (fuel+1) listed L (Aj E H S):=
 FK i false V Z (λρ h s' ap=>Ia (vs:=vs) O (by rw[← ai];exact U) (h _ _ ac) (λq w aq=>by rw[Ek rfl];exact BR j K ag al (ap rfl) (hw q w aq))) Y am
theorem JB.sx{l0 bks:List Nat}{bk:Nat}{c:Av_}(i j:Nat)(K:Aq E H S)(O:Bp P t=some sz)(U:Oh S j l0)(hle:off+sz<=c.size)
  (h:Aq E H (S.set j [(bk,.cells (A3 c off v.cells.toList) e (0,0))])->GY J Q b n ds ops k cs (AI xl) (AI (l0++bks)) (AI l0) fuel (Bf listed i) (Ay L d undef) (Aj E H (S.set j [(bk,.cells (A3 c off v.cells.toList) e (0,0))])))
  (Y:Hw n L ops i=some ⟨d,.store t x y,ty,p,af,g⟩:=by exact rfl) (Z:ev L x=some (.pointer (some ⟨bk,off,none⟩)):=by exact rfl) (ac:ev L y=some v:=by exact rfl) (ag:S[j]?=some [(bk,.cells c e (0,0))]:=by exact rfl)
  (ai:sz=v.cells.size:=by exact rfl) (al:v.cells.toList.all C5=true:=by first | exact rfl | simp[Value.cells,C5]) (am:Region.ready .any ops listed=[i]:=by decide+kernel) (ap:AI xl i=true:=by decide+kernel):
  GY J Q b n ds ops k cs (AI xl) (AI (l0++bks)) (AI l0) (fuel+1) listed L (Aj E H S):=by
 let⟨aq,av,aw⟩:=Ra Y;subst ai;exact JB.store i j am ap aq av aw K Z ac O (pJ.1 al) ag U hle h
end
abbrev s8(s:Nat):Value:=.int .u8 (s:Int)
def MR(a:Nat)(n:Int):Option Nat:=if 0<=n/\n<=8 then some (a>>>n.toNat) else none
def LX(a b:Nat):Option Nat:=if a<256/\b<256 then some (a|||b) else none
def MP(a b:Nat):Option Nat:=if a<256/\b<256 then some (a&&& b) else none
variable {a c:Nat}
section
variable {x y:Operand}{b r:Nat}{m:Int}
theorem W9{m:Nat}(h:m<256):IntKind.u8.wrap (m:Int)=m:=by
 simp only[IntKind.wrap,IntKind.bits,IntKind.signed];simp;omega
theorem QE{m:Nat}(h:m<256):(BitVec.ofInt IntKind.u8.bits (m:Int)).toNat=m:=by
 simp[IntKind.bits,s4];omega
theorem iI{k:Nat}(a c:Nat)(K:c<=k):((a:Int).fdiv (2^(min c k)))=((a>>>c:Nat):Int):=by
 rw[ra K,ry,rr _ (Int.pow_nonneg (by decide)),Int.natCast_ediv]
 rfl
theorem UR(K:ρ x=s8 a)(O:ρ y=iV m)(h:MR a m=some r):Yl P ⟨d,.binOp .shr t x y u,ty,p,af,g⟩ ρ s (s8 r):=by
 unfold MR at h;split at h;rename_i U;cases h;have h:=Yl.shr (P:=P) (s:=s) (d:=d) (t:=t) (u:=u) (ty:=ty) (p:=p) (af:=af) (g:=g) K O U.1;rw[show IntKind.u8.bits=8 from rfl,iI a m.toNat (by omega)] at h;exact h;cases h
theorem O9(O:ρ x=s8 a)(U:ρ y=s8 b)(h:LX a b=some r):Yl P ⟨d,.binOp .or t x y u,ty,p,af,g⟩ ρ s (s8 r):=by
 unfold LX at h;split at h;rename_i K;cases h;have h:=Yl.or (P:=P) (s:=s) (d:=d) (t:=t) (u:=u) (ty:=ty) (p:=p) (af:=af) (g:=g) O U;rw[BitVec.toNat_or,QE K.1,QE K.2,W9 (sG (n:=8) K.1 K.2)] at h;exact h;cases h
theorem U5(O:ρ x=s8 a)(U:ρ y=s8 b)(h:MP a b=some r):Yl P ⟨d,.binOp .and t x y u,ty,p,af,g⟩ ρ s (s8 r):=by
 unfold MP at h;split at h;rename_i K;cases h;have h:=Yl.and (P:=P) (s:=s) (d:=d) (t:=t) (u:=u) (ty:=ty) (p:=p) (af:=af) (g:=g) O U;rw[r5,QE K.1,QE K.2,W9 (q4 tu K.1)] at h;exact h;cases h
end
def Sn(a b:Nat):Option Nat:=if a<4294967296/\b<4294967296 then some (a&&& b) else none
def SA(a:Nat)(n:Int):Option Nat:=if 0<=n/\n<=32/\a*2^n.toNat<4294967296 then some (a*2^n.toNat) else none
def Ja(n:Int):Option Nat:=if 0<=n/\n<=8 then some ((1<<<n.toNat)%256) else none
section
variable {e:TypeId}{x y:Operand}{b r:Nat}{m:Int}
theorem wrap32{m:Nat}(h:m<4294967296):IntKind.u32.wrap (m:Int)=m:=by
 simp only[IntKind.wrap,IntKind.bits,IntKind.signed];simp;omega
theorem Xw{m:Nat}(h:m<4294967296):(BitVec.ofInt IntKind.u32.bits (m:Int)).toNat=m:=by
 simp[IntKind.bits,s4];omega
theorem ZG(O:ρ x=.int .u32 (a:Int))(U:ρ y=.int .u32 (b:Int))(h:Sn a b=some r):Yl P ⟨d,.binOp .and t x y u,ty,p,af,g⟩ ρ s (.int .u32 (r:Int)):=by
 unfold Sn at h;split at h;rename_i K;cases h;have h:=Yl.and (P:=P) (s:=s) (d:=d) (t:=t) (u:=u) (ty:=ty) (p:=p) (af:=af) (g:=g) O U;rw[r5,Xw K.1,Xw K.2,wrap32 (q4 tu K.1)] at h;exact h;cases h
theorem Zl(O:ρ x=.int .u32 (a:Int))(U:ρ y=iV m)(h:SA a m=some r):Yl P ⟨d,.binOp .shl t x y u,ty,p,af,g⟩ ρ s (.int .u32 (r:Int)):=by
 unfold SA at h;split at h
 .rename_i K;cases h;have h:=Yl.shl (P:=P) (s:=s) (d:=d) (t:=t) (u:=u) (ty:=ty) (p:=p) (af:=af) (g:=g) O U K.1;have e:IntKind.u32.wrap ((a:Int)*2^(min m.toNat IntKind.u32.bits))=((a*2^m.toNat:Nat):Int):=by
   have Y:min m.toNat IntKind.u32.bits=m.toNat:=by simp[IntKind.bits];omega
   rw[Y,← wrap32 K.2.2];simp
  rw[e] at h;exact h
 .cases h
theorem Nu(K:ρ x=s8 1)(O:ρ y=iV m)(h:Ja m=some r):Yl P ⟨d,.binOp .shl t x y u,ty,p,af,g⟩ ρ s (s8 r):=by
 unfold Ja at h;split at h
 .rename_i U;cases h;have h:=Yl.shl (P:=P) (s:=s) (d:=d) (t:=t) (u:=u) (ty:=ty) (p:=p) (af:=af) (g:=g) K O U.1;have e:IntKind.u8.wrap (((1:Nat):Int)*2^(min m.toNat IntKind.u8.bits))=(((1<<<m.toNat)%256:Nat):Int):=
   (by decide:∀k:Fin 9,IntKind.u8.wrap (((1:Nat):Int)*2^(min k.1 IntKind.u8.bits))=(((1<<<k.1)%256:Nat):Int)) ⟨m.toNat,by omega⟩
  rw[e] at h;exact h
 .cases h
theorem bj(K:ρ x=s8 a)(O:ρ y=s8 b)(hb:b<=256):Yl P ⟨d,.binOp .sub t x y u,ty,p,af,g⟩ ρ s (s8 ((a+(256 - b))%256)):=by
 have h:=Yl.sub (P:=P) (s:=s) (d:=d) (t:=t) (u:=u) (ty:=ty) (p:=p) (af:=af) (g:=g) K O;have e:IntKind.u8.wrap ((a:Int) - (b:Int))=(((a+(256 - b))%256:Nat):Int):=by
  simp only[IntKind.wrap,IntKind.bits,IntKind.signed];simp;omega
 rw[e] at h;exact h
theorem cD{kd:IntKind}{E:LH}(xs:List Nat):(rA xs.length (rN kd)).r E (xs.map λx=>Value.int kd ((x:Nat):Int)) xs:=by
 refine⟨V,xs.map λx=>[Value.int kd ((x:Nat):Int)],?_,by simp,λi x us K hu=>?_⟩
 .induction xs with
  | nil=>rfl
  | cons x xs O=>simp[← O]
 .rw [qe,K] at hu;exact(f5 hu).symm
theorem PI{α:Type}{kk:Nat}{pp:Rp α}{E:LH}{x:α}(h:pp.r E us x):(rA kk pp).r E (List.replicate kk us).flatten (List.replicate kk x):=
 ⟨by simp,List.replicate kk us,V,by simp,λi y ws K hw=>by
  rw[sF] at K hw
  split at K
  .rename_i O
   rw[eS O] at hw
   cases K;cases hw
   exact h
  .cases K⟩
theorem aO{k:Nat}{z v:Value}(K:P.underlying t=some (.array k e))(O:zeroOf P t=some z)(U:Bp P e=some sz)(Y: .agg z.cells=v):Yl P ⟨d,.build t #[],ty,p,af,g⟩ ρ s v:=by
 refine Gp Q6 ?_;unfold Instr.build;refine Az (x:=zeroValue t) _ (H8 O ?_);refine Az _ _ (CG K ?_);refine Az (x:=Go.sizeOf e) _ (Fp U ?_);subst Y;simp[Instr.fill,lp,pure]
theorem dN{k:Nat}{z v:Value}{L:Env}{ps:Array (Nat×Operand)}{vs:List (Nat×Value)}(h:FA L ρ)(U:P.underlying t=some (.array k e))(Y:zeroOf P t=some z)(Z:Bp P e=some sz)(ac:ps.toList.mapM (λq=>(ev L q.2).map λv=>(q.1,v))=some vs)(K:(Instr.fill (λi=>some (i*sz,sz)) z.cells vs).map Value.agg=some v):Yl P ⟨d,.build t ps,ty,p,af,g⟩ ρ s v:=by
 refine Gp Q6 ?_;unfold Instr.build;refine Az (x:=zeroValue t) _ (H8 Y ?_);refine Az _ _ (CG U ?_);refine Az (x:=Go.sizeOf e) _ (Fp Z ?_);have ag:=Q8 h ac;have ai:(ps.map λ(j,x)=>(j,ρ x)).toList=vs:=by rw[← ag,sI]
 rw[ai];cases O:Instr.fill (λi=>some (i*sz,sz)) z.cells vs with
 | none=>rw[O] at K;cases K
 | some cells=>rw[O] at K;cases K;exact⟨rfl,rfl⟩
end
section
variable {e:TypeId}
end
section
variable {fuel:Nat}{listed:Array Bool}
variable {x y:Operand}{e:TypeId}{i:Nat}
end
def HA(b:Frame)(T:Av_)(ds:Ld_)(todo:Li_)(ch:List PanicEntry):Frame:={b with tmps:=T,todo:=todo,defers:=ds,mode:=.panicking ch}
def raised(v:Value):List PanicEntry:=[{v,recovered:=false}]
def taken(v:Value):List PanicEntry:=[{v,recovered:=true}]
section
variable (J:Judge P)(Q:Gs_)
def JP(b:Frame)(n:Nat)(L:Env)(ds:Ld_)(cs:Lf_)(ch:List PanicEntry)(s:St):Prop:=
 ∀T,Has n L T->∀todo,J.ok Q (G (HA b T ds todo ch) cs) s
end
variable {bc:Frame}{dsc:Ld_}{ch:List PanicEntry}{T Tc:Av_}{todoc:Li_}
section
variable {i:Nat}{x:Operand}
theorem JL.panic{t:TypeId}(O:ops[i]?=some ⟨d,.panic x,ty,p,af,g⟩)(U:b.roundOf=none)(hw:AY L ops ⟨d,.panic x,ty,p,af,g⟩=some true)(Y:ev L x=some (.iface t v))
  (h:JP J Q b n L ds cs (raised (.iface t v)) s):JL J Q b n L ds (.inRegion ops (i::rest)::k) cs s:=λT K=>
 Judge.Dv V (λw=>by
  have he:execOp (BL T) ⟨d,.panic x,ty,p,af,g⟩=.halt (.panic (.iface t v)):=by
   simp[execOp,Instr.panic,K.ev Y,goPanic,bind,Sem.bind]
  rw[stepG_op O (Ck K hw)]
  simp[U,stepG.apply,he,Sem.run,Sem.runT,Sem.events,GStep.after,fr,HA,Frame.raise,G,raised,seen_none]) (h T K (.inRegion ops (i::rest)::k))
theorem JP.pop(K:P.funcs[b.fn]?=some fn)(h:J.ok Q (G (HA bc Tc dsc todoc ch) cs) s):JP J Q b n L [] (fr bc Tc dsc todoc::cs) ch s:=λT O todo=>
 Judge.Dv V (λw=>by simp[G,stepG,unwind,HA,fr,Frame.raise,Frame.catches,K]) h
theorem JP.Sl{c:Code}{caps:Lv_}(am:b.roundOf=none)(O:P.funcs[f]?=some fn)(Y:(fn.name== "runtime.NumGoroutine")=false)(hb:fn.body=some c)(Z:(vs++caps).length<=fn.ntmps)
  (h:∀T,Has n L T->∀todo,JL J Q (baseD f) fn.ntmps (GQ 0 (vs++caps)) [] [.code c] (HA b T ds todo ch::cs) s):JP J Q b n L (LJ f vs.toArray caps.toArray::ds) cs ch s:=λT ac todo=>by
 have ag:¬fn.name= "runtime.NumGoroutine" :=by simpa using Y
 refine Judge.Dv rfl (λw=>?_) (h T ac todo ((vs++caps).toArray++Array.replicate (fn.ntmps - (vs++caps).length) undef) ⟨by simp;simp at Z;omega,λt v ai=>?_⟩);rw[BV (b:=baseD f) rfl];have:=enter_atD (P:=P) (vs++caps).toArray O hb;simp only[rf] at this;rw[← this];simp[G,stepG,unwind,callDeferred,HA,LJ,invoke,callFunc,O,ag,hb,GStep.after,seen_none]
 .let⟨_,K⟩:=KF ai;have al:t<(vs++caps).length:=by
   rcases mt t (vs++caps).length with U | U;exact U;simp only[ro] at K;have:=(fx.1 K).1;omega
  rw[pd,qC (by simpa using al)];simp only[ro] at K;rw[pR,K];rfl
theorem Yg{K:List PanicEntry}(O:ops[i]?=some ⟨d,.call ⟨.builtin .recover,#[],ats⟩,ty,p,af,g⟩)(U:b.roundOf=none)(Y:b.kind=.deferred)(ag:Bo n d=true)(hw:AY L ops ⟨d,.call ⟨.builtin .recover,#[],ats⟩,ty,p,af,g⟩=some true)
  (h:JL J Q b n (Ay L d v) ds (.inRegion ops rest::k) (HA bc Tc dsc todoc ({v,recovered:=true}::K)::cs) s):
  JL J Q b n L ds (.inRegion ops (i::rest)::k) (HA bc Tc dsc todoc ({v,recovered:=false}::K)::cs) s:=λT Z=>
 Judge.Dv V (λw=>by
  have he:execOp (BL T) ⟨d,.call ⟨.builtin .recover,#[],ats⟩,ty,p,af,g⟩=.pure .recover:=by
   simp[execOp,resolve,Deferred.ofValue,invoke,bind,Sem.bind,pure,Go.builtin]
  have ac:=G6 (b:=b) (ds:=ds) (k:=k) T ops i rest v _ O
  simp only[fr,U,Y] at ac
  rw[stepG_op O (Ck Z hw)]
  simp[U,Y,stepG.apply,he,Sem.run,Sem.runT,Sem.events,GStep.after,fr,HA,tryRecover,G,seen_none,ac]) (h _ (Z.put ag _))
theorem Yd(K:ops[i]?=some ⟨d,.call ⟨.builtin .recover,#[],ats⟩,ty,p,af,g⟩)(O:b.roundOf=none)(U:b.kind=.deferred)(ac:Bo n d=true)(hw:AY L ops ⟨d,.call ⟨.builtin .recover,#[],ats⟩,ty,p,af,g⟩=some true)
  (h:JL J Q b n (Ay L d .nilIface) ds (.inRegion ops rest::k) (EJ bc Tc dsc todoc::cs) s):
  JL J Q b n L ds (.inRegion ops (i::rest)::k) (EJ bc Tc dsc todoc::cs) s:=λT Y=>
 Judge.Dv V (λw=>by
  have he:execOp (BL T) ⟨d,.call ⟨.builtin .recover,#[],ats⟩,ty,p,af,g⟩=.pure .recover:=by
   simp[execOp,resolve,Deferred.ofValue,invoke,bind,Sem.bind,pure,Go.builtin]
  have Z:=G6 (b:=b) (ds:=ds) (k:=k) T ops i rest .nilIface _ K
  simp only[fr,O,U] at Z
  rw[stepG_op K (Ck Y hw)]
  simp[O,U,stepG.apply,he,Sem.run,Sem.runT,Sem.events,GStep.after,fr,EJ,tryRecover,G,seen_none,Z]) (h _ (Y.put ac _))
theorem JO.fE(O:b.kind=.deferred)(U:P.funcs[b.fn]?=some fn)(K:fn.results=#[])(h:J.ok Q (G (EJ bc Tc dsc todoc) cs) s):JO J Q b n L [] (HA bc Tc dsc todoc (taken v)::cs) s:=λT Z todo=>by
 refine Judge.Dv rfl (λw=>?_) h
 have Y:=results_none K T P w
 have e2:=λ(x:Array Event)=>events_results_none (P:=P) (w:=w) K T x
 simp[G,stepG,unwind,EJ,HA,U,Y,e2,doReturn,O,GStep.after,seen_none,taken]
end
open Go.Proofs
abbrev Dq:=Int×Int×Int
abbrev AH:=List Dq
abbrev AL:=List AH
abbrev Bt:=List (List Int)
abbrev Bq:=Bt×AH
abbrev AE:=rP rI Gz
open Go.Proofs.Tryz
def AW:=A2 Tryz.type3
def BJ:=A2 Tryz.type31
def Gn:=A2 Tryz.type115
def J3:=A2 Tryz.type55
def OB:=A2 Tryz.type174
def By:=Df Tryz.underlying3
def Nh:=Be Tryz.func36 rfl
def FP:=A2 Tryz.type25
def F3:=Df Tryz.underlying25
def Hk:=A2 Tryz.type26
def Jl:=Df Tryz.underlying26
def ER:=Df Tryz.underlying31
def B5:=DL Tryz.type31
def GC:=A2 Tryz.type22
def J1:=Df Tryz.underlying22
def Mn:=DL Tryz.type55
def DK:=A2 Tryz.type28
def Jk:=Df Tryz.underlying55
def J2:=DL Tryz.type115
def ID:=DL Tryz.type51
def Gm:=Df Tryz.underlying28
def Es:=A2 Tryz.type51
def GB:=Df Tryz.underlying51
def Dh:=DL Tryz.type3
def Mk:=Be Tryz.func16 rfl
def QQ:=Be Tryz.func17 rfl
def G5:=Be Tryz.func22 rfl
def Nl:=A2 Tryz.type4
def QI:=Df Tryz.underlying4
def AU:=A2 Tryz.type57
def Bx:=Df Tryz.underlying57
def H7:=A2 Tryz.type149
def H6:=Be Tryz.func18 rfl
def Nj:=DL Tryz.type22
def Nk:=DL Tryz.type4
def Ni:=Be Tryz.func41 rfl
def Mm:=DL Tryz.type155
def IC:=Be Tryz.func113 rfl
def QR:=DL Tryz.type57
def Oq:=Df Tryz.underlying119
def QH:=Df Tryz.underlying60
def QP:=Be Tryz.func19 rfl
def QJ:=Be Tryz.func115 rfl
def QM:=Be Tryz.func98 rfl
def Lb:=Df Tryz.underlying159
def OA:=A2 Tryz.type159
def Oy:=Be Tryz.func40 rfl
def La:=Df Tryz.underlying149
def QL:=DL Tryz.type174
def Oo:=Df Tryz.underlying174
def KC:=A2 Tryz.type108
def Ov:=DL Tryz.type108
def On:=Df Tryz.underlying108
def HG:=Df Tryz.underlying21
def OC:=A2 Tryz.type62
def KB:=DL Tryz.type28
def Ow:=Be Tryz.func33 rfl
def QK:=Be Tryz.func51 rfl
def Ou:=Be Tryz.func26 rfl
def Ox:=Be Tryz.func31 rfl
def QN:=Be Tryz.func10 rfl
def KD:=A2 Tryz.type42
def Ot:=Df Tryz.underlying42
def Ml:=Be Tryz.func13 rfl
def QO:=Be Tryz.func11 rfl
theorem mixed:Tryz.prog.follows .mixedOrders=true:=rfl
theorem hJ:Cg Tryz.prog 31 (rP rI (rP rI rI)) true 2:=Cg.three underlying31 (Cg.int underlying3 AW) (Cg.int underlying3 AW) (Cg.int underlying3 AW) (by decide+kernel) (by decide) (by decide) (by decide) V V V BJ
theorem fq:Cg Tryz.prog 115 (rP rI rI) true 2:=Cg.two underlying115 (Cg.int underlying3 AW) (Cg.int underlying3 AW) (by decide+kernel) (by decide) (by decide) V V Gn
theorem gx:Cg Tryz.prog 55 (rA 5 rI) true 2:=Cg.arr (kk:=5) (Cg.int underlying3 AW) underlying55 J3
theorem fS:Cg Tryz.prog 172 (rA 10 rI) true 2:=Cg.arr (kk:=10) (Cg.int underlying3 AW) underlying172 (A2 type172)
theorem Wj:Cg Tryz.prog 174 (rA 5 (rA 10 rI)) true 3:=Cg.arr (kk:=5) fS underlying174 OB
theorem eO:Cg Tryz.prog 191 (rP (rN .u8) (rA 5 (rA 10 rI))) true 4:=Cg.two underlying191 ((Cg.nat underlying5 (A2 type5)).up (by decide)) Wj (by decide+kernel) (by decide) (by decide) V V (A2 type191)
theorem JC:Hb Tryz.prog 3 rI false:=(Cg.int underlying3 AW).key (by decide)
theorem Sv:Hb Tryz.prog 115 (rP rI rI) true:=fq.key (by decide)
theorem Ww:Hb Tryz.prog 174 (rA 5 (rA 10 rI)) true:=Wj.key (by decide)
theorem WM:Hb Tryz.prog 191 (rP (rN .u8) (rA 5 (rA 10 rI))) true:=eO.key (by decide)
variable {J:Judge Tryz.prog}
def f91(fu_:Nat)(p0:Int)(p1:Int)(p2:Int):Option Bool:=Option.bind (if p1<=p0 then(some (decide (p0<=p2))) else(some false)) λx1=>some x1
variable{p3:Int}{fu_:Nat}
theorem NW{p0:Int}{r:Bool}(K:f91 fu_ p0 p1 p3=some r):A6 J 36 [iV p0,iV p1,iV p3] E [] (λw E' B'=>w=.bool r/\B'=[]):=by
 refine Bu func36 λQ aq cs H O Y=>?_;unfold f91 at K;let⟨x1,Z,ac⟩:=bs K;refine C 10 V (Ga 8 1 [] [(14,.bool x1)] (λav ag ai=>?_) (λU=>?_));refine C 2 V ?_;cases ac;exact Ba func36 V V (Y ag V ⟨V,V⟩ ai);refine I2 10 Z (λal am=>?_) (λal ap=>?_);refine C 4 V ?_;cases am;exact U AQ O V;refine C 4 V ?_;cases ap;exact U AQ O V
def f86(fu_:Nat)(p0:Int×Int×Int)(p1:Int)(p2:Int):Option Int:=(Au (p1 - 1)).bind λK=>(f91 fu_ p0.1 0 K).bind λO=>Option.bind (if(!O)=true then(some true) else((Au (p1 - 1)).bind λU=>(f91 fu_ p0.2.1 0 U).bind λY=>some (!Y))) λZ=>if Z=true then(some 3) else(if p0.1=p0.2.1 then(some 8) else((f91 fu_ p0.2.2 1 p2).bind λac=>if(!ac)=true then(some 1) else(some 0)))
theorem iF{p0:Int×Int×Int}{r:Int}(ag:f86 fu_ p0 p1 p3=some r):A6 J 53 [.agg #[iV p0.1,iV p0.2.1,iV p0.2.2],iV p1,iV p3] E [] (λw E' B'=>w=iV r/\B'=[]):=by
 refine Bu func53 λQ cc cs H aq Y=>?_;unfold f86 at ag;refine C 2 V (Ew aq λr2 ce Z U av=>?_);refine C 6 V (CC 0 U underlying31 AW By ?_);let⟨ci,aw,ay⟩:=bs ag;refine C 1 V (BY aw V V V ?_);let⟨az,a0,a1⟩:=bs ay;refine Dg (NW a0) V V Nh av λco K ai=>Al (v:=.bool (!az)) V (λρ h=>Yl.not (h _ _ V)) ?_;let⟨a2,a3,a4⟩:=bs a1;refine C 1 V (Ga 14 1 [] [(2,iV p3),(3,As r2 0),(21,.bool a2)] (λcp O ac=>?_) (λal=>?_));refine C 2 V (CO a4 (λa5 a6=>?_) (λa5 a7=>?_));refine C 4 V ?_;cases a6;exact Ba func53 V V (Y ((Z.Ad K).Ad O) V ⟨V,V⟩ ac);refine C 2 V (CC 0 (U.M (K.Ad O)) underlying31 AW By ?_);refine CC 1 (U.M (K.Ad O)) underlying31 AW By ?_;refine C 3 V (A4 a7 (λa8 a9=>?_) (λa8 bb=>?_));refine C 4 V ?_;cases a9;exact Ba func53 V V (Y ((Z.Ad K).Ad O) V ⟨V,V⟩ ac);refine C 2 V (CC 2 (U.M (K.Ad O)) underlying31 AW By ?_);let⟨be,bi,bn⟩:=bs bb;refine C 1 V (Dg (NW bi) V V Nh ac λct am ap=>?_);refine Al (v:=.bool (!be)) V (λρ h=>Yl.not (h _ _ V)) (C 2 V ?_);refine CO bn (λbo bv=>?_) (λbo bw=>?_);refine C 4 V ?_;cases bv;exact Ba func53 V V (Y (((Z.Ad K).Ad O).Ad am) V ⟨V,V⟩ ap);refine C 6 V ?_;cases bw;exact Ba func53 V V (Y (((Z.Ad K).Ad O).Ad am) V ⟨V,V⟩ ap);refine FR 14 a3 (λbx bz=>?_) (λbx b0=>?_);refine C 7 V ?_;cases bz;exact al AQ ai V;refine CC 1 (U.M K) underlying31 AW By ?_;let⟨cw,b1,b2⟩:=bs b0;refine C 1 V (BY b1 V V V ?_);let⟨b3,b4,b5⟩:=bs b2;refine Dg (NW b4) V V Nh ai λcy b6 ca=>Al (v:=.bool (!b3)) V (λρ h=>Yl.not (h _ _ V)) (C 1 V ?_);cases b5;exact al b6 ca V
def PZ(fu_:Nat)(O:List Int)(K:Int):Option (Bj Int ((Int)⊕(Unit))):=if K<(O.length:Int) then((ix O K).bind λU=>(f91 fu_ U 1 9).bind λY=>if(!Y)=true then(some (.done (Sum.inl 1))) else((Au (K+1)).bind λZ=>some (.more Z))) else(some (.done (Sum.inr ())))
def P5(fu_:Nat)(p0:Bq)(K:Int):Option (Bj Int ((Int)⊕(Unit))):=if K<(p0.1.length:Int) then((ix p0.1 K).bind λO=>if 3<(O.length:Int) then(some (.done (Sum.inl 6))) else(Option.bind (iter (PZ fu_ O) fu_ 0) λU=>Sum.elim (λr=>some (.done (Sum.inl r))) (λZ=>(Au (K+1)).bind λY=>some (.more Y)) U)) else(some (.done (Sum.inr ())))
def W4(fu_:Nat)(p0:Bq)(K:Int):Option (Bj Int ((Int)⊕(Unit))):=if K<(p0.2.length:Int) then((ix p0.2 K).bind λU=>(f86 fu_ U (p0.1.length:Int) 9).bind λO=>if O≠0 then(some (.done (Sum.inl O))) else((Au (K+1)).bind λY=>some (.more Y))) else(some (.done (Sum.inr ())))
def f47(fu_:Nat)(p0:Bq):Option Int:=if(p0.1.length:Int)<2 then(some 7) else(if 5<(p0.1.length:Int) then(some 6) else(Option.bind (iter (P5 fu_ p0) fu_ 0) λK=>Sum.elim (λr=>some r) (λU=>if 8<(p0.2.length:Int) then(some 6) else(Option.bind (iter (W4 fu_ p0) fu_ 0) λO=>Sum.elim (λr=>some r) (λY=>some 0) O)) K))
variable{p0:Bq}
theorem ir{av:Aw}{aw:Nat}(ct:Ap (rL rI) E a1 c2 p0.1)(cw:Ap AE E av aw p0.2){r:Int}(a7:f47 fu_ p0=some r):A6 J 35 [.agg #[sV a1 p0.1 c2,sV av p0.2 aw]] E [] (λw E' B'=>w=iV r/\B'=[]):=by
 refine Bu func35 λQ hw cs H cy O=>?_;unfold f47 at a7;refine C 2 V (Ew cy λY c0 K Z ay=>?_);refine C 5 V (CC 0 Z underlying28 FP F3 ?_);refine JL.ln underlying25 V V V (C 9 V ?_);refine A4 a7 (λc1 c3=>?_) (λc1 c4=>?_);refine C 4 V ?_;cases c3;exact Ba func35 V V (O K V ⟨V,V⟩ ay);refine C 6 V (A4 c4 (λc5 c6=>?_) (λc5 c7=>?_));refine C 4 V ?_;cases c6;exact Ba func35 V V (O K V ⟨V,V⟩ ay);refine C 5 V (CC 0 Z underlying28 FP F3 ?_);refine JL.ln underlying25 V V V ?_;let⟨a8,c8,az⟩:=bs c7;refine C 2 V (BF (λL s=>∃(a9:Unit) (a0:LH),a8=Sum.inr a9/\Jm c0 H a0 [] [(1,As Y 0)] L s) ?_ ?_);rintro _ _ ⟨a9,a0,rfl,rfl,rfl,U,bb⟩;have c9:=elim_inr az;refine C 3 V (CC 1 (Z.M U) underlying28 Hk Jl ?_);refine JL.ln underlying26 V V V (C 2 V ?_);refine A4 c9 (λdd dj=>?_) (λdd ea=>?_);refine C 4 V ?_;cases dj;exact Ba func35 V V (O (K.Ad U) V ⟨V,V⟩ bb);refine C 4 V (CC 1 (Z.M U) underlying28 Hk Jl ?_);refine JL.ln underlying26 V V V ?_;let⟨be,eb,bi⟩:=bs ea;refine C 2 V (BF (λL s=>∃(bn:Unit) (bo:LH),be=Sum.inr bn/\Jm a0 H bo [] [] L s) ?_ ?_);rintro _ _ ⟨bn,bo,rfl,rfl,rfl,ec,ed⟩;have ee:=elim_inr bi;refine C 4 V ?_;cases ee;exact Ba func35 V V (O ((K.Ad U).Ad ec) V ⟨V,V⟩ ed);intro ef;refine JL.block (Ez eb (λa2=>[]) (λa2=>[(1,As Y 0),(46,sV av p0.2 aw),(47,iV (p0.2.length:Int)),(48,iV a2)]) AQ bb ?_);rintro a2 eg ac bv bw ⟨hx,am⟩ ej;have bx:=am;unfold W4 at bx;refine C 5 V (A4 bx (λek el=>?_) (λek em=>?_));let⟨hy,eo,ep⟩:=bs el;refine C 5 V (JS.ix (cw.M ((K.Ad U).Ad ac)) eo underlying26 BJ ?_);rintro hz hA _ ⟨_,_,rfl,rfl,⟨_,_,rfl,rfl,rfl⟩⟩ er;refine Du er ER BJ V V (Cd bv B5 λhB eu=>?_);refine JS.sx 0 eu BJ λew=>?_;refine ED 0 ew V λhC a3 ex ey=>C 3 V (Du ex ER BJ V V ?_);refine CC 0 (Z.M ((U.Ad ac).Ad a3)) underlying28 FP F3 ?_;refine JL.ln underlying25 V V V ?_;let⟨hD,eA,eC⟩:=bs ep;refine Dg (iF eA) V V (Be func53 V) ey λhE bz b0=>C 7 V (A4 eC (λeN e0=>?_) (λeN e1=>?_));refine C 5 V ?_;cases e0;obtain rfl:=bw _ am;have e3:=elim_inl bi;cases e3;exact Ba func35 V V (O ((((K.Ad U).Ad ac).Ad a3).Ad bz) V ⟨V,V⟩ b0);let⟨e4,e5,e6⟩:=bs e1;refine C 3 V (Bz e5 V V V ?_);refine C 2 V ?_;cases e6;exact ej e4 ((ac.Ad a3).Ad bz) b0 V am;refine JL.exit V ?_;cases em;have e7:be=(Sum.inr ()):=(bw _ am).symm;exact AF (ef _ _ ⟨(),eg,e7,V,V,ac,bv⟩) V;intro e8;refine JL.block (Ez c8 (λag=>[]) (λag=>[(1,As Y 0),(21,sV a1 p0.1 c2),(22,iV (p0.1.length:Int)),(23,iV ag)]) AQ ay ?_);rintro ag b1 ai a4 a5 ⟨hF,al⟩ ff;have b2:=al;unfold P5 at b2;refine C 5 V (A4 b2 (λfk fl=>?_) (λfk fm=>?_));let⟨b3,fo,fs⟩:=bs fl;refine C 5 V (JS.ix (ct.M (K.Ad ai)) fo underlying25 GC ?_);rintro hG hH _ ⟨fv,fw,rfl,fN⟩ gc;refine DC 0 gc J1 V V V (C 6 V ?_);refine JL.ln underlying22 V V V (C 2 V ?_);refine A4 fs (λge gg=>?_) (λge gh=>?_);refine C 4 V ?_;cases gg;obtain rfl:=a5 _ al;have gt:=elim_inl az;cases gt;exact Ba func35 V V (O (K.Ad ai) V ⟨V,V⟩ a4);refine C 4 V (JL.ln underlying22 V V V ?_);let⟨b4,gB,b5⟩:=bs gh;refine C 2 V (BF (λL s=>∃(b6:Unit) (ca:LH),b4=Sum.inr b6/\Jm b1 H ca [] [(1,As Y 0),(21,sV a1 p0.1 c2),(22,iV (p0.1.length:Int)),(23,iV ag)] L s) ?_ ?_);rintro _ _ ⟨b6,ca,rfl,rfl,rfl,gE,gO⟩;have g1:=elim_inr b5;let⟨g3,g4,g5⟩:=bs g1;refine C 2 V (Bz g4 V V V ?_);refine C 2 V ?_;cases g5;exact ff g3 (ai.Ad gE) gO V al;intro g6;refine JL.block (Ez gB (λa6=>[]) (λa6=>[(1,As Y 0),(21,sV a1 p0.1 c2),(22,iV (p0.1.length:Int)),(23,iV ag),(30,sV fv b3 fw),(31,iV (b3.length:Int)),(32,iV a6)]) AQ a4 ?_);rintro a6 g7 ap cc ce ⟨hI,aq⟩ g8;have ci:=aq;unfold PZ at ci;refine C 5 V (A4 ci (λha hb=>?_) (λha hc=>?_));let⟨hK,he,hf⟩:=bs hb;refine C 5 V (JS.ix (fN.M ap) he underlying22 AW ?_);rintro hL hM _ rfl hg;refine DC 0 hg By V V V ?_;let⟨hj,hk,hl⟩:=bs hf;refine C 5 V (Dg (NW hk) V V Nh cc λhN co cp=>?_);refine Al (v:=.bool (!hj)) V (λρ h=>Yl.not (h _ _ V)) (JL.done ?_);refine CO hl (λhm hn=>?_) (λhm ho=>?_);refine C 4 V ?_;cases hn;obtain rfl:=ce _ aq;have hp:=elim_inl b5;cases hp;obtain rfl:=a5 _ al;have hq:=elim_inl az;cases hq;exact Ba func35 V V (O (((K.Ad ai).Ad ap).Ad co) V ⟨V,V⟩ cp);let⟨hr,hs,ht⟩:=bs ho;refine C 3 V (Bz hs V V V ?_);refine C 2 V ?_;cases ht;exact g8 hr (ap.Ad co) cp V aq;refine JL.exit V ?_;cases hc;have hu:b4=(Sum.inr ()):=(ce _ aq).symm;exact AF (g6 _ _ ⟨(),g7,hu,V,V,ap,cc⟩) V;refine JL.exit V ?_;cases fm;have hv:a8=(Sum.inr ()):=(a5 _ al).symm;exact AF (e8 _ _ ⟨(),b1,hv,V,V,ai,a4⟩) V
def P0(fu_:Nat)(p0:Bq)(O:(List Int)×Int):Option (Bj ((List Int)×Int) ((List Int))):=if O.2<(p0.2.length:Int) then((ix p0.2 O.2).bind λK=>(ix O.1 K.2.1).bind λY=>(Au (Y+K.2.2)).bind λU=>(ix O.1 K.2.1).bind λai=>(ix (O.1.set (Int.toNat K.2.1) U) K.1).bind λZ=>(Au (Z - K.2.2)).bind λac=>(ix (O.1.set (Int.toNat K.2.1) U) K.1).bind λal=>(Au (O.2+1)).bind λag=>some (.more (((O.1.set (Int.toNat K.2.1) U).set (Int.toNat K.1) ac),ag))) else(some (.done O.1))
def f84(fu_:Nat)(p0:Bq):Option ((List Int)):=Option.bind (iter (P0 fu_ p0) fu_ ((List.replicate 5 (0:Int)),0)) λK=>some K
variable{a7:Aw}{a8:Nat}
theorem SJ(e1:Ap (rL rI) E a1 c2 p0.1)(cc:Ap AE E a7 a8 p0.2){r:(List Int)}(bv:f84 fu_ p0=some r):A6 J 17 [.agg #[sV a1 p0.1 c2,sV a7 p0.2 a8]] E [] (λw E' B'=>∃(bw:Lv_),w=.agg bw.toArray/\B'=[]/\(rA 5 rI).r E' bw r):=by
 refine Bu func17 λQ e3 cs H ce ci=>?_;unfold f84 at bv;refine C 2 V (Ew ce λe4 a0 bx co cp=>?_);refine Cd cp Mn λa2 ct=>?_;refine C 3 V (Cd ct Mn λU cw=>?_);refine C 4 V (JL.fd underlying51 DK V V V ?_);refine CC 1 co underlying28 Hk Jl ?_;refine JL.ln underlying26 V V V ?_;let⟨cy,c0,c1⟩:=bs bv;refine C 2 V (BF (λL s=>∃(av:LH) (Y:Lv_),Jn a0 H av [bX a2 (([]:Lv_)++(List.replicate 5 (iV 0):Lv_)).toArray 55,bX U (([]:Lv_)++Y).toArray 55] [(2,As a2 0),(3,As U 0)] L s ((rA 5 rI).r av Y cy)) ?_ ?_);rintro _ _ ⟨av,Y,rfl,rfl,c3,bz,ac⟩;refine C 2 V (Al (v:=.agg Y.toArray) V (λρ h=>IP (kk:=5) (pp:=rI) ac Jk J3 (h _ _ V) (Hl (l:=[]) 1 bz V)) ?_);refine H9 (v:=.agg Y.toArray) (l:=[]) (ws:=(List.replicate 5 (iV 0):Lv_)) (us:=Y) (o:=0) 0 V V V bz V V V (by rw[Ct (kk:=5) (pp:=rI) ac];exact A2 type55) ((rA 5 rI).one ac) V (by rw[Ct (kk:=5) (pp:=rI) ac,Ct (kk:=5) (pp:=rI) (Hq (E:=av) (pp:=rI) rfl)];omega) λb0=>?_;rw[KJ (by rw[Ct (kk:=5) (pp:=rI) ac,Ct (kk:=5) (pp:=rI) (Hq (E:=av) (pp:=rI) rfl)])] at b0 ⊢;refine JL.done (JS.drop 1 b0 V λb1=>?_);cases c1;refine JL.ret (v:=.agg Y.toArray) V V (BO.list func17 V (vs:=[.agg Y.toArray]) ⟨⟨_,V,Ld.many (vs:=Y) Jk (by rw[Ct (kk:=5) (pp:=rI) ac];exact A2 type55) (Hl (l:=[]) 0 b1 V)⟩,trivial⟩) (ES 0 b1 V λc4=>?_);exact ci (bx.Ad c3) V ⟨Y,V,V,ac⟩ c4
 .intro c5;refine JL.block (Cv c0 (λL s ai=>∃(a3:LH) (al:Lv_),Jn a0 H a3 [bX a2 (([]:Lv_)++(List.replicate 5 (iV 0):Lv_)).toArray 55,bX U (([]:Lv_)++al).toArray 55] [(2,As a2 0),(3,As U 0),(8,sV a7 p0.2 a8),(9,iV (p0.2.length:Int)),(10,iV ai.2)] L s ((rA 5 rI).r a3 al ai.1)) ⟨a0,(List.replicate 5 (iV 0):Lv_),V,V,AQ,cw,(Hq (E:=a0) (pp:=rI) V)⟩ ?_);rintro _ _ ai ⟨a3,al,rfl,rfl,a9,b2,am⟩ c6 ⟨e5,bb⟩ c7;have b3:=bb;unfold P0 at b3;refine C 5 V (A4 b3 (λc8 c9=>?_) (λc8 dd=>?_))
  .let⟨K,dj,ea⟩:=bs c9;refine C 5 V (JS.ix (cc.M (bx.Ad a9)) dj underlying26 BJ ?_);rintro e6 e7 _ ⟨_,_,rfl,rfl,⟨_,_,rfl,rfl,rfl⟩⟩ eb;refine Du eb ER BJ V V (Cd b2 B5 λe8 ec=>?_);refine JS.sx 2 ec BJ λed=>?_;refine ED 2 ed V λbe ap a4 aw=>C 2 V (Em 6 [U] ⟨⟨1,_,V⟩,trivial⟩ aw λO=>?_);refine JG.fd 0 O underlying31 AW V V V V (JG.lp 1 O 1 a4 aw ⟨⟨1,_,V⟩,trivial⟩ By ?_);let⟨ee,b4,ef⟩:=bs ea;obtain⟨_,rfl,_,_,eg⟩:=Ib (kk:=5) (pp:=rI) (Rp.M _ ap am) b4;refine AP (v:=.pointer (some ⟨U,0+Int.toNat (K.2.1)*1,none⟩)) 2 O V V (λρ h s' ay=>J9 (kk:=5) (pp:=rI) (Rp.M _ ap am) b4 underlying55 AW (h _ _ V) (h _ _ V)) (AP (v:=iV ee) 3 O V V (λρ h s' ay=>Yl.load By (h _ _ V) (ON (l:=[]) 1 aw V (by simp[AI]) ay (eg 0 _ V))) ?_);refine JG.fd 4 O underlying31 AW V V V V (JG.lp 5 O 2 a4 aw ⟨⟨1,_,V⟩,trivial⟩ By ?_);refine Dl [6,7,8] ?_;let⟨Z,ej,ek⟩:=bs ef;refine Bz ej V V V ?_;let⟨ff,bi,el⟩:=bs ek;obtain⟨_,rfl,_,_,fk⟩:=Ib (kk:=5) (pp:=rI) (Rp.M _ ap am) bi;refine Al (v:=.pointer (some ⟨U,0+Int.toNat (K.2.1)*1,none⟩)) V (λρ h=>J9 (kk:=5) (pp:=rI) (Rp.M _ ap am) bi underlying55 AW (h _ _ V) (h _ _ V)) ?_;have a5:=PW (us:=[iV Z]) (y:=Z) (Rp.M _ ap am) bi V;refine H9 (v:=iV Z) (l:=[]) (ws:=al) (us:=[iV Z]) (o:=Int.toNat (K.2.1)*1) 1 V V V aw V V V AW (by simp[Value.cells,C5]) V a5.2 λaq=>?_;replace a5:=a5.1;generalize em:I8 al (Int.toNat (K.2.1)*1) [iV Z]=bn at aq ⊢;have az:(rA 5 rI).r be bn (ai.1.set (Int.toNat K.2.1) Z):=by rw[← em];exact a5
   refine JL.done (Em 6 [U] ⟨⟨1,_,V⟩,trivial⟩ aq λO=>?_);refine JG.fd 0 O underlying31 AW V V V V (JG.lp 1 O 0 a4 aq ⟨⟨1,_,V⟩,trivial⟩ By ?_);let⟨eo,b5,ep⟩:=bs el;obtain⟨_,rfl,_,_,er⟩:=Ib (kk:=5) (pp:=rI) az b5;refine AP (v:=.pointer (some ⟨U,0+Int.toNat (K.1)*1,none⟩)) 2 O V V (λρ h s' ay=>J9 (kk:=5) (pp:=rI) az b5 underlying55 AW (h _ _ V) (h _ _ V)) (AP (v:=iV eo) 3 O V V (λρ h s' ay=>Yl.load By (h _ _ V) (ON (l:=[]) 1 aq V (by simp[AI]) ay (er 0 _ V))) ?_);refine JG.fd 4 O underlying31 AW V V V V (JG.lp 5 O 2 a4 aq ⟨⟨1,_,V⟩,trivial⟩ By ?_);refine Dl [6,7,8] ?_;let⟨ag,eu,ew⟩:=bs ep;refine BY eu V V V ?_;let⟨fl,bo,ex⟩:=bs ew;obtain⟨_,rfl,_,_,fm⟩:=Ib (kk:=5) (pp:=rI) az bo;refine Al (v:=.pointer (some ⟨U,0+Int.toNat (K.1)*1,none⟩)) V (λρ h=>J9 (kk:=5) (pp:=rI) az bo underlying55 AW (h _ _ V) (h _ _ V)) ?_;have a6:=PW (us:=[iV ag]) (y:=ag) az bo V;refine H9 (v:=iV ag) (l:=[]) (ws:=bn) (us:=[iV ag]) (o:=Int.toNat (K.1)*1) 1 V V V aq V V V AW (by simp[Value.cells,C5]) V a6.2 λb6=>?_;replace a6:=a6.1;generalize ey:I8 bn (Int.toNat (K.1)*1) [iV ag]=ca at b6 ⊢;have eA:(rA 5 rI).r be ca ((ai.1.set (Int.toNat K.2.1) Z).set (Int.toNat K.1) ag):=by rw[← ey];exact a6
   let⟨eC,eN,e0⟩:=bs ex;refine C 3 V (Bz eN V V V ?_);refine C 2 V ?_;cases e0;exact AF (c7 _ _ (((ai.1.set (Int.toNat K.2.1) Z).set (Int.toNat K.1) ag),eC) ⟨be,ca,V,V,(a9.Ad ap),b6,eA⟩ bb) V
  .refine JL.exit V ?_;cases dd;obtain rfl:=c6 _ bb;exact AF (c5 _ _ ⟨a3,al,V,V,a9,b2,am⟩) V
def N4(fu_:Nat)(p0:List Int)(p1:Int×Int×Int):Option ((List Int)):=(ix p0 p1.1).bind λO=>(Au (O+p1.2.2)).bind λK=>(ix p0 p1.1).bind λZ=>(ix (p0.set (Int.toNat p1.1) K) p1.2.1).bind λU=>(Au (U - p1.2.2)).bind λY=>(ix (p0.set (Int.toNat p1.1) K) p1.2.1).bind λac=>some ((p0.set (Int.toNat p1.1) K).set (Int.toNat p1.2.1) Y)
theorem IU{w1:Lv_}{p0:List Int}{p1:Int×Int×Int}(ai:(rA 5 rI).r E w1 p0){r:(List Int)}(a3:N4 fu_ p0 p1=some r):A6 J 113 [.agg w1.toArray,.agg #[iV p1.1,iV p1.2.1,iV p1.2.2]] E [] (λw E' B'=>∃(a4:Lv_),w=.agg a4.toArray/\B'=[]/\(rA 5 rI).r E' a4 r):=by
 refine Bu func113 λQ ce cs H a9 bb=>?_;unfold N4 at a3;refine C 2 V (JS.box (v:=.agg w1.toArray) V V V a9 V λr3 be=>?_);refine Ew be λci aq Z av bi=>?_;refine Cd bi Mn λco al=>?_;refine C 2 V (Em 6 [r3] ⟨⟨1,_,V⟩,trivial⟩ al λK=>?_);refine JG.fd 0 K underlying31 AW V V V V (JG.lp 1 K 0 av al ⟨⟨1,_,V⟩,trivial⟩ By ?_);let⟨bn,a5,bo⟩:=bs a3;obtain⟨_,rfl,_,_,bv⟩:=Ib (kk:=5) (pp:=rI) (Rp.M _ Z ai) a5;refine AP (v:=.pointer (some ⟨r3,0+Int.toNat (p1.1)*1,none⟩)) 2 K V V (λρ h s' am=>J9 (kk:=5) (pp:=rI) (Rp.M _ Z ai) a5 underlying55 AW (h _ _ V) (h _ _ V)) (AP (v:=iV bn) 3 K V V (λρ h s' am=>Yl.load By (h _ _ V) (ON (l:=[]) 1 al V (by simp[AI]) am (bv 0 _ V))) ?_);refine JG.fd 4 K underlying31 AW V V V V (JG.lp 5 K 2 av al ⟨⟨1,_,V⟩,trivial⟩ By ?_);refine Dl [6,7,8] ?_;let⟨U,bw,bx⟩:=bs bo;refine Bz bw V V V ?_;let⟨cp,az,bz⟩:=bs bx;obtain⟨_,rfl,_,_,ct⟩:=Ib (kk:=5) (pp:=rI) (Rp.M _ Z ai) az;refine Al (v:=.pointer (some ⟨r3,0+Int.toNat (p1.1)*1,none⟩)) V (λρ h=>J9 (kk:=5) (pp:=rI) (Rp.M _ Z ai) az underlying55 AW (h _ _ V) (h _ _ V)) ?_;have aw:=PW (us:=[iV U]) (y:=U) (Rp.M _ Z ai) az V;refine H9 (v:=iV U) (l:=[]) (ws:=w1) (us:=[iV U]) (o:=Int.toNat (p1.1)*1) 1 V V V al V V V AW (by simp[Value.cells,C5]) V aw.2 λac=>?_;replace aw:=aw.1;generalize b0:I8 w1 (Int.toNat (p1.1)*1) [iV U]=a0 at ac ⊢;have ap:(rA 5 rI).r aq a0 (p0.set (Int.toNat p1.1) U):=by rw[← b0];exact aw
 refine C 2 V (Em 6 [r3] ⟨⟨1,_,V⟩,trivial⟩ ac λK=>?_);refine JG.fd 0 K underlying31 AW V V V V (JG.lp 1 K 1 av ac ⟨⟨1,_,V⟩,trivial⟩ By ?_);let⟨b1,a6,b2⟩:=bs bz;obtain⟨_,rfl,_,_,b3⟩:=Ib (kk:=5) (pp:=rI) ap a6;refine AP (v:=.pointer (some ⟨r3,0+Int.toNat (p1.2.1)*1,none⟩)) 2 K V V (λρ h s' am=>J9 (kk:=5) (pp:=rI) ap a6 underlying55 AW (h _ _ V) (h _ _ V)) (AP (v:=iV b1) 3 K V V (λρ h s' am=>Yl.load By (h _ _ V) (ON (l:=[]) 1 ac V (by simp[AI]) am (b3 0 _ V))) ?_);refine JG.fd 4 K underlying31 AW V V V V (JG.lp 5 K 2 av ac ⟨⟨1,_,V⟩,trivial⟩ By ?_);refine Dl [6,7,8] ?_;let⟨ag,b4,b5⟩:=bs b2;refine BY b4 V V V ?_;let⟨cw,a1,b6⟩:=bs b5;obtain⟨_,rfl,_,_,cy⟩:=Ib (kk:=5) (pp:=rI) ap a1;refine Al (v:=.pointer (some ⟨r3,0+Int.toNat (p1.2.1)*1,none⟩)) V (λρ h=>J9 (kk:=5) (pp:=rI) ap a1 underlying55 AW (h _ _ V) (h _ _ V)) ?_;have ay:=PW (us:=[iV ag]) (y:=ag) ap a1 V;refine H9 (v:=iV ag) (l:=[]) (ws:=a0) (us:=[iV ag]) (o:=Int.toNat (p1.2.1)*1) 1 V V V ac V V V AW (by simp[Value.cells,C5]) V ay.2 λa2=>?_;replace ay:=ay.1;generalize ca:I8 a0 (Int.toNat (p1.2.1)*1) [iV ag]=O at a2 ⊢;have Y:(rA 5 rI).r aq O ((p0.set (Int.toNat p1.1) U).set (Int.toNat p1.2.1) ag):=by rw[← ca];exact ay
 refine C 3 V (Al (v:=.agg O.toArray) V (λρ h=>IP (kk:=5) (pp:=rI) Y Jk J3 (h _ _ V) (Hl (l:=[]) 1 a2 V)) ?_);refine H9 (v:=.agg O.toArray) (l:=[]) (ws:=(List.replicate 5 (iV 0):Lv_)) (us:=O) (o:=0) 3 V V V a2 V V V (by rw[Ct (kk:=5) (pp:=rI) Y];exact A2 type55) ((rA 5 rI).one Y) V (by rw[Ct (kk:=5) (pp:=rI) Y,Ct (kk:=5) (pp:=rI) (Hq (E:=aq) (pp:=rI) rfl)];omega) λa7=>?_;rw[KJ (by rw[Ct (kk:=5) (pp:=rI) Y,Ct (kk:=5) (pp:=rI) (Hq (E:=aq) (pp:=rI) rfl)])] at a7 ⊢;refine JL.done (JS.drop 1 a7 V λa8=>?_);cases b6;refine JL.ret (v:=.agg O.toArray) V V (BO.list func113 V (vs:=[.agg O.toArray]) ⟨⟨_,V,Ld.many (vs:=O) Jk (by rw[Ct (kk:=5) (pp:=rI) Y];exact A2 type55) (Hl (l:=[]) 3 a8 V)⟩,trivial⟩) (ES 3 a8 V λcc=>?_);exact bb Z V ⟨O,V,V,Y⟩ cc
def f106(fu_:Nat)(p0:Int)(p1:Int):Option Nat:=(Au (max p0 p1 - 1)).bind λx1=>(ix ([1,2,4,8]:List Nat) x1).bind λK=>(Au (4*(min p0 p1))).bind λO=>(SA K O).bind λU=>some U
theorem eP{p0:Int}{r:Nat}(K:f106 fu_ p0 p1=some r):A6 J 94 [iV p0,iV p1] E [] (λw E' B'=>w=.int .u32 ((r:Nat):Int)/\B'=[]):=by
 refine Bu func94 λQ av cs H O U=>?_;unfold f106 at K;refine C 8 V (Al (v:=iV (min p0 p1)) V (λρ h=>Yl.min2 (h _ _ V) (h _ _ V)) ?_);refine C 2 V (Al (v:=iV (max p0 p1)) V (λρ h=>Yl.max2 (h _ _ V) (h _ _ V)) ?_);refine C 5 V (Al (v:=.agg (([1,2,4,8]:List Nat).map λx=>Value.int .u32 ((x:Nat):Int)).toArray) V (λρ h=>dN h underlying186 (DL type186) (A2 type63) V V) ?_);let⟨x1,Y,Z⟩:=bs K;refine C 1 V (BY Y V V V ?_);let⟨aw,ac,ag⟩:=bs Z;refine WQ (cD (E:=E) ([1,2,4,8]:List Nat)) ac V V V V V underlying186 (A2 type63) (Df underlying63) ?_ (λ_=>V);rintro _ rfl;let⟨ay,ai,al⟩:=bs ag;refine C 1 V (Al V (λρ h=>Lw (h _ _ V) (h _ _ V) ai) ?_);let⟨am,ap,aq⟩:=bs al;refine Al (v:=.int .u32 ((am:Nat):Int)) V (λρ h=>Zl (h _ _ V) (h _ _ V) ap) (C 2 V ?_);cases aq;exact Ba func94 V V (U AQ V ⟨V,V⟩ O)
def f136(fu_:Nat)(p0:Nat)(p1:Int)(p2:Int):Option Bool:=(f106 fu_ p1 p2).bind λx1=>(Sn p0 x1).bind λK=>some (decide ((((K):Nat):Int)≠(((0):Nat):Int)))
theorem eW{p0:Nat}{r:Bool}(K:f136 fu_ p0 p1 p3=some r):A6 J 58 [.int .u32 ((p0:Nat):Int),iV p1,iV p3] E [] (λw E' B'=>w=.bool r/\B'=[]):=by
 refine Bu func58 λQ ap cs H O U=>?_;unfold f136 at K;let⟨x1,Y,Z⟩:=bs K;refine C 9 V (Dg (eP Y) V V (Be func94 V) O λaq ac ag=>?_);let⟨ai,al,am⟩:=bs Z;refine Al (v:=.int .u32 ((ai:Nat):Int)) V (λρ h=>ZG (h _ _ V) (h _ _ V) al) (C 3 V ?_);cases am;exact Ba func58 V V (U ac V ⟨V,V⟩ ag)
def Pw(fu_:Nat)(O:(AV)×Int)(K:(AV)×Int):Option (Bj ((AV)×Int) ((AV))):=if K.2<O.2 then((room K.1 (K.2,O.2)).bind λU=>(Au (K.2+1)).bind λY=>some (.more (U,Y))) else(some (.done K.1))
def O5(fu_:Nat)(p0:Bq)(K:(AV)×Int):Option (Bj ((AV)×Int) ((AV))):=if K.2<(p0.1.length:Int) then(Option.bind (iter (Pw fu_ K) fu_ (K.1,0)) λO=>(Au (K.2+1)).bind λU=>some (.more (O,U))) else(some (.done K.1))
def f133(fu_:Nat)(p0:Bq):Option ((AV)):=Option.bind (iter (O5 fu_ p0) fu_ ([],0)) λK=>some K
theorem fT(eC:Ap (rL rI) E a1 c2 p0.1)(eN:Ap AE E a7 a8 p0.2){r:(AV)}(a9:f133 fu_ p0=some r):A6 J 55 [.agg #[sV a1 p0.1 c2,sV a7 p0.2 a8]] E [] (λw E' B'=>∃(bb:Aw) (be:Nat),w= sV bb r be/\B'=[]/\Ap Gz E' bb be r):=by
 refine Bu func55 λQ e0 cs H b2 b3=>?_;unfold f133 at a9;refine C 2 V (Ew b2 λe1 a0 b4 b5 b6=>?_);refine C 9 V (JL.fd underlying51 DK V V V ?_);refine CC 0 b5 underlying28 FP F3 ?_;refine JL.ln underlying25 V V V ?_;let⟨bi,ca,cc⟩:=bs a9;refine C 2 V (BF (λL s=>∃(a2:LH) (am:Aw) (ap:Nat) (a3:Seg),Jn a0 H a2 [a3] [(3,sV am bi ap)] L s (OL 115 Gz a2 am ap a3 bi)) ?_ ?_);rintro _ _ ⟨a2,am,ap,a3,rfl,rfl,ce,ci,co⟩;refine C 5 V (CH 0 co ci V λe3 cp ct cw=>?_);cases cc;exact Ba func55 V V (b3 ((b4.Ad ce).Ad cp) V ⟨am,ap,V,V,ct⟩ cw);intro cy;refine JL.block (Cv ca (λL s K=>∃(O:LH) (Y:Aw) (Z:Nat) (ac:Seg),Jn a0 H O [ac] [(3,sV Y K.1 Z),(9,iV (p0.1.length:Int)),(10,iV K.2)] L s (OL 115 Gz O Y Z ac K.1)) ⟨a0,none,0,[],V,V,AQ,b6,OL.nil⟩ ?_);rintro _ _ K ⟨O,Y,Z,ac,rfl,rfl,bn,bo,bv⟩ c0 ⟨e4,a4⟩ c1;have bw:=a4;unfold O5 at bw;refine C 5 V (A4 bw (λc3 c4=>?_) (λc3 c5=>?_));let⟨a5,c6,c7⟩:=bs c4;refine C 13 V (BF (λL s=>∃(aq:LH) (av:Aw) (aw:Nat) (ay:Seg),Jn O H aq [ay] [(3,sV av a5 aw),(9,iV (p0.1.length:Int)),(10,iV K.2)] L s (OL 115 Gz aq av aw ay a5)) ?_ ?_);rintro _ _ ⟨aq,av,aw,ay,rfl,rfl,c8,c9,dd⟩;let⟨dj,ea,eb⟩:=bs c7;refine C 2 V (Bz ea V V V ?_);refine C 2 V ?_;cases eb;exact AF (c1 _ _ (a5,dj) ⟨aq,av,aw,ay,V,V,(bn.Ad c8),c9,dd⟩ a4) V;intro ec;refine JL.block (Cv c6 (λL s U=>∃(ag:LH) (ai:Aw) (al:Nat) (az:Seg),Jn O H ag [az] [(3,sV ai U.1 al),(4,iV K.2),(9,iV (p0.1.length:Int)),(10,iV K.2),(13,iV K.2),(14,iV U.2)] L s (OL 115 Gz ag ai al az U.1)) ⟨O,Y,Z,ac,V,V,AQ,bo,bv⟩ ?_);rintro _ _ U ⟨ag,ai,al,az,rfl,rfl,bx,bz,b0⟩ ed ⟨e5,a6⟩ ee;have b1:=a6;unfold Pw at b1;refine C 5 V (A4 b1 (λef eg=>?_) (λef ej=>?_));refine C 12 V (Al (v:=.agg #[iV U.2,iV K.2]) V (λρ h=>DR [(0,1),(1,1)] h J2 underlying115 ⟨V,A2 type3,V,A2 type3,trivial⟩ V V) ?_);let⟨ek,el,em⟩:=bs eg;refine JS.app (pp:=Gz) (v:=.agg #[iV U.2,iV K.2]) (a:=ai) (c:=al) 0 el V V V V (λ_=>V) V (λ_=>V) V V V underlying119 underlying119 underlying119 Gn (EG type115) J2 V (by decide) (by decide) (by decide) (by decide) b0 ⟨_,_,V,V,V⟩ bz V λe6 eo ep er eu ew=>?_;let⟨ex,ey,eA⟩:=bs em;refine C 4 V (Bz ey V V V ?_);refine C 2 V ?_;cases eA;exact AF (ee _ _ (ek,ex) ⟨ag,eo,ep,er,V,V,bx,ew,eu⟩ a6) V;refine JL.exit V ?_;cases ej;obtain rfl:=ed _ a6;exact AF (ec _ _ ⟨ag,ai,al,az,V,V,bx,bz,b0⟩) V;refine JL.exit V ?_;cases c5;obtain rfl:=c0 _ a4;exact AF (cy _ _ ⟨O,Y,Z,ac,V,V,bn,bo,bv⟩) V
def f113(fu_:Nat)(p0:Int×Int×Int)(p1:Int×Int×Int):Option Int:=if p0.1≠p1.1 then((Au (p0.1 - p1.1)).bind λK=>some K) else(if p0.2.1≠p1.2.1 then((Au (p0.2.1 - p1.2.1)).bind λO=>some O) else((Au (p0.2.2 - p1.2.2)).bind λU=>some U))
theorem WV{p0 p1:Int×Int×Int}{r:Int}(ag:f113 fu_ p0 p1=some r):A6 J 39 [.agg #[iV p0.1,iV p0.2.1,iV p0.2.2],.agg #[iV p1.1,iV p1.2.1,iV p1.2.2]] E [] (λw E' B'=>w=iV r/\B'=[]):=by
 refine Bu func39 λQ a5 cs H ai Y=>?_;unfold f113 at ag;refine C 2 V (Ew ai λr2 a6 Z O al=>?_);refine Ew al λa7 a8 K U ac=>?_;refine C 6 V (CC 0 (O.M K) underlying31 AW By ?_);refine CC 0 U underlying31 AW By ?_;refine C 3 V (A4 ag (λam ap=>?_) (λam aq=>?_));refine C 2 V (CC 0 (O.M K) underlying31 AW By ?_);refine CC 0 U underlying31 AW By ?_;let⟨a9,av,aw⟩:=bs ap;refine BY av V V V (C 2 V ?_);cases aw;exact Ba func39 V V (Y (Z.Ad K) V ⟨V,V⟩ ac);refine C 2 V (CC 1 (O.M K) underlying31 AW By ?_);refine CC 1 U underlying31 AW By ?_;refine C 3 V (A4 aq (λay az=>?_) (λay a0=>?_));refine C 2 V (CC 1 (O.M K) underlying31 AW By ?_);refine CC 1 U underlying31 AW By ?_;let⟨bb,a1,a2⟩:=bs az;refine BY a1 V V V (C 2 V ?_);cases a2;exact Ba func39 V V (Y (Z.Ad K) V ⟨V,V⟩ ac);refine C 4 V (CC 2 (O.M K) underlying31 AW By ?_);refine CC 2 U underlying31 AW By ?_;let⟨be,a3,a4⟩:=bs a0;refine BY a3 V V V (C 2 V ?_);cases a4;exact Ba func39 V V (Y (Z.Ad K) V ⟨V,V⟩ ac)
def P7(fu_:Nat)(p0:List Int)(K:Int×Int):Option (Bj (Int×Int) Int):=if K.2<(p0.length:Int) then((ix p0 K.2).bind λO=>(Au (K.1+O)).bind λU=>(Au (K.2+1)).bind λY=>some (.more (U,Y))) else(some (.done K.1))
def f85(fu_:Nat)(p0:List Int):Option Int:=Option.bind (iter (P7 fu_ p0) fu_ (0,0)) λK=>some K
theorem Ip{p0:List Int}(ag:Ap rI E a1 c2 p0){r:Int}(Y:f85 fu_ p0=some r):A6 J 18 [sV a1 p0 c2] E [] (λw E' B'=>w=iV r/\B'=[]):=by
 refine Bu func18 λQ bo cs H ai al=>?_;unfold f85 at Y;refine C 12 V (JL.ln underlying22 V V V ?_);let⟨am,ap,aq⟩:=bs Y;refine C 2 V (Fc [] [(3,iV am)] (λbv av aw=>?_) (λay=>?_));refine C 5 V ?_;cases aq;exact Ba func18 V V (al av V ⟨V,V⟩ aw);refine JL.block (Ez ap (λK=>[]) (λK=>[(3,iV K.1),(6,sV a1 p0 c2),(7,iV (p0.length:Int)),(8,iV K.2)]) AQ ai ?_);rintro K bw O Z az ⟨bx,U⟩ a0;have ac:=U;unfold P7 at ac;refine C 5 V (A4 ac (λa2 a3=>?_) (λa2 a4=>?_));let⟨bz,a5,a6⟩:=bs a3;refine C 5 V (JS.ix (ag.M O) a5 underlying22 AW ?_);rintro b0 b1 _ rfl a7;refine DC 0 a7 By V V V ?_;let⟨a8,a9,bb⟩:=bs a6;refine C 5 V (Bz a9 V V V ?_);let⟨be,bi,bn⟩:=bs bb;refine C 4 V (Bz bi V V V ?_);refine C 2 V ?_;cases bn;exact a0 (a8,be) O Z V U;refine JL.exit V ?_;cases a4;obtain rfl:=az _ U;exact ay O Z V
end Pal
namespace Pal
open Go Go.Conc
variable {P:Program}{Q:Gs_}{b:Frame}{n:Nat}{ds:Ld_}{ops:Ao_}{k:Li_}{cs:Lf_}{L:Env}{E H:LH}{S:List Seg}
variable {d:Option Tmp}{w:Operand}{t u ty:TypeId}{p:String}{af:Ae_}{g:On_}{rest:List Nat}{s:St}{ρ:Operand->Value}
variable{α:Type}{bk c kk o:Nat}{ws:Lv_}{hi:Int}
section
variable {J:Judge P}
variable {x y:Operand}{e:TypeId}{i:Nat}
theorem Ap.jv{pp:Rp α}{xs ys:List α}(U:At E bk o ws)(O:(rA kk pp).r E ws xs)(hC:HT xs 0 hi=some ys):Ap pp E (some ⟨bk,o,none⟩) kk ys:=by
 have ag:=O.1;unfold HT at hC;split at hC
 .rename_i hb;cases hC;refine⟨by simp;omega,.inr ⟨bk,o,V,λq z K=>?_⟩⟩;simp only[Int.toNat_zero,tD,qI] at K;split at K
  .have Y:ix xs (q:Int)=some z:=by unfold ix;rw[eS (by omega)];simpa using K
   let⟨us,Z,ac,_,_⟩:=iy O U Y;exact⟨us,Z,by simpa using ac⟩
  .cases K
 .cases hC
theorem dt{pp:Rp α}{xs ys:List α}(U:At E bk o ws)(K:(rA kk pp).r E ws xs)(hC:HT xs 0 hi=some ys)
  (Y:ops[i]?=some ⟨d,.slice t x none (some w) none,ty,p,af,g⟩) (hw:AY L ops ⟨d,.slice t x none (some w) none,ty,p,af,g⟩=some true) (Z:BU b n ⟨d,.slice t x none (some w) none,ty,p,af,g⟩=true)
  (ac:ev L x=some (.pointer (some ⟨bk,o,none⟩))) (ag:ev L w=some (iV hi)) (ai:P.underlying t=some (.array kk e)) (al:Bp P e=some pp.n)
  (h:Ap pp E (some ⟨bk,o,none⟩) kk ys->JL J Q b n (Ay L d (.slice (some ⟨bk,o,none⟩) ys.length kk)) ds (.inRegion ops rest::k) cs s):
  JL J Q b n L ds (.inRegion ops (i::rest)::k) cs s:=by
 have am:=Ap.jv U K hC;have av:=K.1;refine A9 Y hw Z (λρ O=>?_) (h am);refine Gp (sm:=Instr.sliceAt t (ρ x) none (some (ρ w)) none) V ?_;rw[O _ _ ac,O _ _ ag];unfold HT at hC;split at hC
 .rename_i hb;cases hC;obtain⟨aw,ay,az⟩:=hb;unfold Instr.sliceAt;refine Az _ _ (CG ai ?_);simp only[Instr.sureAddr,bind,Sem.bind,pure];have ap:Instr.sliceBounds false kk kk none (some (iV hi)) none=(pure (0,hi.toNat,kk):Sem _):=by
   simp only[Instr.sliceBounds,Instr.sliceBound,asIntOf,bind,Sem.bind,pure];rw[eS (by omega)];rfl
  rw[ap];simp only[pure,Sem.bind];refine Az (x:=Go.sizeOf e) _ (Fp al ?_);have aq:(if kk=0 then(⟨bk,o,none⟩:Addr) else Addr.add ⟨bk,o,none⟩ (0*pp.n))=⟨bk,o,none⟩:=by
   split;rfl;rw[Ek rfl];simp
  rw[aq];have e2:((xs.take hi.toNat).drop (0:Int).toNat).length=hi.toNat - 0:=by simp;omega
  rw[e2];exact⟨V,V⟩
 .cases hC
theorem YX{a:Option Addr}{l:Nat}(K:P.underlying t=some (.slice e))(O:ρ x=.slice a l c)(U:ρ (.const (.slice none 0 0))=.slice none 0 0):Yl P ⟨d,.binOp .neq t x (.const (.slice none 0 0)) u,ty,p,af,g⟩ ρ s (.bool (!a.isNone)):=by
 have Y:∀o,eqGuard o t x (.const (.slice none 0 0)) (.slice a l c) (.slice none 0 0)=Sem.pure ():=λo=>by cases o<;>rfl
 refine Gp (sm:=do eqGuard .neq t x (.const (.slice none 0 0)) (ρ x) (ρ (.const (.slice none 0 0)));binOp .neq t (ρ x) (ρ (.const (.slice none 0 0)))) V ?_
 rw[O,U,Y];simp only[bind,Sem.bind];have hb:binOp .neq t (.slice a l c) (.slice none 0 0)=(do pure (.bool (!(← Op.equal t (.slice a l c) (.slice none 0 0))))):=V
 rw[hb];refine Az (x:=Op.equal t _ _) _ ?_;unfold Op.equal Op.maxDepth Op.equalIn;refine Az _ _ (CG K ?_);cases a with
 | none=>exact⟨rfl,rfl⟩
 | some ad=>exact⟨rfl,rfl⟩
end
open Go.Proofs Go.Proofs.Tryz
variable {J:Judge Tryz.prog}
def Wv(fu_:Nat)(p0:Bq)(p1:List Int)(K:Int):Option (Bj Int ((Bq×Int)⊕(Unit))):=if K<(p1.length:Int) then((ix p1 K).bind λO=>(Au ((p0.1.length:Int) - 1)).bind λU=>(f91 fu_ O 0 U).bind λY=>if(!Y)=true then(some (.done (Sum.inl (([],[]),3)))) else((Au (K+1)).bind λZ=>some (.more Z))) else(some (.done (Sum.inr ())))
def f70(fu_:Nat)(p0:Bq)(p1:List Int):Option (Bq×Int):=(f47 fu_ p0).bind λK=>if K≠0 then(some (([],[]),K)) else(Option.bind (iter (Wv fu_ p0 p1) fu_ 0) λO=>Sum.elim (λr=>some r) (λac=>Option.bind (if(p1.length:Int)=2 then((ix p1 (0)).bind λU=>(ix p1 (1)).bind λY=>some (decide (U=Y))) else(some false)) λZ=>if Z=true then(some (([],[]),8)) else(some (p0,0))) O)
variable{a1:Aw}{c2 fu_ sz:Nat}
theorem MN{Y ai:Aw}{al:Nat}{p0:Bq}{p1:List Int}(a3:Ap (rL rI) E a1 c2 p0.1)(a4:Ap AE E Y sz p0.2)(av:Ap rI E ai al p1){r:Bq×Int}(a5:f70 fu_ p0 p1=some r):A6 J 16 [.agg #[sV a1 p0.1 c2,sV Y p0.2 sz],sV ai p1 al] E [] (λw E' B'=>∃(a6:Aw) (a7:Nat) (a8:Aw) (a9:Nat),w=.tuple #[.agg #[sV a6 r.1.1 a7,sV a8 r.1.2 a9],iV r.2]/\B'=[]/\Ap (rL rI) E' a6 a7 r.1.1/\Ap AE E' a8 a9 r.1.2):=by
 refine Bu func16 λQ fl cs H cc ap=>?_;unfold f70 at a5;refine C 2 V (Ew cc λaw fm K ay ce=>?_);refine Cd ce ID λag ci=>?_;refine C 5 V (Du ay Gm DK V V ?_);let⟨bb,co,cp⟩:=bs a5;refine Dg (ir (a3.M K) (a4.M K) co) V V (Be func35 V) ci λct O be=>C 7 V (A4 cp (λcw cy=>?_) (λcw c0=>?_));refine C 2 V (Al (v:=.agg #[nS,nS]) V (λρ h=>DR [(0,2)] h ID underlying51 ⟨V,A2 type28,trivial⟩ V V) ?_);refine C 1 V (JS.sx 2 be Es λbi=>?_);refine C 2 V ?_;cases cy;refine JL.ret (v:=.tuple #[.agg #[nS,nS],iV bb]) V V (BO.list func16 V (vs:=[.agg #[nS,nS],iV bb]) ⟨⟨_,V,Ld.many (vs:=[nS,nS]) GB Es (GH (off:=0) 2 bi V V)⟩,V,trivial⟩) (ES 2 bi V λc1=>?_);exact ap (K.Ad O) V ⟨none,0,none,0,V,V,Ap.nil,Ap.nil⟩ c1;refine C 5 V (JL.ln underlying22 V V V ?_);let⟨bn,c3,bo⟩:=bs c0;refine C 2 V (BF (λL s=>∃(bv:Unit) (az:LH),bn=Sum.inr bv/\Jm ct H az [bX ag #[nS,nS] 51] [(1,sV ai p1 al),(2,As aw 0),(4,As ag 0)] L s) ?_ ?_);rintro _ _ ⟨bv,az,rfl,rfl,rfl,ac,bw⟩;have c4:=elim_inr bo;refine C 2 V (FU 12 λU=>?_);refine Dw 0 U V V (AP 1 U V V (λρ h s' fo=>Yl.len V underlying22 (h _ _ V)) ?_);refine A5 U V [2,3] V ?_;let⟨c5,bx,c6⟩:=bs c4;refine F5 0 (tR_ 12 0) (λL s=>L=[(2,As aw 0),(4,As ag 0),(41,.bool c5)]/\s=Aj az H [bX ag #[nS,nS] 51]) ?_ ?_;rintro _ _ ⟨rfl,rfl⟩;refine AT.fin (by decide+kernel) (CO c6 (λc7 c8=>?_) (λc7 c9=>?_));refine C 2 V (Al (v:=.agg #[nS,nS]) V (λρ h=>DR [(0,2)] h ID underlying51 ⟨V,A2 type28,trivial⟩ V V) ?_);refine JS.sx 0 bw Es λbz=>?_;refine C 2 V ?_;cases c8;refine JL.ret (v:=.tuple #[.agg #[nS,nS],iV 8]) V V (BO.list func16 V (vs:=[.agg #[nS,nS],iV 8]) ⟨⟨_,V,Ld.many (vs:=[nS,nS]) GB Es (GH (off:=0) 0 bz V V)⟩,V,trivial⟩) (ES 0 bz V λdd=>?_);exact ap ((K.Ad O).Ad ac) V ⟨none,0,none,0,V,V,Ap.nil,Ap.nil⟩ dd;refine C 3 V (Du (ay.M (O.Ad ac)) Gm DK V V ?_);refine Al (v:=.agg #[sV a1 p0.1 c2,sV Y p0.2 sz]) V (λρ h=>DR [(0,2)] h ID underlying51 ⟨V,A2 type28,trivial⟩ V V) (JS.sx 0 bw Es λb0=>?_);refine C 2 V ?_;cases c9;refine JL.ret (v:=.tuple #[.agg #[sV a1 p0.1 c2,sV Y p0.2 sz],iV 0]) V V (BO.list func16 V (vs:=[.agg #[sV a1 p0.1 c2,sV Y p0.2 sz],iV 0]) ⟨⟨_,V,Ld.many (vs:=[sV a1 p0.1 c2,sV Y p0.2 sz]) GB Es (GH (off:=0) 0 b0 V V)⟩,V,trivial⟩) (ES 0 b0 V λdj=>?_);exact ap ((K.Ad O).Ad ac) V ⟨a1,c2,Y,sz,V,V,(a3.M ((K.Ad O).Ad ac)),(a4.M ((K.Ad O).Ad ac))⟩ dj;intro b1;refine GI (q:=(p1.length:Int)=2) (i:=33) V (λa0=>?_) (λa0=>?_);have ea:=ip bx a0;refine Dw 4 U V V ?_;let⟨fs,eb,ec⟩:=bs ea;refine F9 5 (av.M ((K.Ad O).Ad ac)) eb U underlying22 AW ?_;rintro fv fw _ rfl ed;refine Fs 6 U 0 ed By V V V V ?_;refine Dw 7 U V V ?_;let⟨fN,ee,ef⟩:=bs ec;refine F9 8 (av.M ((K.Ad O).Ad ac)) ee U underlying22 AW ?_;rintro gc ge _ rfl eg;refine Fs 9 U 0 eg By V V V V ?_;refine A5 U V [10,11] V ?_;cases ef;refine Dz ?_ (b1 _ _ ⟨V,V⟩);exact⟨V,V,V,trivial⟩;have ej:=im bx a0;refine A5 U V [4,5,6,7,8,9,10,11] V ?_;cases ej;refine Dz ?_ (b1 _ _ ⟨V,V⟩);exact⟨V,V,V,trivial⟩;intro ek;refine JL.block (Ez c3 (λa2=>[bX ag #[nS,nS] 51]) (λa2=>[(1,sV ai p1 al),(2,As aw 0),(4,As ag 0),(15,sV ai p1 al),(16,iV (p1.length:Int)),(17,iV a2)]) AQ be ?_);rintro a2 el am b2 b3 ⟨gg,aq⟩ em;have b4:=aq;unfold Wv at b4;refine C 5 V (A4 b4 (λeo ep=>?_) (λeo er=>?_));let⟨gh,eu,ew⟩:=bs ep;refine C 5 V (JS.ix (av.M ((K.Ad O).Ad am)) eu underlying22 AW ?_);rintro gt gB _ rfl ex;refine DC 0 ex By V V V (C 5 V ?_);refine CC 0 (ay.M (O.Ad am)) underlying28 FP F3 ?_;refine JL.ln underlying25 V V V ?_;let⟨gE,ey,eA⟩:=bs ew;refine BY ey V V V ?_;let⟨eC,eN,e0⟩:=bs eA;refine Dg (NW eN) V V Nh b2 λgO b5 b6=>Al (v:=.bool (!eC)) V (λρ h=>Yl.not (h _ _ V)) (JL.done ?_);refine CO e0 (λe1 e3=>?_) (λe1 e4=>?_);refine C 2 V (Al (v:=.agg #[nS,nS]) V (λρ h=>DR [(0,2)] h ID underlying51 ⟨V,A2 type28,trivial⟩ V V) ?_);refine JS.sx 0 b6 Es λca=>?_;refine C 2 V ?_;cases e3;obtain rfl:=b3 _ aq;have e5:=elim_inl bo;cases e5;refine JL.ret (v:=.tuple #[.agg #[nS,nS],iV 3]) V V (BO.list func16 V (vs:=[.agg #[nS,nS],iV 3]) ⟨⟨_,V,Ld.many (vs:=[nS,nS]) GB Es (GH (off:=0) 0 ca V V)⟩,V,trivial⟩) (ES 0 ca V λe6=>?_);exact ap (((K.Ad O).Ad am).Ad b5) V ⟨none,0,none,0,V,V,Ap.nil,Ap.nil⟩ e6;let⟨e7,e8,ff⟩:=bs e4;refine C 3 V (Bz e8 V V V ?_);refine C 2 V ?_;cases ff;exact em e7 (am.Ad b5) b6 V aq;refine JL.exit V ?_;cases er;have fk:bn=(Sum.inr ()):=(b3 _ aq).symm;exact AF (ek _ _ ⟨(),el,fk,V,V,am,b2⟩) V
def Qv(fu_:Nat)(p0:List Int):Option ((List Int)):=(Ey ([]:List Int) p0).bind λK=>some K
variable{ad:Addr}
theorem eU{p0:List Int}(Y:Ap rI E (some ad) c2 p0){r:(List Int)}(K:Qv fu_ p0=some r):A6 J 50 [.slice (some ad) p0.length c2] E [] (λw E' B'=>∃(O:Aw) (U:Nat) (g0:Seg),w= sV O r U/\B'=g0/\OL 3 rI E' O U g0 r):=by
 refine Bu func50 λQ az cs H Z ac=>?_;unfold Qv at K;refine C 8 V (Al (v:=.bool false) V (λρ h=>OT (a:=(some ad)) underlying22 (h _ _ V) (h _ _ V)) ?_);refine C 5 V (VV (pp:=rI) V V V underlying22 AW Z λr1 g2 ag ai=>?_);let⟨a0,al,am⟩:=bs K;refine C 1 V (KM (pp:=rI) 1 al V V V V V V V underlying22 underlying22 AW (EG type3) Dh V (by decide) (by decide) ag Y ai V λap aq av aw ay=>?_);refine C 2 V ?_;cases am;exact Ba func50 V V (ac AQ V ⟨ap,aq,av,V,(by first | rfl | simp | (simp[Value.cells])),aw⟩ ay)
def Xs(fu_:Nat)(p0:List Int):Option ((List Int)):=some ([])
theorem fB{p0:List Int}(ac:Ap rI E none c2 p0){r:(List Int)}(K:Xs fu_ p0=some r):A6 J 50 [sV none p0 c2] E [] (λw E' B'=>∃(O:Aw) (U:Nat) (g0:Seg),w= sV O r U/\B'=g0/\OL 3 rI E' O U g0 r):=by
 refine Bu func50 λQ ag cs H Y Z=>?_;unfold Xs at K;refine C 8 V (Al (v:=.bool true) V (λρ h=>OT (a:=none) underlying22 (h _ _ V) (h _ _ V)) ?_);refine C 6 V ?_;cases K;exact Ba func50 V V (Z AQ V ⟨none,0,[],V,V,OL.nil⟩ Y)
def f87(fu_:Nat)(p0:List Int):Option (List Int):=Qv fu_ p0
theorem ik{p0:List Int}(O:Ap rI E a1 c2 p0){r:List Int}(K:f87 fu_ p0=some r):A6 J 50 [.slice a1 p0.length c2] E [] (λw E' B'=>∃(U:Aw) (Y:Nat) (g0:Seg),w=.slice U r.length Y/\B'=g0/\OL 3 rI E' U Y g0 r):=by
 cases a1 with
 | some ad=>exact eU O K
 | none=>
  have Z:p0=[]:=by
   rcases O.2 with h | ⟨_,_,h,_⟩;exact h.1;cases h
  subst Z;have ac:r=[]:=by
   have ag:Qv fu_ []=some []:=V;unfold f87 at K;rw[ag] at K;exact(f5 K).symm
  subst ac;exact fB (fu_:=fu_) O V
def NY(fu_:Nat)(p0:AH):Option (AH):=(Ey ([]:AH) p0).bind λK=>some K
variable{p0 r:AH}
theorem dh(Y:Ap AE E (some ad) c2 p0)(K:NY fu_ p0=some r):A6 J 125 [.slice (some ad) p0.length c2] E [] (λw E' B'=>∃(O:Aw) (U:Nat) (g0:Seg),w= sV O r U/\B'=g0/\OL 31 AE E' O U g0 r):=by
 refine Bu func125 λQ az cs H Z ac=>?_;unfold NY at K;refine C 8 V (Al (v:=.bool false) V (λρ h=>OT (a:=(some ad)) underlying57 (h _ _ V) (h _ _ V)) ?_);refine C 5 V (VV (pp:=AE) V V V underlying57 BJ Z λr1 g2 ag ai=>?_);let⟨a0,al,am⟩:=bs K;refine C 1 V (KM (pp:=AE) 1 al V V V V V V V underlying57 underlying57 BJ (EG type31) B5 V (by decide) (by decide) ag Y ai V λap aq av aw ay=>?_);refine C 2 V ?_;cases am;exact Ba func125 V V (ac AQ V ⟨ap,aq,av,V,(by first | rfl | simp | (simp[Value.cells])),aw⟩ ay)
def Xb(fu_:Nat)(p0:AH):Option (AH):=some ([])
theorem cd(ac:Ap AE E none c2 p0)(K:Xb fu_ p0=some r):A6 J 125 [sV none p0 c2] E [] (λw E' B'=>∃(O:Aw) (U:Nat) (g0:Seg),w= sV O r U/\B'=g0/\OL 31 AE E' O U g0 r):=by
 refine Bu func125 λQ ag cs H Y Z=>?_;unfold Xb at K;refine C 8 V (Al (v:=.bool true) V (λρ h=>OT (a:=none) underlying57 (h _ _ V) (h _ _ V)) ?_);refine C 6 V ?_;cases K;exact Ba func125 V V (Z AQ V ⟨none,0,[],V,V,OL.nil⟩ Y)
def f129(fu_:Nat)(p0:AH):Option AH:=NY fu_ p0
theorem dS(O:Ap AE E a1 c2 p0)(K:f129 fu_ p0=some r):A6 J 125 [.slice a1 p0.length c2] E [] (λw E' B'=>∃(U:Aw) (Y:Nat) (g0:Seg),w=.slice U r.length Y/\B'=g0/\OL 31 AE E' U Y g0 r):=by
 cases a1 with
 | some ad=>exact dh O K
 | none=>
  have Z:p0=[]:=by
   rcases O.2 with h | ⟨_,_,h,_⟩;exact h.1;cases h
  subst Z;have ac:r=[]:=by
   have ag:NY fu_ []=some []:=V;unfold f129 at K;rw[ag] at K;exact(f5 K).symm
  subst ac;exact cd (fu_:=fu_) O V
def f43(fu_:Nat)(p0:Bq):Option ((List Int)×Int):=(f70 fu_ p0 ([])).bind λK=>if K.2≠0 then(some ([],K.2)) else((f84 fu_ K.1).bind λO=>(HT O 0 (p0.1.length:Int)).bind λU=>(f87 fu_ U).bind λY=>some (Y,0))
theorem iM{ac:Aw}{ag:Nat}{p0:Bq}(a2:Ap (rL rI) E a1 c2 p0.1)(a3:Ap AE E ac ag p0.2){r:(List Int)×Int}(ai:f43 fu_ p0=some r):A6 J 25 [.agg #[sV a1 p0.1 c2,sV ac p0.2 ag]] E [] (λw E' B'=>∃(al:Aw) (am:Nat),w=.tuple #[sV al r.1 am,iV r.2]/\B'=[]/\Ap rI E' al am r.1):=by
 refine Bu func25 λQ c1 cs H a4 ap=>?_;unfold f43 at ai;refine C 2 V (Ew a4 λc3 c4 U aq a5=>?_);refine C 5 V (Du aq Gm DK V V ?_);let⟨c5,a6,a7⟩:=bs ai;refine Cl (MN (a2.M U) (a3.M U) Ap.nil a6) V V Mk a5 ?_;rintro _ c6 _ Y ⟨c7,c8,c9,dd,rfl,rfl,a8,a9⟩ bb;refine C 3 V (Cd bb ID λdj be=>?_);refine JS.sx 3 be Es λbi=>?_;refine ED 3 bi V λea K bn av=>C 8 V (A4 a7 (λbo bv=>?_) (λbo bw=>?_));refine C 6 V ?_;cases bv;exact Ba func25 V V (ap ((U.Ad Y).Ad K) V ⟨none,0,V,V,Ap.nil⟩ av);refine C 3 V (Du bn GB Es V V ?_);let⟨eb,bx,bz⟩:=bs bw;refine Cl (SJ (a8.M K) (a9.M K) bx) V V QQ av ?_;rintro _ aw _ ay ⟨Z,rfl,rfl,O⟩ b0;refine Cd b0 Mn λec b1=>?_;refine H9 (v:=.agg Z.toArray) (l:=[]) (ws:=(List.replicate 5 (iV 0):Lv_)) (us:=Z) (o:=0) 5 V V V b1 V V V (by rw[Ct (kk:=5) (pp:=rI) O];exact A2 type55) ((rA 5 rI).one O) V (by rw[Ct (kk:=5) (pp:=rI) O,Ct (kk:=5) (pp:=rI) (Hq (E:=aw) (pp:=rI) rfl)];omega) λaz=>?_;rw[KJ (by rw[Ct (kk:=5) (pp:=rI) O,Ct (kk:=5) (pp:=rI) (Hq (E:=aw) (pp:=rI) rfl)])] at az ⊢;refine C 3 V (CC 0 (aq.M ((Y.Ad K).Ad ay)) underlying28 FP F3 ?_);refine JL.ln underlying25 V V V (ED 5 az V λed a0 b2 b3=>?_);let⟨ee,b4,b5⟩:=bs bz;refine dt (ws:=Z) (pp:=rI) b2 (Rp.M _ a0 O) b4 V V V V V underlying55 AW λb6=>?_;let⟨ef,ca,cc⟩:=bs b5;refine Cl (ik b6 ca) V V (Be func50 V) b3 ?_;rintro _ eg ej ce ⟨ci,co,_,rfl,rfl,cp⟩ ct;refine C 3 V (CH 6 cp ct V λek cw cy c0=>?_);cases cc;exact Ba func25 V V (ap ((((((U.Ad Y).Ad K).Ad ay).Ad a0).Ad ce).Ad cw) V ⟨ci,co,V,V,cy⟩ c0)
def PG(fu_:Nat)(p0:AH)(p1:AH)(K:Int):Option (Bj Int ((Int)⊕(Unit))):=if K<(p0.length:Int) then((ix p0 K).bind λU=>if(p1.length:Int)<=K then(some (.done (Sum.inl 1))) else((ix p1 K).bind λY=>(f113 fu_ U Y).bind λO=>if O≠0 then(some (.done (Sum.inl O))) else((Au (K+1)).bind λZ=>some (.more Z)))) else(some (.done (Sum.inr ())))
def f112(fu_:Nat)(p0:AH)(p1:AH):Option Int:=Option.bind (iter (PG fu_ p0 p1) fu_ 0) λK=>Sum.elim (λr=>some r) (λO=>if(p0.length:Int)<(p1.length:Int) then(some (-1)) else(some 0)) K
theorem fj{U:Aw}{p1:AH}(a8:Ap AE E a1 c2 p0)(a9:Ap AE E U sz p1){r:Int}(av:f112 fu_ p0 p1=some r):A6 J 38 [sV a1 p0 c2,sV U p1 sz,(fV 39)] E [] (λw E' B'=>w=iV r/\B'=[]):=by
 refine Bu func38 λQ ed cs H bb Z=>?_;unfold f112 at av;refine C 8 V (JL.ln underlying57 V V V ?_);let⟨aw,be,ag⟩:=bs av;refine C 2 V (BF (λL s=>∃(ay:Unit) (az:LH),aw=Sum.inr ay/\Jm E H az [] [(0,sV a1 p0 c2),(1,sV U p1 sz)] L s) ?_ ?_);rintro _ _ ⟨ay,az,rfl,rfl,rfl,a0,a2⟩;have bi:=elim_inr ag;refine C 4 V (JL.ln underlying57 V V V ?_);refine C 1 V (JL.ln underlying57 V V V ?_);refine C 2 V (A4 bi (λbn bo=>?_) (λbn bv=>?_));refine C 4 V ?_;cases bo;exact Ba func38 V V (Z a0 V ⟨V,V⟩ a2);refine C 5 V ?_;cases bv;exact Ba func38 V V (Z a0 V ⟨V,V⟩ a2);intro bw;refine JL.block (Ez be (λai=>[]) (λai=>[(0,sV a1 p0 c2),(1,sV U p1 sz),(2,(fV 39)),(11,sV a1 p0 c2),(12,iV (p0.length:Int)),(13,iV ai)]) AQ bb ?_);rintro ai bx K a3 al ⟨ee,O⟩ bz;have a4:=O;unfold PG at a4;refine C 5 V (A4 a4 (λb0 b1=>?_) (λb0 b2=>?_));let⟨am,b3,b4⟩:=bs b1;refine C 6 V (JS.ix (a8.M K) b3 underlying57 BJ ?_);rintro ef eg _ ⟨_,_,rfl,rfl,⟨_,_,rfl,rfl,rfl⟩⟩ b5;refine Du b5 ER BJ V V (Cd a3 B5 λej b6=>?_);refine C 1 V (JS.sx 0 b6 BJ λca=>?_);refine ED 0 ca V λek ac cc a5=>C 6 V (JL.ln underlying57 V V V ?_);refine C 2 V (A4 b4 (λce ci=>?_) (λce co=>?_));refine C 4 V ?_;cases ci;obtain rfl:=al _ O;have cp:=elim_inl ag;cases cp;exact Ba func38 V V (Z (K.Ad ac) V ⟨V,V⟩ a5);let⟨ap,ct,cw⟩:=bs co;refine C 5 V (JS.ix (a9.M (K.Ad ac)) ct underlying57 BJ ?_);rintro el em _ ⟨_,_,rfl,rfl,⟨_,_,rfl,rfl,rfl⟩⟩ cy;refine Du cy ER BJ V V (Cd a5 B5 λeo c0=>?_);refine JS.sx 1 c0 BJ λc1=>?_;refine ED 1 c1 V λep aq c3 c4=>C 4 V (Du (cc.M aq) ER BJ V V ?_);refine Du c3 ER BJ V V ?_;let⟨er,c5,c6⟩:=bs cw;refine Lq (vs:=[.agg #[iV am.1,iV am.2.1,iV am.2.2],.agg #[iV ap.1,iV ap.2.1,iV ap.2.2]]) (WV c5) V V V V (Be func39 V) V c4 ?_;rintro _ eu _ a6 ⟨rfl,rfl⟩ a7;refine C 7 V (A4 c6 (λc7 c8=>?_) (λc7 c9=>?_));refine C 5 V ?_;cases c8;obtain rfl:=al _ O;have dd:=elim_inl ag;cases dd;exact Ba func38 V V (Z (((K.Ad ac).Ad aq).Ad a6) V ⟨V,V⟩ a7);let⟨dj,ea,eb⟩:=bs c9;refine C 3 V (Bz ea V V V ?_);refine C 2 V ?_;cases eb;exact bz dj (((K.Ad ac).Ad aq).Ad a6) a7 V O;refine JL.exit V ?_;cases b2;have ec:aw=(Sum.inr ()):=(al _ O).symm;exact AF (bw _ _ ⟨(),bx,ec,V,V,K,a3⟩) V
def f74(fu_:Nat)(p0:AH)(p1:AH):Option Int:=(f112 fu_ p0 p1).bind λK=>some K
variable{a7:Aw}
theorem G8{p1:AH}(Y:Ap AE E a1 c2 p0)(Z:Ap AE E a7 sz p1){r:Int}(U:f74 fu_ p0 p1=some r):A6 J 22 [sV a1 p0 c2,sV a7 p1 sz] E [] (λw E' B'=>w=iV r/\B'=[]):=by
 refine Bu func22 λQ aq cs H ac ag=>?_;unfold f74 at U;let⟨av,ai,al⟩:=bs U;refine C 8 V (Dg (fj Y Z ai) V V (Be func38 V) ac λaw am ap=>?_);refine C 2 V ?_;cases al;exact Ba func22 V V (ag am V ⟨V,V⟩ ap)
def f73(fu_:Nat)(p0:AH)(p1:AH):Option Bool:=(f74 fu_ p0 p1).bind λK=>some (decide (K<0))
theorem iS{p1:AH}(Y:Ap AE E a1 c2 p0)(Z:Ap AE E a7 sz p1){r:Bool}(U:f73 fu_ p0 p1=some r):A6 J 21 [sV a1 p0 c2,sV a7 p1 sz] E [] (λw E' B'=>w=.bool r/\B'=[]):=by
 refine Bu func21 λQ aq cs H ac ag=>?_;unfold f73 at U;let⟨av,ai,al⟩:=bs U;refine C 8 V (Dg (G8 Y Z ai) V V G5 ac λaw am ap=>?_);refine C 3 V ?_;cases al;exact Ba func21 V V (ag am V ⟨V,V⟩ ap)
def f72(fu_:Nat)(p0:AH×Bool)(p1:AH):Option ((AH×Bool)):=Option.bind (if(!p0.2)=true then(some true) else((f73 fu_ p1 p0.1).bind λK=>some K)) λO=>Option.bind (if O=true then(some (p1,true)) else(some p0)) λU=>some U
theorem iD{K:Aw}{p0:AH×Bool}{p1:AH}(am:Ap AE E a1 c2 p0.1)(ap:Ap AE E K sz p1){r:(AH×Bool)}(aq:f72 fu_ p0 p1=some r):A6 J 20 [As bk 0,sV K p1 sz,(fV 21)] E [(bk,.cells #[sV a1 p0.1 c2,.bool p0.2] 59 (0,0))] (λw E' B'=>∃(av:Aw) (aw:Nat),w=.tuple #[]/\B'=[(bk,.cells #[sV av r.1 aw,.bool r.2] 59 (0,0))]/\Ap AE E' av aw r.1):=by
 refine Bu func20 λQ b5 cs H Y a2=>?_;unfold f72 at aq;refine C 4 V (JL.fd underlying59 Nl V V V ?_);refine Al (v:=.bool p0.2) V (λρ h=>Yl.load QI (h _ _ V) (B6 (j:=0) (off:=1) Y V V)) (Al (v:=.bool (!p0.2)) V (λρ h=>Yl.not (h _ _ V)) ?_);let⟨a3,a4,a5⟩:=bs aq;refine C 1 V (IK [] (λL s=>∃(U:LH),Jm E H U [bX bk #[sV a1 p0.1 c2,.bool p0.2] 59] [(0,As bk 0),(1,sV K p1 sz),(19,.bool a3)] L s) ?_ ?_);rintro _ _ ⟨U,rfl,rfl,ag,ay⟩;let⟨ai,a6,a7⟩:=bs a5;refine JL.done (BF (λL s=>∃(al:LH) (Z:Aw) (ac:Nat),Jn U H al [bX bk #[sV Z ai.1 ac,.bool ai.2] 59] [] L s (Ap AE al Z ac ai.1)) ?_ ?_);rintro _ _ ⟨al,Z,ac,rfl,rfl,a8,a9,bb⟩;cases a7;exact JL.fin (v:=.tuple #[]) V V (BO.list func20 V (vs:=[]) trivial) (a2 (ag.Ad a8) V ⟨Z,ac,V,V,bb⟩ a9);intro az;refine CO a6 (λbe bi=>?_) (λbe bn=>?_);refine C 5 V (JL.fd underlying59 AU V V V ?_);refine JS.sx 0 ay AU λbo=>?_;refine C 1 V (JL.fd underlying59 Nl V V V ?_);refine JS.sx 0 bo Nl λbv=>?_;refine JL.done ?_;cases bi;exact AF (az _ _ ⟨U,K,sz,V,V,AQ,bv,(ap.M ag)⟩) V;refine JL.skip ?_;cases bn;exact AF (az _ _ ⟨U,a1,c2,V,V,AQ,ay,(am.M ag)⟩) V;intro a0;refine FR 11 a4 (λbw bx=>?_) (λbw bz=>?_);refine C 8 V ?_;cases bx;exact AF (a0 _ _ ⟨E,V,V,AQ,Y⟩) V;refine C 4 V (JL.fd underlying59 AU V V V ?_);refine Al (v:=sV a1 p0.1 c2) V (λρ h=>Yl.load Bx (h _ _ V) (B6 (j:=0) (off:=0) Y V V)) ?_;let⟨b6,b0,b1⟩:=bs bz;refine Lq (vs:=[sV K p1 sz,sV a1 p0.1 c2]) (iS ap am b0) V V V V (Be func21 V) V Y ?_;rintro _ b2 _ b3 ⟨rfl,rfl⟩ b4;refine C 1 V ?_;cases b1;exact AF (a0 _ _ ⟨b2,V,V,b3,b4⟩) V
variable {J:Judge Tryz.prog}
def Pk(fu_:Nat)(O:List Int)(K:(AV)×Int):Option (Bj ((AV)×Int) ((AV))):=if K.2<(O.length:Int) then((ix O K.2).bind λU=>(Au (((A8 K.1 U).getD 0)+1)).bind λY=>(Au (K.2+1)).bind λZ=>some (.more ((Ce K.1 U Y),Z))) else(some (.done K.1))
def Pn(fu_:Nat)(p0:Bq)(K:(List AV)×Int):Option (Bj ((List AV)×Int) ((List AV))):=if K.2<(p0.1.length:Int) then((ix p0.1 K.2).bind λO=>Option.bind (iter (Pk fu_ O) fu_ (([]:AV),0)) λU=>(room K.1 U).bind λY=>(Au (K.2+1)).bind λZ=>some (.more (Y,Z))) else(some (.done K.1))
def f120(fu_:Nat)(p0:Bq):Option ((List AV)):=Option.bind (iter (Pn fu_ p0) fu_ ([],0)) λK=>some K
theorem gj{a9:Aw}{bb:Nat}{p0:Bq}(b6:Ap (rL rI) E a1 c2 p0.1)(gg:Ap AE E a9 bb p0.2){r:(List AV)}(be:f120 fu_ p0=some r):A6 J 46 [.agg #[sV a1 p0.1 c2,sV a9 p0.2 bb]] E [] (λw E' B'=>∃(bi:Aw) (bn:Nat),w= sV bi r bn/\B'=[]/\Ap (rM rI false rI false) E' bi bn r):=by
 refine Bu func46 λQ gh cs H ca cc=>?_;unfold f120 at be;refine C 2 V (Ew ca λgt aw bo ce ci=>?_);refine C 9 V (JL.fd underlying51 DK V V V ?_);refine CC 0 ce underlying28 FP F3 ?_;refine JL.ln underlying25 V V V ?_;let⟨bv,co,cp⟩:=bs be;refine C 2 V (BF (λL s=>∃(ay:LH) (al:Aw) (am:Nat) (az:Seg),Jn aw H ay [az] [(3,sV al bv am)] L s (OL 149 (rM rI false rI false) ay al am az bv)) ?_ ?_);rintro _ _ ⟨ay,al,am,az,rfl,rfl,ct,cw,cy⟩;refine C 5 V (CH 0 cy cw V λgB c0 c1 c3=>?_);cases cp;exact Ba func46 V V (cc ((bo.Ad ct).Ad c0) V ⟨al,am,V,V,c1⟩ c3);intro c4;refine JL.block (Cv co (λL s K=>∃(O:LH) (U:Aw) (Y:Nat) (ac:Seg),Jn aw H O [ac] [(3,sV U K.1 Y),(11,sV a1 p0.1 c2),(12,iV (p0.1.length:Int)),(13,iV K.2)] L s (OL 149 (rM rI false rI false) O U Y ac K.1)) ⟨aw,none,0,[],V,V,AQ,ci,OL.nil⟩ ?_);rintro _ _ K ⟨O,U,Y,ac,rfl,rfl,a0,bw,bx⟩ c5 ⟨gE,a2⟩ c6;have bz:=a2;unfold Pn at bz;refine C 5 V (A4 bz (λc7 c8=>?_) (λc7 c9=>?_));let⟨b0,dd,dj⟩:=bs c8;refine C 5 V (JS.ix (b6.M (bo.Ad a0)) dd underlying25 GC ?_);rintro gO g1 _ ⟨ea,eb,rfl,ec⟩ ed;refine DC 0 ed J1 V V V (C 4 V ?_);refine JS.makeMap V V V bw λag ee=>C 6 V (JL.ln underlying22 V V V ?_);let⟨b1,ef,eg⟩:=bs dj;refine C 2 V (BF (λL s=>∃(a3:LH) (ap:Obj),Jn O H a3 [ac,[(ag,ap)]] [(3,sV U K.1 Y),(6,.map (some ag)),(11,sV a1 p0.1 c2),(12,iV (p0.1.length:Int)),(13,iV K.2)] L s (BW rI false rI false a3 ap b1)) ?_ ?_);rintro _ _ ⟨a3,ap,rfl,rfl,b2,ej,ek⟩;refine C 3 V (Q2 1 ej V λb3 a4 el em=>?_);have eo:BW rI false rI false b3 ap b1:=(ek.M a4);let⟨ep,er,eu⟩:=bs eg;refine JS.app (pp:=(rM rI false rI false)) (v:=.map (some ag)) (a:=U) (c:=Y) 0 er V V V V (λ_=>V) V (λ_=>V) V V V underlying108 underlying108 underlying108 H7 (EG type149) (DL type149) V (by decide) (by decide) (by decide) (by decide) (bx.M (b2.Ad a4)) ⟨_,_,V,el,eo⟩ em V λg3 ew ex ey eA eC=>?_;let⟨eN,e0,e1⟩:=bs eu;refine C 4 V (Bz e0 V V V ?_);refine C 2 V ?_;cases e1;exact AF (c6 _ _ (ep,eN) ⟨b3,ew,ex,ey,V,V,((a0.Ad b2).Ad a4),eC,eA⟩ a2) V;intro e3;refine JL.block (Cv ef (λL s Z=>∃(ai:LH) (aq:Obj),Jn O H ai [ac,[(ag,aq)]] [(3,sV U K.1 Y),(6,.map (some ag)),(11,sV a1 p0.1 c2),(12,iV (p0.1.length:Int)),(13,iV K.2),(18,sV ea b0 eb),(19,iV (b0.length:Int)),(20,iV Z.2)] L s (BW rI false rI false ai aq Z.1)) ⟨O,(.map #[] 0),V,V,AQ,ee,BW.nil⟩ ?_);rintro _ _ Z ⟨ai,aq,rfl,rfl,a5,a6,a7⟩ e4 ⟨g4,a8⟩ e5;have b4:=a8;unfold Pk at b4;refine C 5 V (A4 b4 (λe6 e7=>?_) (λe6 e8=>?_));let⟨av,ff,fk⟩:=bs e7;refine C 5 V (JS.ix (ec.M a5) ff underlying22 AW ?_);rintro g5 g6 _ rfl fl;refine DC 0 fl By V V V (C 5 V ?_);refine Al (v:=iV ((A8 Z.1 av).getD 0)) V (λρ h=>Yl.lookup (ok:=false) (xs:=Z.1) (x0:=av) (z0:=0) JC underlying149 Dh ⟨_,V,V⟩ a7 ⟨_,V,V⟩ (by rintro _ ⟨_,rfl,rfl⟩;rfl) (h _ _ V) (h _ _ V) (DU (j:=1) (i:=0) a6 V V)) ?_;let⟨b5,fm,fo⟩:=bs fk;refine Bz fm V V V (JS.mapUpdate (xs:=Z.1) (x0:=av) (v0:=b5) 1 JC underlying149 a7 ⟨_,V,V⟩ ⟨_,V,V⟩ a6 V V V V V V V λfs fv fw=>?_);let⟨fN,gc,ge⟩:=bs fo;refine C 3 V (Bz gc V V V ?_);refine C 2 V ?_;cases ge;exact AF (e5 _ _ ((Ce Z.1 av b5),fN) ⟨ai,fs,V,V,a5,fw,fv⟩ a8) V;refine JL.exit V ?_;cases e8;obtain rfl:=e4 _ a8;exact AF (e3 _ _ ⟨ai,aq,V,V,a5,a6,a7⟩) V;refine JL.exit V ?_;cases c9;obtain rfl:=c5 _ a2;exact AF (c4 _ _ ⟨O,U,Y,ac,V,V,a0,bw,bx⟩) V
def PN(fu_:Nat)(p0:Bq)(O:(List Int))(K:(List Int)×Int):Option (Bj ((List Int)×Int) ((List Int))):=if K.2<5 then((ix O K.2).bind λU=>Option.bind (if K.2<(p0.1.length:Int) then((ix p0.1 K.2).bind λY=>(f85 fu_ Y).bind λZ=>(Au (-(U))).bind λac=>some (decide (Z<ac))) else(some false)) λag=>Option.bind (if ag=true then((room K.1 K.2).bind λai=>some ai) else(some K.1)) λal=>(Au (K.2+1)).bind λam=>some (.more (al,am))) else(some (.done K.1))
def f39(fu_:Nat)(p0:Bq):Option ((List Int)×Int):=(f70 fu_ p0 ([])).bind λK=>if K.2≠0 then(some ([],K.2)) else((f84 fu_ K.1).bind λO=>Option.bind (iter (PN fu_ p0 O) fu_ ([],0)) λU=>some (U,0))
theorem Xc{bn:Aw}{bo:Nat}{p0:Bq}(bv:Ap (rL rI) E a1 c2 p0.1)(ca:Ap AE E bn bo p0.2){r:(List Int)×Int}(bw:f39 fu_ p0=some r):A6 J 6 [.agg #[sV a1 p0.1 c2,sV bn p0.2 bo]] E [] (λw E' B'=>∃(bx:Aw) (bz:Nat),w=.tuple #[sV bx r.1 bz,iV r.2]/\B'=[]/\Ap rI E' bx bz r.1):=by
 refine Bu func6 λQ g6 cs H cc b0=>?_;unfold f39 at bw;refine C 2 V (Ew cc λa2 g7 ai a3 ce=>?_);refine C 5 V (Du a3 Gm DK V V ?_);let⟨g8,ci,co⟩:=bs bw;refine Cl (MN (bv.M ai) (ca.M ai) Ap.nil ci) V V Mk ce ?_;rintro _ ha _ al ⟨hb,hc,he,hf,rfl,rfl,cp,ct⟩ cw;refine C 3 V (Cd cw ID λhg cy=>?_);refine JS.sx 3 cy Es λc0=>?_;refine ED 3 c0 V λhj O c1 b1=>C 8 V (A4 co (λc3 c4=>?_) (λc3 c5=>?_));refine C 6 V ?_;cases c4;exact Ba func6 V V (b0 ((ai.Ad al).Ad O) V ⟨none,0,V,V,Ap.nil⟩ b1);refine C 8 V (Du c1 GB Es V V ?_);let⟨hk,c6,c7⟩:=bs c5;refine Cl (SJ (cp.M O) (ct.M O) c6) V V QQ b1 ?_;rintro _ a4 _ ap ⟨a5,rfl,rfl,c8⟩ c9;let⟨b2,dd,dj⟩:=bs c7;refine C 2 V (BF (λL s=>∃(a6:LH) (aq:Aw) (av:Nat) (a7:Seg),Jn a4 H a6 [a7] [(6,sV aq b2 av)] L s (OL 3 rI a6 aq av a7 b2)) ?_ ?_);rintro _ _ ⟨a6,aq,av,a7,rfl,rfl,ea,eb,ec⟩;refine C 6 V (CH 0 ec eb V λhl ed ee ef=>?_);cases dj;exact Ba func6 V V (b0 (((((ai.Ad al).Ad O).Ad ap).Ad ea).Ad ed) V ⟨aq,av,V,V,ee⟩ ef);intro eg;refine JL.block (Cv dd (λL s K=>∃(Z:LH) (U:Aw) (Y:Nat) (ac:Seg),Jn a4 H Z [ac] [(1,As a2 0),(6,sV U K.1 Y),(18,.agg a5.toArray),(19,iV K.2)] L s (OL 3 rI Z U Y ac K.1)) ⟨a4,none,0,[],V,V,AQ,c9,OL.nil⟩ ?_);rintro _ _ K ⟨Z,U,Y,ac,rfl,rfl,ag,a8,a9⟩ ej ⟨hm,bb⟩ ek;have b3:=bb;unfold PN at b3;refine C 5 V (A4 b3 (λel em=>?_) (λel eo=>?_));let⟨hn,ep,er⟩:=bs em;refine C 6 V (WQ (Rp.M _ ag c8) ep V V V V V underlying55 AW By ?_ (λ_=>V));rintro _ rfl;refine C 6 V (CC 0 (a3.M (((al.Ad O).Ad ap).Ad ag)) underlying28 FP F3 ?_);refine JL.ln underlying25 V V V ?_;let⟨eu,ew,ex⟩:=bs er;refine C 2 V (IK [] (λL s=>∃(am:LH),Jm Z H am [ac] [(1,As a2 0),(6,sV U K.1 Y),(7,iV K.2),(18,.agg a5.toArray),(19,iV K.2),(38,.bool eu)] L s) ?_ ?_);rintro _ _ ⟨am,rfl,rfl,be,b4⟩;let⟨bi,ey,eA⟩:=bs ex;refine JL.done (BF (λL s=>∃(aw:LH) (ay:Aw) (az:Nat) (a0:Seg),Jn am H aw [a0] [(1,As a2 0),(6,sV ay bi az),(18,.agg a5.toArray),(19,iV K.2)] L s (OL 3 rI aw ay az a0 bi)) ?_ ?_);rintro _ _ ⟨aw,ay,az,a0,rfl,rfl,eC,eN,e0⟩;let⟨e1,e3,e4⟩:=bs eA;refine C 2 V (Bz e3 V V V ?_);refine C 2 V ?_;cases e4;exact AF (ek _ _ (bi,e1) ⟨aw,ay,az,a0,V,V,((ag.Ad be).Ad eC),eN,e0⟩ bb) V;intro b5;refine CO ey (λe5 e6=>?_) (λe5 e7=>?_);let⟨ho,e8,ff⟩:=bs e6;refine C 3 V (JS.app (pp:=rI) (v:=iV K.2) (a:=U) (c:=Y) 0 e8 V V V V (λ_=>V) V (λ_=>V) V V V underlying22 underlying22 underlying22 AW (EG type3) Dh V (by decide) (by decide) (by decide) (by decide) (a9.M be) V b4 V λhp fk fl fm fo fs=>?_);refine C 2 V ?_;cases ff;exact AF (b5 _ _ ⟨am,fk,fl,fm,V,V,AQ,fs,fo⟩) V;refine JL.skip ?_;cases e7;exact AF (b5 _ _ ⟨am,U,Y,ac,V,V,AQ,b4,(a9.M be)⟩) V;intro b6;refine I2 28 ew (λfv fw=>?_) (λfv fN=>?_);refine CC 0 (a3.M (((al.Ad O).Ad ap).Ad ag)) underlying28 FP F3 ?_;let⟨hq,gc,ge⟩:=bs fw;refine C 1 V (JS.ix (bv.M ((((ai.Ad al).Ad O).Ad ap).Ad ag)) gc underlying25 GC ?_);rintro hr hs _ ⟨ht,hu,rfl,gg⟩ gh;refine DC 0 gh J1 V V V ?_;let⟨hv,gt,gB⟩:=bs ge;refine Dg (Ip gg gt) V V H6 a8 λgE gO g1=>?_;let⟨g3,g4,g5⟩:=bs gB;refine C 1 V (Al (v:=iV g3) V (λρ h=>Ie (h _ _ V) g4) ?_);refine C 2 V ?_;cases g5;exact AF (b6 _ _ ⟨gE,V,V,gO,g1⟩) V;refine C 10 V ?_;cases fN;exact AF (b6 _ _ ⟨Z,V,V,AQ,a8⟩) V;refine JL.exit V ?_;cases eo;obtain rfl:=ej _ bb;exact AF (eg _ _ ⟨Z,U,Y,ac,V,V,ag,a8,a9⟩) V
def Vx(fu_:Nat)(p0:List Int)(p1:Int)(K:Int):Option (Bj Int ((Int)⊕(Unit))):=if K<(p0.length:Int) then((ix p0 K).bind λO=>if p1=O then(some (.done (Sum.inl K))) else((Au (K+1)).bind λU=>some (.more U))) else(some (.done (Sum.inr ())))
def f128(fu_:Nat)(p0:List Int)(p1:Int):Option Int:=Option.bind (iter (Vx fu_ p0 p1) fu_ 0) λK=>Sum.elim (λr=>some r) (λO=>some (-1)) K
variable{p1:Int}
theorem fC{p0:List Int}(av:Ap rI E a1 c2 p0){r:Int}(Z:f128 fu_ p0 p1=some r):A6 J 91 [sV a1 p0 c2,iV p1] E [] (λw E' B'=>w=iV r/\B'=[]):=by
 refine Bu func91 λQ b1 cs H aw ac=>?_;unfold f128 at Z;refine C 8 V (JL.ln underlying22 V V V ?_);let⟨ag,ay,ai⟩:=bs Z;refine C 2 V (BF (λL s=>∃(al:Unit) (am:LH),ag=Sum.inr al/\Jm E H am [] [] L s) ?_ ?_);rintro _ _ ⟨al,am,rfl,rfl,rfl,az,a0⟩;have a2:=elim_inr ai;refine C 4 V ?_;cases a2;exact Ba func91 V V (ac az V ⟨V,V⟩ a0);intro a3;refine JL.block (Ez ay (λU=>[]) (λU=>[(0,sV a1 p0 c2),(1,iV p1),(7,iV (p0.length:Int)),(8,iV U)]) AQ aw ?_);rintro U a4 K Y ap ⟨b2,O⟩ a5;have aq:=O;unfold Vx at aq;refine C 5 V (A4 aq (λa6 a7=>?_) (λa6 a8=>?_));let⟨b3,a9,bb⟩:=bs a7;refine C 13 V (JS.ix (av.M K) a9 underlying22 AW ?_);rintro b4 b5 _ rfl be;refine DC 0 be By V V V (C 2 V ?_);refine A4 bb (λbi bn=>?_) (λbi bo=>?_);refine C 5 V ?_;cases bn;obtain rfl:=ap _ O;have bv:=elim_inl ai;cases bv;exact Ba func91 V V (ac K V ⟨V,V⟩ Y);let⟨bw,bx,bz⟩:=bs bo;refine C 3 V (Bz bx V V V ?_);refine C 2 V ?_;cases bz;exact a5 bw K Y V O;refine JL.exit V ?_;cases a8;have b0:ag=(Sum.inr ()):=(ap _ O).symm;exact AF (a3 _ _ ⟨(),a4,b0,V,V,K,Y⟩) V
def f82(fu_:Nat)(p0:List Int)(p1:Int):Option Bool:=(f128 fu_ p0 p1).bind λK=>some (decide (0<=K))
theorem ig{p0:List Int}(O:Ap rI E a1 c2 p0){r:Bool}(K:f82 fu_ p0 p1=some r):A6 J 52 [sV a1 p0 c2,iV p1] E [] (λw E' B'=>w=.bool r/\B'=[]):=by
 refine Bu func52 λQ al cs H U Y=>?_;unfold f82 at K;let⟨am,Z,ac⟩:=bs K;refine C 8 V (Dg (fC O Z) V V (Be func91 V) U λap ag ai=>?_);refine C 3 V ?_;cases ac;exact Ba func52 V V (Y ag V ⟨V,V⟩ ai)
def W1(fu_:Nat)(O:Bq×Int)(K:(List ((Int×Int)×Bool))×Int):Option (Bj ((List ((Int×Int)×Bool))×Int) ((List ((Int×Int)×Bool)))):=if K.2<(O.1.2.length:Int) then((ix O.1.2 K.2).bind λU=>(Au (K.2+1)).bind λY=>some (.more ((Ce K.1 (U.1,U.2.1) true),Y))) else(some (.done K.1))
def W3(fu_:Nat)(U:Bq×Int)(Y:(List ((Int×Int)×Bool)))(O:List Int)(K:Bt×Int):Option (Bj (Bt×Int) (Bt)):=if K.2<(U.1.1.length:Int) then(Option.bind ((f82 fu_ O K.2).bind λZ=>Option.bind (if Z=true then(some true) else(if 0<(O.length:Int) then((Au ((O.length:Int) - 1)).bind λac=>(ix O ac).bind λag=>some (!((A8 Y (ag,K.2)).getD false))) else(some false))) λai=>if ai=true then(some K.1) else((Ey O ([K.2]:List Int)).bind λal=>(room K.1 al).bind λam=>some am)) λap=>(Au (K.2+1)).bind λaq=>some (.more (ap,aq))) else(some (.done K.1))
def WI(fu_:Nat)(Z:Bq×Int)(U:(List ((Int×Int)×Bool)))(Y:Bt)(O:Bt×Int):Option (Bj (Bt×Int) (((List Int)×Int)⊕(Bt))):=if O.2<(Y.length:Int) then((ix Y O.2).bind λK=>Option.bind (if 1<(K.length:Int) then((Au ((K.length:Int) - 1)).bind λac=>(ix K ac).bind λag=>(ix K (0)).bind λai=>some ((A8 U (ag,ai)).getD false)) else(some false)) λal=>if al=true then(some (.done (Sum.inl (K,0)))) else(Option.bind (iter (W3 fu_ Z U K) fu_ (O.1,0)) λam=>(Au (O.2+1)).bind λap=>some (.more (am,ap)))) else(some (.done (Sum.inr O.1)))
def Ws(fu_:Nat)(U:Bq×Int)(Y:(List ((Int×Int)×Bool)))(K:Bt):Option (Bj (Bt) (((List Int)×Int)⊕(Unit))):=if 0<(K.length:Int) then(Option.bind (iter (WI fu_ U Y K) fu_ ([],0)) λZ=>Sum.elim (λr=>some (.done (Sum.inl r))) (λO=>if(O.length:Int)=0 then(some (.done (Sum.inr ()))) else(some (.more O))) Z) else(some (.done (Sum.inr ())))
def f33(fu_:Nat)(p0:Bq):Option ((List Int)×Int):=(f70 fu_ p0 ([])).bind λK=>if K.2≠0 then(some ([],K.2)) else(Option.bind (iter (W1 fu_ K) fu_ (([]:List ((Int×Int)×Bool)),0)) λO=>Option.bind (iter (Ws fu_ K O) fu_ ([[]]:Bt)) λU=>Sum.elim (λr=>some r) (λY=>some ([],11)) U)
theorem gX{eu:Aw}{ew:Nat}{p0:Bq}(g3:Ap (rL rI) E a1 c2 p0.1)(g4:Ap AE E eu ew p0.2){r:(List Int)×Int}(ex:f33 fu_ p0=some r):A6 J 27 [.agg #[sV a1 p0.1 c2,sV eu p0.2 ew]] E [] (λw E' B'=>∃(ey:Aw) (eA:Nat),w=.tuple #[sV ey r.1 eA,iV r.2]/\B'=[]/\Ap rI E' ey eA r.1):=by
 refine Bu func27 λQ kR cs H g5 dd=>?_;unfold f33 at ex;refine C 2 V (Ew g5 λkS kT bw g6 g7=>?_);refine C 6 V (Du g6 Gm DK V V ?_);let⟨bx,g8,ha⟩:=bs ex;refine Cl (MN (g3.M bw) (g4.M bw) Ap.nil g8) V V Mk g7 ?_;rintro _ kU _ dj ⟨kV,kW,hb,hc,rfl,rfl,kX,he⟩ hf;refine C 3 V (Cd hf ID λag hg=>?_);refine JS.sx 3 hg Es λhj=>?_;refine ED 3 hj V λea b5 eC eN=>C 8 V (A4 ha (λhk hl=>?_) (λhk hm=>?_));refine C 6 V ?_;cases hl;exact Ba func27 V V (dd ((bw.Ad dj).Ad b5) V ⟨none,0,V,V,Ap.nil⟩ eN);refine C 3 V (JS.makeMap V V V eN λK hn=>?_);refine C 5 V (JL.fd underlying51 DK V V V ?_);refine CC 1 eC underlying28 Hk Jl ?_;refine JL.ln underlying26 V V V ?_;let⟨a8,ho,hp⟩:=bs hm;refine C 2 V (BF (λL s=>∃(a9:LH) (ac:Obj),Jn ea H a9 [[(K,ac)]] [(4,As ag 0),(6,.map (some K))] L s (BW Gz true rB false a9 ac a8)) ?_ ?_);rintro _ _ ⟨a9,ac,rfl,rfl,eb,hq,e0⟩;refine C 2 V (Gr (pp:=(rL rI)) [nS] [[]] V V V underlying25 GC Nj (by decide) V V V ⟨⟨_,_,V,Ap.nil⟩,trivial⟩ hq λhr hs ht hu=>?_);refine C 3 V (JL.label ?_);let⟨ec,hv,e1⟩:=bs hp;refine JL.seq (BF (λL s=>∃(e3:Unit) (e4:LH),ec=Sum.inr e3/\Jm a9 H e4 [] [] L s) ?_ ?_);rintro _ _ ⟨e3,e4,rfl,rfl,rfl,hw,hx⟩;have hy:=elim_inr e1;refine C 5 V ?_;cases hy;exact Ba func27 V V (dd ((((bw.Ad dj).Ad b5).Ad eb).Ad hw) V ⟨none,0,V,V,Ap.nil⟩ hx);intro e5;refine JL.block (Cv hv (λL s O=>∃(az:LH) (ai:Aw) (al:Nat) (am:Seg),Jn a9 H az [[(K,ac)],am] [(4,As ag 0),(6,.map (some K)),(9,sV ai O al)] L s (OL 22 (rL rI) az ai al am O)) ⟨a9,(A7 hr),1,hs,V,V,AQ,hu,ht⟩ ?_);rintro _ _ O ⟨az,ai,al,am,rfl,rfl,a0,e6,hz⟩ ed ⟨kY,bz⟩ hA;have e7:=bz;unfold Ws at e7;refine C 4 V (JL.ln underlying25 V V V ?_);refine C 2 V (A4 e7 (λhB hC=>?_) (λhB hD=>?_));refine C 10 V (JL.ln underlying25 V V V ?_);let⟨e8,hE,ff⟩:=bs hC;refine C 2 V (BF (λL s=>∃(b0:Bt) (b1:LH) (b6:Aw) (ca:Nat) (cc:Seg),e8=Sum.inr b0/\Jn az H b1 [[(K,ac)],cc] [(4,As ag 0),(6,.map (some K)),(10,sV b6 b0 ca)] L s (OL 22 (rL rI) b1 b6 ca cc b0)) ?_ ?_);rintro _ _ ⟨b0,b1,b6,ca,cc,rfl,rfl,rfl,fk,fl,hF⟩;have hG:=elim_inr ff;refine C 8 V (JL.ln underlying25 V V V ?_);refine C 2 V (A4 hG (λhH hI=>?_) (λhH hK=>?_));refine JL.exit V (JS.drop 0 fl V λhL=>?_);refine JS.drop 1 hL V λhM=>?_;cases hI;have hN:ec=(Sum.inr ()):=(ed _ bz).symm;exact AF (e5 _ _ ⟨(),b1,hN,V,V,(a0.Ad fk),hM⟩) V;refine C 2 V ?_;cases hK;exact AF (hA _ _ b0 ⟨b1,b6,ca,cc,V,V,(a0.Ad fk),fl,hF⟩ bz) V;intro hO;refine JL.block (Cv hE (λL s Y=>∃(aq:LH) (bb:Aw) (be:Nat) (bi:Seg),Jn az H aq [[(K,ac)],am,bi] [(4,As ag 0),(6,.map (some K)),(10,sV bb Y.1 be),(43,sV ai O al),(44,iV (O.length:Int)),(45,iV Y.2)] L s (OL 22 (rL rI) aq bb be bi Y.1)) ⟨az,none,0,[],V,V,AQ,e6,OL.nil⟩ ?_);rintro _ _ Y ⟨aq,bb,be,bi,rfl,rfl,a2,b2,fm⟩ fo ⟨kZ,ce⟩ hP;have fs:=ce;unfold WI at fs;refine C 5 V (A4 fs (λhQ hR=>?_) (λhQ hS=>?_));let⟨av,hT,hU⟩:=bs hR;refine C 5 V (Pm 1 (hz.M a2) hT V V V V V V underlying25 GC ?_);rintro k0 k1 f155 _ hV ⟨a3,bn,rfl,aw⟩ hW k2 k3 k4 k5;refine Al (v:=sV a3 av bn) V (λρ h=>Yl.load J1 (h _ _ V) (B6 (j:=1) b2 hV (hW 0 _ V))) (C 6 V ?_);refine JL.ln underlying22 V V V (C 3 V ?_);refine SY 15 λZ=>A5 Z V [0,1,2] V ?_;let⟨hX,fv,hY⟩:=bs hU;refine F5 0 (tR_ 15 0) (λL s=>L=[(4,As ag 0),(6,.map (some K)),(10,sV bb Y.1 be),(12,sV a3 av bn),(43,sV ai O al),(44,iV (O.length:Int)),(45,iV Y.2),(65,.bool hX)]/\s=Aj aq H [[(K,ac)],am,bi]) ?_ ?_;rintro _ _ ⟨rfl,rfl⟩;refine AT.fin (by decide+kernel) (CO hY (λh0 h1=>?_) (λh0 h2=>?_));refine C 6 V (JS.drop 0 b2 V λh3=>?_);refine JS.drop 1 h3 V λh4=>JS.drop 2 h4 V λh5=>?_;cases h1;obtain rfl:=fo _ ce;have h6:=elim_inl ff;cases h6;obtain rfl:=ed _ bz;have h7:=elim_inl e1;cases h7;exact Ba func27 V V (dd (((((bw.Ad dj).Ad b5).Ad eb).Ad a0).Ad a2) V ⟨a3,bn,V,V,aw⟩ h5);refine C 3 V (JL.fd underlying51 DK V V V ?_);refine CC 0 (eC.M ((eb.Ad a0).Ad a2)) underlying28 FP F3 ?_;refine JL.ln underlying25 V V V ?_;let⟨ee,h8,h9⟩:=bs h2;refine C 2 V (BF (λL s=>∃(ci:LH) (co:Aw) (cp:Nat) (ct:Seg),Jn aq H ci [[(K,ac)],am,ct] [(4,As ag 0),(6,.map (some K)),(10,sV co ee cp),(43,sV ai O al),(44,iV (O.length:Int)),(45,iV Y.2)] L s (OL 22 (rL rI) ci co cp ct ee)) ?_ ?_);rintro _ _ ⟨ci,co,cp,ct,rfl,rfl,ia,ih,ii⟩;let⟨io,i0,i1⟩:=bs h9;refine C 2 V (Bz i0 V V V ?_);refine C 2 V ?_;cases i1;exact AF (hP _ _ (ee,io) ⟨ci,co,cp,ct,V,V,(a2.Ad ia),ih,ii⟩ ce) V;intro i3;refine JL.block (Cv h8 (λL s U=>∃(b3:LH) (a4:Aw) (a5:Nat) (bo:Seg),Jn aq H b3 [[(K,ac)],am,bo] [(4,As ag 0),(6,.map (some K)),(10,sV a4 U.1 a5),(12,sV a3 av bn),(43,sV ai O al),(44,iV (O.length:Int)),(45,iV Y.2),(70,iV (bx.1.1.length:Int)),(71,iV U.2)] L s (OL 22 (rL rI) b3 a4 a5 bo U.1)) ⟨aq,bb,be,bi,V,V,AQ,b2,fm⟩ ?_);rintro _ _ U ⟨b3,a4,a5,bo,rfl,rfl,ay,fw,ef⟩ i4 ⟨k6,eg⟩ i5;have fN:=eg;unfold W3 at fN;refine C 5 V (A4 fN (λi6 i7=>?_) (λi6 i8=>?_));let⟨ej,i9,jg⟩:=bs i7;refine C 2 V (BF (λL s=>∃(cw:LH) (cy:Aw) (c0:Nat) (c1:Seg),Jn b3 H cw [[(K,ac)],am,c1] [(4,As ag 0),(6,.map (some K)),(10,sV cy ej c0),(12,sV a3 av bn),(43,sV ai O al),(44,iV (O.length:Int)),(45,iV Y.2),(70,iV (bx.1.1.length:Int)),(71,iV U.2)] L s (OL 22 (rL rI) cw cy c0 c1 ej)) ?_ ?_);rintro _ _ ⟨cw,cy,c0,c1,rfl,rfl,jj,jp,jr⟩;let⟨jt,jy,jA⟩:=bs jg;refine JL.region (Bz jy V V V ?_);refine C 2 V ?_;cases jA;exact AF (i5 _ _ (ej,jt) ⟨cw,cy,c0,c1,V,V,(ay.Ad jj),jp,jr⟩ eg) V;intro gc;let⟨k7,jB,jC⟩:=bs i9;refine C 11 V (Dg (ig (aw.M ay) jB) V V (Be func52 V) fw λc3 ap c4=>?_);let⟨jD,jE,jF⟩:=bs jC;refine C 1 V (IK [] (λL s=>∃(ek:LH),Jm c3 H ek [[(K,ac)],am,bo] [(4,As ag 0),(6,.map (some K)),(10,sV a4 U.1 a5),(12,sV a3 av bn),(14,iV U.2),(43,sV ai O al),(44,iV (O.length:Int)),(45,iV Y.2),(70,iV (bx.1.1.length:Int)),(71,iV U.2),(94,.bool jD)] L s) ?_ ?_);rintro _ _ ⟨ek,rfl,rfl,a6,ge⟩;refine JL.done (CO jF (λjG jH=>?_) (λjG jI=>?_));refine JL.exit V ?_;cases jH;exact AF (gc _ _ ⟨ek,a4,a5,bo,V,V,(ap.Ad a6),ge,(ef.M (ap.Ad a6))⟩) V;refine C 5 V (JL.ln underlying22 V V V ?_);refine C 1 V (JL.ln underlying22 V V V ?_);refine Al (v:=.slice a3 av.length av.length) V (λρ h=>TS (Ap.spot (aw.M ((ay.Ad ap).Ad a6))) (And.left (aw.M ((ay.Ad ap).Ad a6))) underlying22 AW (h _ _ V) (h _ _ V) (h _ _ V)) (C 1 V ?_);refine Gr (pp:=rI) [iV U.2] [U.2] V V V underlying22 AW Dh (by decide) V V V ⟨V,trivial⟩ ge λk8 k9 jJ jK=>CH 3 jJ jK V λla el jL jM=>?_;let⟨jN,jO,jP⟩:=bs jI;refine YF (pp:=rI) jO V V V V V V V underlying22 underlying22 AW (EG type3) Dh V (by decide) (by decide) (aw.M (((ay.Ad ap).Ad a6).Ad el)) jL jM λjQ jR jS gg jT jU=>?_;obtain⟨lb,jV,jW⟩:=bs jP;refine JS.app (pp:=(rL rI)) (v:=sV jR jN jS) (a:=a4) (c:=a5) 2 jV V V V V (λ_=>V) V (λ_=>V) V V V underlying25 underlying25 underlying25 GC (EG type22) Nj V (by decide) (by decide) (by decide) (by decide) (ef.M (((ap.Ad a6).Ad el).Ad gg)) ⟨_,_,V,jT⟩ jU V λld jX jY jZ j0 j1=>C 3 V ?_;cases jW;exact AF (gc _ _ ⟨jQ,jX,jY,jZ,V,V,(((ap.Ad a6).Ad el).Ad gg),j1,j0⟩) V;intro em;refine FR 77 jE (λj2 j3=>?_) (λj2 j4=>?_);refine C 17 V ?_;cases j3;exact AF (em _ _ ⟨c3,V,V,AQ,c4⟩) V;refine C 1 V (JL.ln underlying22 V V V ?_);refine C 2 V (I2 81 j4 (λj5 j6=>?_) (λj5 j7=>?_));refine C 3 V (JL.ln underlying22 V V V ?_);let⟨lf,j8,j9⟩:=bs j6;refine BY j8 V V V ?_;let⟨c5,kb,kc⟩:=bs j9;refine JS.ix (aw.M (ay.Ad ap)) kb underlying22 AW ?_;rintro lg lh _ rfl ke;refine DC 0 ke By V V V (C 1 V ?_);refine Al (v:=.agg #[iV c5,iV U.2]) V (λρ h=>DR [(0,1),(1,1)] h J2 underlying115 ⟨V,A2 type3,V,A2 type3,trivial⟩ V V) (Al (v:=.bool (((A8 a8 (c5,U.2)).getD false))) V (λρ h=>Yl.lookup (ok:=false) (xs:=a8) (x0:=(c5,U.2)) (z0:=false) Sv underlying113 Nk ⟨_,V,V⟩ (e0.M (((a0.Ad a2).Ad ay).Ad ap)) ⟨_,⟨_,_,V,V,V⟩,V⟩ (by rintro _ ⟨_,rfl,rfl⟩;rfl) (h _ _ V) (h _ _ V) (DU (j:=0) (i:=0) c4 V V)) ?_);refine Al (v:=.bool ((!((A8 a8 (c5,U.2)).getD false)))) V (λρ h=>Yl.not (h _ _ V)) (C 2 V ?_);cases kc;exact AF (em _ _ ⟨c3,V,V,AQ,c4⟩) V;refine C 13 V ?_;cases j7;exact AF (em _ _ ⟨c3,V,V,AQ,c4⟩) V;refine JL.exit V ?_;cases i8;obtain rfl:=i4 _ eg;exact AF (i3 _ _ ⟨b3,a4,a5,bo,V,V,ay,fw,ef⟩) V;intro gh;refine GI (q:=1<(av.length:Int)) (i:=53) V (λeo=>?_) (λeo=>?_);have kf:=ip fv eo;refine A5 Z V [3,4,5] V ?_;let⟨li,kg,kh⟩:=bs kf;refine AP 6 Z V V (λρ h s' a7=>EF (h _ _ V) (h _ _ V) kg) ?_;let⟨c6,ki,kj⟩:=bs kh;refine F9 7 aw ki Z underlying22 AW ?_;rintro lj ll _ rfl kl;refine AP (v:=iV c6) 8 Z V V (λρ h s' a7=>Yl.load By (h _ _ V) (NX a7 (At.MQ (j:=0) kl V))) ?_;refine Dw 9 Z V V ?_;let⟨c7,km,kn⟩:=bs kj;refine F9 10 aw km Z underlying22 AW ?_;rintro lm lq _ rfl ko;refine AP (v:=iV c7) 11 Z V V (λρ h s' a7=>Yl.load By (h _ _ V) (NX a7 (At.MQ (j:=0) ko V))) ?_;refine AP (v:=.agg #[iV c6,iV c7]) 12 Z V V (λρ h s' a7=>DR [(0,1),(1,1)] h J2 underlying115 ⟨V,A2 type3,V,A2 type3,trivial⟩ V V) ?_;refine AP (v:=.bool (((A8 a8 (c6,c7)).getD false))) 13 Z V V (λρ h s' a7=>Yl.lookup (ok:=false) (xs:=a8) (x0:=(c6,c7)) (z0:=false) Sv underlying113 Nk ⟨_,V,V⟩ (e0.M (a0.Ad a2)) ⟨_,⟨_,_,V,V,V⟩,V⟩ (by rintro _ ⟨_,rfl,rfl⟩;rfl) (h _ _ V) (h _ _ V) (Td a7 (DU (j:=0) (i:=0) b2 V V))) ?_;refine Dw 14 Z V V ?_;cases kn;refine Dz ?_ (gh _ _ ⟨V,V⟩);exact⟨V,V,V,V,V,V,V,V,trivial⟩;have kp:=im fv eo;refine A5 Z V [3,4,5,6,7,8,9,10,11,12,13,14] V ?_;cases kp;refine Dz ?_ (gh _ _ ⟨V,V⟩);exact⟨V,V,V,V,V,V,V,V,trivial⟩;refine JL.exit V (JS.drop 1 b2 V λkq=>?_);cases hS;have kr:e8=(Sum.inr Y.1):=(fo _ ce).symm;exact AF (hO _ _ ⟨Y.1,aq,bb,be,bi,kr,V,V,a2,kq,fm⟩) V;refine JL.exit V (JS.drop 0 e6 V λks=>?_);refine JS.drop 1 ks V λkt=>?_;cases hD;have ku:ec=(Sum.inr ()):=(ed _ bz).symm;exact AF (e5 _ _ ⟨(),az,ku,V,V,a0,kt⟩) V;intro kv;refine JL.block (Cv ho (λL s b4=>∃(c8:LH) (c9:Obj),Jn ea H c8 [[(K,c9)]] [(4,As ag 0),(6,.map (some K)),(26,sV hb bx.1.2 hc),(27,iV (bx.1.2.length:Int)),(28,iV b4.2)] L s (BW Gz true rB false c8 c9 b4.1)) ⟨ea,(.map #[] 0),V,V,AQ,hn,BW.nil⟩ ?_);rintro _ _ b4 ⟨c8,c9,rfl,rfl,ep,gt,gB⟩ kx ⟨lr,er⟩ ky;have gE:=er;unfold W1 at gE;refine C 5 V (A4 gE (λkz kA=>?_) (λkz kB=>?_));let⟨bv,kC,kD⟩:=bs kA;refine C 5 V (JS.ix (he.M (b5.Ad ep)) kC underlying26 BJ ?_);rintro ls lu _ ⟨_,_,rfl,rfl,⟨_,_,rfl,rfl,rfl⟩⟩ kF;refine Du kF ER BJ V V (Cd gt B5 λlw kG=>?_);refine JS.sx 1 kG BJ λkI=>?_;refine ED 1 kI V λkJ gO g1 kK=>C 3 V (CC 0 g1 underlying31 AW By ?_);refine CC 1 g1 underlying31 AW By ?_;refine Al (v:=.agg #[iV bv.1,iV bv.2.1]) V (λρ h=>DR [(0,1),(1,1)] h J2 underlying115 ⟨V,A2 type3,V,A2 type3,trivial⟩ V V) (JS.mapUpdate (xs:=b4.1) (x0:=(bv.1,bv.2.1)) (v0:=true) 0 Sv underlying113 (gB.M gO) ⟨_,⟨_,_,V,V,V⟩,V⟩ ⟨_,V,V⟩ kK V V V V V V V λkL kM kN=>?_);let⟨kO,kP,kQ⟩:=bs kD;refine C 3 V (Bz kP V V V ?_);refine C 2 V ?_;cases kQ;exact AF (ky _ _ ((Ce b4.1 (bv.1,bv.2.1) true),kO) ⟨kJ,kL,V,V,(ep.Ad gO),kN,kM⟩ er) V;refine JL.exit V ?_;cases kB;obtain rfl:=kx _ er;exact AF (kv _ _ ⟨c8,c9,V,V,ep,gt,gB⟩) V
variable {J:Judge Tryz.prog}
def WN:List Nat:=[0,1,2,2,3,3,3,3,4,4,4,4,4,4,4,4,5,5,5,5,5,5,5,5,5,5,5,5,5,5,5,5,6,6,6,6,6,6,6,6,6,6,6,6,6,6,6,6,6,6,6,6,6,6,6,6,6,6,6,6,6,6,6,6,7,7,7,7,7,7,7,7,7,7,7,7,7,7,7,7,7,7,7,7,7,7,7,7,7,7,7,7,7,7,7,7,7,7,7,7,7,7,7,7,7,7,7,7,7,7,7,7,7,7,7,7,7,7,7,7,7,7,7,7,7,7,7,7,8,8,8,8,8,8,8,8,8,8,8,8,8,8,8,8,8,8,8,8,8,8,8,8,8,8,8,8,8,8,8,8,8,8,8,8,8,8,8,8,8,8,8,8,8,8,8,8,8,8,8,8,8,8,8,8,8,8,8,8,8,8,8,8,8,8,8,8,8,8,8,8,8,8,8,8,8,8,8,8,8,8,8,8,8,8,8,8,8,8,8,8,8,8,8,8,8,8,8,8,8,8,8,8,8,8,8,8,8,8,8,8,8,8,8,8,8,8,8,8,8,8,8,8,8,8,8,8]
def f146(fu_:Nat)(p0:Nat):Option Int:=Option.bind (if(((4294967296):Nat):Int)<=(((p0):Nat):Int) then(some (p0>>>32,32)) else(some (p0,0))) λx1=>Option.bind (if(((65536):Nat):Int)<=(((x1.1):Nat):Int) then((Au (x1.2+16)).bind λU=>some (x1.1>>>16,U)) else(some x1)) λK=>Option.bind (if(((256):Nat):Int)<=(((K.1):Nat):Int) then((Au (K.2+8)).bind λY=>some (K.1>>>8,Y)) else(some K)) λO=>(S7 WN (((((O.1)%256):Nat):Int))).bind λZ=>(Au (((Z):Nat):Int)).bind λac=>(Au (O.2+ac)).bind λag=>some ag
theorem fc{p0:Nat}{r:Int}(U:f146 fu_ p0=some r):A6 J 68 [.int .u64 ((p0:Nat):Int)] E [] (λw E' B'=>w=iV r/\B'=[]):=by
 refine Bu func68 λQ b6 cs H Y am=>?_;unfold f146 at U;let⟨x1,ap,aq⟩:=bs U;refine C 10 V (Fc [] [(0,.int .u64 ((x1.1:Nat):Int)),(2,iV x1.2)] (λca av Z=>?_) (λac=>?_));let⟨K,aw,ay⟩:=bs aq;refine C 6 V (Fc [] [(0,.int .u64 ((K.1:Nat):Int)),(2,iV K.2)] (λcc az ag=>?_) (λai=>?_));let⟨O,a0,a1⟩:=bs ay;refine C 6 V (Fc [] [(0,.int .u64 ((O.1:Nat):Int)),(2,iV O.2)] (λce a2 a3=>?_) (λal=>?_));refine C 4 V (Al (v:=.int .u8 (((O.1)%256:Nat):Int)) V (λρ h=>cA underlying42 underlying5 (h _ _ V)) ?_);let⟨a4,a5,a6⟩:=bs a1;refine Al (v:=.int .u8 ((a4:Nat):Int)) V (λρ h=>Zr (l:=WN) (by decide+kernel) underlying9 (h _ _ V) (h _ _ V) a5) ?_;let⟨a7,a8,a9⟩:=bs a6;refine Al (v:=iV a7) V (λρ h=>b9 underlying5 underlying3 (h _ _ V) a8) ?_;let⟨ci,bb,be⟩:=bs a9;refine Bz bb V V V (C 2 V ?_);cases be;exact Ba func68 V V (am ((av.Ad az).Ad a2) V ⟨V,V⟩ a3);refine A4 a0 (λbi bn=>?_) (λbi bo=>?_);refine C 3 V (Al (v:=.int .u64 ((K.1>>>8:Nat):Int)) V (λρ h=>Lz 8 (h _ _ V) (h _ _ V) (by decide)) ?_);let⟨co,bv,bw⟩:=bs bn;refine C 4 V (Bz bv V V V ?_);refine C 2 V ?_;cases bw;exact al AQ ag V;refine JL.skip ?_;cases bo;exact al AQ ag V;refine A4 aw (λbx bz=>?_) (λbx b0=>?_);refine C 3 V (Al (v:=.int .u64 ((x1.1>>>16:Nat):Int)) V (λρ h=>Lz 16 (h _ _ V) (h _ _ V) (by decide)) ?_);let⟨cp,b1,b2⟩:=bs bz;refine C 4 V (Bz b1 V V V ?_);refine C 2 V ?_;cases b2;exact ai AQ Z V;refine JL.skip ?_;cases b0;exact ai AQ Z V;refine A4 ap (λb3 b4=>?_) (λb3 b5=>?_);refine C 3 V (Al (v:=.int .u64 ((p0>>>32:Nat):Int)) V (λρ h=>Lz 32 (h _ _ V) (h _ _ V) (by decide)) ?_);refine C 5 V ?_;cases b4;exact ac AQ Y V;refine JL.skip ?_;cases b5;exact ac AQ Y V
def f115(fu_:Nat)(p0:Nat):Option Int:=(f146 fu_ p0).bind λx1=>some x1
theorem NN{p0:Nat}{r:Int}(K:f115 fu_ p0=some r):A6 J 41 [.int .u64 ((p0:Nat):Int)] E [] (λw E' B'=>w=iV r/\B'=[]):=by
 refine Bu func41 λQ ai cs H O U=>?_;unfold f115 at K;let⟨x1,Y,Z⟩:=bs K;refine C 10 V (Dg (fc Y) V V (Be func68 V) O λal ac ag=>?_);refine C 2 V ?_;cases Z;exact Ba func41 V V (U ac V ⟨V,V⟩ ag)
def O7(fu_:Nat)(p1:Int)(K:Int×AH):Option (Bj (Int×AH) (AH)):=Option.bind (if p1<K.1 then((ix K.2 K.1).bind λY=>(Au (K.1 - 1)).bind λZ=>(ix K.2 Z).bind λac=>(f113 fu_ Y ac).bind λag=>some (decide (ag<0))) else(some false)) λai=>if ai=true then((Au (K.1 - 1)).bind λO=>(Au (K.1 - 1)).bind λal=>(ix K.2 al).bind λU=>(ix K.2 K.1).bind λam=>(ix (K.2.set (Int.toNat K.1) U) O).bind λaq=>(Au (K.1 - 1)).bind λap=>some (.more (ap,((K.2.set (Int.toNat K.1) U).set (Int.toNat O) am)))) else(some (.done K.2))
def Pf(fu_:Nat)(p1:Int)(p2:Int)(K:Int×AH):Option (Bj (Int×AH) (AH)):=if K.1<p2 then(Option.bind (iter (O7 fu_ p1) fu_ K) λO=>(Au (K.1+1)).bind λU=>some (.more (U,O))) else(some (.done K.2))
def M1(fu_:Nat)(p0:AH)(p1:Int)(p2:Int):Option (AH):=(Au (p1+1)).bind λx1=>Option.bind (iter (Pf fu_ p1 p2) fu_ (x1,p0)) λK=>some K
variable{nw:Nat}{p3:Int}
theorem fK{U:Nat}{a3:Av_}(hW:WL 31 AE E sz U nw a3 p0)(a9:M1 fu_ p0 p1 p3=some r):A6 J 128 [.slice (A7 sz) nw U,iV p1,iV p3,(fV 39)] E [(sz,.cells a3 31 (0,0))] (λw E' B'=>∃(bb:Av_),w=.tuple #[]/\B'=[(sz,.cells bb 31 (0,0))]/\WL 31 AE E' sz U nw bb r):=by
 refine Bu func128 λQ gc cs H ca cc=>?_;unfold M1 at a9;let⟨x1,ce,ci⟩:=bs a9;refine C 3 V (Bz ce V V V ?_);let⟨co,cp,ct⟩:=bs ci;refine C 2 V (BF (λL s=>∃(a4:LH) (f17:Av_),Jn E H a4 [bX sz f17 31] [] L s (WL 31 AE a4 sz U nw f17 co)) ?_ ?_);rintro _ _ ⟨a4,f17,rfl,rfl,cw,cy,c0⟩;cases ct;exact JL.fin (v:=.tuple #[]) V V (BO.list func128 V (vs:=[]) trivial) (cc cw V ⟨f17,V,(by first | rfl | simp | (simp[Value.cells])),c0⟩ cy);intro c1;refine JL.block (Cv cp (λL s al=>∃(ai:LH) (f25:Av_),Jn E H ai [bX sz f25 31] [(0,.slice (A7 sz) nw U),(1,iV p1),(2,iV p3),(3,(fV 39)),(8,iV al.1)] L s (WL 31 AE ai sz U nw f25 al.2)) ⟨E,a3,V,V,AQ,ca,hW⟩ ?_);rintro _ _ al ⟨ai,f25,rfl,rfl,be,bi,bn⟩ c2 ⟨ge,a5⟩ c3;have bo:=a5;unfold Pf at bo;refine C 7 V (A4 bo (λc4 c5=>?_) (λc4 c6=>?_));let⟨bv,c7,c8⟩:=bs c5;refine C 8 V (BF (λL s=>∃(az:LH) (f48:Av_),Jn ai H az [bX sz f48 31] [(0,.slice (A7 sz) nw U),(1,iV p1),(2,iV p3),(3,(fV 39)),(8,iV al.1)] L s (WL 31 AE az sz U nw f48 bv)) ?_ ?_);rintro _ _ ⟨az,f48,rfl,rfl,c9,dd,dj⟩;let⟨ea,eb,ec⟩:=bs c8;refine C 3 V (Bz eb V V V ?_);refine C 2 V ?_;cases ec;exact AF (c3 _ _ (ea,bv) ⟨az,f48,V,V,(be.Ad c9),dd,dj⟩ a5) V;intro ed;refine JL.block (Cv c7 (λL s ag=>∃(av:LH) (f58:Av_),Jn ai H av [bX sz f58 31] [(0,.slice (A7 sz) nw U),(1,iV p1),(2,iV p3),(3,(fV 39)),(8,iV al.1),(9,iV ag.1)] L s (WL 31 AE av sz U nw f58 ag.2)) ⟨ai,f25,V,V,AQ,bi,bn⟩ ?_);rintro _ _ ag ⟨av,f58,rfl,rfl,bw,aw,O⟩ ee ⟨gg,a6⟩ ef;have bx:=a6;unfold O7 at bx;refine C 2 V (Em 17 [sz] ⟨⟨0,_,V⟩,trivial⟩ aw λac=>?_);refine A5 ac V [0,1,2,3] V ?_;let⟨eg,bz,ej⟩:=bs bx;refine F5 0 (tR_ 17 0) (λL s=>∃(a0:LH),Jm av H a0 [bX sz f58 31] [(0,.slice (A7 sz) nw U),(1,iV p1),(2,iV p3),(3,(fV 39)),(8,iV al.1),(9,iV ag.1),(34,.bool eg)] L s) ?_ ?_;rintro _ _ ⟨a0,rfl,rfl,am,a1⟩;refine AT.fin (by decide+kernel) (CO ej (λek el=>?_) (λek em=>?_));refine C 3 V (GK [15,17] [sz] [] mixed V ?_);refine AS 0 V V (AS 1 V V ?_);refine AS 2 V V (AS 3 V V ?_);let⟨b0,eo,ep⟩:=bs el;refine FK 4 true V V (λρ h s' b1=>EF (h _ _ V) (h _ _ V) eo) (AS 5 V V ?_);refine AS 6 V V ?_;let⟨gh,er,eu⟩:=bs ep;refine FK 7 true V V (λρ h s' b1=>EF (h _ _ V) (h _ _ V) er) ?_;let⟨Y,b2,ew⟩:=bs eu;obtain⟨_,⟨_,_,rfl,rfl,⟨_,_,rfl,rfl,rfl⟩⟩,ex⟩:=WL.at (O.M am) b2;refine JB.ix 8 O.2 b2 underlying26 BJ ?_;refine W7 9 [iV Y.1,iV Y.2.1,iV Y.2.2] 0 a1 ex ER BJ ?_;refine AS 10 V V (AS 11 V V ?_);let⟨Z,a2,ey⟩:=bs ew;obtain⟨_,⟨_,_,rfl,rfl,⟨_,_,rfl,rfl,rfl⟩⟩,eA⟩:=WL.at (O.M am) a2;refine JB.ix 12 O.2 a2 underlying26 BJ ?_;refine W7 13 [iV Z.1,iV Z.2.1,iV Z.2.2] 0 a1 eA ER BJ ?_;refine JB.ix 14 O.2 a2 underlying26 BJ ?_;have ay:=WL.put (x':=Y) (ws':=[iV Y.1,iV Y.2.1,iV Y.2.2]) (O.M am) O.2 a2 ⟨_,_,V,V,⟨_,_,V,V,V⟩⟩;refine JB.sx 15 0 a1 BJ trivial ay.2 λeC=>?_;let⟨gt,a7,eN⟩:=bs ey;obtain⟨_,⟨_,_,rfl,rfl,⟨_,_,rfl,rfl,rfl⟩⟩,gB⟩:=WL.at ay.1 a7;refine JB.ix 16 (ay.1).2 a7 underlying26 BJ ?_;have b3:=WL.put (x':=Z) (ws':=[iV Z.1,iV Z.2.1,iV Z.2.2]) ay.1 (ay.1).2 a7 ⟨_,_,V,V,⟨_,_,V,V,V⟩⟩;refine JB.sx 17 0 eC BJ trivial b3.2 λe0=>?_;refine JB.fin (by decide+kernel) ?_;let⟨e1,e3,e4⟩:=bs eN;refine C 3 V (BY e3 V V V ?_);refine C 2 V ?_;cases e4;exact AF (ef _ _ (e1,((ag.2.set (Int.toNat ag.1) Y).set (Int.toNat b0) Z)) ⟨a0,(A3 (A3 f58 (Int.toNat (ag.1)*3) [iV Y.1,iV Y.2.1,iV Y.2.2]) (Int.toNat (b0)*3) [iV Z.1,iV Z.2.1,iV Z.2.2]),V,V,(bw.Ad am),e0,b3.1⟩ a6) V;refine JL.exit V ?_;cases em;obtain rfl:=ee _ a6;exact AF (ed _ _ ⟨a0,f58,V,V,(bw.Ad am),a1,(O.M am)⟩) V;intro b4;refine GI (q:=p1<ag.1) (i:=21) V (λa8=>?_) (λa8=>?_);have e5:=ip bz a8;refine A5 ac V [4,5,6] V ?_;let⟨ap,b5,e6⟩:=bs e5;obtain⟨_,⟨_,_,rfl,rfl,⟨_,_,rfl,rfl,rfl⟩⟩,e7⟩:=WL.at O b5;refine JG.ix 7 ac (O).2 b5 underlying26 BJ ?_;refine Xk 8 ac [iV ap.1,iV ap.2.1,iV ap.2.2] 0 aw e7 ER BJ ?_;refine A5 ac V [9,10] V ?_;let⟨gE,e8,ff⟩:=bs e6;refine AP 11 ac V V (λρ h s' b1=>EF (h _ _ V) (h _ _ V) e8) ?_;let⟨aq,b6,fk⟩:=bs ff;obtain⟨_,⟨_,_,rfl,rfl,⟨_,_,rfl,rfl,rfl⟩⟩,fl⟩:=WL.at O b6;refine JG.ix 12 ac (O).2 b6 underlying26 BJ ?_;refine Xk 13 ac [iV aq.1,iV aq.2.1,iV aq.2.2] 0 aw fl ER BJ ?_;let⟨gO,fm,fo⟩:=bs fk;refine II (i:=14) ⟨⟨0,_,V⟩,trivial⟩ (vs:=[.agg #[iV ap.1,iV ap.2.1,iV ap.2.2],.agg #[iV aq.1,iV aq.2.1,iV aq.2.2]]) (WV fm) (by decide+kernel) V V V V (Be func39 V) V aw ?_;rintro _ fs _ fv ⟨rfl,rfl⟩ fw;refine A5 ac V [15,16] V ?_;cases fo;refine Dz ?_ (b4 _ _ ⟨fs,V,V,fv,fw⟩);exact⟨V,V,V,V,V,V,V,trivial⟩;have fN:=im bz a8;refine A5 ac V [4,5,6,7,8,9,10,11,12,13,14,15,16] V ?_;cases fN;refine Dz ?_ (b4 _ _ ⟨av,V,V,AQ,aw⟩);exact⟨V,V,V,V,V,V,V,trivial⟩;refine JL.exit V ?_;cases c6;obtain rfl:=c2 _ a5;exact AF (c1 _ _ ⟨ai,f25,V,V,be,bi,bn⟩) V
def RH(fu_:Nat)(p0:AH)(p1:Int)(p2:Int)(p3:Int)(U:Unit):Option (Bj Unit ((AH)⊕(Unit))):=(Au (p2 - p1)).bind λK=>if K<=12 then((M1 fu_ p0 p1 p2).bind λO=>some (.done (Sum.inl O))) else(if p3=0 then(none) else(none))
def JD(fu_:Nat)(p0:AH)(p1:Int)(p2:Int)(p3:Int):Option (AH):=Option.bind (iter (RH fu_ p0 p1 p2 p3) fu_ ()) λK=>Sum.elim (λr=>some r) (λO=>none) K
variable{U:Av_}{p2:Int}
theorem dT(hW:WL 31 AE E c2 sz nw U p0)(Y:JD fu_ p0 p1 p2 p3=some r):A6 J 127 [.slice (A7 c2) nw sz,iV p1,iV p2,iV p3,(fV 39)] E [(c2,.cells U 31 (0,0))] (λw E' B'=>∃(Z:Av_),w=.tuple #[]/\B'=[(c2,.cells Z 31 (0,0))]/\WL 31 AE E' c2 sz nw Z r):=by
 refine Bu func127 λQ bo cs H am ap=>?_;unfold JD at Y;let⟨bv,aq,av⟩:=bs Y;refine C 8 V (BF (λL s=>False) ?_ ?_);intro _ _ aw;exact aw.elim;intro bw;refine JL.block (Ez aq (λac=>[bX c2 U 31]) (λac=>[(0,.slice (A7 c2) nw sz),(1,iV p1),(2,iV p2),(3,iV p3),(4,(fV 39)),(10,.bool true),(11,.bool true)]) AQ am ?_);rintro ac bx ag ay az ⟨bz,ai⟩ b0;have al:=ai;unfold RH at al;let⟨b1,a0,a1⟩:=bs al;refine C 5 V (BY a0 V V V ?_);refine C 8 V (A4 a1 (λa2 a3=>?_) (λa2 a4=>?_));let⟨b2,a5,a6⟩:=bs a3;refine C 6 V (Cr 0 (fK (hW.M ag) a5) V V (Be func128 V) ay V ?_);rintro _ b3 _ a7 ⟨f32,rfl,rfl,a8⟩ a9;refine JL.done ?_;cases a6;obtain rfl:=az _ ai;have bb:=elim_inl av;cases bb;exact Ba func127 V V (ap (ag.Ad a7) V ⟨f32,V,(by first | rfl | simp | (simp[Value.cells])),a8⟩ a9);refine C 7 V (A4 a4 (λbe bi=>?_) (λbe bn=>?_));refine C 6 V ?_;cases bi;refine C 5 V (Al (v:=.bool false) V (λρ h=>Yl.not (c:=true) (h _ _ V)) ?_);refine C 9 V ?_;cases bn
def f130(fu_:Nat)(p0:AH):Option (AH):=(f115 fu_ (Cz (p0.length:Int))).bind λx1=>(JD fu_ p0 0 (p0.length:Int) x1).bind λK=>some K
theorem fJ(hW:WL 31 AE E c2 sz nw U p0)(Y:f130 fu_ p0=some r):A6 J 126 [.slice (A7 c2) nw sz,(fV 39)] E [(c2,.cells U 31 (0,0))] (λw E' B'=>∃(Z:Av_),w=.tuple #[]/\B'=[(c2,.cells Z 31 (0,0))]/\WL 31 AE E' c2 sz nw Z r):=by
 refine Bu func126 λQ a0 cs H ag ai=>?_;unfold f130 at Y;refine C 3 V (Al (v:=iV (p0.length:Int)) V (λρ h=>V7 (hW).2 V underlying57 (h _ _ V)) ?_);refine C 6 V (Al (v:=.int .u64 ((Cz (p0.length:Int):Nat):Int)) V (λρ h=>Yl.Cz underlying3 underlying88 (h _ _ V)) ?_);let⟨x1,al,am⟩:=bs Y;refine Dg (NN al) V V Ni ag λa1 ac ap=>?_;let⟨a2,aq,av⟩:=bs am;refine C 1 V (Cr 0 (dT (hW.M ac) aq) V V (Be func127 V) ap V ?_);rintro _ a3 _ aw ⟨f12,rfl,rfl,ay⟩ az;refine JL.done ?_;cases av;exact JL.fin (v:=.tuple #[]) V V (BO.list func126 V (vs:=[]) trivial) (ai (ac.Ad aw) V ⟨f12,V,(by first | rfl | simp | (simp[Value.cells])),ay⟩ az)
def U0(fu_:Nat)(p1:Int)(K:Int)(U:Unit):Option (Bj Unit Unit):=Option.bind (if p1<K then(none) else(some false)) λO=>if O=true then((Au (K - 1)).bind λY=>(Au (K - 1)).bind λZ=>none) else(some (.done ()))
def Vb(fu_:Nat)(p1:Int)(p2:Int)(K:Int):Option (Bj Int Unit):=if K<p2 then(Option.bind (iter (U0 fu_ p1 K) fu_ ()) λU=>(Au (K+1)).bind λO=>some (.more O)) else(some (.done ()))
def SM(fu_:Nat)(p1:Int)(p2:Int):Option Unit:=(Au (p1+1)).bind λx1=>Option.bind (iter (Vb fu_ p1 p2) fu_ x1) λK=>some ()
theorem b8{r:Unit}(Z:SM fu_ p1 p3=some r):A6 J 128 [nS,iV p1,iV p3,(fV 39)] E [] (λw E' B'=>w=.tuple #[]/\B'=[]):=by
 refine Bu func128 λQ c3 cs H ay az=>?_;unfold SM at Z;let⟨x1,a0,a1⟩:=bs Z;refine C 3 V (Bz a0 V V V ?_);let⟨c4,a2,a3⟩:=bs a1;refine C 2 V (Fc [] [] (λc5 a4 a5=>?_) (λa6=>?_));cases a3;exact JL.fin (v:=.tuple #[]) V V (BO.list func128 V (vs:=[]) trivial) (az a4 V ⟨V,V⟩ a5);refine JL.block (Ez a2 (λK=>[]) (λK=>[(0,.slice none 0 0),(1,iV p1),(2,iV p3),(3,(fV 39)),(8,iV K)]) AQ ay ?_);rintro K c6 ac ag a7 ⟨c7,U⟩ a8;have ai:=U;unfold Vb at ai;refine C 7 V (A4 ai (λa9 bb=>?_) (λa9 be=>?_));let⟨c8,bi,bn⟩:=bs bb;refine C 8 V (Fc [] [(0,.slice none 0 0),(1,iV p1),(2,iV p3),(3,(fV 39)),(8,iV K)] (λc9 bo bv=>?_) (λbw=>?_));let⟨bx,bz,b0⟩:=bs bn;refine C 3 V (Bz bz V V V ?_);refine C 2 V ?_;cases b0;exact a8 bx (ac.Ad bo) bv V U;refine JL.block (Ez bi (λal=>[]) (λal=>[(0,.slice none 0 0),(1,iV p1),(2,iV p3),(3,(fV 39)),(8,iV K),(9,iV K)]) AQ ag ?_);rintro al am b1 b2 b3 ⟨dd,ap⟩ dj;have aq:=ap;unfold U0 at aq;refine C 2 V (FU 17 λO=>?_);refine A5 O V [0,1,2,3] V ?_;let⟨b4,av,b5⟩:=bs aq;refine F5 0 (tR_ 17 0) (λL s=>∃(aw:LH),Jm am H aw [] [(0,.slice none 0 0),(1,iV p1),(2,iV p3),(3,(fV 39)),(8,iV K),(9,iV K),(34,.bool b4)] L s) ?_ ?_;rintro _ _ ⟨aw,rfl,rfl,b6,ca⟩;refine AT.fin (by decide+kernel) (CO b5 (λcc ce=>?_) (λcc ci=>?_));refine C 3 V (FU 16 λO=>?_);refine A5 O V [0,1,2,3] V ?_;let⟨ea,co,cp⟩:=bs ce;refine AP 4 O V V (λρ h s' ct=>EF (h _ _ V) (h _ _ V) co) (A5 O V [5,6] V ?_);let⟨eb,cw,cy⟩:=bs cp;refine AP 7 O V V (λρ h s' ct=>EF (h _ _ V) (h _ _ V) cw) ?_;cases cy;refine JL.exit V ?_;cases ci;obtain rfl:=b3 _ ap;exact bw (b1.Ad b6) ca V;intro c0;refine GI (q:=p1<K) (i:=21) V (λY=>?_) (λY=>?_);have c1:=ip av Y;refine A5 O V [4,5,6] V ?_;cases c1;have c2:=im av Y;refine A5 O V [4,5,6,7,8,9,10,11,12,13,14,15,16] V ?_;cases c2;refine Dz ?_ (c0 _ _ ⟨am,V,V,AQ,b2⟩);exact⟨V,V,V,V,V,V,V,trivial⟩;refine JL.exit V ?_;cases be;obtain rfl:=a7 _ U;exact a6 ac ag V
def US(fu_:Nat)(p1:Int)(p2:Int)(p3:Int)(O:Unit):Option (Bj Unit ((Unit)⊕(Unit))):=(Au (p2 - p1)).bind λK=>if K<=12 then((SM fu_ p1 p2).bind λU=>some (.done (Sum.inl ()))) else(if p3=0 then(none) else(none))
def SD(fu_:Nat)(p1:Int)(p2:Int)(p3:Int):Option Unit:=Option.bind (iter (US fu_ p1 p2 p3) fu_ ()) λK=>Sum.elim (λr=>some r) (λO=>none) K
theorem dx{r:Unit}(K:SD fu_ p1 p2 p3=some r):A6 J 127 [nS,iV p1,iV p2,iV p3,(fV 39)] E [] (λw E' B'=>w=.tuple #[]/\B'=[]):=by
 refine Bu func127 λQ a9 cs H Z ac=>?_;unfold SD at K;let⟨bb,ag,ai⟩:=bs K;refine C 8 V (BF (λL s=>False) ?_ ?_);intro _ _ al;exact al.elim;intro be;refine JL.block (Ez ag (λO=>[]) (λO=>[(0,.slice none 0 0),(1,iV p1),(2,iV p2),(3,iV p3),(4,(fV 39)),(10,.bool true),(11,.bool true)]) AQ Z ?_);rintro O bi am ap aq ⟨bn,U⟩ bo;have Y:=U;unfold US at Y;let⟨bv,av,aw⟩:=bs Y;refine C 5 V (BY av V V V ?_);refine C 8 V (A4 aw (λay az=>?_) (λay a0=>?_));let⟨bw,a1,a2⟩:=bs az;refine C 6 V (Dg (b8 a1) V V (Be func128 V) ap λbx a3 a4=>?_);refine JL.done ?_;cases a2;obtain rfl:=aq _ U;have a5:=elim_inl ai;cases a5;exact Ba func127 V V (ac (am.Ad a3) V ⟨V,V⟩ a4);refine C 7 V (A4 a0 (λa6 a7=>?_) (λa6 a8=>?_));refine C 6 V ?_;cases a7;refine C 5 V (Al (v:=.bool false) V (λρ h=>Yl.not (c:=true) (h _ _ V)) ?_);refine C 9 V ?_;cases a8
def Xn(fu_:Nat):Option Unit:=(f115 fu_ (Cz ((0:Nat):Int))).bind λx1=>(SD fu_ 0 ((0:Nat):Int) x1).bind λK=>some ()
theorem bQ{r:Unit}(K:Xn fu_=some r):A6 J 126 [nS,(fV 39)] E [] (λw E' B'=>w=.tuple #[]/\B'=[]):=by
 refine Bu func126 λQ aq cs H O U=>?_;unfold Xn at K;refine C 3 V (JL.ln underlying57 V V V ?_);refine C 6 V (Al (v:=.int .u64 ((Cz ((0:Nat):Int):Nat):Int)) V (λρ h=>Yl.Cz underlying3 underlying88 (h _ _ V)) ?_);let⟨x1,Y,Z⟩:=bs K;refine Dg (NN Y) V V Ni O λav ac ag=>?_;let⟨aw,ai,al⟩:=bs Z;refine C 1 V (Dg (dx ai) V V (Be func127 V) ag λay am ap=>?_);refine JL.done ?_;cases al;exact JL.fin (v:=.tuple #[]) V V (BO.list func126 V (vs:=[]) trivial) (U (ac.Ad am) V ⟨V,V⟩ ap)
theorem cO{J:Judge Tryz.prog}{E:LH}{a:Aw}{g:Seg}(Y:OL 31 AE E a c g p0)(K:f130 fu_ p0=some r):
  A6 J 126 [.slice a p0.length c,.func (.func 39) #[] #[]] E g (λw E' B'=>w=.tuple #[]/\OL 31 AE E' a c B' r/\r.length=p0.length):=by
 rcases Y.cases with⟨rfl,rfl,rfl,rfl⟩ | ⟨bk,f,rfl,rfl,hW⟩
 .have Z:r=[]:=by
   cases fu_ with
   | zero=>exact absurd K (by simp[f130,JD,M1,iter])
   | succ fu_=>
    cases fu_ with
    | zero=>exact(f5 (K.symm.trans (by rfl:f130 1 []=some []))).trans rfl
    | succ fu_=>exact(f5 (K.symm.trans (by rfl:f130 (fu_+2) []=some []))).trans rfl
  subst Z;refine(bQ (fu_:=10) (r:=()) V).M ?_;rintro w E' B' hle ⟨O,rfl⟩;exact⟨O,OL.nil,V⟩
 .refine(fJ hW K).M ?_;rintro w E' B' hle ⟨ac,O,rfl,U⟩;exact⟨O,U.1,U.2⟩
def f90(fu_:Nat)(p0:AH):Option (AH):=(f129 fu_ p0).bind λK=>(f130 fu_ K).bind λO=>some O
theorem iE(ai:Ap AE E a1 c2 p0)(Z:f90 fu_ p0=some r):A6 J 114 [sV a1 p0 c2] E [] (λw E' B'=>∃(ac:Aw) (ag:Nat),w= sV ac r ag/\B'=[]/\Ap AE E' ac ag r):=by
 refine Bu func114 λQ a8 cs H al am=>?_;unfold f90 at Z;let⟨a9,ap,aq⟩:=bs Z;refine C 7 V (Cl (dS ai ap) V V (Be func125 V) al ?_);rintro _ bb be av ⟨K,O,_,rfl,rfl,aw⟩ ay;let⟨U,az,a0⟩:=bs aq;refine C 5 V (Cr 1 (cO aw az) V V (Be func126 V) ay V ?_);rintro _ bi bn a2 ⟨rfl,a3,Y⟩ a4;refine Fz (L':=[(6,.tuple #[]),(0,.slice K U.length O),(2,.slice none 0 0),(3,.slice a1 p0.length c2),(4,.slice K U.length O),(5,.slice K U.length O)]) ⟨V,by rw[Y];rfl,V,V,by rw[Y];rfl,by rw[Y];rfl,trivial⟩ ?_;refine C 6 V (CH 1 a3 a4 V λbo a5 a6 a7=>?_);cases a0;exact Ba func114 V V (am ((av.Ad a2).Ad a5) V ⟨K,O,V,V,a6⟩ a7)
end Pal
namespace Pal
open Go Go.Conc
variable {P:Program}{Q:Gs_}{b:Frame}{n:Nat}{ds:Ld_}{ops:Ao_}{k:Li_}{cs:Lf_}{m:Nat}{L:Env}{s:St}{E H:LH}{S:List Seg}
variable {d:Option Tmp}{t ty:TypeId}{p:String}{af:Ae_}{g:On_}{v:Value}
section
variable {J:Judge P}{fuel:Nat}{listed:Array Bool}
variable {x y:Operand}{e:TypeId}{i:Nat}
theorem Take.y0{oi:Oper}(hi:ops[i]?=some oi)(K:(!EM oi.op&&Bo n oi.dst)=true)(hw:AY L ops oi=some true)(O:∀ρ,FA L ρ->Yl P oi ρ s v)
  (h:AT J Q b n ds ops k cs m DG fuel (Bf listed i) (Ay L oi.dst v) s):Take J Q b n ds ops k cs m DG fuel listed L s i:=
 Take.Oi hi K hw λρ U=>by
  have:=O ρ U
  unfold Yl at this
  refine EI _ this ?_ (λ_ _ h=>h)
  rintro Y s' ⟨rfl,rfl⟩
  exact h
end
def Iv{P:Program}(J:Judge P)(f:FuncId)(args:Lv_)(E:LH)(B:Seg)(p:Bool)(pv:Value)(R:Value->LH->Seg->Prop):Prop:=
 ∀(Q:Gs_) (bc:Frame) (Tc:Av_) (dsc:Ld_) (K:Li_) (cs:Lf_) (H:LH),Nd E H B->
  (p=false->∀v E' B',Le E E'->R v E' B'->Nd E' H B'->J.ok Q (G ((fr bc Tc dsc K).finish v) cs) (mk E' H B'))->
  (p=true->∀E' B',Le E E'->Nd E' H B'->J.ok Q (G (HA bc Tc dsc K (raised pv)) cs) (mk E' H B'))->
  J.ok Q (G (Frame.enter P f args.toArray .normal) (fr bc Tc dsc K::cs)) (mk E H B)
variable {bc:Frame}{dsc:Ld_}{rest:List Nat}{pp:String}{pv:Value}
variable{f:FuncId}{caps vs:Lv_}{B seg:Seg}{R:Value->LH->Seg->Prop}{args:Array Operand}{ats:Array TypeId}{ρ:Operand->Value}{a:Option Addr}{c sz:Nat}{hi:Int}{α:Type}{t1 xt:TypeId}{z:Value}{f1:Array Field}
section
variable {J:Judge P}{i:Nat}{e:TypeId}
theorem Iv.enter{fn:Func}{c:Code}{p:Bool}(ac:P.funcs[f]?=some fn)(hb:fn.body=some c)(aw:vs.length<=fn.ntmps)
  (h:∀(Q:Gs_) (bc:Frame) (Tc:Av_) (dsc:Ld_) (O:Li_) (cs:Lf_) (H:LH),Aq E H [B]->
   (p=false->∀v E' S' B',Le E E'->S'.flatten=B'->R v E' B'->Aq E' H S'->J.ok Q (G ((fr bc Tc dsc O).finish v) cs) (Aj E' H S'))->
   (p=true->∀E' S',Le E E'->Aq E' H S'->J.ok Q (G (HA bc Tc dsc O (raised pv)) cs) (Aj E' H S'))->
   JL J Q (base f) fn.ntmps (GQ 0 vs) [] [.code c] (fr bc Tc dsc O::cs) (Aj E H [B])):Iv J f vs E B p pv R:=λQ bc Tc dsc O cs H ag ai K=>by
 have he:Frame.enter P f vs.toArray .normal=fr (base f) (vs.toArray++Array.replicate (fn.ntmps - vs.length) undef) [] [.code c]:=by
  simp[Frame.enter,fr,ac,hb,base];rfl
 have al:mk E H B=Aj E H [B]:=by unfold Aj;simp
 rw[he,al];refine h Q bc Tc dsc O cs H (by unfold Aq;simpa using ag) (λU v E' S' B' hle am ap Y=>?_) (λU E' S' hle Y=>?_) _ ⟨by simp;omega,λt v aq=>?_⟩;subst am;exact ai U v E' S'.flatten hle ap Y;exact K U E' S'.flatten hle Y
 .let⟨_,K⟩:=KF aq;have av:t<vs.length:=by
   rcases mt t vs.length with Z | Z;exact Z;simp at K;have:=(fx.1 K).1;omega
  rw[pd,qC (by simpa using av)];simp at K;simp[K]
theorem ZM{x:Operand}{s:St}(hb:Ef P f=true)
  (U:ops[i]?=some ⟨d,.call ⟨.value x,args,ats⟩,ty,pp,af,g⟩) (hw:AY L ops ⟨d,.call ⟨.value x,args,ats⟩,ty,pp,af,g⟩=some true) (O:((b.kind != .early)&&Bo n d)=true)
  (Y:ev L x=some (.func (.func f) #[] caps.toArray)) (Z:evs L args.toList=some vs)
  (h:∀T,Has n L T->J.ok Q (G (Frame.enter P f (vs++caps).toArray .normal) (fr b T ds (.inRegion ops (i::rest)::k)::cs)) s):
  JL J Q b n L ds (.inRegion ops (i::rest)::k) cs s:=λT K=>by
 simp only[gQ] at O
 have ac:args.map (BL T)=vs.toArray:=by
  rw[← G7 K.GR Z];apply qS;simp
 refine Judge.oper U (Ck K hw) (by simpa using O.1) (.inr λc ag=>by cases ag) ?_;have hd:lp P (execOp (BL T) ⟨d,.call ⟨.value x,args,ats⟩,ty,pp,af,g⟩) s (upon J Q b T ds ops i rest k cs d) (MO J Q b T ds ops i rest k cs):=by
  have ai:execOp (BL T) ⟨d,.call ⟨.value x,args,ats⟩,ty,pp,af,g⟩=(do let d ← Deferred.ofValue (.func (.func f) #[] caps.toArray) vs.toArray;invoke d.target d.args):=by
   simp only[execOp,resolve,ac,K.GR _ _ Y]
  rw[ai];simp only[Deferred.ofValue,bind,Sem.bind,pure,invoke];have e: #[]++vs.toArray++caps.toArray=(vs++caps).toArray:=by simp
  rw[e];exact J4 hb (h T K)
 exact hd
theorem Zh{s:St}(hb:Ef P f=true)
  (U:ops[i]?=some ⟨d,.call ⟨.value (.func f),args,ats⟩,ty,pp,af,g⟩) (hw:AY L ops ⟨d,.call ⟨.value (.func f),args,ats⟩,ty,pp,af,g⟩=some true) (O:((b.kind != .early)&&Bo n d)=true)
  (Y:evs L args.toList=some vs)
  (h:∀T,Has n L T->J.ok Q (G (Frame.enter P f vs.toArray .normal) (fr b T ds (.inRegion ops (i::rest)::k)::cs)) s):
  JL J Q b n L ds (.inRegion ops (i::rest)::k) cs s:=λT K=>by
 simp only[gQ] at O
 have Z:args.map (BL T)=vs.toArray:=by
  rw[← G7 K.GR Y];apply qS;simp
 refine Judge.oper U (Ck K hw) (by simpa using O.1) (.inr λc ac=>by cases ac) ?_;have hd:lp P (execOp (BL T) ⟨d,.call ⟨.value (.func f),args,ats⟩,ty,pp,af,g⟩) s (upon J Q b T ds ops i rest k cs d) (MO J Q b T ds ops i rest k cs):=by
  simp only[execOp,resolve,bind,Sem.bind,Deferred.ofValue,BL,pure,invoke];have e: #[]++args.map (BL T)++ #[]=vs.toArray:=by rw[Z];simp
  rw[e];exact J4 hb (h T K)
 exact hd
theorem cM{g:Frame}{s:St}(O:s.q=false)(h:(∃w,Fits s w)->J.ok Q (G g cs) s):J.ok Q (G g cs) s:=by
 by_cases K:∃w,Fits s w;exact h K;exact J.step ⟨V,λw f=>absurd ⟨w,f⟩ K,λe=>by subst e;cases O⟩
theorem Iv.use{p:Bool}{Tc:Av_}{Y:Li_}(j:Nat)(am:Iv J f vs E B p pv R)(ac:Aq E H S)(ag:S[j]?=some B)
  (Z:p=false->∀v E' B',Le E E'->R v E' B'->Aq E' H (S.set j B')->J.ok Q (G ((fr bc Tc dsc Y).finish v) cs) (Aj E' H (S.set j B')))
  (ap:p=true->∀E' B',Le E E'->Aq E' H (S.set j B')->J.ok Q (G (HA bc Tc dsc Y (raised pv)) cs) (Aj E' H (S.set j B'))):
  J.ok Q (G (Frame.enter P f vs.toArray .normal) (fr bc Tc dsc Y::cs)) (Aj E H S):=by
 have K:S.flatten.Perm (B++(S.set j []).flatten):=(Ds (seg':=B) ag).1.trans pr;have ai:Nd E H (B++(S.set j []).flatten):=Nd.perm ac K;have aq:Aj E H S=mk E (Bn (S.set j []).flatten H) B:=by
  rw[show Aj E H S=mk E H S.flatten from rfl,FH ac K];unfold mk;rw[Gq]
 have av:Nd E H (S.set j []).flatten:=by
  have:=ai;rw[Nd.iff] at this ⊢;rw[ql,qx] at this;exact⟨this.1.2.1,λq aw=>this.2 q (qd _ aw)⟩
 have back:∀(g:Frame) (E':LH) (B':Seg),Le E E'->Nd E' (Bn (S.set j []).flatten H) B'->(Aq E' H (S.set j B')->J.ok Q (G g cs) (Aj E' H (S.set j B')))->J.ok Q (G g cs) (mk E' (Bn (S.set j []).flatten H) B'):=λg E' B' hle U ay=>by
  have e2:mk E' (Bn (S.set j []).flatten H) B'=mk E' H (B'++(S.set j []).flatten):=by unfold mk;rw[Gq]
  refine cM V λ⟨w,az⟩=>?_;have a0:Nd E' H (S.set j []).flatten:=av.grow λx a1=>by
   have a2:=az.d x a1;have Z:Bn B' (Bn (S.set j []).flatten H) x=none:=a2;exact(IE Z).1
  have O:Nd E' H (B'++(S.set j []).flatten):=Nd.glue U a0;rw[e2];have al:(B'++(S.set j []).flatten).Perm (S.set j B').flatten:=pr.trans (Ds ag).2.symm;rw[FH O al];exact ay (Nd.perm O al)
 rw[aq];refine am Q bc Tc dsc Y cs _ (Nd.front ai) (λK v E' B' hle a3 U=>back _ E' B' hle U λO=>Z K v E' B' hle a3 O) (λK E' B' hle U=>back _ E' B' hle U λO=>ap K E' B' hle O)
theorem Uh{x:Operand}{p:Bool}(j:Nat)(hb:Ef P f=true)
  (ac:Iv J f (vs++caps) E seg p pv R) (Y:ops[i]?=some ⟨d,.call ⟨.value x,args,ats⟩,ty,pp,af,g⟩) (hw:AY L ops ⟨d,.call ⟨.value x,args,ats⟩,ty,pp,af,g⟩=some true) (K:((b.kind != .early)&&Bo n d)=true)
  (ag:ev L x=some (.func (.func f) #[] caps.toArray)) (ai:evs L args.toList=some vs) (al:Aq E H S) (am:S[j]?=some seg)
  (ap:p=true->∀E' seg',Le E E'->Aq E' H (S.set j seg')->JP J Q b n L ds cs (raised pv) (Aj E' H (S.set j seg')))
  (aq:p=false->∀v E' seg',Le E E'->R v E' seg'->Aq E' H (S.set j seg')->JL J Q b n (Ay L d v) ds (.inRegion ops rest::k) cs (Aj E' H (S.set j seg'))):
  JL J Q b n L ds (.inRegion ops (i::rest)::k) cs (Aj E H S):=
 ZM hb Y hw K ag ai λT Z=>Iv.use j ac al am
  (λO v E' B' hle av U=>by
   rw[G6 (o:=⟨d,.call ⟨.value x,args,ats⟩,ty,pp,af,g⟩) _ _ _ _ _ Y]
   simp only[gQ] at K
   exact aq O v E' B' hle av U _ (Z.put K.2 v))
  (λO E' B' hle U=>ap O E' B' hle U T Z _)
theorem Zd{p:Bool}(j:Nat)(hb:Ef P f=true)
  (ac:Iv J f vs E seg p pv R) (Y:ops[i]?=some ⟨d,.call ⟨.value (.func f),args,ats⟩,ty,pp,af,g⟩) (hw:AY L ops ⟨d,.call ⟨.value (.func f),args,ats⟩,ty,pp,af,g⟩=some true) (K:((b.kind != .early)&&Bo n d)=true)
  (ag:evs L args.toList=some vs) (ai:Aq E H S) (al:S[j]?=some seg)
  (am:p=true->∀E' seg',Le E E'->Aq E' H (S.set j seg')->JP J Q b n L ds cs (raised pv) (Aj E' H (S.set j seg')))
  (ap:p=false->∀v E' seg',Le E E'->R v E' seg'->Aq E' H (S.set j seg')->JL J Q b n (Ay L d v) ds (.inRegion ops rest::k) cs (Aj E' H (S.set j seg'))):
  JL J Q b n L ds (.inRegion ops (i::rest)::k) cs (Aj E H S):=
 Zh hb Y hw K ag λT Z=>Iv.use j ac ai al
  (λO v E' B' hle aq U=>by
   rw[G6 (o:=⟨d,.call ⟨.value (.func f),args,ats⟩,ty,pp,af,g⟩) _ _ _ _ _ Y]
   simp only[gQ] at K
   exact ap O v E' B' hle aq U _ (Z.put K.2 v))
  (λO E' B' hle U=>am O E' B' hle U T Z _)
theorem aP{x y z1:Operand}{s:St}{p:String}{l m:Nat}(K:∀ad,a=some ad->ad.spot=none∨c=0)(O:m<=c)(he:hi=(m:Int))(U:P.underlying t=some (.slice e))(Y:Bp P e=some sz)(Z:ρ x=.slice a l c)(ac:ρ y=iV hi)(ag:ρ z1=iV hi):
  Yl P ⟨d,.slice t x none (some y) (some z1),ty,p,af,g⟩ ρ s (.slice a m m):=by
 subst he;have h:=Yl.slice (P:=P) (s:=s) (d:=d) (ty:=ty) (p:=p) (af:=af) (g:=g) (olo:=none) (ohi:=some y) (omx:=some z1) (lo:=0) (hi:=m) (mx:=m) U Y Z ag ac V O (no _) (qc _);have ai:(if m=0 then a else a.map (·.add (0*sz)))=a:=by
  split;rfl
  .cases a with
   | none=>rfl
   | some ad=>
    have:=(K ad rfl).resolve_right (by omega);simp only[qH,rl];rw[Ek this];obtain⟨b,o,sp⟩:=ad;simp only at this;subst this;simp
 rw[ai] at h;simpa using h
theorem Ap.gS{q:Rp α}{xs ys:List α}(U:Ap q E a c xs)(hC:HT xs 0 hi=some ys):Ap q E a c ys/\ys.length<=c/\hi=(ys.length:Int):=by
 unfold HT at hC;split at hC
 rotate_left
 .cases hC
 rename_i hb;obtain⟨Z,ac,ag⟩:=hb;cases hC;have ai:=U.1;have hlen:(((xs.take hi.toNat).drop (0:Int).toNat)).length=hi.toNat:=by simp;omega
 refine⟨⟨by rw[hlen];omega,?_⟩,by rw[hlen];omega,by rw[hlen];omega⟩;rcases U.2 with⟨h,O⟩ | ⟨bk,off,Y,O⟩;exact .inl ⟨by rw[h];simp,O⟩;refine .inr ⟨bk,off,Y,λi x K=>O i x ?_⟩;simp only[Int.toNat_zero,tD] at K;rw[qI] at K;split at K;exact K;cases K
theorem Take.UG{m c2:Nat}{listed:Array Bool}{x y:Operand}{p:String}{q:Rp α}{cx:Nat}{ax:Option Addr}{xs ys Z:List α}(U:Ey xs ys=some Z)
  (av:ops[i]?=some ⟨d,.call ⟨.builtin .append,#[x,y],ats⟩,ty,p,af,g⟩) (hw:AY L ops ⟨d,.call ⟨.builtin .append,#[x,y],ats⟩,ty,p,af,g⟩=some true) (aw:Bo n d=true)
  (ay:ev L x=some (.slice a xs.length xs.length)) (az:ev L y=some (.slice ax ys.length cx)) (a0:ats[0]?=some t) (a1:ats[1]?=some t1) (a2:P.underlying t=some (.slice e)) (a3:P.underlying t1=some (.slice e)) (a4:Bp P e=some q.n) (hb:FY P e=some sz) (a5:zeroOf P e=some z) (a6:z.cells.size=q.n)
  (a7:0<sz) (a8:sz<=64) (ac:Ap q E a c xs) (a9:Ap q E ax cx ys) (ag:Aq E H S)
  (h:∀E' ai K,Le E E'->Ap q E' ai K Z->Aq E' H (S++ [[]])->AT J Q b n ds ops k cs m DG c2 (Bf listed i) (Ay L d (.slice ai Z.length K)) (Aj E' H (S++ [[]]))):
  Take J Q b n ds ops k cs m DG c2 listed L (Aj E H S) i:=by
 unfold Ey at U;split at U
 rotate_left
 .cases U
 rename_i bb;cases U;let⟨wss,al,be,bi,ce⟩:=Ap.NB (H:=H) (B:=S.flatten) ac.full;let⟨bn,bo,bv,bw,bx⟩:=Ap.NB (H:=H) (B:=S.flatten) a9;have hlen:(xs++ys).length=xs.length+ys.length:=by simp
 show Take J Q b n ds ops k cs m DG c2 listed L (mk E H S.flatten) i;refine Take.Oi av (by simp[EM,aw]) hw λρ am=>?_;rw[Nm,am x _ ay,am y _ az];refine Az _ _ (Tt a0 a1 a3 a2 a4 hb a5 a6 ag bi bw bx a7 bb a8 ?_ ?_)
 .intro hm;have bz:ys=[]:=pL hm;subst bz;have b0:Aq E H (S++ [[]]):=by unfold Aq at*;rw[GJ,pG];exact ag
  have b1:mk E H S.flatten=Aj E H (S++ [[]]):=by unfold Aj;rw[GJ,pG]
  rw[b1];have:=h E a xs.length (Le.refl _) (by rw[pG];exact ac.full) b0;rw[hlen] at this;exact this
 .intro r O K b2 b3 b4 b5;have b6:OL e q E (some ⟨r,0,none⟩) K [(r,.cells O e (0,0))] (xs++ys):=
   ⟨wss++bn,.inr ⟨r,O,rfl,rfl,b3,by rw[hlen];exact b2,by rw[hlen,qR];exact b4.symm⟩,by simp[al,bo],OI al be bv⟩
  have ap:=F4 (S:=S) (seg:=[(r,.cells O e (0,0))]) b5;show AT J Q b n ds ops k cs m DG c2 _ _ (mk E H (S.flatten++ [(r,.cells O e (0,0))]));rw[ap.1];refine GF S.length b6 ap.2 (by simp) λE' hle ca aq=>?_;have cc:(S++ [[(r,Obj.cells O e (0,0))]]).set S.length []=S++ [[]]:=IQ _ _ _ _;rw[cc] at aq ⊢;have:=h E' (some ⟨r,0,none⟩) K hle ca aq;rw[hlen] at this;exact this
theorem XY{x:Operand}{s:St}{p:String}{v:Value}(K:P.underlying t1=some (.struct f1))(O:ρ x=.iface t1 v):Yl P ⟨d,.typeAssert x xt t1 true,ty,p,af,g⟩ ρ s (.tuple #[v,.bool true]):=by
 refine Gp (sm:=Instr.typeAssert (ρ x) xt t1 true) V ?_;rw[O];unfold Instr.typeAssert;refine Az _ _ (CG K ?_);simp[lp,pure]
theorem X0{x:Operand}{s:St}{p:String}(K:P.underlying t1=some (.struct f1))(O:zeroOf P t1=some z)(U:ρ x=.nilIface):Yl P ⟨d,.typeAssert x xt t1 true,ty,p,af,g⟩ ρ s (.tuple #[z,.bool false]):=by
 refine Gp (sm:=Instr.typeAssert (ρ x) xt t1 true) V ?_;rw[U];unfold Instr.typeAssert;refine Az _ _ (CG K ?_);exact Az (x:=zeroValue t1) _ (H8 O ⟨V,V⟩)
end
end Pal
