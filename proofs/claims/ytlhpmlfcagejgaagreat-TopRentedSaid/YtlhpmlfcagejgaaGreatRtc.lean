/- TopRented is true for every input: if each string that is put owes the steward a pound for each place: a part (3 of 8) of the proof of its row. -/
import Derived.Test.YtlhpmlfcagejgaaGreatRta
import Derived.Test.YtlhpmlfcagejgaaGreatRtb
import Derived.Test.YtlhpmlfcagejgaaGreatRows
import Derived.Test.YtlhpmlfcagejgaaGreatChecked
import Derived.Conc.LeavingOf
import Derived.Conc.HoldsTime
import Derived.Carry
import Derived.ChangeSame
import Derived.ChangeVars
import Derived.ChangeSlices
import Derived.JoinedOf
import Derived.RowKit
import Derived.Deep.Strs
import Derived.Stop.Joined
import Derived.Test.YtlhpmlfcagejgaaGreatProg
set_option linter.all false
set_option maxRecDepth 100000
namespace Pal
open Go Go.Conc
open Go.ConcN (sumTo upd sumTo_upd upd_ne upd_same)
def KZ(P:Program)(R:Value->St->Prop):GP:=λg s=>
 g.status=.running/\∃v,R v s/\∀w,stepG P true g w=.ended (.done v) w #[]
variable {P:Program}{R:Value->St->Prop}{J:Judge P}{n:Nat}{L:Env}{s:St}{b:Frame}
theorem JO.end{fn:Func}{t:Tmp}{v:Value}(K:b.kind=.normal)(hi:P.inits.idxOf? b.fn=none)(O:P.funcs[b.fn]?=some fn)(U:fn.results=#[.tmp t])(Y:look L t=some v)(Z:R v s):JO J (KZ P R) b n L [] [] s:=λT aa todo=>by
 refine J.stop ⟨rfl,v,Z,λw=>?_⟩
 have e:results fn T=Sem.pure v:=by
  have:=aa.at_ t v Y;simp only[results,U,my];show Sem.pure (T.getD t undef)=_;rw[this]
 have ab:(results fn T).run P w=.ok v w:=by rw[e];rfl
 have e2:(results fn T).events P w #[]=#[]:=by rw[e];simp[Sem.events_pure']
 simp[G,stepG,unwind,Di,O,ab,e2,doReturn,K,GStep.after,hi,seen_none]
def After(P:Program)(R:Value->St->Prop)(K:World)(s₀:St)(v:Value)(w':World):Prop:=
 ∃s,R v s/\Fits s w'/\(∀b o,s₀.E b=some o->s.E b=some o)/\w'.tape=K.tape/\w'.os=K.os/\w'.output=K.output
def Pe(P:Program)(R:Value->St->Prop)(K:World)(s₀:St)(O:Nat)(m:Machine)(t:Trace):Prop:=
 ∃gs w sl q Sh g s,m=crowd gs w sl/\Gw P gs w t q Sh g s/\KZ P R g s/\O=sumTo gs.size q/\(∀b o,s₀.E b=some o->s.E b=some o)/\w.tape=K.tape/\w.os=K.os/\w.output=K.output
theorem U4{ah:World}{s₀:St}(al:Nat)(m:Machine)(t:Trace)(h:Pe P R ah s₀ al m t):
  (∃o w ops,stepT P m=(.ended o w,ops)/\Good P (After P R ah s₀) m o w (t++ops))∨(∃m' ops am,stepT P m=(.next m',ops)/\am<al/\Pe P R ah s₀ am m' (t++ops)):=by
 obtain⟨gs,w,sl,q,Sh,g,s,rfl,hC,aC,rfl,an,ao,ap,aq⟩:=h;obtain⟨aa,v,ar,au⟩:=aC;have aD:∀x∈gs,awake x:=by
  intro x Y;obtain⟨i,hi,rfl⟩:=nr.1 Y;rcases mj i with rfl | ai
  .have:gs[0]=g:=by simpa [f9 hi] using hC.main
   rw[this];exact awake_of (.inl aa)
  .exact awake_of ((hC.lv.old i _ ai (f9 hi)).status.elim .inl λx=>.inr (.inr x))
 let⟨i,x,d,av,hi,Y,aw⟩:=crowd_pick (P:=P) (w:=w) (sl:=sl) aD ⟨0,g,hC.main,aa⟩;have ay:=hC.at_ d;have aE:0<gs.size:=(d4.1 hC.main).1;have aF:∀(a:Nat) (fn:FuncId) (pos:String),MemOp.ofEvents a fn pos #[]=#[]:=λa fn pos=>by rw[ofEvents_eq];simp
 rcases mj i with rfl | ai
 .obtain rfl:x=g:=by rw[hC.main] at hi;exact(d6 hi).symm
  have ab:=runT_many_ended (P:=P) (sl:=av) (i:=0) hi (show stepG P (0==0) x (w.at d)=_ from au (w.at d));rw[aF] at ab;refine .inl ⟨_,_,_,aw.trans ab,v,V,⟨s,ar,ay.Ci.fits 0 aE,an,ao,ap,aq⟩,?_,?_,⟨λy K=>?_,V⟩,λj y K O=>?_⟩;simpa using hC.Ci.clean;simpa using hC.over;let⟨j,O⟩:=lw.1 K;rw[ng] at O;exact⟨_,(hC.lv.old (1+j) y (by omega) (by simpa [crowd] using O)).leaves⟩;have Z:=hC.lv.old j y (by omega) K;exact⟨q j,by simp only[nb];exact Z.hears w⟩
 .have Z:=hC.lv.old i x ai hi;have aG:(i==0)=false:=by simp;omega
  have az:i<gs.size:=(d4.1 hi).1;cases aj:q i with
  | zero=>rw[aj] at Z;rw[Z.1] at Y;cases Y
  | succ k=>
   rw[aj] at Z;rcases Z with⟨aH,_⟩ | ⟨_,x',es,hm,aI,aJ⟩;rw[aH] at Y;cases Y
   have aN:sumTo gs.size (upd q i k)+(k+1)=sumTo gs.size q+k:=by
    have:=sumTo_upd q k id az;simpa [aj] using this
   have ab:=runT_crowd_go (P:=P) (sl:=av) (i:=i) hi (by rw[aG];exact aI (w.at d));have ak:((gs.map (woken P x x' (w.at d))).setIfInBounds i x').size=gs.size:=by simp
   have ae:∀op∈MemOp.ofEvents i x.frame.fn x.frame.place es,op.g=i:=λop U=>by obtain⟨e,_,rfl⟩:=mem_ofEvents U;rfl
   have aA:∀op∈MemOp.ofEvents i x.frame.fn x.frame.place es,op.act.touch?=none:=λop U=>by obtain⟨e,he,rfl⟩:=mem_ofEvents U;exact touch_mute (hm e he)
   have aK:Gw P ((gs.map (woken P x x' (w.at d))).setIfInBounds i x') (w.at d) (t++MemOp.ofEvents i x.frame.fn x.frame.place es) (upd q i k) Sh g s:=by
    refine⟨?_,⟨λj y O K=>?_,λj O=>?_⟩,?_,?_,?_⟩
    .have aL:i≠0:=by omega
     rw[d9 aL,mI,hC.main];simp[woken_run aa]
    by_cases ag:i=j;subst ag;rw[k9 (by simpa using az)] at K;obtain rfl:=d6 K;rw[upd_same,Deaf_own];exact aJ;rw[d9 ag,mI] at K;obtain⟨z,aM,rfl⟩:=lJ.1 K;have aB:=hC.lv.old j z O aM;rw[woken_quitsD aB,upd_ne q k (lu ag),Deaf_other t ag _ ae];exact aB;rw[Deaf_other t (g':=i) (by simp at O;omega) _ ae];exact hC.lv.above j (by simpa using O);rw[ak];exact ay.Ci.mute ae aA (λop U=>by obtain⟨e,he,rfl⟩:=mem_ofEvents U;exact low_mute (hm e he) _) V;exact handedOver_app hC.over λop U=>.inr (aA op U);rw[Deaf_other t (by omega) _ ae];exact hC.hears
   exact .inr ⟨_,_,_,aw.trans ab,by rw[← ak];rw[ak];omega,_,_,_,_,_,_,_,V,aK,⟨aa,v,ar,au⟩,V,an,ao,ap,aq⟩
variable{t:Trace}{g:Goroutine}
theorem ends{gs:Array Goroutine}{w:World}{sl:Option (Nat×Nat)}{q:Nat->Nat}{Sh:Nat->Prop}{s:St}(hC:Gw P gs w t q Sh g s)(O:KZ P R g s):
  ∃N last o w' K,runNT P (N+1) (crowd gs w sl) t=(.ended o w',K)/\runN P N (crowd gs w sl)=.next last/\step P last=.ended o w'/\Good P (After P R w s) last o w' K:=
 run_of_inv Nat.lt_wfRel.wf (Pe P R w s) (Good P (After P R w s)) U4 _ _ _ ⟨gs,w,sl,q,Sh,g,s,V,hC,O,V,λ_ _ h=>h,V,V,V⟩
theorem Td{m m':Machine}{K:Trace}{n:Nat}(h:runNT P n m t=(.next m',K)):runN P n m=.next m':=by rw[← runNT_fst P n m t,h]
def F8(W:World):St:=⟨λb=>W.heap[b]?,λ_=>none,false⟩
theorem Up{W:World}(h:(FX P).ok (KZ P R) g (F8 W)):
  ∃M last o w' K,runNT P (M+1) (solo g W) #[]=(.ended o w',K)/\runN P M (solo g W)=.next last/\step P last=.ended o w'/\Good P (After P R W (F8 W)) last o w' K:=by
 have hC:Gw P #[g] W #[] (λ_=>0) (λ_=>False) g (F8 W):=by
  have Y:∀{i:Nat}{a:Touch},touchAt #[] i=some a->False:=λ{i a} h=>by simp[touchAt,Trace.act?] at h
  refine⟨V,leavers_one P g,⟨λi hi=>?_,λi j hi aa aB=>by simp at hi aa;omega,λi hi b hb=>hb.elim,λb hb=>hb.elim,λsaid=>?_,by simp,λi _ b _ x a O=>(Y O).elim,λi _ b _ x a O=>(Y O).elim⟩,λi g ab=>by simp[Trace.g?] at ab,V⟩
  .have:i=0:=by simp at hi;exact hi
   subst this;exact⟨λb o U=>U,λb o U=>(by cases U),λb _=>V⟩
  .rintro⟨i,j,_,⟨a,b,ae,_⟩,_⟩;simp[Trace.act?] at ae
 let⟨n,gs',w',ag,K,aC,aD,g',s',Z,ah,ai,aj,ak,al,am⟩:=h #[g] W none #[] _ _ hC;let⟨N,last,o,an,ao,k1,ap,aq,ar⟩:=ends (sl:=ag) ah ai;refine⟨n+N,last,o,an,ao,?_,?_,aq,?_⟩;rw[solo_eq_crowd,mc,runNT_add,Z];exact k1;have au:=Td Z;rw[solo_eq_crowd,runN_add,au];exact ap;obtain⟨v,e,⟨s2,a1,av,aw,ay,az,aA⟩,r⟩:=ar;exact⟨v,e,⟨s2,a1,av,λb o hb=>aw b o (aj b o hb),ay.trans ak,az.trans al,aA.trans am⟩,r⟩
end Pal
namespace Pal
open Go Go.Conc
theorem T1{P:Program}{Q:Gs_}{E H:LH}{f:FuncId}{fn:Func}{c:Code}{vs:Lv_}(U:P.funcs[f]?=some fn)(hb:fn.body=some c)(ab:fn.ntmps=fn.ntmps)(ae:vs.length<=fn.ntmps)
  (h:JL (FX P) Q (base f) fn.ntmps (EL 0 vs) [] [.code c] [] (Ah E H [[]])):(FX P).ok Q (G (Frame.enter P f vs.toArray .normal) []) (mk E H []):=by
 have he:Frame.enter P f vs.toArray .normal=fr (base f) (vs.toArray++Array.replicate (fn.ntmps - vs.length) undef) [] [.code c]:=by
  simp[Frame.enter,fr,U,hb,base];rfl
 rw[he];have Y:mk E H []=Ah E H [[]]:=by unfold Ah;simp
 rw[Y];refine h _ ⟨by simp;omega,λt v Z=>?_⟩;let⟨_,K⟩:=H4 Z;have aa:t<vs.length:=by
  rcases lb t vs.length with O | O;exact O;simp at K;have:=(d0.1 K).1;omega
 rw[f4,lM (by simpa using aa)];simp at K;simp[K]
open Go.ChangeAt Go.ChangeShapes Go.Proofs Go.Proofs.YtlhpmlfcagejgaaGreat Go.RowKit Go.WideShapes
theorem Tryz.own:ownKnob Tryz.prog.godebug=none:=by kernel_rfl
theorem Tryz.laidOut:laidOutB Tryz.prog=true:=by kernel_rfl
theorem Tryz.Xd:Tryz.prog.cellsOf 3=1:=by kernel_rfl
variable{v:Value}
theorem SV{R:Value->St->Prop}{W w':World}(h:After Tryz.prog R W (F8 W) v w'):(∃s,R v s)/\Below W.heap.size W w':=by
 obtain⟨s,Y,Z,aa,ab,ae,ag⟩:=h;have hb:∀k,k<W.heap.size->w'.heap[k]?=W.heap[k]? :=λk O=>by
  have K:(F8 W).E k=some W.heap[k]:=f9 O;have U:=Z.e k _ (aa k _ K);rw[U,f9 O]
 refine⟨⟨s,Y⟩,⟨ae,ab,ag,?_,hb⟩⟩;rcases mj W.heap.size with ah | ah;omega;have K:=hb (W.heap.size - 1) (by omega);have ai:W.heap[W.heap.size - 1]?=some W.heap[W.heap.size - 1]:=f9 (by omega);rw[ai] at K;have U:=(d4.1 K).1;omega
theorem P3(a:Addr):a.add 0=a:=by unfold Addr.add;rw[d5 rfl]
variable {H:Type}{enc:TypeId×Value->H}{W:World}{cs:Lv_}{x:DataW H×List MemPlace}
variable{b off:Nat}
section
variable {fuel:Nat}
theorem UO(h:W.cell? ⟨b,off,none⟩=some v):At (F8 W).E b off [v]:=by
 unfold World.cell? at h;split at h
 .rename_i c e f hW;simp only[mT,ld,lK] at h;refine⟨c,e,f,hW,λj w K=>?_⟩
  match j,K with
  | 0,K=>simp at K;subst K;simpa using h
  | j+1,K=>simp at K
 .cases h
theorem TJ(O:0<cs.length)(h:∀j,j<cs.length->W.cell? ⟨b,off+j,none⟩=cs[j]?):At (F8 W).E b off cs:=by
 have U:=h 0 O;rw[d3 O] at U;let⟨f,e,fr,Y,_⟩:=UO U;have hW:W.heap[b]?=some (.cells f e fr):=Y;refine⟨f,e,fr,Y,λj w Z=>?_⟩;have aa:=(d0.1 Z).1;have K:=h j aa;rw[Z] at K;unfold World.cell? at K;simp only[hW] at K;simpa using K
theorem X0{α:Type}{p:Rp α}{t e:TypeId}(ao:Tryz.prog.underlying t=some (.slice e))(ap:Tryz.prog.cellsOf e=p.n)(aq:0<p.n)
  (ar:∀n cs x,DataW.trod enc Tryz.prog W 0 (λ_=>true) true n e cs=some x->∃v,p.r (F8 W).E cs v)
  (au:DataW.trod enc Tryz.prog W 0 (λ_=>true) true fuel t cs=some x):∃(a:Option Addr) (c:Nat) (ai:List α),cs=[.slice a ai.length c]/\Ak p (F8 W).E a c ai:=by
 rcases DataW.trod_slice ao au with⟨aa,av⟩ | ⟨a,len,cap,elems,rest,n,_,aa,av,_,aw,_,hlen,aj,ak,_⟩;exact⟨none,0,[],aa,Ak.nil⟩
 .rw [ap] at aj ak;rcases mj cap with al | al
  .have:len=0:=by omega
   subst this;subst al;exact⟨some a,0,[],aa,la _,.inl ⟨V,λ_ _=>.inr V⟩⟩
  .have am:∀i,i<len->∃vs y,vs.length=p.n/\(∀j,j<p.n->W.cell? ((a.add (i*p.n)).add j)=vs[j]?)/\DataW.trod enc Tryz.prog W 0 (λ_=>true) true n e vs=some y:=λi hi=>by
    have K:=aj i hi;rw[d3 (by omega)] at K;let⟨vs,ae,Y⟩:=lH.1 K;let⟨_,O,ag⟩:=World.cells?_some ae;exact⟨vs,_,O,ag,Y⟩
   have ah:a.spot=none:=by
    have key:∀vs:Lv_,vs.length=p.n->(∀j,j<p.n->W.cell? ((a.add (0*p.n)).add j)=vs[j]?)->a.spot=none:=λvs ab U=>by
     have:=U 0 aq;rw[d3 (by omega),P3,mC,P3] at this;exact World.cell?_spot this
    rcases mj len with K | K;let⟨ae,Y⟩:=ak V;have O:=Y 0 (by omega);rw[d3 (by omega)] at O;let⟨vs,ag,_⟩:=lH.1 O;let⟨_,ab,U⟩:=World.cells?_some ag;rw[K] at U;exact key vs ab U;let⟨vs,y,ab,U,_⟩:=am 0 K;exact key vs ab U
   have an:∀i:Fin len,∃z:α,∃vs,p.r (F8 W).E vs z/\At (F8 W).E a.block (a.off+i*p.n) vs:=λi=>by
    let⟨vs,y,ae,Y,O⟩:=am i i.2;let⟨z,Z⟩:=ar _ _ _ O;refine⟨z,vs,Z,TJ (by omega) λj ay=>?_⟩;have:=Y j (by omega);rw[CV ah,CV rfl] at this;exact this
   refine⟨some a,cap,List.ofFn λi=>Classical.choose (an i),by simpa using aa,by simpa using aw,.inr ⟨a.block,a.off,?_,λi z Z=>?_⟩⟩;obtain⟨b,o,s⟩:=a;simp only at ah;subst ah;rfl
   .have hi:i<len:=by have:=(d0.1 Z).1;simpa using this
    simp[hi] at Z;have:=mg (an ⟨i,hi⟩);rw[Z] at this;exact this
theorem VF(h:DataW.trod enc Tryz.prog W 0 (λ_=>true) true fuel 3 cs=some x):∃z:Int,cs=[iV z]:=by
 let⟨n1,K,_⟩:=DataW.trod_int Tryz.underlying3 h;exact⟨n1,K⟩
theorem Us(O:DataW.trod enc Tryz.prog W 0 (λ_=>true) true fuel 22 cs=some x):∃(a:Option Addr) (c:Nat) (K:List Int),cs=[.slice a K.length c]/\Ak rI (F8 W).E a c K:=
 X0 (p:=rI) Tryz.underlying22 Tryz.Xd Nat.one_pos (λn cs x h=>by
  obtain⟨z,rfl⟩:=VF h
  exact⟨z,rfl⟩) O
theorem Uw{O:Nat}{d:DataW H}{p:List MemPlace}(U:Value.okWide Tryz.prog W .any O 22 v)(hd:DataW.Trod enc Tryz.prog W 0 (λ_=>true) true 22 v d p):
  ∃(a:Option Addr) (c:Nat) (K:List Int),v=.slice a K.length c/\Ak rI (F8 W).E a c K:=by
 obtain⟨Z,len,cap,rfl⟩:=okWide_slice Tryz.underlying22 U;obtain⟨fuel,Y⟩:=hd;let⟨a,c,K,e,g⟩:=Us Y;simp[Value.cells] at e;obtain⟨rfl,rfl,rfl⟩:=e;exact⟨_,_,_,V,g⟩
end
end Pal
namespace Pal
open Go Go.Conc
def Hp(K:Bool)(ws:Lv_):Value:=if K then .agg ws.toArray else ws.headD undef
def Vr{α:Type}(pp:Rp α)(K:Bool)(E:LH)(v:Value)(x:α):Prop:=∃ws,pp.r E ws x/\v=Hp K ws
theorem Vr.Ad{α:Type}{pp:Rp α}{K:Bool}{E E':LH}{v:Value}{x:α}(h:Vr pp K E v x)(hle:Le E E'):Vr pp K E' v x:=
 let ⟨ws,O,U⟩:=h;⟨ws,pp.Ad hle O,U⟩
structure HR (P:Program) (t:TypeId) {κ:Type} [DecidableEq κ] (pk:Rp κ) (ka:Bool):Prop where
 BH:∀{em:Bool}{E:LH}{v:Value}{x:κ}{s:St}{Q:Unit->St->Prop}{X:Halt->St->Prop},Vr pk ka E v x->Q () s->lp P (Instr.checkKey em 10000 t v) s Q X
 kind:∃kd,P.underlying t=some kd/\((∀v w,Instr.sameNow kd v w=none)∨∀{E:LH}{v w:Value}{x y:κ},Vr pk ka E v x->Vr pk ka E w y->Instr.sameNow kd v w=some (decide (x=y)))
 eq:∀{E:LH}{v w:Value}{x y:κ}{s:St}{Q:Bool->St->Prop}{X:Halt->St->Prop},Vr pk ka E v x->Vr pk ka E w y->Q (decide (x=y)) s->lp P (Op.equal t v w) s Q X
 same:∀{E:LH}{v:Value}{x:κ},Vr pk ka E v x->Instr.sameBits 10000 v v=true
 uniq:∀{E:LH}{v w:Value}{x:κ},Vr pk ka E v x->Vr pk ka E w x->v=w
variable {κ ν:Type}{pk:Rp κ}{pv:Rp ν}{ka va:Bool}{E E':LH}
variable {P:Program}{s:St}{t tm te:TypeId}{X:Halt->St->Prop}
section
variable [DecidableEq κ]
def Fu(pk:Rp κ)(ka:Bool)(pv:Rp ν)(va:Bool)(E:LH):List MapEntry->List (κ×ν)->Prop
 | [],[]=>True
 | e::es,x::xs=>Vr pk ka E e.key x.1/\Vr pv va E e.val x.2/\Fu pk ka pv va E es xs
 | _,_=>False
theorem Fu.Ad(hle:Le E E'):∀{es:List MapEntry}{xs:List (κ×ν)},Fu pk ka pv va E es xs->Fu pk ka pv va E' es xs
 | [],[],_=>trivial
 | e::es,x::xs,h=>⟨h.1.Ad hle,h.2.1.Ad hle,Fu.Ad hle h.2.2⟩
 | [],_::_,h=>h.elim
 | _::_,[],h=>h.elim
def GW(x:κ):List MapEntry->List (κ×ν)->Nat->Option (Nat×Value)
 | e::es,y::ys,i=>if x=y.1 then some (i,e.val) else GW x es ys (i+1)
 | _,_,_=>none
def Dl(xs:List (κ×ν))(x:κ):Option ν:=(xs.find? λy=>decide (x=y.1)).map (·.2)
def Gs(xs:List (κ×ν))(x:κ)(v:ν):List (κ×ν):=match xs with
 | []=>[(x,v)]
 | y::ys=>if x=y.1 then(x,v)::ys else y::Gs ys x v
theorem QO{x:κ}:∀{es:List MapEntry}{xs:List (κ×ν)}{i:Nat},Fu pk ka pv va E es xs->(GW x es xs i=none/\Dl xs x=none)∨∃j w v0,GW x es xs i=some (j,w)/\Dl xs x=some v0/\Vr pv va E w v0
 | [],[],i,_=>.inl ⟨rfl,rfl⟩
 | e::es,y::ys,i,h=>by
  unfold GW Dl
  by_cases K:x=y.1;exact .inr ⟨i,e.val,y.2,by rw[d5 K],by simp[K],h.2.1⟩;rcases QO (x:=x) (i:=i+1) h.2.2 with⟨O,U⟩ | ⟨j,w,v0,O,U,Y⟩;exact .inl ⟨by rw[d7 K];exact O,by simpa [K,Dl] using U⟩;exact .inr ⟨j,w,v0,by rw[d7 K];exact O,by simpa [K,Dl] using U,Y⟩
 | [],_::_,_,h=>h.elim
 | _::_,[],_,h=>h.elim
theorem Fu.put{x:κ}{v0:ν}{O w:Value}(U:Vr pk ka E O x)(hw:Vr pv va E w v0)(Z:Nat):∀{es:List MapEntry}{xs:List (κ×ν)}{i:Nat},Fu pk ka pv va E es xs->
  (GW x es xs i=none/\Fu pk ka pv va E (es++ [{key:=O,val:=w,born:=Z}]) (Gs xs x v0))∨
  ∃j u,GW x es xs i=some (i+j,u)/\j<es.length/\(∀e,es[j]?=some e->Vr pk ka E e.key x)/\Fu pk ka pv va E (es.modify j λe=>{e with key:=O,val:=w}) (Gs xs x v0)
 | [],[],i,_=>.inl ⟨rfl,U,hw,trivial⟩
 | e::es,y::ys,i,h=>by
  unfold GW Gs
  by_cases K:x=y.1;refine .inr ⟨0,e.val,by rw[d5 K];rfl,by simp,λaa he=>?_,?_⟩;simp at he;subst he;rw[K];exact h.1;rw[d5 K];exact⟨U,hw,h.2.2⟩;rcases Fu.put U hw Z (i:=i+1) h.2.2 with⟨Y,ab⟩ | ⟨j,u,Y,ab,ae,ag⟩;exact .inl ⟨by rw[d7 K];exact Y,by rw[d7 K];exact⟨h.1,h.2.1,ab⟩⟩;refine .inr ⟨j+1,u,by rw[d7 K,Y];congr 2;omega,by simp;omega,λaa he=>ae aa (by simpa using he),?_⟩;rw[d7 K];exact⟨h.1,h.2.1,ag⟩
 | [],_::_,_,h=>h.elim
 | _::_,[],_,h=>h.elim
def Jw(pk:Rp κ)(ka:Bool)(pv:Rp ν)(va:Bool)(E:LH)(o:Obj)(xs:List (κ×ν)):Prop:=
 ∃es clock,o=.map es clock/\Fu pk ka pv va E es.toList xs/\(es.toList.map (·.born)).Pairwise (·<·)/\∀e∈es.toList,e.born<clock
theorem Jw.Ad{o:Obj}{xs:List (κ×ν)}(h:Jw pk ka pv va E o xs)(hle:Le E E'):Jw pk ka pv va E' o xs:=
 let ⟨es,c,K,O,U⟩:=h;⟨es,c,K,O.Ad hle,U⟩
theorem Pq(U:HR P t pk ka){k:Value}{x:κ}(Y:Vr pk ka E k x){Q:Option (Nat×Value)->St->Prop}:∀{es:List MapEntry}{xs:List (κ×ν)}{i:Nat},Fu pk ka pv va E es xs->Q (GW x es xs i) s->lp P (Instr.findAsking t k es i) s Q X
 | [],[],i,_,h=>h
 | e::es,y::ys,i,h,K=>by
  unfold Instr.findAsking
  refine Av _ _ (U.eq Y h.1 ?_)
  unfold GW at K
  by_cases O:x=y.1
  .rw [mn O]
   rw[d5 O] at K;exact K
  .rw [mp O];rw[d7 O] at K;exact Pq U Y h.2.2 K
 | [],_::_,_,h,_=>h.elim
 | _::_,[],_,h,_=>h.elim
theorem PC{kd:TypeDesc}{k:Value}{x:κ}(O:Vr pk ka E k x)(U:∀{E:LH}{v w:Value}{x y:κ},Vr pk ka E v x->Vr pk ka E w y->Instr.sameNow kd v w=some (decide (x=y))):∀{es:List MapEntry}{xs:List (κ×ν)}{i:Nat},Fu pk ka pv va E es xs->Instr.findNow kd k es i=some (GW x es xs i)
 | [],[],i,_=>rfl
 | e::es,y::ys,i,h=>by
  unfold Instr.findNow GW
  rw[U O h.1]
  by_cases K:x=y.1;simp[K];simp only[mp K,d7 K];exact PC O U h.2.2
 | [],_::_,_,h=>h.elim
 | _::_,[],_,h=>h.elim
theorem PM(O:HR P t pk ka){k:Value}{x:κ}(U:Vr pk ka E k x){Q:Option (Nat×Value)->St->Prop}{es:List MapEntry}{xs:List (κ×ν)}(h:Fu pk ka pv va E es xs)(K:Q (GW x es xs 0) s):lp P (Instr.findKey t k es) s Q X:=by
 unfold Instr.findKey;obtain⟨kd,Y,Z | aa⟩:=O.kind
 .refine Av _ _ (B6 Y ?_);cases es with
  | nil=>
   cases xs with
   | nil=>exact K
   | cons y ys=>exact h.elim
  | cons e es=>
   have ab:Instr.findNow kd k (e::es) 0=none:=by unfold Instr.findNow;rw[Z]
   rw[ab];exact Pq O U h K
 .refine Av _ _ (B6 Y ?_);rw[PC U aa h];exact K
theorem Tq(O:HR P t pk ka)(hm:P.underlying tm=some (.map t te)){z:Value}{z0:ν}(Z:zeroOf P te=some z)(aa:Vr pv va E z z0){bk:Nat}{o:Obj}{xs:List (κ×ν)}{k:Value}{x:κ}(ab:s.get bk=some o)(ae:Jw pk ka pv va E o xs)(U:Vr pk ka E k x)(ok:Bool){Q:Value->St->Prop}
  (h:∀w,Vr pv va E w ((Dl xs x).getD z0)->Q (if ok then .tuple #[w,.bool (Dl xs x).isSome] else w) s):lp P (Instr.lookup tm (.map (some bk)) k ok) s Q X:=by
 obtain⟨es,c,rfl,Y,ah,ai⟩:=ae;unfold Instr.lookup;refine Av _ _ (B6 hm ?_);refine Av _ _ ?_;unfold getObj;simp only[bind,Sem.bind,lp];refine⟨_,ab,V,?_⟩;refine Av (x:=Instr.checkKey _ 10000 t k) _ (O.BH U ?_);refine Av (x:=Instr.findKey t k es.toList) _ (PM O U Y ?_);rcases QO (x:=x) (i:=0) Y with⟨K,e2⟩ | ⟨j,w,v0,K,e2,ag⟩;rw[K];simp only;refine Av (x:=zeroValue te) _ (Fh Z ?_);have:=h z (by rw[e2];exact aa);rw[e2] at this;exact this;rw[K];have:=h w (by rw[e2];exact ag);rw[e2] at this;exact this
theorem SE(O:HR P t pk ka)(hm:P.underlying tm=some (.map t te)){bk:Nat}{o:Obj}{xs:List (κ×ν)}{k w:Value}{x:κ}{v0:ν}(ag:s.get bk=some o)(Z:s.H bk=some o)(ah:Jw pk ka pv va E o xs)(K:Vr pk ka E k x)(hw:Vr pv va E w v0){Q:Unit->St->Prop}
  (h:∀o',Jw pk ka pv va E o' (Gs xs x v0)->Q () (s.upd bk o')):lp P (Instr.mapUpdate tm (.map (some bk)) k w) s Q X:=by
 obtain⟨es,c,rfl,aa,ab,U⟩:=ah;unfold Instr.mapUpdate;refine Av _ _ (B6 hm ?_);unfold getObj;simp only[bind,Sem.bind,lp];refine⟨_,ag,V,?_⟩;refine Av (x:=Instr.checkKey false 10000 t k) _ (O.BH K ?_);refine Av (x:=Instr.findKey t k es.toList) _ (PM O K aa ?_);rcases Fu.put K hw c (i:=0) aa with⟨Y,e2⟩ | ⟨j,u,Y,e2,ai,aj⟩;rw[Y];simp only[setObj,lp];refine⟨⟨_,Z,V⟩,V,h _ ⟨es.push {key:=k,val:=w,born:=c},c+1,V,by simpa using e2,?_,?_⟩⟩;rw[Array.toList_push,lL,oe];refine⟨ab,by simp,λa ak b hb=>?_⟩;simp at hb;subst hb;obtain⟨e,he,rfl⟩:=mr.1 ak;exact U e he;intro e he;rw[Array.toList_push] at he;rcases lm.1 he with he | he;have:=U e he;omega;simp at he;subst he;simp
 .rw [Y];have ae:es[j]?=some (es[j]'(by simpa using e2)):=f9 (by simpa using e2);have al:(es[j]'(by simpa using e2)).key=k:=O.uniq (ai _ (by rw[lN];exact ae)) K;simp only[mD,ae,lW,Option.getD_some,al];refine Av (x:=Instr.keyThatStays k k) _ ?_;unfold Instr.keyThatStays;rw[d5 (O.same K)];simp only[lp,pure,setObj];refine⟨⟨_,Z,V⟩,V,h _ ⟨_,c,V,by simpa using aj,?_,?_⟩⟩
  .have:(es.modify j λe=>{e with key:=k,val:=w}).toList.map (·.born)=es.toList.map (·.born):=by
    rw[Array.toList_modify];apply lF;intro q;simp only[l8,List.getElem?_modify];split<;>cases es.toList[q]?<;>rfl
   rw[this];exact ab
  .intro e he;rw[Array.toList_modify] at he;obtain⟨q,am,rfl⟩:=List.mem_iff_getElem.1 he;rw[List.getElem_modify];have an:q<es.toList.length:=by simpa using am
   split;show(es.toList[q]'an).born<c;exact U _ (k7 _);exact U _ (k7 _)
end
variable{us:Lv_}
theorem Q2{l r:Lv_}:∀j w,us[j]?=some w->(l++us++r).toArray[l.length+j]?=some w:=λj w h=>by
 have K:j<us.length:=(d0.1 h).1
 rw[lA,ls,k8 (by omega),show l.length+j - l.length=j by omega,lg K]
 exact h
variable{off:Nat}
section
variable {e:TypeId}
theorem J2{c:Av_}{O:Bool}(Y:C8 P e=some O)(Z:A5 P e=some us.length)(aa:O=false->us.length=1)(hw:∀j w,us[j]?=some w->c[off+j]?=some w)
  {Q:Value->St->Prop}(k:Q (Hp O us) s):lp P (Go.part e c off) s Q X:=by
 unfold Go.part;refine Av (x:=isAgg e) _ (Mk Y ?_);cases O with
 | true=>
  simp only[lQ];refine Av (x:=Go.sizeOf e) _ (DO Z ?_);have ab:c.extract off (off+us.length)=us.toArray:=by
   apply mw;intro j;by_cases U:j<us.length;have K:=hw j us[j] (d3 U);have ae:off+j<c.size:=(d4.1 K).1;simp only[no];rw[d5 (by omega),K];simp[U];simp only[no];rw[d7 (by omega)];simp;omega
  show Q (.agg (c.extract off (off+us.length))) s;rw[ab];exact k
 | false=>
  obtain⟨w,rfl⟩:∃w,us=[w]:=by
   match us,aa rfl with
   | [w],_=>exact⟨w,rfl⟩
  have K:=hw 0 w V;rw[lT] at K;simp only[ld,lK,K];exact k
end
structure CE (P:Program) (t:TypeId) {α:Type} [DecidableEq α] (pp:Rp α) (K:Bool) (dep:Nat):Prop where
 agg:C8 P t=some K
 size:A5 P t=some pp.n
 one:K=false->pp.n=1
 eq:∀{n:Nat}{E E':LH}{ws ws':Lv_}{x y:α}{s:St}{Q:Bool->St->Prop}{X:Halt->St->Prop},dep<=n->pp.r E ws x->pp.r E' ws' y->Q (decide (x=y)) s->lp P (Op.equalIn n t (Hp K ws) (Hp K ws')) s Q X
 BH:∀{n:Nat}{em:Bool}{E:LH}{ws:Lv_}{x:α}{s:St}{Q:Unit->St->Prop}{X:Halt->St->Prop},dep<=n->pp.r E ws x->Q () s->lp P (Instr.checkKey em n t (Hp K ws)) s Q X
 uniq:∀{E E':LH}{ws ws':Lv_}{x:α},pp.r E ws x->pp.r E' ws' x->ws=ws'
 same:∀{E:LH}{ws:Lv_}{x:α},pp.r E ws x->∀w∈ws,∀m,Instr.sameBits (m+1) w w=true
 now:∃kd,P.underlying t=some kd/\((∀v w,Instr.sameNow kd v w=none)∨∀{E E':LH}{ws ws':Lv_}{x y:α},pp.r E ws x->pp.r E' ws' y->Instr.sameNow kd (Hp K ws) (Hp K ws')=some (decide (x=y)))
variable {ρ:Operand->Value}{x:Operand}{d:Option Tmp}{u ty:TypeId}{p:String}{af:Ae_}{g:On_}{ws ws':Lv_}
variable{dep:Nat}{cx:Av_}{β:Type}
section
variable {e:TypeId}
theorem CE.int{kd:IntKind}(U:P.underlying t=some (.int kd))(Y:A5 P t=some 1):CE P t (rK kd) false 1 where
 agg:=by unfold C8;rw[U]
 size:=Y
 one _:=rfl
 eq {n E E' ws ws' x y s Q X} Z K O k:=by
  obtain⟨m,rfl⟩:∃m,n=m+1:=⟨n - 1,by omega⟩;have K:ws=[.int kd x]:=K;have O:ws'=[.int kd y]:=O;subst K O;refine XH U ?_;have e:(x==y)=decide (x=y):=by by_cases h:x=y<;>simp[h]
  rw[e];exact k
 BH {n em E ws x s Q X} Z K k:=by
  obtain⟨m,rfl⟩:∃m,n=m+1:=⟨n - 1,by omega⟩;have K:ws=[.int kd x]:=K;subst K;unfold Instr.checkKey;refine Av _ _ (B6 U ?_);exact k
 uniq K O:=by
  have K:_=[Value.int kd _]:=K;have O:_=[Value.int kd _]:=O;rw[K,O]
 same {E ws x} h w hw m:=by
  have h:ws=[Value.int kd x]:=h;subst h;simp at hw;subst hw;simp[Instr.sameBits]
 now:=⟨_,U,.inr λ{E E' ws ws' x y} K O=>by
  have K:ws=[.int kd x]:=K
  have O:ws'=[.int kd y]:=O
  subst K O
  have e:(x==y)=decide (x=y):=by by_cases h:x=y<;>simp[h]
  show(if kd=kd then some (x==y) else none)=_
  rw[d5 rfl,e]⟩
theorem OH{α:Type}{kk:Nat}{pp:Rp α}{E:LH}{ws:Lv_}{xs:List α}(K:(rA kk pp).r E ws xs){i:Nat}(hi:i<kk):∃x us,xs[i]?=some x/\pp.r E us x/\us.length=pp.n/\∀j w,us[j]?=some w->ws.toArray[i*pp.n+j]?=some w:=by
 have O:xs[i]?=some (xs[i]'(by rw[K.1];exact hi)):=d3 (by rw[K.1];exact hi);have Y:ix xs (i:Int)=some (xs[i]'(by rw[K.1];exact hi)):=by unfold ix;rw[d5 (by omega)];simpa using O
 let⟨us,U,_,_,Z⟩:=DR (m:=(i:Int)) K Y;exact⟨_,us,O,U,pp.len U,λj w aa=>by have:=Z j w aa;rw[lA];simpa using this⟩
theorem CE.arr{α:Type} [DecidableEq α] {pp:Rp α}{au:Bool}{kk:Nat}(h:CE P e pp au dep)(Z:P.underlying t=some (.array kk e))(av:A5 P t=some (kk*pp.n)):CE P t (rA kk pp) true (dep+1) where
 agg:=by unfold C8;rw[Z]
 size:=av
 one:=λh=>by cases h
 eq {n E E' ws ws' xs ys s Q X} aw aa an k:=by
  obtain⟨n,rfl⟩:∃m,n=m+1:=⟨n - 1,by omega⟩;have aG:=aa.1;have aH:=an.1;unfold Op.equalIn;refine Av _ _ (B6 Z ?_);refine Av (x:=Go.sizeOf e) _ (DO h.size ?_);simp only[Hp,lQ];simp only[m5,Std.Legacy.Range.size,mO,Nat.add_one_sub_one,Nat.div_one];let bd:Nat->Option Bool×Unit->Sem (ForInStep (Option Bool×Unit)):=λi _=>do
   if !(← Op.equalIn n e (← Go.part e ws.toArray (i*pp.n)) (← Go.part e ws'.toArray (i*pp.n))) then pure (ForInStep.done (some false,())) else pure (ForInStep.yield (none,()))
  have key:∀(m st:Nat),st+m=kk->(∀i,i<st->xs[i]?=ys[i]?)->∀{K:Option Bool×Unit->St->Prop},K (if xs=ys then(none,()) else(some false,())) s->lp P (forIn (List.range' st m) (none,()) bd:Sem _) s K X:=by
   intro m
   induction m with
   | zero=>
    intro st ae ag K O;have U:xs=ys:=by
     apply lF;intro i;rcases lb i st with hi | hi;exact ag i hi;rw[lB (by omega),lB (by omega)]
    rw[d5 U] at O;simp only[List.range'_zero,nD];exact O
   | succ m ah=>
    intro st ae ag K O;simp only[nW,nt];obtain⟨a,us,ab,ai,Y,aj⟩:=OH aa (i:=st) (by omega);obtain⟨c,aI,ak,ay,ao,az⟩:=OH an (i:=st) (by omega);refine Av _ _ (Av _ _ (J2 h.agg (by rw[Y];exact h.size) (λq=>by rw[Y];exact h.one q) aj ?_));refine Av _ _ (J2 h.agg (by rw[ao];exact h.size) (λq=>by rw[ao];exact h.one q) az ?_);refine Av _ _ (h.eq (by omega) ai ay ?_);by_cases al:a=c
    .subst al;simp only[decide_true,nH,ld,lK,lp,pure];exact ah (st+1) (by omega) (λi hi=>by
      rcases lb i st with ap | ap;exact ag i ap
      .obtain rfl:i=st:=by omega
       rw[ab,ak]) O
    .have aA:¬xs=ys:=λq=>al (by rw[q] at ab;rw[ab] at ak;exact d6 ak);rw[d7 aA] at O;simp only[al,decide_false,nB,lQ,lp,pure];exact O
  refine Av _ _ (key kk 0 (by omega) (λi hi=>by omega) ?_);by_cases U:xs=ys;rw[d5 U];simpa [lp,pure,U] using k;rw[d7 U];simpa [lp,pure,U] using k
 BH {n em E ws xs s Q X} aw aa k:=by
  obtain⟨n,rfl⟩:∃m,n=m+1:=⟨n - 1,by omega⟩;unfold Instr.checkKey;refine Av _ _ (B6 Z ?_);simp only[Hp,lQ];simp only[m5,Std.Legacy.Range.size,mO,Nat.add_one_sub_one,Nat.div_one];let bd:Nat->Unit->Sem (ForInStep Unit):=λi _=>do
   Instr.checkKey em n e (← Go.part e ws.toArray (i*(← Go.sizeOf e)))
   pure (ForInStep.yield ())
  have key:∀(m st:Nat),st+m=kk->∀{K:Unit->St->Prop},K () s->lp P (forIn (List.range' st m) () bd:Sem _) s K X:=by
   intro m
   induction m with
   | zero=>
    intro st ae K O;simp only[List.range'_zero,nD];exact O
   | succ m ah=>
    intro st ae K O;simp only[nW,nt];obtain⟨a,us,ab,ai,Y,aj⟩:=OH aa (i:=st) (by omega);refine Av _ _ (Av (x:=Go.sizeOf e) _ (DO h.size ?_));refine Av _ _ (J2 h.agg (by rw[Y];exact h.size) (λq=>by rw[Y];exact h.one q) aj ?_);refine Av _ _ (h.BH (by omega) ai ?_);exact ah (st+1) (by omega) O
  exact Av _ _ (key kk 0 (by omega) k)
 uniq {E E' ws ws' xs} am aB:=by
  obtain⟨a1,wss,rfl,aq,c1⟩:=am;obtain⟨aJ,aC,rfl,aK,c2⟩:=aB;have:wss=aC:=by
   apply List.ext_getElem (by omega);intro i hi aD;have ar:xs[i]?=some (xs[i]'(by omega)):=d3 (by omega);exact h.uniq (c1 i _ _ ar (d3 hi)) (c2 i _ _ ar (d3 aD))
  rw[this]
 same {E ws xs} am w hw m:=by
  obtain⟨a1,wss,rfl,aq,c1⟩:=am;let⟨us,aE,hw⟩:=mt.1 hw;let⟨i,hi⟩:=lw.1 aE;have aF:i<xs.length:=by rw[a1,← aq];exact(d0.1 hi).1
  exact h.same (c1 i _ us (d3 aF) hi) w hw m
 now:=⟨_,Z,.inl λv w=>rfl⟩
theorem CE.field{α:Type} [DecidableEq α] {pp:Rp α}{aa:Bool}{n:Nat}{f:Field}{s:St}{X:Halt->St->Prop}(h:CE P f.type pp aa dep)(hd:dep<=n)(ab:f.name≠ "_"){E E':LH}{Y:Lv_}{x y:α}(r1:pp.r E us x)(r2:pp.r E' Y y){Z:Av_}
  (w1:∀j w,us[j]?=some w->cx[f.offset+j]?=some w) (w2:∀j w,Y[j]?=some w->Z[f.offset+j]?=some w) {K:ForInStep (Option Bool×Unit)->St->Prop}(O:K (if x=y then .yield (none,()) else .done (some false,())) s):
  lp P (if f.name≠ "_" then do
   if !(← Op.equalIn n f.type (← Go.part f.type cx f.offset) (← Go.part f.type Z f.offset)) then pure (ForInStep.done (some false,())) else pure (ForInStep.yield (none,()))
   else pure (ForInStep.yield (none,()))) s K X:=by
 rw[d5 ab]
 refine Av _ _ (J2 h.agg (by rw[pp.len r1];exact h.size) (λq=>by rw[pp.len r1];exact h.one q) w1 ?_)
 refine Av _ _ (J2 h.agg (by rw[pp.len r2];exact h.size) (λq=>by rw[pp.len r2];exact h.one q) w2 ?_)
 refine Av _ _ (h.eq hd r1 r2 ?_)
 by_cases U:x=y;rw[d5 U] at O;simpa [lp,pure,U] using O;rw[d7 U] at O;simpa [lp,pure,U] using O
theorem CE.OP{α:Type} [DecidableEq α] {pp:Rp α}{O em:Bool}{n:Nat}{f:Field}{s:St}{X:Halt->St->Prop}(h:CE P f.type pp O dep)(hd:dep<=n)(U:f.name≠ "_"){E:LH}{x:α}(r1:pp.r E us x)
  (w1:∀j w,us[j]?=some w->cx[f.offset+j]?=some w) {K:ForInStep Unit->St->Prop}(Y:K (.yield ()) s):
  lp P (if f.name≠ "_" then do
   Instr.checkKey em n f.type (← Go.part f.type cx f.offset)
   pure (ForInStep.yield ())
   else pure (ForInStep.yield ())) s K X:=by
 rw[d5 U]
 refine Av _ _ (J2 h.agg (by rw[pp.len r1];exact h.size) (λq=>by rw[pp.len r1];exact h.one q) w1 ?_)
 refine Av _ _ (h.BH hd r1 ?_)
 exact Y
theorem O5{r:Lv_}{o:Nat}(K:o=0):∀j w,us[j]?=some w->(us++r).toArray[o+j]?=some w:=λj w h=>by subst K;exact Q2 (l:=[]) j w h
theorem Nf{l r:Lv_}{o:Nat}(K:o=l.length):∀j w,us[j]?=some w->(l++(us++r)).toArray[o+j]?=some w:=λj w h=>by
 subst K
 have:=Q2 (l:=l) (r:=r) j w h
 rwa[ls] at this
theorem YH{l:Lv_}{o:Nat}(K:o=l.length):∀j w,us[j]?=some w->(l++us).toArray[o+j]?=some w:=λj w h=>by
 have:=Nf (r:=[]) K j w h
 rwa[lf] at this
theorem OQ{l m:Lv_}{o:Nat}(K:o=l.length+m.length):∀j w,us[j]?=some w->(l++(m++us)).toArray[o+j]?=some w:=λj w h=>by
 have:=YH (l:=l++m) (o:=o) (by simp[K]) j w h
 rwa[ls] at this
theorem CE.three{α an:Type} [DecidableEq α] [DecidableEq β] [DecidableEq an] {p1:Rp α}{p2:Rp β}{p3:Rp an}{a1 ap aq:Bool}{f1 f2 f3:Field}(O:P.underlying t=some (.struct #[f1,f2,f3]))(U:CE P f1.type p1 a1 dep)(Y:CE P f2.type p2 ap dep)(Z:CE P f3.type p3 aq dep)(ar:P.stoodInHeld t=false)
  (n1:f1.name≠ "_") (n2:f2.name≠ "_") (ao:f3.name≠ "_") (o1:f1.offset=0) (ag:f2.offset=p1.n) (ah:f3.offset=p1.n+p2.n) (au:A5 P t=some (p1.n+(p2.n+p3.n))):CE P t (rP p1 (rP p2 p3)) true (dep+1) where
 agg:=by unfold C8;rw[O]
 size:=au
 one:=λh=>by cases h
 eq {n E E' ws ws' x y s Q X} av ai aw k:=by
  obtain⟨n,rfl⟩:∃m,n=m+1:=⟨n - 1,by omega⟩;obtain⟨aj,_,rfl,r1,ak,al,rfl,r2,r3⟩:=ai;obtain⟨v1,_,rfl,K,v2,ay,rfl,aa,am⟩:=aw;simp only[Hp,lQ];unfold Op.equalIn;refine Av _ _ (B6 O ?_);refine Av (x:=program) _ ?_;show lp P (if P.stoodInHeld t=true then _ else _) s _ _
  rw[d7 (by rw[ar];exact Bool.false_ne_true)]
  dsimp only;rw[← Array.forIn_toList];simp only[nt,nD];refine Av _ _ (Av _ _ (U.field (by omega) n1 r1 K (O5 o1) (O5 o1) ?_));by_cases ab:x.1=y.1;rw[d5 ab];refine Av _ _ (Y.field (by omega) n2 r2 aa (Nf (ag.trans (p1.len r1).symm)) (Nf (ag.trans (p1.len K).symm)) ?_);by_cases e2:x.2.1=y.2.1;rw[d5 e2];refine Av _ _ (Z.field (by omega) ao r3 am (OQ (by rw[ah,p1.len r1,p2.len r2])) (OQ (by rw[ah,p1.len K,p2.len aa])) ?_);by_cases ae:x.2.2=y.2.2;have e:x=y:=og ab (og e2 ae);rw[d5 ae];simpa [lp,pure,e] using k;have e:¬x=y:=λq=>ae (by rw[q]);rw[d7 ae];simpa [lp,pure,e] using k;have e:¬x=y:=λq=>e2 (by rw[q]);rw[d7 e2];simpa [lp,pure,e] using k;have e:¬x=y:=λq=>ab (by rw[q]);rw[d7 ab];simpa [lp,pure,e] using k
 BH {n em E ws x s Q X} av ai k:=by
  obtain⟨n,rfl⟩:∃m,n=m+1:=⟨n - 1,by omega⟩;obtain⟨aj,_,rfl,r1,ak,al,rfl,r2,r3⟩:=ai;simp only[Hp,lQ];unfold Instr.checkKey;refine Av _ _ (B6 O ?_)
  dsimp only;rw[← Array.forIn_toList];simp only[nt,nD];refine Av _ _ (Av _ _ (U.OP (by omega) n1 r1 (O5 o1) ?_));refine Av _ _ (Y.OP (by omega) n2 r2 (Nf (ag.trans (p1.len r1).symm)) ?_);refine Av _ _ (Z.OP (by omega) ao r3 (OQ (by rw[ah,p1.len r1,p2.len r2])) ?_);exact k
 uniq {E E' ws ws' x} a b:=by
  obtain⟨aj,_,rfl,r1,ak,al,rfl,r2,r3⟩:=a;obtain⟨v1,_,rfl,K,v2,ay,rfl,aa,am⟩:=b;rw[U.uniq r1 K,Y.uniq r2 aa,Z.uniq r3 am]
 same {E ws x} a w hw m:=by
  obtain⟨aj,_,rfl,r1,ak,al,rfl,r2,r3⟩:=a;rcases lm.1 hw with hw | hw;exact U.same r1 w hw m;rcases lm.1 hw with hw | hw;exact Y.same r2 w hw m;exact Z.same r3 w hw m
 now:=⟨_,O,.inl λv w=>rfl⟩
theorem CE.key{α:Type} [DecidableEq α] {pp:Rp α}{K:Bool}(h:CE P t pp K dep)(hd:dep<=10000):HR P t pp K where
 BH:=by
  rintro em E v x s Q X ⟨ws,Y,rfl⟩ k;exact h.BH hd Y k
 kind:=by
  obtain⟨kd,O,Z⟩:=h.now;refine⟨kd,O,Z.imp id λaa=>?_⟩;rintro E v w x y ⟨ws,r1,rfl⟩ ⟨ws',r2,rfl⟩;exact aa r1 r2
 eq:=by
  rintro E v w x y s Q X ⟨ws,r1,rfl⟩ ⟨ws',r2,rfl⟩ k;exact h.eq hd r1 r2 k
 same:=by
  rintro E v x ⟨ws,r1,rfl⟩;cases K with
  | false=>
   obtain⟨w,rfl⟩:∃w,ws=[w]:=by
    have:=(pp.len r1).trans (h.one V)
    match ws,this with
    | [w],_=>exact⟨w,rfl⟩
   exact h.same r1 w (by simp) 9999
  | true=>
   show(ws.toArray.size==ws.toArray.size&&(ws.toArray.toList.zip ws.toArray.toList).all λ(x,y)=>Instr.sameBits 9999 x y)=true;rw[f5];refine⟨by simp,lE.2 ?_⟩;rintro⟨a,b⟩ ab;have O:∀(l:Lv_) a b,(a,b)∈l.zip l->a=b/\a∈l:=by
    intro l
    induction l with
    | nil=>intro a b h;simp at h
    | cons c l U=>
     intro a b h;simp only[List.zip_cons_cons,li,nK] at h;rcases h with⟨rfl,rfl⟩ | h;exact⟨V,by simp⟩;exact⟨(U a b h).1,lc _ (U a b h).2⟩
   obtain⟨rfl,hm⟩:=O _ a b ab;exact h.same r1 a (by simpa using hm) 9998
 uniq:=by
  rintro E v w x ⟨ws,r1,rfl⟩ ⟨ws',r2,rfl⟩;rw[h.uniq r1 r2]
section
variable {y:Operand}
theorem QW{α:Type} [DecidableEq α] {pp:Rp α}{a b:α}(h:CE P t pp true dep)(hd:dep<=10000)(K:P.eqGuardType P.depth t=false)(r1:pp.r E ws a)(r2:pp.r E' ws' b)(O:ρ x=.agg ws.toArray)(U:ρ y=.agg ws'.toArray):Yl P ⟨d,.binOp .neq t x y u,ty,p,af,g⟩ ρ s (.bool (decide (a≠b))):=by
 refine EJ (sm:=do eqGuard .neq t x y (ρ x) (ρ y);binOp .neq t (ρ x) (ρ y)) V ?_
 rw[O,U];refine Av _ _ (Tv (.inr V) K ?_);have hb:binOp .neq t (.agg ws.toArray) (.agg ws'.toArray)=(do pure (.bool (!(← Op.equal t (.agg ws.toArray) (.agg ws'.toArray))))):=V
 rw[hb];exact Av (x:=Op.equal t _ _) _ (h.eq hd r1 r2 ⟨by simp,V⟩)
end
end
theorem SG{E H:LH}{B:List (Nat×Obj)}(i:Nat){bk:Nat}{o:Obj}(K:Nd E H B)(h:B[i]?=some (bk,o)):∃E',Le E E'/\E' bk=some o/\Nd E' H (B.eraseIdx i)/\BW (mk E H B) (mk E' H (B.eraseIdx i)):=by
 have ah:=ll h;have ai:E bk=none/\H bk=none:=by
  have:∀{B:List (Nat×Obj)},Nd E H B->(bk,o)∈B->E bk=none/\H bk=none:=by
   intro B K O
   induction B with
   | nil=>simp at O
   | cons q B Y=>
    rcases li.1 O with rfl | O;exact⟨K.1,K.2.1⟩;exact Y K.2.2.2 O
  exact this K ah
 let E':LH:=λx=>if x=bk then some o else E x
 have ab:E' bk=some o:=by simp[E']
 have hle:Le E E':=λx u U=>by
  have:x≠bk:=λe=>by subst e;rw[ai.1] at U;cases U
  simp[E',this,U]
 have aj:Nd E' H (B.eraseIdx i):=by
  have:∀{B:List (Nat×Obj)}{i:Nat},Nd E H B->B[i]?=some (bk,o)->Nd E' H (B.eraseIdx i)/\∀p∈B.eraseIdx i,p.1≠bk:=by
   intro B
   induction B with
   | nil=>intro i _ h;simp at h
   | cons q B Y=>
    obtain⟨c,v⟩:=q;intro i K h;have up:∀{B:List (Nat×Obj)},Nd E H B->(∀p∈B,p.1≠bk)->Nd E' H B:=by
     intro B K ae
     induction B with
     | nil=>trivial
     | cons q B ak=>exact⟨by simpa [E',ae q (by simp)] using K.1,K.2.1,K.2.2.1,ak K.2.2.2 λp O=>ae p (lc _ O)⟩
    cases i with
    | zero=>
     simp at h;obtain⟨rfl,rfl⟩:=h;exact⟨up K.2.2.2 K.2.2.1,K.2.2.1⟩
    | succ i=>
     simp at h;let⟨Z,aa⟩:=Y K.2.2.2 h;have ag:c≠bk:=λe=>K.2.2.1 (bk,o) (ll h) e.symm;refine⟨⟨by simpa [E',ag] using K.1,K.2.1,λp O=>K.2.2.1 p (mN O),Z⟩,λp O=>?_⟩;rcases li.1 O with rfl | O;exact ag;exact aa p O
  exact(this K h).1
 refine⟨E',hle,ab,aj,⟨λx u U=>hle x u U,λx u U=>(KJ K h U).2,λx u U=>?_,V⟩⟩;by_cases e:x=bk
 .subst e;right;have:u=o:=by have:E' x=some u:=U;rw[ab] at this;exact(d6 this).symm
  subst this;refine⟨H9 K h,?_⟩;cases al:(mk E' H (B.eraseIdx i)).H x with
  | none=>rfl
  | some y=>exact absurd rfl (KJ K h al).1
 .left;have Z:E' x=some u:=U;have aa:E' x=E x:=by simp[E',e]
  show E x=some u;rw[← aa];exact Z
variable{K:Nat}
theorem Ss{E H:LH}{B0:List (Nat×Obj)}{e:TypeId}{l c:Nat}{a:Option Addr}{blk:List (Nat×Obj)}{xs:Lv_}(ab:GS e K a l c blk xs)(U:Nd E H (B0++blk)):∃E',Le E E'/\Nv E' K (.slice a l c) l xs/\Nd E' H B0/\BW (mk E H (B0++blk)) (mk E' H B0):=by
 rcases ab with⟨rfl,rfl,rfl,rfl,rfl⟩ | ⟨bk,f,rfl,rfl,ae,Y,rfl⟩;simp only[lf] at U ⊢;exact⟨E,Le.refl _,.nil,U,.refl _⟩
 .have ag:(B0++ [(bk,Obj.cells f e (0,0))])[B0.length]?=some (bk,Obj.cells f e (0,0)):=by simp
  let⟨E',hle,ah,Z,aa⟩:=SG B0.length U ag;have ai:(B0++ [(bk,Obj.cells f e (0,0))]).eraseIdx B0.length=B0:=by rw[mM (la _)];simp
  rw[ai] at Z aa;refine⟨E',hle,⟨_,c,V,Y,?_,.inr ⟨bk,0,f,e,(0,0),V,ah,λj w O=>?_⟩⟩,Z,aa⟩;have:l*K<=c*K:=lz _ Y;simp[ae,m7 this];rw[l5] at O;split at O;simpa using O;cases O
variable{seg:Seg}
theorem Sy{α:Type}{pp:Rp α}{E H:LH}{S:List Seg}{e:TypeId}{a:Option Addr}{c:Nat}{xs:List α}(j:Nat)(U:OL e pp E a c seg xs)(ah:An E H S)(ai:S[j]?=some seg):∃E',Le E E'/\Ak pp E' a c xs/\An E' H (S.set j [])/\BW (Ah E H S) (Ah E' H (S.set j [])):=by
 obtain⟨wss,U,aa,ab⟩:=U;have aj:∀ad:Addr,a=some ad->ad.spot=none:=λad K=>by
  rcases U with⟨O,_⟩ | ⟨bk,f,O,_⟩;rw[O] at K;cases K;rw[O] at K;cases K;rfl
 let⟨O,ak⟩:=FU ah ai;let⟨E',hle,al,am,ae⟩:=Ss U ak;rw[← O] at ae;refine⟨E',hle,?_,am,ae⟩;obtain⟨an,ao,Y,ap,aw,Z⟩:=al;obtain⟨rfl,-,rfl⟩:a=an/\xs.length=xs.length/\c=ao:=by
  simp only[Value.slice.injEq] at Y;exact⟨Y.1,V,Y.2.2⟩
 refine⟨ap,?_⟩;rcases Z with Z | ⟨bk,off,f,aq,fr,ar,g2,au⟩;exact .inl ⟨lD Z,λad K=>.inl (aj ad K)⟩
 .refine .inr ⟨bk,off,ar,λi x ag=>?_⟩;have av:i<wss.length:=by rw[aa];exact(d0.1 ag).1
  have hw:=d3 av;refine⟨wss[i],pp.Ad hle (ab i x _ ag hw),f,aq,fr,g2,λm w hm=>?_⟩;rw[mc];exact au _ w (I5 (Ic aa ab) hw m w hm)
variable{s₀:St}
theorem BW.get{s:St}(h:BW s s₀){b:Nat}{o:Obj}(K:s₀.get b=some o):s.get b=some o:=by
 unfold St.get at K ⊢;cases O:s₀.E b with
 | some o'=>
  rw[O] at K;simp only at K;cases K;rcases h.DG _ _ O with U | ⟨U,_⟩;rw[U]
  .cases he:s.E b with
   | none=>exact U
   | some Y=>
    have:=h.ext _ _ he;rw[O] at this;cases this;rfl
 | none=>
  rw[O] at K;simp only at K;cases he:s.E b with
  | none=>exact h.own _ _ K
  | some Y=>
   have:=h.ext _ _ he;rw[O] at this;cases this
theorem BW.upd{s:St}(h:BW s s₀){b:Nat}(o:Obj)(hb:(∃u,s₀.H b=some u)∨s₀.E b=none):BW (s.upd b o) (s₀.upd b o):=by
 refine⟨h.ext,λx u K=>?_,λx u K=>?_,h.q⟩;simp only[St.upd] at K ⊢;by_cases e:x=b;rw[d5 e] at K ⊢;exact K;rw[d7 e] at K ⊢;exact h.own _ _ K
 .have O:s₀.E x=some u:=K;rcases h.DG _ _ O with U | ⟨U,Y⟩;exact .inl U
  .refine .inr ?_;have e:x≠b:=λe=>by
    subst e;rcases hb with⟨w,hw⟩ | hb;rw[hw] at Y;cases Y;rw[hb] at O;cases O
   simp only[St.upd,d7 e];exact⟨U,Y⟩
theorem BW.none{s:St}(h:BW s s₀){b:Nat}(U:s.E b=none)(O:s.H b=none):s₀.E b=none/\s₀.H b=none:=by
 constructor
 .cases he:s₀.E b with
  | none=>rfl
  | some o=>
   rcases h.DG _ _ he with K | ⟨K,_⟩;rw[U] at K;cases K;rw[O] at K;cases K
 .cases he:s₀.H b with
  | none=>rfl
  | some o=>have:=h.own _ _ he;rw[O] at this;cases this
theorem Ve{P:Program}{α:Type}(x:Sem α):∀{s s₀:St}{Q:α->St->Prop}{X:Halt->St->Prop},BW s s₀->lp P x s₀ Q X->lp P x s (λa s'=>∃Z,BW s' Z/\Q a Z) (λh s'=>∃Z,BW s' Z/\X h Z):=by
 induction x with
 | pure a=>intro s s₀ Q X g h;exact⟨s₀,g,h⟩
 | load m a k K=>
  intro s s₀ Q X g h;obtain⟨O,v,U,Y⟩:=h;let⟨o,ae,ag⟩:=lH.1 U;exact⟨O,v,by unfold St.cell?;rw[g.get ae];exact ag,K v g Y⟩
 | store m a v k K=>
  intro s s₀ Q X g h;obtain⟨O,U,o,Y,ah,ai,aj⟩:=h;exact⟨O,U,o,g.own _ _ Y,ah,ai,K (g.upd _ (.inl ⟨o,Y⟩)) aj⟩
 | new o k K=>
  intro s s₀ Q X g h;refine⟨by rw[← g.q];exact h.1,λr O U=>?_⟩;let⟨ab,e2⟩:=g.none O U;exact K r (g.upd _ (.inr ab)) (h.2 r ab e2)
 | shape r k K=>intro s s₀ Q X g h;obtain⟨o,O,U⟩:=h;exact⟨o,g.get O,K _ g U⟩
 | freeze a n k K=>intro s s₀ Q X g h;exact h.elim
 | frozen a k K=>intro s s₀ Q X g h;obtain⟨o,O,U⟩:=h;exact⟨o,g.get O,K _ g U⟩
 | getObj r k K=>intro s s₀ Q X g h;obtain⟨o,O,U,Y⟩:=h;exact⟨o,g.get O,U,K _ g Y⟩
 | setObj r o k K=>
  intro s s₀ Q X g h;obtain⟨⟨o',O,ak⟩,U,Y⟩:=h;exact⟨⟨o',g.own _ _ O,ak⟩,U,K (g.upd _ (.inl ⟨o',O⟩)) Y⟩
 | choose q k K=>
  intro s s₀ Q X g h;simp only[lp] at h ⊢;split;rename_i aa;rw[d5 aa] at h;exact K _ g h;rename_i aa;rw[d7 aa] at h;exact⟨by rw[← g.q];exact h.1,λt=>K _ g (h.2 t)⟩
 | sys c k K=>intro s s₀ Q X g h;exact h.elim
 | program k K=>intro s s₀ Q X g h;exact K _ g h
 | mark m k K=>
  intro s s₀ Q X g h;refine⟨?_,K g h.2⟩;rcases h.1 with⟨O,U⟩ | O;exact .inl ⟨by rw[← g.q];exact O,U⟩;exact .inr O
 | halt h=>intro s s₀ Q X g al;exact⟨s₀,g,al⟩
variable {J:Judge P}{Q:Gs_}{b:Frame}{n:Nat}{ds:Ld_}{ops:Ao_}{k:Li_}{cs:Lf_}{D:Nat->Bool}{L:Env}{H:LH}{S:List Seg}
variable {v:Value}{kd:IntKind}
variable{f:FuncId}{args:Array Operand}{ats:Array TypeId}{vs:Lv_}{R:Value->LH->Seg->Prop}{S':List Seg}
section
variable {m fuel:Nat}{listed:Array Bool}
variable {y:Operand}{e:TypeId}{i:Nat}
theorem N8(j:Nat)(an:∀x,D x=true->∃(O:Nat) (o:Obj),(S.set j [])[O]?=some [(x,o)])(ao:AO J f vs E seg R)(ap:Region.ready .any ops listed=[i])
  (aq:ops[i]?=some ⟨d,.call ⟨.value (.func f),args,ats⟩,ty,p,af,g⟩) (ar:A6 n d=true) (hw:AQ L ops ⟨d,.call ⟨.value (.func f),args,ats⟩,ty,p,af,g⟩=some true) (hb:Cz P f=true) (au:evs L args.toList=some vs) (Z:An E H S) (aa:S[j]?=some seg)
  (av:∀v E' seg',Le E E'->R v E' seg'->An E' H (S.set j seg')->AI J Q b n ds ops k cs m D fuel (AV listed i) (Az L d v) (Ah E' H (S.set j seg'))):
  AI J Q b n ds ops k cs m D (fuel+1) listed L (Ah E H S):=by
 have ae:S.flatten.Perm (seg++(S.set j []).flatten):=(Cl (seg':=seg) aa).1.trans f6;have ag:Nd E H (seg++(S.set j []).flatten):=Nd.perm Z ae;have aw:Ah E H S=mk E (AM (S.set j []).flatten H) seg:=by
  rw[show Ah E H S=mk E H S.flatten from rfl,C3 Z ae];unfold mk;rw[DC]
 have ah:=DK.Km (ao (AM (S.set j []).flatten H) (Nd.front ag)) (by rintro v s' ⟨E',B',_,_,_,rfl⟩;rfl);rw[← aw] at ah;refine AI.call V ap aq ar hw hb au ah ?_;rintro v aG ⟨⟨E',B',hle,ay,az,rfl⟩,w,aA⟩;have e2:mk E' (AM (S.set j []).flatten H) B'=mk E' H (B'++(S.set j []).flatten):=by unfold mk;rw[DC]
 have aB:Nd E H (S.set j []).flatten:=by
  have:=ag;rw[Nd.iff] at this ⊢;rw[lL,lG] at this;exact⟨this.1.2.1,λq aC=>this.2 q (lI _ aC)⟩
 have aD:Nd E' H (S.set j []).flatten:=aB.grow λx U=>by
  have aE:=aA.d x U;have ab:AM B' (AM (S.set j []).flatten H) x=none:=aE;exact(FF ab).1
 have ai:Nd E' H (B'++(S.set j []).flatten):=Nd.glue az aD;have aj:(B'++(S.set j []).flatten).Perm (S.set j B').flatten:=f6.trans (Cl aa).2.symm;have ak:An E' H (S.set j B'):=Nd.perm ai aj;rw[e2,C3 ai aj];refine⟨V,λx o U=>?_,av v E' B' hle ay ak⟩;by_cases hd:D x=true
 .let⟨O,o',Y⟩:=an x hd;have al:j≠O:=λh=>by
   subst h;rw[np (d0.1 aa).1] at Y;cases Y
  have am:S[O]?=some [(x,o')]:=by rw[l7 al] at Y;exact Y
  have ab:(Ah E H S).get x=some o':=Ef (i:=0) Z am V;have aF:(Ah E' H (S.set j B')).get x=some o':=Ef (i:=0) ak (by rw[l7 al];exact am) rfl;have K:(if D x then(Ah E H S).get x else E x)=some o:=U
  show(if D x then(Ah E' H (S.set j B')).get x else E' x)=some o
  rw[d5 hd] at K ⊢;rw[aF,← ab];exact K
 .have K:(if D x then(Ah E H S).get x else E x)=some o:=U
  show(if D x then(Ah E' H (S.set j B')).get x else E' x)=some o
  rw[d7 hd] at K ⊢;exact hle _ _ K
theorem AI.perm(K:S.flatten.Perm S'.flatten)(O:An E H S)(h:An E H S'->AI J Q b n ds ops k cs m D fuel listed L (Ah E H S')):AI J Q b n ds ops k cs m D fuel listed L (Ah E H S):=by
 have e:Ah E H S=Ah E H S':=C3 O K;rw[e];exact h (Nd.perm O K)
theorem Vg{A B:Seg}(j:Nat)(K:S[j]?=some (A++B))(O:An E H S)(h:An E H (S.set j A++ [B])->AI J Q b n ds ops k cs m D fuel listed L (Ah E H (S.set j A++ [B]))):AI J Q b n ds ops k cs m D fuel listed L (Ah E H S):=by
 refine AI.perm ?_ O h;have U:=(Cl (seg':=A) K).1;have Y:=(Cl (seg':=A) K).2;rw[Gi];refine U.trans ?_;have Z:=Y.symm.append_right B
 rwa[ls] at Z
theorem JA.ghost:∀(fuel:Nat) {listed:Array Bool}{T:Av_}{s s₀:St},BW s s₀->JA J Q b ds ops k cs m Cn fuel listed T s₀->JA J Q b ds ops k cs m Cn fuel listed T s
 | 0,listed,T,s,s₀,g,h=>⟨h.1,J.ghost g h.2⟩
 | fuel+1,listed,T,s,s₀,g,h=>by
  rcases h with⟨O,U⟩ | ⟨O,U,aa⟩;exact .inl ⟨O,λt=>J.ghost g (U t)⟩
  .refine .inr ⟨O,by rw[← g.q];exact U,λi hi o ab=>?_⟩;let⟨a1,ae,ag⟩:=aa i hi o ab;refine⟨a1,λe=>JA.ghost fuel g (ae e),λe=>?_⟩;have ah:=Ve _ (s:=A2 Cn s) (s₀:=A2 Cn s₀) g (ag e);refine CH _ ah ?_ (λ_ s' ⟨_,_,h⟩=>h);intro ai s' K;obtain⟨Y,Z,K⟩:=K;cases ai with
   | value v=>exact JA.ghost fuel (s:=s') (s₀:=Y) Z K
   | skip=>exact JA.ghost fuel (s:=s') (s₀:=Y) Z K
   | enter f args=>
    obtain⟨R,aj,ak⟩:=K;refine⟨R,λQ c cs al=>J.ghost (s:=s') (s₀:=Y) Z (aj Q c cs al),λv am an=>?_⟩;let⟨ao,ap,aq⟩:=ak v am an;exact⟨ao,λx o K=>ap x o (g.ext x o K),aq⟩
   | _=>exact K.elim
theorem Ep{α:Type}{pp:Rp α}{a:Option Addr}{c:Nat}{xs:List α}(j:Nat)(K:OL e pp E a c seg xs)(O:An E H S)(U:S[j]?=some seg)
  (h:∀E',Le E E'->Ak pp E' a c xs->An E' H (S.set j [])->AI J Q b n ds ops k cs m Cn fuel listed L (Ah E' H (S.set j []))):AI J Q b n ds ops k cs m Cn fuel listed L (Ah E H S):=λT Y=>by
 let⟨E',Z,aa,ab,ae⟩:=Sy j K O U
 exact JA.ghost _ ae (h E' Z aa ab T Y)
end
def Sf:BinOp->Int->Int->Option Bool
 | .lss,m,m'=>some (decide (m<m'))
 | .leq,m,m'=>some (decide (m<=m'))
 | .gtr,m,m'=>some (decide (m'<m))
 | .geq,m,m'=>some (decide (m'<=m))
 | .eql,m,m'=>some (decide (m=m'))
 | .neq,m,m'=>some (decide (m≠m'))
 | _,_,_=>none
def Js(L:Env):Op->Option Value
 | .move x=>ev L x
 | .assign x=>ev L x
 | .pick z x y=>match ev L z with
  | some (.bool true)=>ev L x
  | some (.bool false)=>ev L y
  | _=>none
 | .extract x i=>match ev L x with
  | some (.tuple vs)=>vs[i]?
  | _=>none
 | .nilCheck x=>match ev L x with
  | some (.pointer (some a))=>some (.pointer (some a))
  | _=>none
 | .binOp op _ x y _=>match ev L x with
  | some (.int kd m)=>match ev L y with
   | some (.int kd' m')=>if kd=kd' then(match Sf op m m' with | some t=>some (.bool t) | none=>none) else none
   | _=>none
  | _=>none
 | _=>none
variable{m':Int}
theorem WA{P:Program}{s:St}{ρ:Operand->Value}{d:Option Tmp}{x y:Operand}{t u ty:TypeId}{p:String}{af:Ae_}{g:On_}{kd:IntKind}{m:Int}(K:ρ x=.int kd m)(O:ρ y=.int kd m'):Yl P ⟨d,.binOp .neq t x y u,ty,p,af,g⟩ ρ s (.bool (decide (m≠m'))):=by
 have h:=Yl.neq (P:=P) (s:=s) (d:=d) (t:=t) (u:=u) (ty:=ty) (p:=p) (af:=af) (g:=g) K O;simpa using h
theorem MI{P:Program}{L:Env}{ρ:Operand->Value}{s:St}{o:Oper}{v:Value}(K:Ed L ρ)(h:Js L o.op=some v):Yl P o ρ s v:=by
 obtain⟨d,op,ty,p,af,g⟩:=o;simp only at h;unfold Js at h;split at h;exact Yl.move (K _ _ h);exact Yl.assign (K _ _ h);split at h;rename_i e;exact FG (K _ _ e) (K _ _ h);rename_i e;exact Er (K _ _ e) (K _ _ h);cases h;split at h;rename_i e;exact Yl.extract (K _ _ e) h;cases h;split at h;rename_i e;cases h;exact Yl.nilCheck (K _ _ e);cases h;split at h;rename_i O;split at h;rename_i U;split at h;rename_i e;subst e;split at h;rename_i e;cases h;unfold Sf at e;split at e;cases e;exact Yl.lss (K _ _ O) (K _ _ U);cases e;exact Yl.leq (K _ _ O) (K _ _ U);cases e;exact Yl.gtr (K _ _ O) (K _ _ U);cases e;exact Yl.geq (K _ _ O) (K _ _ U);cases e;exact Yl.eql (K _ _ O) (K _ _ U);cases e;exact WA (K _ _ O) (K _ _ U);cases e;cases h;cases h;cases h;cases h;cases h
def Im:List Oper->Nat->Option Oper
 | [],_=>none
 | o::_,0=>some o
 | _::os,i+1=>Im os i
theorem J6:∀(os:List Oper) (i:Nat),Im os i=os[i]?
 | [],i=>by simp[Im]
 | _::_,0=>rfl
 | _::os,i+1=>by simp[Im,J6 os i]
def O6(b:Frame)(n:Nat)(L:Env):Li_->Option (Li_×Env)
 | .code (.seq x y)::k=>some (.code x:: .code y::k,L)
 | .code (.block i c)::k=>some (.code c:: .inBlock i::k,L)
 | .code (.scope c)::k=>some (.code c:: .inScope c::k,L)
 | .code .skip::k=>some (k,L)
 | .code (.exit i)::k=>match exitTo i k with
  | some k'=>some (k',L)
  | none=>none
 | .code (.cond c x y)::k=>match ev L c with
  | some (.bool true)=>some (.code x::k,L)
  | some (.bool false)=>some (.code y::k,L)
  | _=>none
 | .code (.region _ ops false)::k=>some (.inRegion ops (List.range ops.size)::k,L)
 | .inBlock _::k=>some (k,L)
 | .inScope _::k=>some (k,L)
 | .inRegion _ []::k=>some (k,L)
 | .inRegion ops (i::rest)::k=>match Im ops.toList i with
  | some ⟨d,op,ty,p,af,g⟩=>match AQ L ops ⟨d,op,ty,p,af,g⟩ with
   | some true=>match BH b n ⟨d,op,ty,p,af,g⟩ with
    | true=>match Js L op with
     | some v=>match d with
      | some d=>some (.inRegion ops rest::k,(d,v)::L)
      | none=>some (.inRegion ops rest::k,L)
     | none=>none
    | false=>none
   | some false=>match A6 n d with
    | true=>match d with
     | some d=>some (.inRegion ops rest::k,(d,undef)::L)
     | none=>some (.inRegion ops rest::k,L)
    | false=>none
   | none=>none
  | none=>none
 | _=>none
def M4(b:Frame)(n:Nat):Nat->Li_->Env->Option (Li_×Env)
 | 0,k,L=>some (k,L)
 | m+1,k,L=>match O6 b n L k with
  | some (k',L')=>M4 b n m k' L'
  | none=>none
variable {L':Env}{k':Li_}
theorem X4(h:O6 b n L k=some (k',L'))(K:JL J Q b n L' ds k' cs s):JL J Q b n L ds k cs s:=by
 unfold O6 at h;split at h;cases h;exact JL.seq K;cases h;exact JL.block K;cases h;exact JL.scope K;cases h;exact JL.skip K;split at h;rename_i e;cases h;exact JL.exit e K;cases h;split at h;rename_i e;cases h;exact EP e K;rename_i e;cases h;exact Cx e K;cases h;cases h;exact JL.region K;cases h;exact NT K;cases h;exact SS K;cases h;exact JL.done K
 .split at h
  .rename_i d op ty p af g O;rw[J6,lN] at O;split at h
   .rename_i hw;split at h
    .rename_i U;split at h
     .rename_i v Z;cases d with
      | none=>cases h;exact Aj O hw U (λρ Y=>MI Y Z) K
      | some d=>cases h;exact Aj O hw U (λρ Y=>MI Y Z) K
     .cases h
    .cases h
   .rename_i hw;split at h
    .rename_i U;cases d with
     | none=>cases h;exact Bw O hw U K
     | some d=>cases h;exact Bw O hw U K
    .cases h
   .cases h
  .cases h
 .cases h
theorem JL.go(m:Nat)(h:M4 b n m k L=some (k',L'))(K:JL J Q b n L' ds k' cs s):JL J Q b n L ds k cs s:=by
 induction m generalizing k L with
 | zero=>cases h;exact K
 | succ m O=>
  unfold M4 at h;split at h;rename_i e;exact X4 e (O h);cases h
abbrev Ax(a o:Nat):Value:=.pointer (some ⟨a,o,none⟩)
abbrev sV{α:Type}(a:Option Addr)(l:List α)(c:Nat):Value:=.slice a l.length c
abbrev fV(n:Nat):Value:=.func (.func n) #[] #[]
abbrev nS:Value:=.slice none 0 0
abbrev B2(r:Nat):Option Addr:=some ⟨r,0,none⟩
theorem oi{α:Type}{a b:α}(h:some a=some b):a=b:=d6 h
theorem bs{α:Type}{o:Option α}{f:α->Option β}{r:β}(h:o.bind f=some r):∃x,o=some x/\f x=some r:=bind_some h
def Hc(L:Env):Env->List (Option Value)
 | []=>[]
 | (t,_)::L'=>look L t::Hc L L'
def Hh:Env->List (Option Value)
 | []=>[]
 | (_,v)::L'=>some v::Hh L'
theorem MT{L:Env}:∀{L':Env},Hc L L'=Hh L'->Sub L' L
 | [],_=>trivial
 | (t,v)::L',h=>by
  simp only[Hc,Hh,n6] at h
  exact⟨h.1,MT h.2⟩
variable {rest:List Nat}
variable {op:Op}
variable{fn:Func}
section
variable {i:Nat}
theorem HP(L':Env)(h:Hc L L'=Hh L')(k':JL J Q b n L' ds k cs s):JL J Q b n L ds k cs s:=Jb (MT h) k'
theorem AP(k':JL J Q b n L' ds k cs s)(h:Hc L L'=Hh L'):JL J Q b n L ds k cs s:=Jb (MT h) k'
def Ey(b:Frame)(n:Nat)(L:Env)(ops:Ao_)(i:Nat):Option Oper:=
 match Im ops.toList i with
 | some ⟨d,op,ty,p,af,g⟩=>match AQ L ops ⟨d,op,ty,p,af,g⟩ with
  | some true=>match BH b n ⟨d,op,ty,p,af,g⟩ with
   | true=>some ⟨d,op,ty,p,af,g⟩
   | false=>none
  | _=>none
 | none=>none
theorem I8{o:Oper}(h:Ey b n L ops i=some o):ops[i]?=some o/\AQ L ops o=some true/\BH b n o=true:=by
 unfold Ey at h;split at h;rename_i K;rw[J6,lN] at K;split at h;rename_i hw;split at h;rename_i O;cases h;exact⟨K,hw,O⟩;cases h;cases h;cases h
theorem As(K:Ey b n L ops i=some ⟨d,op,ty,p,af,g⟩)(h:∀ρ,Ed L ρ->Yl P ⟨d,op,ty,p,af,g⟩ ρ s v)(O:JL J Q b n (Az L d v) ds (.inRegion ops rest::k) cs s):
  JL J Q b n L ds (.inRegion ops (i::rest)::k) cs s:=
 let ⟨U,Y,Z⟩:=I8 K
 Aj U Y Z h O
theorem M7{c:Code}{E:LH}{B:Seg}(O:P.funcs[f]?=some fn)(hb:fn.body=some c)(U:Nat.ble vs.length fn.ntmps=true)
  (h:∀(Q:Gs_) (K:Frame) (cs:Lf_) (H:LH),An E H [B]->(∀v E' S' B',Le E E'->S'.flatten=B'->R v E' B'->An E' H S'->J.ok Q (G (K.finish v) cs) (Ah E' H S'))->JL J Q (base f) fn.ntmps (EL 0 vs) [] [.code c] (K::cs) (Ah E H [B])):AO J f vs E B R:=
 AO.enter O hb (f7 U) h
def Nw(n:Nat)(L:Env)(ops:Ao_)(i:Nat):Option Env:=
 match Im ops.toList i with
 | some ⟨d,op,ty,p,af,g⟩=>match AQ L ops ⟨d,op,ty,p,af,g⟩ with
  | some true=>match A6 n d with
   | true=>match Js L op with
    | some v=>match d with
     | some d=>some ((d,v)::L)
     | none=>some L
    | none=>none
   | false=>none
  | some false=>match A6 n d with
   | true=>match d with
    | some d=>some ((d,undef)::L)
    | none=>some L
   | false=>none
  | none=>none
 | none=>none
def F5(n:Nat)(L:Env)(ops:Ao_)(i:Nat):Option Oper:=
 match Im ops.toList i with
 | some ⟨d,op,ty,p,af,g⟩=>match AQ L ops ⟨d,op,ty,p,af,g⟩ with
  | some true=>match A6 n d with
   | true=>some ⟨d,op,ty,p,af,g⟩
   | false=>none
  | _=>none
 | none=>none
theorem N6{o:Oper}(h:F5 n L ops i=some o):ops[i]?=some o/\AQ L ops o=some true/\A6 n o.dst=true:=by
 unfold F5 at h;split at h;rename_i K;rw[J6,lN] at K;split at h;rename_i hw;split at h;rename_i O;cases h;exact⟨K,hw,O⟩;cases h;cases h;cases h
theorem Uv(h:Nw n L ops i=some L'):∃o,ops[i]?=some o/\A6 n o.dst=true/\((∃v,AQ L ops o=some true/\Js L o.op=some v/\L'=Az L o.dst v)∨(AQ L ops o=some false/\L'=Az L o.dst undef)):=by
 unfold Nw at h;split at h
 .rename_i d op ty p af g O;rw[J6,lN] at O;refine⟨_,O,?_⟩;split at h
  .rename_i hw;split at h
   .rename_i K;refine⟨K,.inl ?_⟩;split at h
    .rename_i v U;refine⟨v,hw,U,?_⟩;cases d with
     | none=>cases h;rfl
     | some d=>cases h;rfl
    .cases h
   .cases h
  .rename_i hw;split at h
   .rename_i K;refine⟨K,.inr ⟨hw,?_⟩⟩;cases d with
    | none=>cases h;rfl
    | some d=>cases h;rfl
   .cases h
  .cases h
 .cases h
variable {m fuel:Nat}{listed:Array Bool}
theorem Ct(i:Nat)(K:CW ops m=true)(O:s.q=false)(h:Nw n L ops i=some L')
  (U:AI J Q b n ds ops k cs m D fuel (AV listed i) L' s) (Y:Fp ops listed m i=true:=by decide+kernel):AI J Q b n ds ops k cs m D (fuel+1) listed L s:=by
 obtain⟨o,Z,aa,⟨v,hw,ab,rfl⟩ | ⟨hw,rfl⟩⟩:=Uv h;exact JG.val i Z K Y O hw aa (λρ ae s' _=>MI ae ab) U;exact Yq i Z K Y O hw aa U
theorem AZ(i:Nat)(K:CW ops m=true)(O:s.q=false)(U:F5 n L ops i=some ⟨d,op,ty,p,af,g⟩)
  (Y:∀ρ,Ed L ρ->∀s':St,(∀x o,(A2 D s).E x=some o->s'.E x=some o)->Yl P ⟨d,op,ty,p,af,g⟩ ρ s' v)
  (Z:AI J Q b n ds ops k cs m D fuel (AV listed i) (Az L d v) s) (aa:Fp ops listed m i=true:=by decide+kernel):AI J Q b n ds ops k cs m D (fuel+1) listed L s:=by
 let⟨ab,ae,ag⟩:=N6 U;exact JG.val i ab K aa O ae ag Y Z
end
abbrev Jn(E H E':LH)(S:List Seg)(K L:Env)(s:St)(R:Prop):Prop:=L=K/\s=Ah E' H S/\Le E E'/\An E' H S/\R
abbrev Jm(E H E':LH)(S:List Seg)(K L:Env)(s:St):Prop:=L=K/\s=Ah E' H S/\Le E E'/\An E' H S
def Nk(L:Env):List ResultVar->Option (Lv_)
 | []=>some []
 | .tmp t::rs=>match look L t with
  | some v=>match Nk L rs with
   | some vs=>some (v::vs)
   | none=>none
  | none=>none
 | _=>none
theorem Q3{P:Program}{L:Env}{s:St}:∀{rs:List ResultVar}{vs:Lv_},Nk L rs=some vs->RV P L s rs vs
 | [],vs,h=>by cases h;trivial
 | .tmp t::rs,vs,h=>by
  unfold Nk at h
  split at h
  .rename_i v K
   split at h;rename_i ws hw;cases h;exact⟨K,Q3 hw⟩;cases h
  .cases h
 | .cell _ _::_,_,h=>by cases h
variable {ft:TypeId}
variable{O Y:Nat}{U:Array Field}
section
variable {i:Nat}
variable {y:Operand}{e:TypeId}
theorem AU{c:Frame}(O:P.funcs[b.fn]?=some fn)(K:(b.kind== .normal&&b.roundOf.isNone)=true)(U:Nk L fn.results.toList=some vs)(h:J.ok Q (G (c.finish (MK vs)) cs) s):JL J Q b n L [] (.code .ret::k) (c::cs) s:=by
 simp only[f5,mH,Option.isNone_iff_eq_none] at K;exact JL.ret K.1 K.2 (Bq.list O V (Q3 U)) h
theorem C7
  (O:AO J f vs E [] R) (U:Ey b n L ops i=some ⟨d,.call ⟨.value (.func f),args,ats⟩,ty,p,af,g⟩) (Y:evs L args.toList=some vs) (hb:Cz P f=true)
  (Z:An E H S) (aa:∀v E' seg',Le E E'->R v E' seg'->An E' H (S++ [seg'])->JL J Q b n (Az L d v) ds (.inRegion ops rest::k) cs (Ah E' H (S++ [seg']))):
  JL J Q b n L ds (.inRegion ops (i::rest)::k) cs (Ah E H S):=by
 let⟨ab,ae,K⟩:=I8 U;refine JS.call O ab ae ?_ hb Y Z aa;simp only[BH,f5] at K ⊢;exact⟨K.1,K.2.1⟩
theorem CX{v:Value}
  (O:AO J f vs E [] (λw E' B'=>w=v/\B'=[])) (U:Ey b n L ops i=some ⟨d,.call ⟨.value (.func f),args,ats⟩,ty,p,af,g⟩) (Y:evs L args.toList=some vs) (hb:Cz P f=true)
  (K:An E H S) (Z:∀E',Le E E'->An E' H (S++ [[]])->JL J Q b n (Az L d v) ds (.inRegion ops rest::k) cs (Ah E' H (S++ [[]]))):
  JL J Q b n L ds (.inRegion ops (i::rest)::k) cs (Ah E H S):=C7 O U Y hb K (by rintro _ E' _ hle ⟨rfl,rfl⟩ K;exact Z E' hle K)
theorem C6(j:Nat)
  (O:AO J f vs E seg R) (U:Ey b n L ops i=some ⟨d,.call ⟨.value (.func f),args,ats⟩,ty,p,af,g⟩) (Y:evs L args.toList=some vs) (hb:Cz P f=true)
  (Z:An E H S) (aa:S[j]?=some seg) (ab:∀v E' seg',Le E E'->R v E' seg'->An E' H (S.set j seg')->JL J Q b n (Az L d v) ds (.inRegion ops rest::k) cs (Ah E' H (S.set j seg'))):
  JL J Q b n L ds (.inRegion ops (i::rest)::k) cs (Ah E H S):=by
 let⟨ae,ag,K⟩:=I8 U;refine Qr j O ae ag ?_ hb Y Z aa ab;simp only[BH,f5] at K ⊢;exact⟨K.1,K.2.1⟩
def K3(K:Array Field)(i:Nat):Option (Nat×TypeId):=match K[i]? with
 | some f=>some (f.offset,f.type)
 | none=>none
theorem Bi{r m:Int}{u:TypeId}(h:AG (m+m')=some r)(K:Ey b n L ops i=some ⟨d,.binOp .add t x y u,ty,p,af,g⟩)(O:ev L x=some (iV m))(U:ev L y=some (iV m'))
  (Y:JL J Q b n (Az L d (iV r)) ds (.inRegion ops rest::k) cs s):JL J Q b n L ds (.inRegion ops (i::rest)::k) cs s:=As K (λ_ q=>Jc (q _ _ O) (q _ _ U) h) Y
theorem Ce{r m:Int}{u:TypeId}(h:AG (m - m')=some r)(K:Ey b n L ops i=some ⟨d,.binOp .sub t x y u,ty,p,af,g⟩)(O:ev L x=some (iV m))(U:ev L y=some (iV m'))
  (Y:JL J Q b n (Az L d (iV r)) ds (.inRegion ops rest::k) cs s):JL J Q b n L ds (.inRegion ops (i::rest)::k) cs s:=As K (λ_ q=>GK (q _ _ O) (q _ _ U) h) Y
theorem JL.ln{a:Option Addr}{e:TypeId}{l c:Nat}(K:P.underlying t=some (.slice e))(O:Ey b n L ops i=some ⟨d,.call ⟨.builtin .len,#[x],ats⟩,ty,p,af,g⟩)(U:ats[0]?=some t)(Y:ev L x=some (.slice a l c))
  (Z:JL J Q b n (Az L d (.int .i64 l)) ds (.inRegion ops rest::k) cs s):JL J Q b n L ds (.inRegion ops (i::rest)::k) cs s:=As O (λ_ q=>Yl.len U K (q _ _ Y)) Z
theorem Bg{bk o:Nat}(Z:P.underlying t=some (.struct U))(aa:A5 P ft=some (O+1))(ab:Ey b n L ops i=some ⟨d,.fieldAddr t x Y,ty,p,af,g⟩)(ae:ev L x=some (.pointer (some ⟨bk,o,none⟩)))(K:K3 U Y=some (off,ft))
  (ag:JL J Q b n (Az L d (.pointer (some ⟨bk,o+off,none⟩))) ds (.inRegion ops rest::k) cs s):
  JL J Q b n L ds (.inRegion ops (i::rest)::k) cs s:=by
 unfold K3 at K;split at K;rename_i f ah;cases K;refine As ab (λρ h=>Rm (a:=⟨bk,o,none⟩) O f.offset Z aa ah V V (h _ _ ae)) ?_;rw[CV rfl];exact ag;cases K
theorem Bu{bk o:Nat}{ws:Lv_}(j:Nat)(K:At E bk o ws)(O:C8 P t=some false)(U:Ey b n L ops i=some ⟨d,.load t x,ty,p,af,g⟩)(Y:ev L x=some (.pointer (some ⟨bk,o+j,none⟩)))(Z:ws[j]?=some v)
  (aa:JL J Q b n (Az L d v) ds (.inRegion ops rest::k) cs (Ah E H S)):
  JL J Q b n L ds (.inRegion ops (i::rest)::k) cs (Ah E H S):=
 As U (λ_ h=>Yl.load O (h _ _ Y) (At.O2 K Z)) aa
theorem YD{bk:Nat}{c:Av_}(j:Nat)(K:An E H S)(O:A5 P t=some v.cells.size)(U:Ey b n L ops i=some ⟨d,.store t x y,ty,p,af,g⟩)
  (Y:ev L x=some (.pointer (some ⟨bk,off,none⟩))) (Z:ev L y=some v) (aa:S[j]?=some [(bk,.cells c e (0,0))])
  (h:An E H (S.set j [(bk,.cells (Bx c off v.cells.toList) e (0,0))])->JL J Q b n (Az L d undef) ds (.inRegion ops rest::k) cs (Ah E H (S.set j [(bk,.cells (Bx c off v.cells.toList) e (0,0))])))
  (hle:off+v.cells.size<=c.size:=by exact f7 rfl) (ab:∀u∈v.cells.toList,BX u=true:=by simp[Value.cells,BX]):
  JL J Q b n L ds (.inRegion ops (i::rest)::k) cs (Ah E H S):=by
 let⟨ae,ag,ah⟩:=I8 U;exact JS.store j ae ag ah K Y Z O ab aa hle h
theorem Cu{bk o:Nat}{ws:Lv_}(K:At E bk o ws)(O:C8 P t=some true)(U:A5 P t=some ws.length)(Y:Ey b n L ops i=some ⟨d,.load t x,ty,p,af,g⟩)(Z:ev L x=some (.pointer (some ⟨bk,o,none⟩)))
  (aa:JL J Q b n (Az L d (.agg ws.toArray)) ds (.inRegion ops rest::k) cs (Ah E H S)):
  JL J Q b n L ds (.inRegion ops (i::rest)::k) cs (Ah E H S):=
 As Y (λ_ h=>HC O U (h _ _ Z) (At.MW K)) aa
variable {m fuel:Nat}{listed:Array Bool}
theorem BT{bk o:Nat}(i:Nat)(Z:CW ops m=true)(aa:P.underlying t=some (.struct U))(ab:A5 P ft=some (O+1))(ae:s.q=false)(ag:F5 n L ops i=some ⟨d,.fieldAddr t x Y,ty,p,af,g⟩)(ah:ev L x=some (.pointer (some ⟨bk,o,none⟩)))(K:K3 U Y=some (off,ft))
  (ai:AI J Q b n ds ops k cs m D fuel (AV listed i) (Az L d (.pointer (some ⟨bk,o+off,none⟩))) s) (aj:Fp ops listed m i=true:=by decide+kernel):AI J Q b n ds ops k cs m D (fuel+1) listed L s:=by
 unfold K3 at K;split at K;rename_i f ak;cases K;refine AZ i Z ae ag (λρ h _ _=>Rm (a:=⟨bk,o,none⟩) O f.offset aa ab ak V V (h _ _ ah)) ?_ aj;rw[CV rfl];exact ai;cases K
theorem BM{bk o:Nat}{ws:Lv_}(i:Nat)(K:CW ops m=true)(j:Nat)(O:At (A2 D s).E bk o ws)(U:C8 P t=some false)(Y:s.q=false)(Z:F5 n L ops i=some ⟨d,.load t x,ty,p,af,g⟩)(aa:ev L x=some (.pointer (some ⟨bk,o+j,none⟩)))(ab:ws[j]?=some v)
  (ae:AI J Q b n ds ops k cs m D fuel (AV listed i) (Az L d v) s) (ag:Fp ops listed m i=true:=by decide+kernel):AI J Q b n ds ops k cs m D (fuel+1) listed L s:=
 AZ i K Y Z (λ_ h _ ah=>Yl.load U (h _ _ aa) (At.O3 O ah ab)) ae ag
theorem FZ{bk o:Nat}{ws:Lv_}(i:Nat)(K:CW ops m=true)(O:At (A2 D s).E bk o ws)(U:C8 P t=some true)(Y:A5 P t=some ws.length)(Z:s.q=false)(aa:F5 n L ops i=some ⟨d,.load t x,ty,p,af,g⟩)(ab:ev L x=some (.pointer (some ⟨bk,o,none⟩)))
  (ae:AI J Q b n ds ops k cs m D fuel (AV listed i) (Az L d (.agg ws.toArray)) s) (ag:Fp ops listed m i=true:=by decide+kernel):AI J Q b n ds ops k cs m D (fuel+1) listed L s:=
 AZ i K Z aa (λ_ h _ ah=>HC U Y (h _ _ ab) (At.Jf O ah)) ae ag
end
abbrev BK:=List (Int×Int)
abbrev Cc:=List Int×Int×Nat
abbrev Ao:=Option Addr
abbrev Cp:Rp (Int×Int):=rP rI rI
theorem ip{α:Type}{p:Prop} [Decidable p] {A B:Option α}{r:α}(h:(if p then A else B)=some r)(c:p):A=some r:=by rwa[d5 c] at h
theorem im{α:Type}{p:Prop} [Decidable p] {A B:Option α}{r:α}(h:(if p then A else B)=some r)(c:¬p):B=some r:=by rwa[d7 c] at h
theorem ib{α:Type}{c:Bool}{A B:Option α}{r:α}(h:(if c=true then A else B)=some r)(K:c=false):B=some r:=by subst K;simpa using h
def Pf(n:Nat)(ops:Ao_):List Nat->Nat->Env->Option (Nat×Env)
 | [],f,L=>some (f,L)
 | i::l,f+1,L=>match Nw n L ops i with
  | some L'=>Pf n ops l f L'
  | none=>none
 | _::_,0,_=>none
def O0(ops:Ao_)(m:Nat):Array Bool->List Nat->Bool
 | _,[]=>true
 | listed,i::l=>Fp ops listed m i&&O0 ops m (AV listed i) l
def RH:Array Bool->List Nat->Array Bool
 | listed,[]=>listed
 | listed,i::l=>RH (AV listed i) l
theorem Bv{P:Program}{J:Judge P}{Q:Gs_}{b:Frame}{n:Nat}{ds:Ld_}{k:Li_}{cs:Lf_}{s:St}{ops:Ao_}{m:Nat}{D:Nat->Bool}{L':Env}{c2:Nat}(Y:CW ops m=true)(Z:s.q=false):
  ∀(l:List Nat) {fuel:Nat}{listed:Array Bool}{L:Env},Pf n ops l fuel L=some (c2,L')->AI J Q b n ds ops k cs m D c2 (RH listed l) L' s->(K:O0 ops m listed l=true:=by decide+kernel)->AI J Q b n ds ops k cs m D fuel listed L s
 | [],fuel,listed,L,h,O,_=>by cases h;exact O
 | i::l,fuel,listed,L,h,O,K=>by
  cases fuel with
  | zero=>cases h
  | succ fuel=>
   unfold O0 at K;rw[f5] at K;unfold Pf at h;split at h;rename_i aa e;exact Ct i Y Z e (Bv Y Z l h O K.2) K.1;cases h
theorem zg{P:Program}{J:Judge P}{Q:Gs_}{b:Frame}{n:Nat}{L L':Env}{ds:Ld_}{k k':Li_}{cs:Lf_}{s:St}(m:Nat)(h:M4 b n m k L=some (k',L'))(K:JL J Q b n L' ds k' cs s):JL J Q b n L ds k cs s:=JL.go m h K
abbrev C:=@zg
abbrev bX(r:Nat)(c:Av_)(t:TypeId):Seg:=[(r,.cells c t (0,0))]
variable {α:Type}{A B:Option α}{r:α}
section
theorem AX{c:Operand}{x y:Code}{p:Prop} [Decidable p] (K:(if p then A else B)=some r)(O:p->A=some r->JL J Q b n L ds (.code x::k) cs s)(U:¬p->B=some r->JL J Q b n L ds (.code y::k) cs s)
  (Y:ev L c=some (.bool (decide p)):=by exact rfl):JL J Q b n L ds (.code (.cond c x y)::k) cs s:=M3 Y (λh=>O h (ip K h)) λh=>U h (im K h)
theorem CI{c:Operand}{x y:Code}{t:Bool}(K:(if t=true then A else B)=some r)(O:t=true->A=some r->JL J Q b n L ds (.code x::k) cs s)(U:t=false->B=some r->JL J Q b n L ds (.code y::k) cs s)
  (Y:ev L c=some (.bool t):=by exact rfl):JL J Q b n L ds (.code (.cond c x y)::k) cs s:=Qs Y (λh=>O h (ip K h)) λh=>U h (ib K h)
theorem DW{q:Prop} [Decidable q] (i:Nat)(K:(if q then A else B)=some r)(O:q->A=some r->JL J Q b n (Az L (some i) (.bool true)) ds k cs s)(U:¬q->B=some r->JL J Q b n (Az L (some i) (.bool false)) ds k cs s)
  (Y:look L i=some (.bool (decide q)):=by exact rfl):JL J Q b n L ds k cs s:=T8 Y (λh=>O h (ip K h)) λh=>U h (im K h)
theorem DD{t:Bool}(i:Nat)(K:(if t=true then A else B)=some r)(O:t=true->A=some r->JL J Q b n (Az L (some i) (.bool true)) ds k cs s)(U:t=false->B=some r->JL J Q b n (Az L (some i) (.bool false)) ds k cs s)
  (Y:look L i=some (.bool t):=by exact rfl):JL J Q b n L ds k cs s:=TC Y (λh=>O h (ip K h)) λh=>U h (ib K h)
theorem Es{O:Type}{c:Code}{body:β->Option (Bl β O)}{f:Nat}{U:β}{a:O}(Z:iter body f U=some a)(I:Env->St->β->Prop)(aa:I L' s U)
  (round:∀L s x,I L s x->(∀Y,body x=some (.done Y)->Y=a)->(∃st,body x=some st)->(∀L' s' x',I L' s' x'->body x=some (.more x')->JL J Q b n L' ds (.inLoop c::k) cs s')->JL J Q b n L ds (.code c:: .inLoop c::k) cs s)
  (ab:Hc L L'=Hh L':=by exact rfl):JL J Q b n L ds (.code (.loop c)::k) cs s:=HP L' ab (Qq Z I aa round)
variable {m fuel:Nat}{listed:Array Bool}
def Nb(ops:Ao_):Array Bool->List Nat->Bool
 | _,[]=>true
 | l,i::t=>Region.ready .any ops l== [i]&&Nb ops (AV l i) t
theorem Ra:∀{t:List Nat}{l:Array Bool},Nb ops l t=true->∀u,Region.linearise.go .any ops t.length u l []=t
 | [],_,_,_=>rfl
 | i::t,l,h,u=>by
  unfold Nb at h
  rw[f5,mH] at h
  exact Xa h.1 (Ra h.2) u
theorem BY(t:List Nat)(O:JL J Q b n L ds (.inRegion ops t::k) cs s)(K:(OX m listed&&Nb ops listed t&&(fuel+1==t.length))=true:=by decide+kernel):AI J Q b n ds ops k cs m D (fuel+1) listed L s:=by
 rw[f5,f5,mH] at K;exact AI.leaf K.1.1 (by rw[K.2];exact Ra K.1.2) O
theorem Dk(m:Nat){id:Nat}(h:CW ops m=true->AI J Q b n ds ops k cs m Cn ops.size (Array.replicate ops.size false) L (Ah E H S))(hm:P.follows .mixedOrders=true:=by exact rfl)(K:(b.kind != .early)=true:=by exact rfl)(O:CW ops m=true:=by decide+kernel):
  JL J Q b n L ds (.code (.region id ops true)::k) cs (Ah E H S):=UF m hm K O h
theorem Gn(m:Nat)(bks:List Nat){id:Nat}(K:Hf S bks)(O:An E H S)(h:CW ops m=true->AI J Q b n ds ops k cs m (AL bks) ops.size (Array.replicate ops.size false) L (Ah E H S))(hm:P.follows .mixedOrders=true:=by exact rfl)(U:(b.kind != .early)=true:=by exact rfl)(Y:CW ops m=true:=by decide+kernel):
  JL J Q b n L ds (.code (.region id ops true)::k) cs (Ah E H S):=Um m bks K O hm U Y h
theorem FJ{α:Type}{pp:Rp α}{a:Option Addr}{c:Nat}{xs:List α}{xv:α}{d:Option Tmp}{x y:Operand}{t ty e:TypeId}{p:String}{af:Ae_}{g:On_}{kd:IntKind}(i:Nat)(K:Ak pp E a c xs)(O:ix xs m'=some xv)(U:CW ops m=true)(Y:P.underlying t=some (.slice e))(Z:A5 P e=some pp.n)
  (h:∀bk o ws,pp.r E ws xv->At E bk o ws->AI J Q b n ds ops k cs m D fuel (AV listed i) (Az L d (.pointer (some ⟨bk,o,none⟩))) s)
  (aa:ops[i]?=some ⟨d,.indexAddr t x y,ty,p,af,g⟩:=by exact rfl) (ab:Fp ops listed m i=true:=by decide+kernel) (ae:s.q=false:=by exact rfl)
  (hw:AQ L ops ⟨d,.indexAddr t x y,ty,p,af,g⟩=some true:=by exact rfl) (ag:A6 n d=true:=by exact rfl)
  (ah:ev L x=some (.slice a xs.length c):=by exact rfl) (ai:ev L y=some (.int kd m'):=by exact rfl):
  AI J Q b n ds ops k cs m D (fuel+1) listed L s:=WX i K O aa U ab ae hw ag ah ai Y Z h
end
theorem C4{P:Program}{J:Judge P}{Q:Gs_}{b:Frame}{n:Nat}{ds:Ld_}{ops:Ao_}{k:Li_}{cs:Lf_}{m fuel:Nat}{D:Nat->Bool}{listed:Array Bool}{L L':Env}{s:St}(k':AI J Q b n ds ops k cs m D fuel listed L' s)(h:Hc L L'=Hh L'):AI J Q b n ds ops k cs m D fuel listed L s:=G8 (MT h) k'
instance {α:Type} [DecidableEq α] (xs:List α):Decidable (xs=[]):=inferInstance
variable {w:Value}
section
variable {i:Nat}
variable {y:Operand}{e:TypeId}
end
section
variable {m fuel:Nat}{listed:Array Bool}
variable {y:Operand}{e:TypeId}{i:Nat}
theorem Take.Ie{bk:Nat}{c:Av_}(j:Nat)(Y:An E H S)(Z:ops[i]?=some ⟨d,.store t x y,ty,p,af,g⟩)(hw:AQ L ops ⟨d,.store t x y,ty,p,af,g⟩=some true)(aa:A6 n d=true)
  (ab:ev L x=some (.pointer (some ⟨bk,off,none⟩))) (ae:ev L y=some v) (ag:A5 P t=some v.cells.size) (ah:∀u∈v.cells.toList,BX u=true) (K:S[j]?=some [(bk,.cells c e (0,0))]) (hle:off+v.cells.size<=c.size)
  (h:An E H (S.set j [(bk,.cells (Bx c off v.cells.toList) e (0,0))])->AI J Q b n ds ops k cs m Cn fuel (AV listed i) (Az L d undef) (Ah E H (S.set j [(bk,.cells (Bx c off v.cells.toList) e (0,0))]))):
  Take J Q b n ds ops k cs m Cn fuel listed L (Ah E H S) i:=
 Take.LK Z (by simp[CQ,aa]) hw λρ O=>by
  let⟨ai,aj⟩:=FU Y K
  rw[ai]
  show lp P (do Instr.storeAt t (ρ x) (ρ y);pure Next.skip) _ _ _
  rw[O x _ ab,O y v ae]
  refine Av _ _ ?_
  unfold Instr.storeAt
  simp only[Instr.sureAddr,bind,Sem.bind,pure]
  refine NO (pl:=(S.set j []).flatten.length) ag ah aj (c:=c) (e:=e) (by simp) hle λU=>?_
  have ak:((S.set j []).flatten++ [(bk,Obj.cells c e (0,0))]).set (S.set j []).flatten.length (bk,.cells (Bx c off v.cells.toList) e (0,0))=(S.set j []).flatten++ [(bk,.cells (Bx c off v.cells.toList) e (0,0))]:=HE _ _ _ _
  rw[ak] at U ⊢
  let⟨al,am⟩:=HH K U
  rw[al]
  exact h am
theorem Mm{s:St}{D:Nat->Bool}{i j l:Nat}(K:s.q=false)(O:Region.ready .any ops listed=[i,j,l])(hi:Take J Q b n ds ops k cs m D fuel listed L s i)(U:Take J Q b n ds ops k cs m D fuel listed L s j)(Y:Take J Q b n ds ops k cs m D fuel listed L s l):AI J Q b n ds ops k cs m D (fuel+1) listed L s:=
 NW K O (by simp) (by intro q K;simp at K;rcases K with rfl | rfl | rfl<;>assumption)
end
theorem Ak.cut{α:Type}{pp:Rp α}{E:LH}{a:Option Addr}{c:Nat}{xs ys:List α}{lo hi:Int}(Y:Ak pp E a c xs)(hC:EY xs lo hi=some ys):
  ∃Z aa,Ak pp E Z aa ys/\∀{P:Program}{ρ:Operand->Value}{s:St}{d:Option Tmp}{x:Operand}{t ty e:TypeId}{p:String}{af:Ae_}{g:On_}{olo ohi:Option Operand},P.underlying t=some (.slice e)->A5 P e=some pp.n->ρ x=.slice a xs.length c->
   (match ohi with | some w=>ρ w=iV hi | none=>hi=xs.length)->(match olo with | some w=>ρ w=iV lo | none=>lo=0)->Yl P ⟨d,.slice t x olo ohi none,ty,p,af,g⟩ ρ s (.slice Z ys.length aa):=by
 unfold EY at hC;split at hC
 rotate_left
 .cases hC
 rename_i hb;obtain⟨ao,ap,ah⟩:=hb;cases hC;obtain⟨lo,rfl⟩:∃l:Nat,lo=l:=⟨lo.toNat,by omega⟩;obtain⟨hi,rfl⟩:∃l:Nat,hi=l:=⟨hi.toNat,by omega⟩;simp only[m0] at*;have aq:=Y.1;have hlen:((xs.take hi).drop lo).length=hi - lo:=by simp;omega
 have ab:∀ad:Addr,a=some ad->ad.spot=none∨c=0:=λad K=>by
  rcases Y.2 with⟨_,h⟩ | ⟨bk,off,h,_⟩;exact h ad K;rw[h] at K;cases K;exact .inl V
 refine⟨if c=lo then a else a.map (·.add (lo*pp.n)),c - lo,⟨by rw[hlen];omega,?_⟩,?_⟩
 .by_cases ai:hi - lo=0
  .left;refine⟨lD (by rw[hlen];exact ai),λad K=>?_⟩;split at K;(exact(ab ad K).imp id λh=>by omega)
   .cases a with
    | none=>cases K
    | some aj=>
     simp only[lW,lP] at K;subst K;exact .inl (by rw[CV ((ab aj rfl).resolve_right (by omega))])
  .right;rcases Y.2 with⟨h,_⟩ | ⟨bk,off,rfl,O⟩;subst h;simp at ah;omega;refine⟨bk,off+lo*pp.n,?_,λq z U=>?_⟩;rw[d7 (by omega),lW,CV rfl];rw[ng,l5] at U;split at U;let⟨ws,ak,ae⟩:=O _ z U;refine⟨ws,ak,?_⟩;rw[ml] at ae;rw[mc];exact ae;cases U
 .intro P ρ s d x t ty e p af g olo ohi al am an O ag;rw[hlen];refine Yl.slice (mx:=c) (hi:=hi) (lo:=lo) al am an V ?_ ?_ (la _) (by omega) (by omega)
  .cases ohi with
   | none=>exact⟨by simp only at O;omega,rfl⟩
   | some w=>exact O
  .cases olo with
   | none=>simp only at ag;show lo=0;omega
   | some w=>exact ag
section
variable {m fuel:Nat}{listed:Array Bool}
theorem GD{S1:List Seg}(K:S=S1)(O:S1.Perm S')(U:An E H S)(h:An E H S'->AI J Q b n ds ops k cs m D fuel listed L (Ah E H S')):AI J Q b n ds ops k cs m D fuel listed L (Ah E H S):=by
 subst K;exact AI.perm O.flatten U h
end
variable {e2:TypeId}
variable{s':St}
section
variable {i:Nat}
variable {y:Operand}{e:TypeId}
def IP(E:LH):Nat->Bool:=λx=>(E x).isNone
theorem Xj(x:Nat):(A2 (IP E) (Ah E H S)).E x=(Ah E H S).get x:=by
 show(if IP E x then(Ah E H S).get x else E x)=_
 unfold IP;cases h:E x with
 | none=>simp
 | some o=>
  rw[d7 (by simp)];unfold St.get;rw[show(Ah E H S).E x=some o from h]
theorem Sc(K:∀x o,(A2 (IP E) (Ah E H S)).E x=some o->s'.E x=some o){x:Nat}{o:Obj}(h:(Ah E H S).get x=some o):s'.get x=some o:=by
 have:=K x o (by rw[Xj];exact h);unfold St.get;rw[this]
theorem O1(K:∀x o,(A2 (IP E) (Ah E H S)).E x=some o->s'.E x=some o){a:Addr}{v:Value}(h:(Ah E H S).cell? a=some v):s'.cell? a=some v:=by
 let⟨o,O,U⟩:=lH.1 h;unfold St.cell?;rw[Sc K O];exact U
theorem Ro(K:∀x o,(A2 (IP E) (Ah E H S)).E x=some o->s'.E x=some o){a:Addr}(h:∀(i:Nat) v,vs[i]?=some v->(Ah E H S).cell? (Addr.add a i)=some v):∀(i:Nat) v,vs[i]?=some v->s'.cell? (Addr.add a i)=some v:=λi v O=>O1 K (h i v O)
theorem RN(m:Nat){id:Nat}(h:CW ops m=true->AI J Q b n ds ops k cs m (IP E) ops.size (Array.replicate ops.size false) L (Ah E H S))(hm:P.follows .mixedOrders=true:=by exact rfl)(K:(b.kind != .early)=true:=by exact rfl)(O:CW ops m=true:=by decide+kernel):
  JL J Q b n L ds (.code (.region id ops true)::k) cs (Ah E H S):=Oh m (IP E) V hm K (h O)
abbrev rs(q:Nat×Obj)(K:Seg)(p:Nat×Obj)(g2:Seg):Seg:=q::(K++ [p]++g2)
end
variable {bk:Nat}{xs:List (κ×ν)}{v0:ν}
variable {kk:Li_}
variable {z:Operand}{x0:κ}
section
variable [DecidableEq κ]
def KN(xs:List (κ×ν)):Prop:=(xs.map (·.1)).Nodup
theorem KN.perm{xs ys:List (κ×ν)}(h:KN xs)(p:ys.Perm xs):KN ys:=((p.map (λq:κ×ν=>q.1)).nodup_iff).2 h
theorem QJ{xs:List (κ×ν)}(h:KN xs){x:κ}{v:ν}:Dl xs x=some v↔(x,v)∈xs:=by
 induction xs with
 | nil=>simp[Dl]
 | cons y ys U=>
  have O:y.1 ∉ ys.map (·.1)/\KN ys:=by simpa [KN] using h
  by_cases e:x=y.1
  .subst e;have K:Dl (y::ys) y.1=some y.2:=by simp[Dl]
   rw[K];constructor;intro q;cases q;simp;intro q;rcases li.1 q with q | q;rw[← q];exact absurd (mr.2 ⟨_,q,V⟩) O.1
  .have K:Dl (y::ys) x=Dl ys x:=by simp[Dl,e]
   rw[K,U O.2];constructor;intro q;exact lc _ q;intro q;rcases li.1 q with q | q;exact absurd (by rw[← q]) e;exact q
theorem T6{xs ys:List (κ×ν)}(h:KN xs)(p:ys.Perm xs)(x:κ):Dl ys x=Dl xs x:=by
 apply Option.ext;intro v;rw[QJ h,QJ (h.perm p),p.mem_iff]
def Gt(xs:List (κ×ν))(x:κ):List (κ×ν):=xs.filter λy=>decide (x≠y.1)
theorem T9{xs:List (κ×ν)}{x:κ}(h:∀y∈xs,x≠y.1):Gt xs x=xs:=List.filter_eq_self.2 λy K=>by simpa using h y K
theorem Mg{x:κ}{v:ν}:∀{xs:List (κ×ν)},KN xs->(Gs xs x v).Perm ((x,v)::Gt xs x)
 | [],_=>.refl _
 | y::ys,h=>by
  have K:y.1 ∉ ys.map (·.1)/\KN ys:=by simpa [KN] using h
  unfold Gs;by_cases e:x=y.1
  .rw [d5 e];have e2:Gt (y::ys) x=ys:=by
    have:Gt (y::ys) x=Gt ys x:=by simp[Gt,e]
    rw[this];exact T9 λz O q=>K.1 (mr.2 ⟨z,O,by rw[← q,e]⟩)
   rw[e2]
  .rw [d7 e];have e2:Gt (y::ys) x=y::Gt ys x:=by simp[Gt,e]
   rw[e2];exact((Mg K.2).cons y).trans (List.Perm.swap _ _ _)
theorem Tx{xs ys:List (κ×ν)}(p:ys.Perm xs)(x:κ):(Gt ys x).Perm (Gt xs x):=p.filter _
theorem Tk{xs ys:List (κ×ν)}(h:KN xs)(p:ys.Perm xs)(x:κ)(v:ν):(Gs ys x v).Perm (Gs xs x v):=
 (Mg (h.perm p)).trans (((Tx p x).cons _).trans (Mg h).symm)
theorem KN.del{xs:List (κ×ν)}(h:KN xs)(x:κ):KN (Gt xs x):=by
 unfold KN Gt;exact List.Nodup.sublist (List.Sublist.map _ List.filter_sublist) h
theorem KN.put{xs:List (κ×ν)}(h:KN xs)(x:κ)(v:ν):KN (Gs xs x v):=by
 refine KN.perm ?_ (Mg h);unfold KN;simp only[m3,m8];refine⟨λq=>?_,h.del x⟩;let⟨z,K,e⟩:=mr.1 q;have:=(List.mem_filter.1 K).2;simp at this;exact this e.symm
def Ee(pk:Rp κ)(ka:Bool)(pv:Rp ν)(va:Bool)(E:LH)(o:Obj)(xs:List (κ×ν)):Prop:=KN xs/\∃ys,ys.Perm xs/\Jw pk ka pv va E o ys
theorem Ee.Ad{o:Obj}{xs:List (κ×ν)}(h:Ee pk ka pv va E o xs)(hle:Le E E'):Ee pk ka pv va E' o xs:=
 let ⟨K,ys,O,U⟩:=h;⟨K,ys,O,U.Ad hle⟩
theorem Ee.nil:Ee pk ka pv va E (.map #[] 0) []:=⟨List.nodup_nil,[],.refl _,⟨#[],0,V,trivial,.nil,by simp⟩⟩
section
variable {o:Obj}{k:Value}{x:κ}
theorem SX(K:HR P t pk ka)(hm:P.underlying tm=some (.map t te)){z:Value}{z0:ν}(O:zeroOf P te=some z)(U:Vr pv va E z z0)(Y:s.get bk=some o)(Z:Ee pk ka pv va E o xs)(aa:Vr pk ka E k x)(ok:Bool){Q:Value->St->Prop}
  (h:∀w,Vr pv va E w ((Dl xs x).getD z0)->Q (if ok then .tuple #[w,.bool (Dl xs x).isSome] else w) s):lp P (Instr.lookup tm (.map (some bk)) k ok) s Q X:=by
 obtain⟨ab,ys,ae,ag⟩:=Z;refine Tq K hm O U Y ag aa ok ?_;rw[T6 ab ae];exact h
theorem SC(O:HR P t pk ka)(hm:P.underlying tm=some (.map t te))(U:s.get bk=some o)(Y:s.H bk=some o)(Z:Ee pk ka pv va E o xs)(aa:Vr pk ka E k x)(hw:Vr pv va E w v0){Q:Unit->St->Prop}
  (h:∀o',Ee pk ka pv va E o' (Gs xs x v0)->Q () (s.upd bk o')):lp P (Instr.mapUpdate tm (.map (some bk)) k w) s Q X:=by
 obtain⟨K,ys,ab,ae⟩:=Z;exact SE O hm U Y ae aa hw λo' ag=>h o' ⟨K.put _ _,_,Tk K ab _ _,ag⟩
end
section
variable {y:Operand}{e:TypeId}{i:Nat}{o:Obj}{k:Value}
theorem Yl.lookup{K v:Value}{z0:ν}{ok:Bool}(O:HR P t pk ka)(hm:P.underlying tm=some (.map t te))(U:zeroOf P te=some K)(Y:Vr pv va E K z0)(Z:Ee pk ka pv va E o xs)(aa:Vr pk ka E k x0)
  (ab:∀w,Vr pv va E w ((Dl xs x0).getD z0)->(if ok then .tuple #[w,.bool (Dl xs x0).isSome] else w)=v) (ae:ρ x=.map (some bk)) (ag:ρ y=k) (ah:s.get bk=some o):Yl P ⟨d,.lookup tm x y ok,ty,p,af,g⟩ ρ s v:=by
 refine EJ (sm:=Instr.lookup tm (ρ x) (ρ y) ok) V ?_;rw[ae,ag];exact SX O hm U Y ah Z aa ok λw hw=>⟨ab w hw,V⟩
theorem JS.makeMap(K:ops[i]?=some ⟨d,.makeMap t none,ty,p,af,g⟩)(hw:AQ L ops ⟨d,.makeMap t none,ty,p,af,g⟩=some true)(O:BH b n ⟨d,.makeMap t none,ty,p,af,g⟩=true)(U:An E H S)
  (h:∀r,An E H (S++ [[(r,.map #[] 0)]])->JL J Q b n (Az L d (.map (some r))) ds (.inRegion ops rest::kk) cs (Ah E H (S++ [[(r,.map #[] 0)]]))):
  JL J Q b n L ds (.inRegion ops (i::rest)::kk) cs (Ah E H S):=
 JL.op K hw O λρ ag=>by
  show lp P (do pure (Next.value (← Instr.makeMap t none))) _ _ _
  refine Av _ _ ?_
  unfold Instr.makeMap
  simp only[newObj,bind,Sem.bind,pure,lp]
  refine⟨rfl,λr Y Z=>?_⟩
  let⟨aa,ab⟩:=I6 Y Z (.map #[] 0) U
  let⟨p1,p2⟩:=EU aa
  have ae:(Ah E H S).upd r (.map #[] 0)=Ah E H (S++ [[(r,.map #[] 0)]]):=by rw[← p1,← ab];rfl
  show JL J Q b n (Az L d (.map (some r))) ds (.inRegion ops rest::kk) cs ((Ah E H S).upd r (.map #[] 0));rw[ae];exact h r p2
theorem JS.mapUpdate(j:Nat)(Y:HR P t pk ka)(hm:P.underlying tm=some (.map t te))(Z:Ee pk ka pv va E o xs)(aa:Vr pk ka E k x0)(ab:Vr pv va E w v0)(K:An E H S)(O:S[j]?=some [(bk,o)])
  (ae:ops[i]?=some ⟨d,.mapUpdate tm x y z,ty,p,af,g⟩) (hw:AQ L ops ⟨d,.mapUpdate tm x y z,ty,p,af,g⟩=some true) (ag:BH b n ⟨d,.mapUpdate tm x y z,ty,p,af,g⟩=true) (ah:ev L x=some (.map (some bk))) (ai:ev L y=some k) (aj:ev L z=some w)
  (h:∀o',Ee pk ka pv va E o' (Gs xs x0 v0)->An E H (S.set j [(bk,o')])->JL J Q b n (Az L d undef) ds (.inRegion ops rest::kk) cs (Ah E H (S.set j [(bk,o')]))):
  JL J Q b n L ds (.inRegion ops (i::rest)::kk) cs (Ah E H S):=
 JL.op ae hw ag λρ U=>by
  show lp P (do Instr.mapUpdate tm (ρ x) (ρ y) (ρ z);pure Next.skip) _ _ _
  rw[U _ _ ah,U _ _ ai,U _ _ aj]
  refine Av _ _ (SC Y hm (Ef (i:=0) K O rfl) (Kq K O) Z aa ab λo' ak=>?_)
  let⟨al,am⟩:=J7 K O o'
  rw[al]
  exact h o' ak am
end
end
variable {ys:List (κ×ν)}
section
variable [DecidableEq κ]
section
variable {y:Operand}{e:TypeId}{i:Nat}{o:Obj}
end
end
variable {l0 bks xl:List Nat}
section
variable {fuel:Nat}{listed:Array Bool}
theorem Nm(i:Nat)(pure:Bool)(K:s.q=false)(O:F5 n L ops i=some ⟨d,op,ty,p,af,g⟩)
  (U:∀ρ,Ed L ρ->∀s':St,(pure=false->∀x o,(A2 (AL (l0++bks)) s).E x=some o->s'.E x=some o)->Yl P ⟨d,op,ty,p,af,g⟩ ρ s' v)
  (Y:Fv J Q b n ds ops k cs (AL xl) (AL (l0++bks)) (AL l0) fuel (AV listed i) (Az L d v) s) (Z:Kn ops listed xl pure i=true:=by decide+kernel):Fv J Q b n ds ops k cs (AL xl) (AL (l0++bks)) (AL l0) (fuel+1) listed L s:=by
 let⟨aa,ab,ae⟩:=N6 O;exact JB.val i pure aa Z K ab ae U Y
def Pk(n:Nat)(L:Env)(ops:Ao_)(i:Nat):Option Env:=
 match Im ops.toList i with
 | some ⟨d,op,ty,p,af,g⟩=>match AQ L ops ⟨d,op,ty,p,af,g⟩ with
  | some true=>match A6 n d with
   | true=>match Js L op with
    | some v=>match d with
     | some d=>some ((d,v)::L)
     | none=>some L
    | none=>none
   | false=>none
  | _=>none
 | none=>none
theorem U7{i:Nat}(h:Pk n L ops i=some L'):∃o v,ops[i]?=some o/\A6 n o.dst=true/\AQ L ops o=some true/\Js L o.op=some v/\L'=Az L o.dst v:=by
 unfold Pk at h;split at h
 .rename_i d op ty p af g K;rw[J6,lN] at K;split at h
  .rename_i hw;split at h
   .rename_i O;split at h
    .rename_i v U;refine⟨_,v,K,O,hw,U,?_⟩;cases d with
     | none=>cases h;rfl
     | some d=>cases h;rfl
    .cases h
   .cases h
  .cases h
 .cases h
theorem IH(i:Nat)(K:s.q=false)(h:Pk n L ops i=some L')
  (O:Fv J Q b n ds ops k cs (AL xl) (AL (l0++bks)) (AL l0) fuel (AV listed i) L' s) (U:Kn ops listed xl true i=true:=by decide+kernel):Fv J Q b n ds ops k cs (AL xl) (AL (l0++bks)) (AL l0) (fuel+1) listed L s:=by
 obtain⟨o,v,Y,Z,hw,aa,rfl⟩:=U7 h;exact JB.val i true Y U K hw Z (λρ ab s' _=>MI ab aa) O
end
variable {i2:Nat}
variable {d2:Option Tmp}{x2:Operand}{t2 ty2:TypeId}{p2:String}{af2:Ae_}{g2:On_}
variable{c2:Nat}{todo:Li_}
section
variable {i:Nat}
variable {y:Operand}{e:TypeId}
theorem BZ(O:An E H S)(h:∀r E',Le E E'->At E' r 0 v.cells.toList->An E' H (S++ [[]])->JL J Q b n (Az L d (.pointer (some ⟨r,0,none⟩))) ds (.inRegion ops rest::k) cs (Ah E' H (S++ [[]])))
  (U:Ey b n L ops i=some ⟨d,.box e x,ty,p,af,g⟩:=by exact rfl) (Y:ev L x=some v:=by exact rfl):JL J Q b n L ds (.inRegion ops (i::rest)::k) cs (Ah E H S):=by
 let⟨Z,aa,ab⟩:=I8 U;refine JS.box Z aa ab O Y λr ae=>Cw (bk:=r) (c:=v.cells) (e:=e) (f:=(0,0)) S.length ae (by simp) λE' hle ag K=>?_;have ah:(S++ [[(r,Obj.cells v.cells e (0,0))]]).set S.length []=S++ [[]]:=by simp
 rw[ah] at K ⊢;exact h r E' hle ag K
theorem BO{z:Value}(K:An E H S)(O:zeroOf P e=some z)(h:∀r,An E H (S++ [[(r,.cells z.cells e (0,0))]])->JL J Q b n (Az L d (.pointer (some ⟨r,0,none⟩))) ds (.inRegion ops rest::k) cs (Ah E H (S++ [[(r,.cells z.cells e (0,0))]])))
  (U:Ey b n L ops i=some ⟨d,.alloc e,ty,p,af,g⟩:=by exact rfl):JL J Q b n L ds (.inRegion ops (i::rest)::k) cs (Ah E H S):=by
 let⟨Y,Z,aa⟩:=I8 U;exact JS.alloc Y Z aa K O h
theorem Bf{bk:Nat}{c:Av_}(j:Nat)(O:An E H S)(U:A5 P t=some K)
  (h:An E H (S.set j [(bk,.cells (Bx c off v.cells.toList) e (0,0))])->JL J Q b n (Az L d undef) ds (.inRegion ops rest::k) cs (Ah E H (S.set j [(bk,.cells (Bx c off v.cells.toList) e (0,0))])))
  (Y:Ey b n L ops i=some ⟨d,.store t x y,ty,p,af,g⟩:=by exact rfl) (Z:ev L x=some (.pointer (some ⟨bk,off,none⟩)):=by exact rfl) (aa:ev L y=some v:=by exact rfl) (ab:S[j]?=some [(bk,.cells c e (0,0))]:=by exact rfl)
  (ae:K=v.cells.size:=by exact rfl) (hle:off+v.cells.size<=c.size:=by exact f7 rfl) (ag:v.cells.toList.all BX=true:=by first | exact rfl | simp[Value.cells,BX]):
  JL J Q b n L ds (.inRegion ops (i::rest)::k) cs (Ah E H S):=YD j O (by rw[← ae];exact U) Y Z aa ab h hle (lE.1 ag)
theorem Br{bk o o1:Nat}{K:Array Field}{ws:Lv_}(j:Nat)(Y:At E bk o ws)(Z:P.underlying t=some (.struct K))(aa:A5 P ft=some (c2+1))(ab:C8 P t2=some false)
  (ae:JL J Q b n (Az (Az L d (.pointer (some ⟨bk,o1+off,none⟩))) d2 v) ds (.inRegion ops rest::k) cs (Ah E H S))
  (ag:Ey b n L ops i=some ⟨d,.fieldAddr t x O,ty,p,af,g⟩:=by exact rfl) (ah:ev L x=some (.pointer (some ⟨bk,o1,none⟩)):=by exact rfl) (ai:K3 K O=some (off,ft):=by exact rfl)
  (aj:Ey b n (Az L d (.pointer (some ⟨bk,o1+off,none⟩))) ops i2=some ⟨d2,.load t2 x2,ty2,p2,af2,g2⟩:=by exact rfl) (ak:ev (Az L d (.pointer (some ⟨bk,o1+off,none⟩))) x2=some (.pointer (some ⟨bk,o+j,none⟩)):=by exact rfl) (al:ws[j]?=some v:=by exact rfl):
  JL J Q b n L ds (.inRegion ops (i::i2::rest)::k) cs (Ah E H S):=Bg Z aa ag ah ai (Bu j Y ab aj ak al ae)
theorem JS.ix{α:Type}{pp:Rp α}{a:Option Addr}{c:Nat}{xs:List α}{xv:α}{m:Int}{kd:IntKind}(K:Ak pp E a c xs)(hm:ix xs m=some xv)(O:P.underlying t=some (.slice e))(U:A5 P e=some pp.n)
  (h:∀bk o ws,pp.r E ws xv->At E bk o ws->JL J Q b n (Az L d (.pointer (some ⟨bk,o,none⟩))) ds (.inRegion ops rest::k) cs (Ah E H S))
  (Y:Ey b n L ops i=some ⟨d,.indexAddr t x y,ty,p,af,g⟩:=by exact rfl) (Z:ev L x=some (.slice a xs.length c):=by exact rfl) (aa:ev L y=some (.int kd m):=by exact rfl):
  JL J Q b n L ds (.inRegion ops (i::rest)::k) cs (Ah E H S):=by
 let⟨ab,ae,ag⟩:=I8 Y;exact WH K hm ab ae ag Z aa O U h
theorem Gq(K:List Seg)(O:Env){c:Code}(U:∀E',Le E E'->An E' H K->JL J Q b n O ds todo cs (Ah E' H K))
  (h:(∀{E':LH}{L:Env},Le E E'->An E' H K->Hc L O=Hh O->JL J Q b n L ds todo cs (Ah E' H K))->JL J Q b n L ds (.code c::todo) cs (Ah E H S)):JL J Q b n L ds (.code c::todo) cs (Ah E H S):=
 h λY Z aa=>AP (U _ Y Z) aa
theorem CP{U:List Nat}(Y Z:Nat)(K:List Seg)(O:Env)(aa:∀E',Le E E'->An E' H K->JL J Q b n O ds (.inRegion ops (List.range' Y Z)::todo) cs (Ah E' H K))
  (h:(∀{E':LH}{L:Env},Le E E'->An E' H K->Hc L O=Hh O->JL J Q b n L ds (.inRegion ops (List.range' Y Z)::todo) cs (Ah E' H K))->JL J Q b n L ds (.inRegion ops U::todo) cs (Ah E H S)):JL J Q b n L ds (.inRegion ops U::todo) cs (Ah E H S):=
 h λab ae ag=>AP (aa _ ab ae) ag
theorem Dj{ab:Type}{c:Code}{body:β->Option (Bl β ab)}{f:Nat}{Y:β}{a:ab}{Z:LH}{k:Li_}(ag:iter body f Y=some a)(K:β->List Seg)(U:β->Env)(hle:Le Z E)(ah:An E H (K Y))
  (round:∀x E',Le Z E'->An E' H (K x)->(∀ae,body x=some (.done ae)->ae=a)->(∃st,body x=some st)->(∀{L':Env}{aa:LH}(x':β),Le Z aa->An aa H (K x')->Hc L' (U x')=Hh (U x')->body x=some (.more x')->JL J Q b n L' ds (.inLoop c::k) cs (Ah aa H (K x')))->JL J Q b n (U x) ds (.code c:: .inLoop c::k) cs (Ah E' H (K x)))
  (ai:Hc L (U Y)=Hh (U Y):=by exact rfl) (aj:Ah E H S=Ah E H (K Y):=by exact rfl):JL J Q b n L ds (.code (.loop c)::k) cs (Ah E H S):=by
 rw[aj];refine HP _ ai (Qq ag (λL s x=>∃E',Jm Z H E' (K x) (U x) L s) ⟨E,V,V,hle,ah⟩ ?_);rintro _ _ x ⟨E',rfl,rfl,ak,al⟩ hd hb am;exact round x E' ak al hd hb λx' an g2 ao ap=>AP (am _ _ x' ⟨_,V,V,an,g2⟩ ap) ao
theorem Bd{c:Code}{E:LH}{B:Seg}(O:P.funcs[f]?=some fn)
  (h:∀(Q:Gs_) (K:Frame) (cs:Lf_) (H:LH),An E H [B]->(∀{v:Value}{E':LH}{S':List Seg}{B':Seg},Le E E'->S'.flatten=B'->R v E' B'->An E' H S'->J.ok Q (G (K.finish v) cs) (Ah E' H S'))->JL J Q (base f) fn.ntmps (EL 0 vs) [] [.code c] (K::cs) (Ah E H [B]))
  (hb:fn.body=some c:=by exact rfl) (U:Nat.ble vs.length fn.ntmps=true:=by exact rfl):AO J f vs E B R:=
 M7 O hb U λQ K cs H Y Z=>h Q K cs H Y λaa ab ae ag=>Z _ _ _ _ aa ab ae ag
variable {m fuel:Nat}{listed:Array Bool}
theorem Hi{bk:Nat}{c:Av_}{f:Nat×Nat}(i:Nat)(K:CW ops m=true)(o:Nat)(j:Nat)(O:An E H S)(U:C8 P t=some false)
  (Y:AI J Q b n ds ops k cs m (AL bks) fuel (AV listed i) (Az L d w) (Ah E H S)) (Z:F5 n L ops i=some ⟨d,.load t x,ty,p,af,g⟩:=by exact rfl) (aa:ev L x=some (.pointer (some ⟨bk,o,none⟩)):=by exact rfl)
  (ab:S[j]?=some [(bk,.cells c e f)]:=by exact rfl) (hw:c[o]?=some w:=by exact rfl) (ae:AL bks bk=true:=by simp[AL]) (ag:Fp ops listed m i=true:=by decide+kernel):AI J Q b n ds ops k cs m (AL bks) (fuel+1) listed L (Ah E H S):=
 AZ i K V Z (λρ h s' ah=>Yl.load U (h _ _ aa) (Mj (o:=o) j O ab ae ah hw)) Y ag
theorem JG.lp{bk o:Nat}{ws:Lv_}(i:Nat)(K:CW ops m=true)(j:Nat)(O:At E bk o ws)(U:An E H S)(Y:Hf S bks)(Z:C8 P t=some false)
  (aa:AI J Q b n ds ops k cs m (AL bks) fuel (AV listed i) (Az L d w) (Ah E H S)) (ab:F5 n L ops i=some ⟨d,.load t x,ty,p,af,g⟩:=by exact rfl) (ae:ev L x=some (.pointer (some ⟨bk,o+j,none⟩)):=by exact rfl)
  (hw:ws[j]?=some w:=by exact rfl) (ag:Fp ops listed m i=true:=by decide+kernel):AI J Q b n ds ops k cs m (AL bks) (fuel+1) listed L (Ah E H S):=
 AZ i K V ab (λρ h s' ah=>Yl.load Z (h _ _ ae) (At.O3 (j:=j) O (OZ U ah Y) hw)) aa ag
theorem RG{bk o:Nat}{c:Av_}{f:Nat×Nat}(i:Nat)(O:CW ops m=true)(vs:Lv_)(j:Nat)(U:An E H S)(hw:∀(q:Nat) w,vs[q]?=some w->c[o+q]?=some w)(Y:C8 P t=some true)(Z:A5 P t=some K)
  (aa:AI J Q b n ds ops k cs m (AL bks) fuel (AV listed i) (Az L d (.agg vs.toArray)) (Ah E H S)) (ab:F5 n L ops i=some ⟨d,.load t x,ty,p,af,g⟩:=by exact rfl) (ae:ev L x=some (.pointer (some ⟨bk,o,none⟩)):=by exact rfl)
  (ag:S[j]?=some [(bk,.cells c e f)]:=by exact rfl) (ah:K=vs.length:=by exact rfl) (ai:AL bks bk=true:=by simp[AL]) (aj:Fp ops listed m i=true:=by decide+kernel):AI J Q b n ds ops k cs m (AL bks) (fuel+1) listed L (Ah E H S):=
 AZ i O V ab (λρ h s' ak=>HC (vs:=vs) Y (by rw[← ah];exact Z) (h _ _ ae) (λq w al=>by rw[CV rfl];exact Mj j U ag ai ak (hw q w al))) aa aj
theorem JG.ix{D:Nat->Bool}{α:Type}{xs:List α}{xv:α}{bk c:Nat}{kd:IntKind}(i:Nat)(O:CW ops m=true)(U:xs.length=c2)(hm:ix xs m'=some xv)(Y:P.underlying t=some (.slice e))(Z:A5 P e=some K)
  (aa:AI J Q b n ds ops k cs m D fuel (AV listed i) (Az L d (.pointer (some ⟨bk,m'.toNat*K,none⟩))) s) (ab:s.q=false:=by exact rfl) (ae:F5 n L ops i=some ⟨d,.indexAddr t x y,ty,p,af,g⟩:=by exact rfl)
  (ag:ev L x=some (.slice (some ⟨bk,0,none⟩) c2 c):=by exact rfl) (ah:ev L y=some (.int kd m'):=by exact rfl) (ai:Fp ops listed m i=true:=by decide+kernel):AI J Q b n ds ops k cs m D (fuel+1) listed L s:=
 AZ i O ab ae (λρ h s' aj=>Q5 U hm Y Z (h _ _ ag) (h _ _ ah)) aa ai
theorem JB.ix{l0 bks:List Nat}{α:Type}{xs:List α}{xv:α}{bk c:Nat}{kd:IntKind}(i:Nat)(O:xs.length=c2)(hm:ix xs m'=some xv)(U:P.underlying t=some (.slice e))(Y:A5 P e=some K)
  (Z:Fv J Q b n ds ops k cs (AL xl) (AL (l0++bks)) (AL l0) fuel (AV listed i) (Az L d (.pointer (some ⟨bk,m'.toNat*K,none⟩))) s) (aa:s.q=false:=by exact rfl) (ab:F5 n L ops i=some ⟨d,.indexAddr t x y,ty,p,af,g⟩:=by exact rfl)
  (ae:ev L x=some (.slice (some ⟨bk,0,none⟩) c2 c):=by exact rfl) (ag:ev L y=some (.int kd m'):=by exact rfl) (ah:Kn ops listed xl true i=true:=by decide+kernel):Fv J Q b n ds ops k cs (AL xl) (AL (l0++bks)) (AL l0) (fuel+1) listed L s:=
 Nm i true aa ab (λρ h s' ai=>Q5 O hm U Y (h _ _ ae) (h _ _ ag)) Z ah
theorem RO{l0:List Nat}{bk o:Nat}{c:Av_}{f:Nat×Nat}(i:Nat)(vs:Lv_)(j:Nat)(O:An E H S)(hw:∀(q:Nat) w,vs[q]?=some w->c[o+q]?=some w)(U:C8 P t=some true)(Y:A5 P t=some K)
  (Z:Fv J Q b n ds ops k cs (AL xl) (AL (l0++bks)) (AL l0) fuel (AV listed i) (Az L d (.agg vs.toArray)) (Ah E H S)) (aa:F5 n L ops i=some ⟨d,.load t x,ty,p,af,g⟩:=by exact rfl) (ab:ev L x=some (.pointer (some ⟨bk,o,none⟩)):=by exact rfl)
  (ae:S[j]?=some [(bk,.cells c e f)]:=by exact rfl) (ag:K=vs.length:=by exact rfl) (ah:AL (l0++bks) bk=true:=by simp[AL]) (ai:Kn ops listed xl false i=true:=by decide+kernel):Fv J Q b n ds ops k cs (AL xl) (AL (l0++bks)) (AL l0) (fuel+1) listed L (Ah E H S):=
 Nm i false V aa (λρ h s' aj=>HC (vs:=vs) U (by rw[← ag];exact Y) (h _ _ ab) (λq w ak=>by rw[CV rfl];exact Mj j O ae ah (aj rfl) (hw q w ak))) Z ai
theorem Sa{l0 bks:List Nat}{bk:Nat}{c:Av_}(i j:Nat)(O:An E H S)(U:A5 P t=some K)(Y:LM S j l0)(hle:off+K<=c.size)
  (h:An E H (S.set j [(bk,.cells (Bx c off v.cells.toList) e (0,0))])->Fv J Q b n ds ops k cs (AL xl) (AL (l0++bks)) (AL l0) fuel (AV listed i) (Az L d undef) (Ah E H (S.set j [(bk,.cells (Bx c off v.cells.toList) e (0,0))])))
  (Z:F5 n L ops i=some ⟨d,.store t x y,ty,p,af,g⟩:=by exact rfl) (aa:ev L x=some (.pointer (some ⟨bk,off,none⟩)):=by exact rfl) (ab:ev L y=some v:=by exact rfl) (ae:S[j]?=some [(bk,.cells c e (0,0))]:=by exact rfl)
  (ag:K=v.cells.size:=by exact rfl) (ah:v.cells.toList.all BX=true:=by first | exact rfl | simp[Value.cells,BX]) (ai:Region.ready .any ops listed=[i]:=by decide+kernel) (aj:AL xl i=true:=by decide+kernel):
  Fv J Q b n ds ops k cs (AL xl) (AL (l0++bks)) (AL l0) (fuel+1) listed L (Ah E H S):=by
 let⟨ak,al,am⟩:=N6 Z;subst ag;exact JB.store i j ai aj ak al am O aa ab U (lE.1 ah) ae Y hle h
end
variable {a c:Nat}
section
variable {y:Operand}{b r:Nat}{m:Int}
end
def OU(a b:Nat):Option Nat:=if a<4294967296/\b<4294967296 then some (a&&& b) else none
def OK(a:Nat)(n:Int):Option Nat:=if 0<=n/\n<=32/\a*2^n.toNat<4294967296 then some (a*2^n.toNat) else none
section
variable {e:TypeId}{y:Operand}{b r:Nat}{m:Int}
theorem wrap32{m:Nat}(h:m<4294967296):IntKind.u32.wrap (m:Int)=m:=by
 simp only[IntKind.wrap,IntKind.bits,IntKind.signed];simp;omega
theorem Sb{m:Nat}(h:m<4294967296):(BitVec.ofInt IntKind.u32.bits (m:Int)).toNat=m:=by
 simp[IntKind.bits,BitVec.toNat_ofInt];omega
theorem TZ(O:ρ x=.int .u32 (a:Int))(U:ρ y=.int .u32 (b:Int))(h:OU a b=some r):Yl P ⟨d,.binOp .and t x y u,ty,p,af,g⟩ ρ s (.int .u32 (r:Int)):=by
 unfold OU at h;split at h;rename_i K;cases h;have h:=Yl.and (P:=P) (s:=s) (d:=d) (t:=t) (u:=u) (ty:=ty) (p:=p) (af:=af) (g:=g) O U;rw[BitVec.toNat_and,Sb K.1,Sb K.2,wrap32 (Nat.lt_of_le_of_lt Nat.and_le_left K.1)] at h;exact h;cases h
theorem Tl(O:ρ x=.int .u32 (a:Int))(U:ρ y=iV m)(h:OK a m=some r):Yl P ⟨d,.binOp .shl t x y u,ty,p,af,g⟩ ρ s (.int .u32 (r:Int)):=by
 unfold OK at h;split at h
 .rename_i K;cases h;have h:=Yl.shl (P:=P) (s:=s) (d:=d) (t:=t) (u:=u) (ty:=ty) (p:=p) (af:=af) (g:=g) O U K.1;have e:IntKind.u32.wrap ((a:Int)*2^(min m.toNat IntKind.u32.bits))=((a*2^m.toNat:Nat):Int):=by
   have Y:min m.toNat IntKind.u32.bits=m.toNat:=by simp[IntKind.bits];omega
   rw[Y,← wrap32 K.2.2];simp
  rw[e] at h;exact h
 .cases h
theorem Wb{kd:IntKind}{E:LH}(xs:List Nat):(rA xs.length (rN kd)).r E (xs.map λx=>Value.int kd ((x:Nat):Int)) xs:=by
 refine⟨V,xs.map λx=>[Value.int kd ((x:Nat):Int)],?_,by simp,λi x us K hu=>?_⟩
 .induction xs with
  | nil=>rfl
  | cons x xs O=>simp[← O]
 .rw [l8,K] at hu;exact(d6 hu).symm
theorem ID{α:Type}{kk:Nat}{pp:Rp α}{E:LH}{x:α}(h:pp.r E us x):(rA kk pp).r E (List.replicate kk us).flatten (List.replicate kk x):=
 ⟨by simp,List.replicate kk us,V,by simp,λi y ws K hw=>by
  rw[List.getElem?_replicate] at K hw
  split at K
  .rename_i O
   rw[d5 O] at hw
   cases K;cases hw
   exact h
  .cases K⟩
theorem U6{k:Nat}{z v:Value}(O:P.underlying t=some (.array k e))(U:zeroOf P t=some z)(Y:A5 P e=some K)(Z: .agg z.cells=v):Yl P ⟨d,.build t #[],ty,p,af,g⟩ ρ s v:=by
 refine EJ NZ ?_;unfold Instr.build;refine Av (x:=zeroValue t) _ (Fh U ?_);refine Av _ _ (B6 O ?_);refine Av (x:=Go.sizeOf e) _ (DO Y ?_);subst Z;simp[Instr.fill,lp,pure]
theorem Wn{k:Nat}{z v:Value}{L:Env}{U:Array (Nat×Operand)}{vs:List (Nat×Value)}(h:Ed L ρ)(Z:P.underlying t=some (.array k e))(aa:zeroOf P t=some z)(ab:A5 P e=some K)(ae:U.toList.mapM (λq=>(ev L q.2).map λv=>(q.1,v))=some vs)(O:(Instr.fill (λi=>some (i*K,K)) z.cells vs).map Value.agg=some v):Yl P ⟨d,.build t U,ty,p,af,g⟩ ρ s v:=by
 refine EJ NZ ?_;unfold Instr.build;refine Av (x:=zeroValue t) _ (Fh aa ?_);refine Av _ _ (B6 Z ?_);refine Av (x:=Go.sizeOf e) _ (DO ab ?_);have ag:=Oa h ae;have ah:(U.map λ(j,x)=>(j,ρ x)).toList=vs:=by rw[← ag,nq]
 rw[ah];cases Y:Instr.fill (λi=>some (i*K,K)) z.cells vs with
 | none=>rw[Y] at O;cases O
 | some cells=>rw[Y] at O;cases O;exact⟨rfl,rfl⟩
end
section
variable {e:TypeId}
end
section
variable {m fuel:Nat}{listed:Array Bool}
variable {y:Operand}{e:TypeId}{i:Nat}
end
def F6(b:Frame)(T:Av_)(ds:Ld_)(todo:Li_)(ch:List PanicEntry):Frame:={b with tmps:=T,todo:=todo,defers:=ds,mode:=.panicking ch}
def raised(v:Value):List PanicEntry:=[{v,recovered:=false}]
def taken(v:Value):List PanicEntry:=[{v,recovered:=true}]
section
variable (J:Judge P)(Q:Gs_)
def JP(b:Frame)(n:Nat)(L:Env)(ds:Ld_)(cs:Lf_)(ch:List PanicEntry)(s:St):Prop:=
 ∀T,Has n L T->∀todo,J.ok Q (G (F6 b T ds todo ch) cs) s
end
variable {bc:Frame}{dsc:Ld_}{ch:List PanicEntry}{T Tc:Av_}{todoc:Li_}
section
variable {i:Nat}
theorem JL.panic{t:TypeId}(O:ops[i]?=some ⟨d,.panic x,ty,p,af,g⟩)(U:b.roundOf=none)(hw:AQ L ops ⟨d,.panic x,ty,p,af,g⟩=some true)(Y:ev L x=some (.iface t v))
  (h:JP J Q b n L ds cs (raised (.iface t v)) s):JL J Q b n L ds (.inRegion ops (i::rest)::k) cs s:=λT K=>
 Judge.Cr V (λw=>by
  have he:execOp (A7 T) ⟨d,.panic x,ty,p,af,g⟩=.halt (.panic (.iface t v)):=by
   simp[execOp,Instr.panic,K.ev Y,goPanic,bind,Sem.bind]
  rw[stepG_op O (Cd K hw)]
  simp[U,stepG.apply,he,Sem.run,Sem.runT,Sem.events,GStep.after,fr,F6,Frame.raise,G,raised,seen_none]) (h T K (.inRegion ops (i::rest)::k))
theorem JP.pop(K:P.funcs[b.fn]?=some fn)(h:J.ok Q (G (F6 bc Tc dsc todoc ch) cs) s):JP J Q b n L [] (fr bc Tc dsc todoc::cs) ch s:=λT O todo=>
 Judge.Cr V (λw=>by simp[G,stepG,unwind,F6,fr,Frame.raise,Frame.catches,K]) h
theorem JP.K1{c:Code}{caps:Lv_}(ah:b.roundOf=none)(O:P.funcs[f]?=some fn)(Y:(fn.name== "runtime.NumGoroutine")=false)(hb:fn.body=some c)(Z:(vs++caps).length<=fn.ntmps)
  (h:∀T,Has n L T->∀todo,JL J Q (baseD f) fn.ntmps (EL 0 (vs++caps)) [] [.code c] (F6 b T ds todo ch::cs) s):JP J Q b n L (Jv f vs.toArray caps.toArray::ds) cs ch s:=λT aa todo=>by
 have ab:¬fn.name= "runtime.NumGoroutine" :=by simpa using Y
 refine Judge.Cr rfl (λw=>?_) (h T aa todo ((vs++caps).toArray++Array.replicate (fn.ntmps - (vs++caps).length) undef) ⟨by simp;simp at Z;omega,λt v ae=>?_⟩);rw[Cm (b:=baseD f) rfl];have:=enter_atD (P:=P) (vs++caps).toArray O hb;simp only[mE] at this;rw[← this];simp[G,stepG,unwind,callDeferred,F6,Jv,invoke,callFunc,O,ab,hb,GStep.after,seen_none]
 .let⟨_,K⟩:=H4 ae;have ag:t<(vs++caps).length:=by
   rcases lb t (vs++caps).length with U | U;exact U;simp only[mO] at K;have:=(d0.1 K).1;omega
  rw[f4,lM (by simpa using ag)];simp only[mO] at K;rw[lA,K];rfl
theorem SP{K:List PanicEntry}(O:ops[i]?=some ⟨d,.call ⟨.builtin .recover,#[],ats⟩,ty,p,af,g⟩)(U:b.roundOf=none)(Y:b.kind=.deferred)(ab:A6 n d=true)(hw:AQ L ops ⟨d,.call ⟨.builtin .recover,#[],ats⟩,ty,p,af,g⟩=some true)
  (h:JL J Q b n (Az L d v) ds (.inRegion ops rest::k) (F6 bc Tc dsc todoc ({v,recovered:=true}::K)::cs) s):
  JL J Q b n L ds (.inRegion ops (i::rest)::k) (F6 bc Tc dsc todoc ({v,recovered:=false}::K)::cs) s:=λT Z=>
 Judge.Cr V (λw=>by
  have he:execOp (A7 T) ⟨d,.call ⟨.builtin .recover,#[],ats⟩,ty,p,af,g⟩=.pure .recover:=by
   simp[execOp,resolve,Deferred.ofValue,invoke,bind,Sem.bind,pure,Go.builtin]
  have aa:=Ei (b:=b) (ds:=ds) (k:=k) T ops i rest v _ O
  simp only[fr,U,Y] at aa
  rw[stepG_op O (Cd Z hw)]
  simp[U,Y,stepG.apply,he,Sem.run,Sem.runT,Sem.events,GStep.after,fr,F6,tryRecover,G,seen_none,aa]) (h _ (Z.put ab _))
theorem SO(K:ops[i]?=some ⟨d,.call ⟨.builtin .recover,#[],ats⟩,ty,p,af,g⟩)(O:b.roundOf=none)(U:b.kind=.deferred)(aa:A6 n d=true)(hw:AQ L ops ⟨d,.call ⟨.builtin .recover,#[],ats⟩,ty,p,af,g⟩=some true)
  (h:JL J Q b n (Az L d .nilIface) ds (.inRegion ops rest::k) (Di bc Tc dsc todoc::cs) s):
  JL J Q b n L ds (.inRegion ops (i::rest)::k) (Di bc Tc dsc todoc::cs) s:=λT Y=>
 Judge.Cr V (λw=>by
  have he:execOp (A7 T) ⟨d,.call ⟨.builtin .recover,#[],ats⟩,ty,p,af,g⟩=.pure .recover:=by
   simp[execOp,resolve,Deferred.ofValue,invoke,bind,Sem.bind,pure,Go.builtin]
  have Z:=Ei (b:=b) (ds:=ds) (k:=k) T ops i rest .nilIface _ K
  simp only[fr,O,U] at Z
  rw[stepG_op K (Cd Y hw)]
  simp[O,U,stepG.apply,he,Sem.run,Sem.runT,Sem.events,GStep.after,fr,Di,tryRecover,G,seen_none,Z]) (h _ (Y.put aa _))
theorem JO.WM(O:b.kind=.deferred)(U:P.funcs[b.fn]?=some fn)(K:fn.results=#[])(h:J.ok Q (G (Di bc Tc dsc todoc) cs) s):JO J Q b n L [] (F6 bc Tc dsc todoc (taken v)::cs) s:=λT Z todo=>by
 refine Judge.Cr rfl (λw=>?_) h
 have Y:=results_none K T P w
 have e2:=λ(x:Array Event)=>events_results_none (P:=P) (w:=w) K T x
 simp[G,stepG,unwind,Di,F6,U,Y,e2,doReturn,O,GStep.after,seen_none,taken]
end
open Go.Proofs
abbrev Dq:=Int×Int×Int
abbrev AS:=List Dq
abbrev BS:=List AS
abbrev Y0:=List (List Int)
abbrev Bz:=Y0×AS
abbrev A3:=rP rI Cp
open Go.Proofs.Tryz
def AE:=AB Tryz.type3
def BA:=AB Tryz.type42
def HZ:=AB Tryz.type77
def Gf:=AB Tryz.type134
def AJ:=B5 Tryz.underlying3
def KF:=A0 Tryz.func43 rfl
def EI:=AB Tryz.type23
def GA:=B5 Tryz.underlying23
def I4:=AB Tryz.type35
def KD:=B5 Tryz.underlying35
def FB:=B5 Tryz.underlying42
def BU:=B4 Tryz.type42
def CO:=AB Tryz.type22
def Ge:=B5 Tryz.underlying22
def JR:=B4 Tryz.type77
def G6:=AB Tryz.type37
def Hx:=B5 Tryz.underlying77
def JN:=B4 Tryz.type166
def Fg:=AB Tryz.type166
def I2:=B4 Tryz.type73
def JH:=B5 Tryz.underlying37
def EN:=AB Tryz.type73
def G1:=B5 Tryz.underlying73
def DL:=B4 Tryz.type3
def EO:=AB Tryz.type4
def FC:=B5 Tryz.underlying4
def H0:=AB Tryz.type80
def FA:=B5 Tryz.underlying80
def Iw:=AB Tryz.type54
def LX:=B5 Tryz.underlying54
def JM:=A0 Tryz.func12 rfl
def Ff:=B4 Tryz.type71
def JK:=A0 Tryz.func11 rfl
def NF:=A0 Tryz.func14 rfl
def Eo:=AB Tryz.type71
def LV:=B5 Tryz.underlying71
def JU:=B4 Tryz.type26
def Dz:=AB Tryz.type26
def I1:=B5 Tryz.underlying26
def Ds:=AB Tryz.type24
def EG:=B5 Tryz.underlying24
def LY:=A0 Tryz.func15 rfl
def EH:=AB Tryz.type40
def G5:=B4 Tryz.type40
def HY:=B4 Tryz.type22
def L2:=A0 Tryz.func31 rfl
def I0:=B5 Tryz.underlying40
def KG:=B4 Tryz.type58
def Dd:=AB Tryz.type58
def FR:=B5 Tryz.underlying58
def Iu:=A0 Tryz.func138 rfl
def NG:=B4 Tryz.type196
def I3:=AB Tryz.type136
def NK:=AB Tryz.type96
def NA:=B5 Tryz.underlying96
def JF:=B5 Tryz.underlying136
def KH:=B4 Tryz.type4
def Ec:=AB Tryz.type39
def Hy:=B4 Tryz.type39
def KC:=B5 Tryz.underlying138
def Ny:=B5 Tryz.underlying139
def KE:=B5 Tryz.underlying39
def G2:=B5 Tryz.underlying95
def JJ:=B4 Tryz.type175
def G3:=A0 Tryz.func96 rfl
def G4:=A0 Tryz.func95 rfl
def NI:=B4 Tryz.type80
def LU:=B5 Tryz.underlying159
def NB:=B5 Tryz.underlying83
def NC:=B5 Tryz.underlying52
def ND:=A0 Tryz.func51 rfl
def JI:=B5 Tryz.underlying62
def FE:=AB Tryz.type62
def Iv:=B4 Tryz.type62
def It:=B5 Tryz.underlying64
def FT:=AB Tryz.type64
def Nz:=B5 Tryz.underlying103
def LZ:=B4 Tryz.type117
def NH:=B4 Tryz.type37
theorem mixed:Tryz.prog.follows .mixedOrders=true:=rfl
theorem Ys:CE Tryz.prog 42 (rP rI (rP rI rI)) true 2:=CE.three underlying42 (CE.int underlying3 AE) (CE.int underlying3 AE) (CE.int underlying3 AE) (by decide+kernel) (by decide) (by decide) (by decide) V V V BA
theorem Xr:CE Tryz.prog 77 (rA 5 rI) true 2:=CE.arr (kk:=5) (CE.int underlying3 AE) underlying77 HZ
theorem XC:CE Tryz.prog 134 (rA 10 rI) true 2:=CE.arr (kk:=10) (CE.int underlying3 AE) underlying134 Gf
variable {J:Judge Tryz.prog}
def f91(fu_:Nat)(p0:Int)(p1:Int)(p2:Int):Option Bool:=Option.bind (if p1<=p0 then(some (decide (p0<=p2))) else(some false)) λK=>some K
variable{p1:Int}{fu_:Nat}
theorem La{p0 p2:Int}{r:Bool}(K:f91 fu_ p0 p1 p2=some r):AO J 43 [iV p0,iV p1,iV p2] E [] (λw E' B'=>w=.bool r/\B'=[]):=by
 refine Bd func43 λQ ak cs H O Y=>?_;unfold f91 at K;let⟨Z,aa,ab⟩:=bs K;refine C 10 V (CP 8 1 [] [(14,.bool Z)] (λal ae ag=>?_) (λU=>?_));refine C 2 V ?_;cases ab;exact AU func43 V V (Y ae V ⟨V,V⟩ ag);refine DW 10 aa (λah ai=>?_) (λah aj=>?_);refine C 4 V ?_;cases ai;exact U BR O V;refine C 4 V ?_;cases aj;exact U BR O V
def f86(fu_:Nat)(p0:Int×Int×Int)(p1:Int)(p2:Int):Option Int:=(AG (p1 - 1)).bind λK=>(f91 fu_ p0.1 0 K).bind λO=>Option.bind (if(!O)=true then(some true) else((AG (p1 - 1)).bind λU=>(f91 fu_ p0.2.1 0 U).bind λY=>some (!Y))) λZ=>if Z=true then(some 3) else(if p0.1=p0.2.1 then(some 8) else((f91 fu_ p0.2.2 1 p2).bind λaa=>if(!aa)=true then(some 1) else(some 0)))
theorem Yw{p0:Int×Int×Int}{p2 r:Int}(ab:f86 fu_ p0 p1 p2=some r):AO J 75 [.agg #[iV p0.1,iV p0.2.1,iV p0.2.2],iV p1,iV p2] E [] (λw E' B'=>w=iV r/\B'=[]):=by
 refine Bd func75 λQ aS cs H aj Y=>?_;unfold f86 at ab;refine C 2 V (BZ aj λr2 aT Z U ak=>?_);refine C 6 V (Br 0 U underlying42 AE AJ ?_);let⟨aU,al,am⟩:=bs ab;refine C 1 V (Ce al V V V ?_);let⟨an,ao,ap⟩:=bs am;refine CX (La ao) V V KF ak λaV K ae=>As (v:=.bool (!an)) V (λρ h=>Yl.not (h _ _ V)) ?_;let⟨aq,ar,au⟩:=bs ap;refine C 1 V (CP 14 1 [] [(2,iV p2),(3,Ax r2 0),(21,.bool aq)] (λaW O aa=>?_) (λag=>?_));refine C 2 V (CI au (λav aw=>?_) (λav ay=>?_));refine C 4 V ?_;cases aw;exact AU func75 V V (Y ((Z.M K).M O) V ⟨V,V⟩ aa);refine C 2 V (Br 0 (U.Ad (K.M O)) underlying42 AE AJ ?_);refine Br 1 (U.Ad (K.M O)) underlying42 AE AJ ?_;refine C 3 V (AX ay (λaz aA=>?_) (λaz aB=>?_));refine C 4 V ?_;cases aA;exact AU func75 V V (Y ((Z.M K).M O) V ⟨V,V⟩ aa);refine C 2 V (Br 2 (U.Ad (K.M O)) underlying42 AE AJ ?_);let⟨aC,aD,aE⟩:=bs aB;refine C 1 V (CX (La aD) V V KF aa λaX ah ai=>?_);refine As (v:=.bool (!aC)) V (λρ h=>Yl.not (h _ _ V)) (C 2 V ?_);refine CI aE (λaF aG=>?_) (λaF aH=>?_);refine C 4 V ?_;cases aG;exact AU func75 V V (Y (((Z.M K).M O).M ah) V ⟨V,V⟩ ai);refine C 6 V ?_;cases aH;exact AU func75 V V (Y (((Z.M K).M O).M ah) V ⟨V,V⟩ ai);refine DD 14 ar (λaI aJ=>?_) (λaI aK=>?_);refine C 7 V ?_;cases aJ;exact ag BR ae V;refine Br 1 (U.Ad K) underlying42 AE AJ ?_;let⟨aY,aL,aM⟩:=bs aK;refine C 1 V (Ce aL V V V ?_);let⟨aN,aO,aP⟩:=bs aM;refine CX (La aO) V V KF ae λaZ aQ aR=>As (v:=.bool (!aN)) V (λρ h=>Yl.not (h _ _ V)) (C 1 V ?_);cases aP;exact ag aQ aR V
def MV(fu_:Nat)(O:List Int)(K:Int):Option (Bl Int ((Int)⊕(Unit))):=if K<(O.length:Int) then((ix O K).bind λU=>(f91 fu_ U 1 9).bind λY=>if(!Y)=true then(some (.done (Sum.inl 1))) else((AG (K+1)).bind λZ=>some (.more Z))) else(some (.done (Sum.inr ())))
def MX(fu_:Nat)(p0:Bz)(K:Int):Option (Bl Int ((Int)⊕(Unit))):=if K<(p0.1.length:Int) then((ix p0.1 K).bind λO=>if 3<(O.length:Int) then(some (.done (Sum.inl 6))) else(Option.bind (iter (MV fu_ O) fu_ 0) λU=>Sum.elim (λr=>some (.done (Sum.inl r))) (λZ=>(AG (K+1)).bind λY=>some (.more Y)) U)) else(some (.done (Sum.inr ())))
def Rf(fu_:Nat)(p0:Bz)(K:Int):Option (Bl Int ((Int)⊕(Unit))):=if K<(p0.2.length:Int) then((ix p0.2 K).bind λU=>(f86 fu_ U (p0.1.length:Int) 9).bind λO=>if O≠0 then(some (.done (Sum.inl O))) else((AG (K+1)).bind λY=>some (.more Y))) else(some (.done (Sum.inr ())))
def f47(fu_:Nat)(p0:Bz):Option Int:=if(p0.1.length:Int)<2 then(some 7) else(if 5<(p0.1.length:Int) then(some 6) else(Option.bind (iter (MX fu_ p0) fu_ 0) λK=>Sum.elim (λr=>some r) (λU=>if 8<(p0.2.length:Int) then(some 6) else(Option.bind (iter (Rf fu_ p0) fu_ 0) λO=>Sum.elim (λr=>some r) (λY=>some 0) O)) K))
variable{a1:Ao}{p0:Bz}
theorem Yd{ak:Ao}{al:Nat}(aW:Ak (rL rI) E a1 c2 p0.1)(aX:Ak A3 E ak al p0.2){r:Int}(aw:f47 fu_ p0=some r):AO J 42 [.agg #[sV a1 p0.1 c2,sV ak p0.2 al]] E [] (λw E' B'=>w=iV r/\B'=[]):=by
 refine Bd func42 λQ cw cs H aY O=>?_;unfold f47 at aw;refine C 2 V (BZ aY λY aZ K Z am=>?_);refine C 5 V (Br 0 Z underlying37 EI GA ?_);refine JL.ln underlying23 V V V (C 9 V ?_);refine AX aw (λa0 a2=>?_) (λa0 a3=>?_);refine C 4 V ?_;cases a2;exact AU func42 V V (O K V ⟨V,V⟩ am);refine C 6 V (AX a3 (λa4 a5=>?_) (λa4 a6=>?_));refine C 4 V ?_;cases a5;exact AU func42 V V (O K V ⟨V,V⟩ am);refine C 5 V (Br 0 Z underlying37 EI GA ?_);refine JL.ln underlying23 V V V ?_;let⟨ay,a7,an⟩:=bs a6;refine C 2 V (BF (λL s=>∃(az:Unit) (ao:LH),ay=Sum.inr az/\Jm aZ H ao [] [(1,Ax Y 0)] L s) ?_ ?_);rintro _ _ ⟨az,ao,rfl,rfl,rfl,U,aA⟩;have a8:=elim_inr an;refine C 3 V (Br 1 (Z.Ad U) underlying37 I4 KD ?_);refine JL.ln underlying35 V V V (C 2 V ?_);refine AX a8 (λa9 ba=>?_) (λa9 bb=>?_);refine C 4 V ?_;cases ba;exact AU func42 V V (O (K.M U) V ⟨V,V⟩ aA);refine C 4 V (Br 1 (Z.Ad U) underlying37 I4 KD ?_);refine JL.ln underlying35 V V V ?_;let⟨aB,be,aC⟩:=bs bb;refine C 2 V (BF (λL s=>∃(aD:Unit) (aE:LH),aB=Sum.inr aD/\Jm ao H aE [] [] L s) ?_ ?_);rintro _ _ ⟨aD,aE,rfl,rfl,rfl,bf,bg⟩;have bh:=elim_inr aC;refine C 4 V ?_;cases bh;exact AU func42 V V (O ((K.M U).M bf) V ⟨V,V⟩ bg);intro bi;refine JL.block (Dj be (λap=>[]) (λap=>[(1,Ax Y 0),(46,sV ak p0.2 al),(47,iV (p0.2.length:Int)),(48,iV ap)]) BR aA ?_);rintro ap bj aa aF aG ⟨cy,ah⟩ bl;have aH:=ah;unfold Rf at aH;refine C 5 V (AX aH (λbm bn=>?_) (λbm bo=>?_));let⟨cz,bp,bq⟩:=bs bn;refine C 5 V (JS.ix (aX.Ad ((K.M U).M aa)) bp underlying35 BA ?_);rintro cA cB _ ⟨_,_,rfl,rfl,⟨_,_,rfl,rfl,rfl⟩⟩ br;refine Cu br FB BA V V (BO aF BU λcC bu=>?_);refine Bf 0 bu BA λbv=>?_;refine Cw 0 bv V λcD aq bw bx=>C 3 V (Cu bw FB BA V V ?_);refine Br 0 (Z.Ad ((U.M aa).M aq)) underlying37 EI GA ?_;refine JL.ln underlying23 V V V ?_;let⟨cE,bz,bA⟩:=bs bq;refine CX (Yw bz) V V (A0 func75 V) bx λcF aI aJ=>C 7 V (AX bA (λbB bC=>?_) (λbB bD=>?_));refine C 5 V ?_;cases bC;obtain rfl:=aG _ ah;have bE:=elim_inl aC;cases bE;exact AU func42 V V (O ((((K.M U).M aa).M aq).M aI) V ⟨V,V⟩ aJ);let⟨bF,bG,bH⟩:=bs bD;refine C 3 V (Bi bG V V V ?_);refine C 2 V ?_;cases bH;exact bl bF ((aa.M aq).M aI) aJ V ah;refine JL.exit V ?_;cases bo;have bI:aB=(Sum.inr ()):=(aG _ ah).symm;exact AP (bi _ _ ⟨(),bj,bI,V,V,aa,aF⟩) V;intro bJ;refine JL.block (Dj a7 (λab=>[]) (λab=>[(1,Ax Y 0),(21,sV a1 p0.1 c2),(22,iV (p0.1.length:Int)),(23,iV ab)]) BR am ?_);rintro ab aK ae ar au ⟨cG,ag⟩ bK;have aL:=ag;unfold MX at aL;refine C 5 V (AX aL (λbL bM=>?_) (λbL bN=>?_));let⟨aM,bO,bP⟩:=bs bM;refine C 5 V (JS.ix (aW.Ad (K.M ae)) bO underlying23 CO ?_);rintro cH cI _ ⟨bQ,bR,rfl,bS⟩ bT;refine Bu 0 bT Ge V V V (C 6 V ?_);refine JL.ln underlying22 V V V (C 2 V ?_);refine AX bP (λbU bV=>?_) (λbU bW=>?_);refine C 4 V ?_;cases bV;obtain rfl:=au _ ag;have bY:=elim_inl an;cases bY;exact AU func42 V V (O (K.M ae) V ⟨V,V⟩ ar);refine C 4 V (JL.ln underlying22 V V V ?_);let⟨aN,bZ,aO⟩:=bs bW;refine C 2 V (BF (λL s=>∃(aP:Unit) (aQ:LH),aN=Sum.inr aP/\Jm aK H aQ [] [(1,Ax Y 0),(21,sV a1 p0.1 c2),(22,iV (p0.1.length:Int)),(23,iV ab)] L s) ?_ ?_);rintro _ _ ⟨aP,aQ,rfl,rfl,rfl,b0,b1⟩;have b2:=elim_inr aO;let⟨b3,b4,b5⟩:=bs b2;refine C 2 V (Bi b4 V V V ?_);refine C 2 V ?_;cases b5;exact bK b3 (ae.M b0) b1 V ag;intro b6;refine JL.block (Dj bZ (λav=>[]) (λav=>[(1,Ax Y 0),(21,sV a1 p0.1 c2),(22,iV (p0.1.length:Int)),(23,iV ab),(30,sV bQ aM bR),(31,iV (aM.length:Int)),(32,iV av)]) BR ar ?_);rintro av b7 ai aR aS ⟨cJ,aj⟩ b8;have aT:=aj;unfold MV at aT;refine C 5 V (AX aT (λb9 ca=>?_) (λb9 cb=>?_));let⟨cK,cc,cd⟩:=bs ca;refine C 5 V (JS.ix (bS.Ad ai) cc underlying22 AE ?_);rintro cM cN _ rfl ce;refine Bu 0 ce AJ V V V ?_;let⟨cf,cg,ci⟩:=bs cd;refine C 5 V (CX (La cg) V V KF aR λcO aU aV=>?_);refine As (v:=.bool (!cf)) V (λρ h=>Yl.not (h _ _ V)) (JL.done ?_);refine CI ci (λck cm=>?_) (λck cn=>?_);refine C 4 V ?_;cases cm;obtain rfl:=aS _ aj;have co:=elim_inl aO;cases co;obtain rfl:=au _ ag;have cp:=elim_inl an;cases cp;exact AU func42 V V (O (((K.M ae).M ai).M aU) V ⟨V,V⟩ aV);let⟨cq,cr,ct⟩:=bs cn;refine C 3 V (Bi cr V V V ?_);refine C 2 V ?_;cases ct;exact b8 cq (ai.M aU) aV V aj;refine JL.exit V ?_;cases cb;have cu:aN=(Sum.inr ()):=(aS _ aj).symm;exact AP (b6 _ _ ⟨(),b7,cu,V,V,ai,aR⟩) V;refine JL.exit V ?_;cases bN;have cv:ay=(Sum.inr ()):=(au _ ag).symm;exact AP (bJ _ _ ⟨(),aK,cv,V,V,ae,ar⟩) V
def MY(fu_:Nat)(p0:Bz)(O:(List Int)×Int):Option (Bl ((List Int)×Int) ((List Int))):=if O.2<(p0.2.length:Int) then((ix p0.2 O.2).bind λK=>(ix O.1 K.2.1).bind λY=>(AG (Y+K.2.2)).bind λU=>(ix O.1 K.2.1).bind λae=>(ix (O.1.set (Int.toNat K.2.1) U) K.1).bind λZ=>(AG (Z - K.2.2)).bind λaa=>(ix (O.1.set (Int.toNat K.2.1) U) K.1).bind λag=>(AG (O.2+1)).bind λab=>some (.more (((O.1.set (Int.toNat K.2.1) U).set (Int.toNat K.1) aa),ab))) else(some (.done O.1))
def f84(fu_:Nat)(p0:Bz):Option ((List Int)):=Option.bind (iter (MY fu_ p0) fu_ ((List.replicate 5 (0:Int)),0)) λK=>some K
variable{aw:Ao}{ay:Nat}
theorem RP(bD:Ak (rL rI) E a1 c2 p0.1)(aR:Ak A3 E aw ay p0.2){r:(List Int)}(aF:f84 fu_ p0=some r):AO J 22 [.agg #[sV a1 p0.1 c2,sV aw p0.2 ay]] E [] (λw E' B'=>∃(aG:Lv_),w=.agg aG.toArray/\B'=[]/\(rA 5 rI).r E' aG r):=by
 refine Bd func22 λQ bE cs H aS aT=>?_;unfold f84 at aF;refine C 2 V (BZ aS λbF ao aH aU aV=>?_);refine BO aV JR λap aW=>?_;refine C 3 V (BO aW JR λU aX=>?_);refine C 4 V (Bg underlying73 G6 V V V ?_);refine Br 1 aU underlying37 I4 KD ?_;refine JL.ln underlying35 V V V ?_;let⟨aY,aZ,a0⟩:=bs aF;refine C 2 V (BF (λL s=>∃(ak:LH) (Y:Lv_),Jn ao H ak [bX ap (([]:Lv_)++(List.replicate 5 (iV 0):Lv_)).toArray 77,bX U (([]:Lv_)++Y).toArray 77] [(2,Ax ap 0),(3,Ax U 0)] L s ((rA 5 rI).r ak Y aY)) ?_ ?_);rintro _ _ ⟨ak,Y,rfl,rfl,a2,aI,aa⟩;refine C 2 V (As (v:=.agg Y.toArray) V (λρ h=>Ej (kk:=5) (pp:=rI) aa Hx HZ (h _ _ V) (Fl (l:=[]) 1 aI V)) ?_);refine ES (v:=.agg Y.toArray) (l:=[]) (ws:=(List.replicate 5 (iV 0):Lv_)) (us:=Y) (o:=0) 0 V V V aI V V V (by rw[BC (kk:=5) (pp:=rI) aa];exact AB type77) ((rA 5 rI).one aa) V (by rw[BC (kk:=5) (pp:=rI) aa,BC (kk:=5) (pp:=rI) (Gm (E:=ak) (pp:=rI) rfl)];omega) λaJ=>?_;rw[H8 (by rw[BC (kk:=5) (pp:=rI) aa,BC (kk:=5) (pp:=rI) (Gm (E:=ak) (pp:=rI) rfl)])] at aJ ⊢;refine JL.done (JS.drop 1 aJ V λaK=>?_);cases a0;refine JL.ret (v:=.agg Y.toArray) V V (Bq.list func22 V (vs:=[.agg Y.toArray]) ⟨⟨_,V,Ld.many (vs:=Y) Hx (by rw[BC (kk:=5) (pp:=rI) aa];exact AB type77) (Fl (l:=[]) 0 aK V)⟩,trivial⟩) (CB 0 aK V λa3=>?_);exact aT (aH.M a2) V ⟨Y,V,V,aa⟩ a3
 .intro a4;refine JL.block (Es aZ (λL s ae=>∃(aq:LH) (ag:Lv_),Jn ao H aq [bX ap (([]:Lv_)++(List.replicate 5 (iV 0):Lv_)).toArray 77,bX U (([]:Lv_)++ag).toArray 77] [(2,Ax ap 0),(3,Ax U 0),(8,sV aw p0.2 ay),(9,iV (p0.2.length:Int)),(10,iV ae.2)] L s ((rA 5 rI).r aq ag ae.1)) ⟨ao,(List.replicate 5 (iV 0):Lv_),V,V,BR,aX,(Gm (E:=ao) (pp:=rI) V)⟩ ?_);rintro _ _ ae ⟨aq,ag,rfl,rfl,az,aL,ah⟩ a5 ⟨bG,aA⟩ a6;have aM:=aA;unfold MY at aM;refine C 5 V (AX aM (λa7 a8=>?_) (λa7 a9=>?_))
  .let⟨K,ba,bb⟩:=bs a8;refine C 5 V (JS.ix (aR.Ad (aH.M az)) ba underlying35 BA ?_);rintro bH bI _ ⟨_,_,rfl,rfl,⟨_,_,rfl,rfl,rfl⟩⟩ be;refine Cu be FB BA V V (BO aL BU λbJ bf=>?_);refine Bf 2 bf BA λbg=>?_;refine Cw 2 bg V λaB ai ar al=>C 2 V (Gn 6 [U] ⟨⟨1,_,V⟩,trivial⟩ al λO=>?_);refine BT 0 O underlying42 AE V V V V (JG.lp 1 O 1 ar al ⟨⟨1,_,V⟩,trivial⟩ AJ ?_);let⟨bh,aN,bi⟩:=bs bb;obtain⟨_,rfl,_,_,bj⟩:=DR (kk:=5) (pp:=rI) (Rp.Ad _ ai ah) aN;refine AZ (v:=.pointer (some ⟨U,0+Int.toNat (K.2.1)*1,none⟩)) 2 O V V (λρ h s' am=>Df (kk:=5) (pp:=rI) (Rp.Ad _ ai ah) aN underlying77 AE (h _ _ V) (h _ _ V)) (AZ (v:=iV bh) 3 O V V (λρ h s' am=>Yl.load AJ (h _ _ V) (KO (l:=[]) 1 al V (by simp[AL]) am (bj 0 _ V))) ?_);refine BT 4 O underlying42 AE V V V V (JG.lp 5 O 2 ar al ⟨⟨1,_,V⟩,trivial⟩ AJ ?_);refine BY [6,7,8] ?_;let⟨Z,bl,bm⟩:=bs bi;refine Bi bl V V V ?_;let⟨bK,aC,bn⟩:=bs bm;obtain⟨_,rfl,_,_,bL⟩:=DR (kk:=5) (pp:=rI) (Rp.Ad _ ai ah) aC;refine As (v:=.pointer (some ⟨U,0+Int.toNat (K.2.1)*1,none⟩)) V (λρ h=>Df (kk:=5) (pp:=rI) (Rp.Ad _ ai ah) aC underlying77 AE (h _ _ V) (h _ _ V)) ?_;have au:=HI (us:=[iV Z]) (y:=Z) (Rp.Ad _ ai ah) aC V;refine ES (v:=iV Z) (l:=[]) (ws:=ag) (us:=[iV Z]) (o:=Int.toNat (K.2.1)*1) 1 V V V al V V V AE (by simp[Value.cells,BX]) V au.2 λaj=>?_;replace au:=au.1;generalize bo:Dw ag (Int.toNat (K.2.1)*1) [iV Z]=aD at aj ⊢;have an:(rA 5 rI).r aB aD (ae.1.set (Int.toNat K.2.1) Z):=by rw[← bo];exact au
   refine JL.done (Gn 6 [U] ⟨⟨1,_,V⟩,trivial⟩ aj λO=>?_);refine BT 0 O underlying42 AE V V V V (JG.lp 1 O 0 ar aj ⟨⟨1,_,V⟩,trivial⟩ AJ ?_);let⟨bp,aO,bq⟩:=bs bn;obtain⟨_,rfl,_,_,br⟩:=DR (kk:=5) (pp:=rI) an aO;refine AZ (v:=.pointer (some ⟨U,0+Int.toNat (K.1)*1,none⟩)) 2 O V V (λρ h s' am=>Df (kk:=5) (pp:=rI) an aO underlying77 AE (h _ _ V) (h _ _ V)) (AZ (v:=iV bp) 3 O V V (λρ h s' am=>Yl.load AJ (h _ _ V) (KO (l:=[]) 1 aj V (by simp[AL]) am (br 0 _ V))) ?_);refine BT 4 O underlying42 AE V V V V (JG.lp 5 O 2 ar aj ⟨⟨1,_,V⟩,trivial⟩ AJ ?_);refine BY [6,7,8] ?_;let⟨ab,bu,bv⟩:=bs bq;refine Ce bu V V V ?_;let⟨bM,aE,bw⟩:=bs bv;obtain⟨_,rfl,_,_,bN⟩:=DR (kk:=5) (pp:=rI) an aE;refine As (v:=.pointer (some ⟨U,0+Int.toNat (K.1)*1,none⟩)) V (λρ h=>Df (kk:=5) (pp:=rI) an aE underlying77 AE (h _ _ V) (h _ _ V)) ?_;have av:=HI (us:=[iV ab]) (y:=ab) an aE V;refine ES (v:=iV ab) (l:=[]) (ws:=aD) (us:=[iV ab]) (o:=Int.toNat (K.1)*1) 1 V V V aj V V V AE (by simp[Value.cells,BX]) V av.2 λaP=>?_;replace av:=av.1;generalize bx:Dw aD (Int.toNat (K.1)*1) [iV ab]=aQ at aP ⊢;have bz:(rA 5 rI).r aB aQ ((ae.1.set (Int.toNat K.2.1) Z).set (Int.toNat K.1) ab):=by rw[← bx];exact av
   let⟨bA,bB,bC⟩:=bs bw;refine C 3 V (Bi bB V V V ?_);refine C 2 V ?_;cases bC;exact AP (a6 _ _ (((ae.1.set (Int.toNat K.2.1) Z).set (Int.toNat K.1) ab),bA) ⟨aB,aQ,V,V,(az.M ai),aP,bz⟩ aA) V
  .refine JL.exit V ?_;cases a9;obtain rfl:=a5 _ aA;exact AP (a4 _ _ ⟨aq,ag,V,V,az,aL,ah⟩) V
def Ll(fu_:Nat)(p0:List Int)(p1:Int×Int×Int):Option ((List Int)):=(ix p0 p1.1).bind λO=>(AG (O+p1.2.2)).bind λK=>(ix p0 p1.1).bind λZ=>(ix (p0.set (Int.toNat p1.1) K) p1.2.1).bind λU=>(AG (U - p1.2.2)).bind λY=>(ix (p0.set (Int.toNat p1.1) K) p1.2.1).bind λaa=>some ((p0.set (Int.toNat p1.1) K).set (Int.toNat p1.2.1) Y)
theorem Hb{w1:Lv_}{p0:List Int}{p1:Int×Int×Int}(ae:(rA 5 rI).r E w1 p0){r:(List Int)}(ar:Ll fu_ p0 p1=some r):AO J 96 [.agg w1.toArray,.agg #[iV p1.1,iV p1.2.1,iV p1.2.2]] E [] (λw E' B'=>∃(au:Lv_),w=.agg au.toArray/\B'=[]/\(rA 5 rI).r E' au r):=by
 refine Bd func96 λQ aT cs H aA aB=>?_;unfold Ll at ar;refine C 2 V (JS.box (v:=.agg w1.toArray) V V V aA V λr3 aC=>?_);refine BZ aC λaU aj Z ak aD=>?_;refine BO aD JR λaV ag=>?_;refine C 2 V (Gn 6 [r3] ⟨⟨1,_,V⟩,trivial⟩ ag λK=>?_);refine BT 0 K underlying42 AE V V V V (JG.lp 1 K 0 ak ag ⟨⟨1,_,V⟩,trivial⟩ AJ ?_);let⟨aE,av,aF⟩:=bs ar;obtain⟨_,rfl,_,_,aG⟩:=DR (kk:=5) (pp:=rI) (Rp.Ad _ Z ae) av;refine AZ (v:=.pointer (some ⟨r3,0+Int.toNat (p1.1)*1,none⟩)) 2 K V V (λρ h s' ah=>Df (kk:=5) (pp:=rI) (Rp.Ad _ Z ae) av underlying77 AE (h _ _ V) (h _ _ V)) (AZ (v:=iV aE) 3 K V V (λρ h s' ah=>Yl.load AJ (h _ _ V) (KO (l:=[]) 1 ag V (by simp[AL]) ah (aG 0 _ V))) ?_);refine BT 4 K underlying42 AE V V V V (JG.lp 5 K 2 ak ag ⟨⟨1,_,V⟩,trivial⟩ AJ ?_);refine BY [6,7,8] ?_;let⟨U,aH,aI⟩:=bs aF;refine Bi aH V V V ?_;let⟨aW,an,aJ⟩:=bs aI;obtain⟨_,rfl,_,_,aX⟩:=DR (kk:=5) (pp:=rI) (Rp.Ad _ Z ae) an;refine As (v:=.pointer (some ⟨r3,0+Int.toNat (p1.1)*1,none⟩)) V (λρ h=>Df (kk:=5) (pp:=rI) (Rp.Ad _ Z ae) an underlying77 AE (h _ _ V) (h _ _ V)) ?_;have al:=HI (us:=[iV U]) (y:=U) (Rp.Ad _ Z ae) an V;refine ES (v:=iV U) (l:=[]) (ws:=w1) (us:=[iV U]) (o:=Int.toNat (p1.1)*1) 1 V V V ag V V V AE (by simp[Value.cells,BX]) V al.2 λaa=>?_;replace al:=al.1;generalize aK:Dw w1 (Int.toNat (p1.1)*1) [iV U]=ao at aa ⊢;have ai:(rA 5 rI).r aj ao (p0.set (Int.toNat p1.1) U):=by rw[← aK];exact al
 refine C 2 V (Gn 6 [r3] ⟨⟨1,_,V⟩,trivial⟩ aa λK=>?_);refine BT 0 K underlying42 AE V V V V (JG.lp 1 K 1 ak aa ⟨⟨1,_,V⟩,trivial⟩ AJ ?_);let⟨aL,aw,aM⟩:=bs aJ;obtain⟨_,rfl,_,_,aN⟩:=DR (kk:=5) (pp:=rI) ai aw;refine AZ (v:=.pointer (some ⟨r3,0+Int.toNat (p1.2.1)*1,none⟩)) 2 K V V (λρ h s' ah=>Df (kk:=5) (pp:=rI) ai aw underlying77 AE (h _ _ V) (h _ _ V)) (AZ (v:=iV aL) 3 K V V (λρ h s' ah=>Yl.load AJ (h _ _ V) (KO (l:=[]) 1 aa V (by simp[AL]) ah (aN 0 _ V))) ?_);refine BT 4 K underlying42 AE V V V V (JG.lp 5 K 2 ak aa ⟨⟨1,_,V⟩,trivial⟩ AJ ?_);refine BY [6,7,8] ?_;let⟨ab,aO,aP⟩:=bs aM;refine Ce aO V V V ?_;let⟨aY,ap,aQ⟩:=bs aP;obtain⟨_,rfl,_,_,aZ⟩:=DR (kk:=5) (pp:=rI) ai ap;refine As (v:=.pointer (some ⟨r3,0+Int.toNat (p1.2.1)*1,none⟩)) V (λρ h=>Df (kk:=5) (pp:=rI) ai ap underlying77 AE (h _ _ V) (h _ _ V)) ?_;have am:=HI (us:=[iV ab]) (y:=ab) ai ap V;refine ES (v:=iV ab) (l:=[]) (ws:=ao) (us:=[iV ab]) (o:=Int.toNat (p1.2.1)*1) 1 V V V aa V V V AE (by simp[Value.cells,BX]) V am.2 λaq=>?_;replace am:=am.1;generalize aR:Dw ao (Int.toNat (p1.2.1)*1) [iV ab]=O at aq ⊢;have Y:(rA 5 rI).r aj O ((p0.set (Int.toNat p1.1) U).set (Int.toNat p1.2.1) ab):=by rw[← aR];exact am
 refine C 3 V (As (v:=.agg O.toArray) V (λρ h=>Ej (kk:=5) (pp:=rI) Y Hx HZ (h _ _ V) (Fl (l:=[]) 1 aq V)) ?_);refine ES (v:=.agg O.toArray) (l:=[]) (ws:=(List.replicate 5 (iV 0):Lv_)) (us:=O) (o:=0) 3 V V V aq V V V (by rw[BC (kk:=5) (pp:=rI) Y];exact AB type77) ((rA 5 rI).one Y) V (by rw[BC (kk:=5) (pp:=rI) Y,BC (kk:=5) (pp:=rI) (Gm (E:=aj) (pp:=rI) rfl)];omega) λay=>?_;rw[H8 (by rw[BC (kk:=5) (pp:=rI) Y,BC (kk:=5) (pp:=rI) (Gm (E:=aj) (pp:=rI) rfl)])] at ay ⊢;refine JL.done (JS.drop 1 ay V λaz=>?_);cases aQ;refine JL.ret (v:=.agg O.toArray) V V (Bq.list func96 V (vs:=[.agg O.toArray]) ⟨⟨_,V,Ld.many (vs:=O) Hx (by rw[BC (kk:=5) (pp:=rI) Y];exact AB type77) (Fl (l:=[]) 3 az V)⟩,trivial⟩) (CB 3 az V λaS=>?_);exact aB Z V ⟨O,V,V,Y⟩ aS
def f106(fu_:Nat)(p0:Int)(p1:Int):Option Nat:=(AG (max p0 p1 - 1)).bind λK=>(ix ([1,2,4,8]:List Nat) K).bind λO=>(AG (4*(min p0 p1))).bind λU=>(OK O U).bind λY=>some Y
theorem W8{p0:Int}{r:Nat}(K:f106 fu_ p0 p1=some r):AO J 91 [iV p0,iV p1] E [] (λw E' B'=>w=.int .u32 ((r:Nat):Int)/\B'=[]):=by
 refine Bd func91 λQ ak cs H O U=>?_;unfold f106 at K;refine C 8 V (As (v:=iV (min p0 p1)) V (λρ h=>Yl.min2 (h _ _ V) (h _ _ V)) ?_);refine C 2 V (As (v:=iV (max p0 p1)) V (λρ h=>Yl.max2 (h _ _ V) (h _ _ V)) ?_);refine C 5 V (As (v:=.agg (([1,2,4,8]:List Nat).map λx=>Value.int .u32 ((x:Nat):Int)).toArray) V (λρ h=>Wn h underlying187 (B4 type187) (AB type86) V V) ?_);let⟨al,Y,Z⟩:=bs K;refine C 1 V (Ce Y V V V ?_);let⟨am,aa,ab⟩:=bs Z;refine Xi (Wb (E:=E) ([1,2,4,8]:List Nat)) aa V V V V V underlying187 (AB type86) (B5 underlying86) ?_ (λ_=>V);rintro _ rfl;let⟨an,ae,ag⟩:=bs ab;refine C 1 V (As V (λρ h=>QU (h _ _ V) (h _ _ V) ae) ?_);let⟨ah,ai,aj⟩:=bs ag;refine As (v:=.int .u32 ((ah:Nat):Int)) V (λρ h=>Tl (h _ _ V) (h _ _ V) ai) (C 2 V ?_);cases aj;exact AU func91 V V (U BR V ⟨V,V⟩ O)
def f136(fu_:Nat)(p0:Nat)(p1:Int)(p2:Int):Option Bool:=(f106 fu_ p1 p2).bind λK=>(OU p0 K).bind λO=>some (decide ((((O):Nat):Int)≠(((0):Nat):Int)))
theorem WK{p0:Nat}{p2:Int}{r:Bool}(K:f136 fu_ p0 p1 p2=some r):AO J 80 [.int .u32 ((p0:Nat):Int),iV p1,iV p2] E [] (λw E' B'=>w=.bool r/\B'=[]):=by
 refine Bd func80 λQ ai cs H O U=>?_;unfold f136 at K;let⟨aj,Y,Z⟩:=bs K;refine C 9 V (CX (W8 Y) V V (A0 func91 V) O λak aa ab=>?_);let⟨ae,ag,ah⟩:=bs Z;refine As (v:=.int .u32 ((ae:Nat):Int)) V (λρ h=>TZ (h _ _ V) (h _ _ V) ag) (C 3 V ?_);cases ah;exact AU func80 V V (U aa V ⟨V,V⟩ ab)
def MH(fu_:Nat)(O:(BK)×Int)(K:(BK)×Int):Option (Bl ((BK)×Int) ((BK))):=if K.2<O.2 then((room K.1 (K.2,O.2)).bind λU=>(AG (K.2+1)).bind λY=>some (.more (U,Y))) else(some (.done K.1))
def Mz(fu_:Nat)(p0:Bz)(K:(BK)×Int):Option (Bl ((BK)×Int) ((BK))):=if K.2<(p0.1.length:Int) then(Option.bind (iter (MH fu_ K) fu_ (K.1,0)) λO=>(AG (K.2+1)).bind λU=>some (.more (O,U))) else(some (.done K.1))
def f133(fu_:Nat)(p0:Bz):Option ((BK)):=Option.bind (iter (Mz fu_ p0) fu_ ([],0)) λK=>some K
theorem X2(bA:Ak (rL rI) E a1 c2 p0.1)(bB:Ak A3 E aw ay p0.2){r:(BK)}(az:f133 fu_ p0=some r):AO J 77 [.agg #[sV a1 p0.1 c2,sV aw p0.2 ay]] E [] (λw E' B'=>∃(aA:Ao) (aB:Nat),w= sV aA r aB/\B'=[]/\Ak Cp E' aA aB r):=by
 refine Bd func77 λQ bC cs H aL aM=>?_;unfold f133 at az;refine C 2 V (BZ aL λbD ao aN aO aP=>?_);refine C 9 V (Bg underlying73 G6 V V V ?_);refine Br 0 aO underlying37 EI GA ?_;refine JL.ln underlying23 V V V ?_;let⟨aC,aQ,aR⟩:=bs az;refine C 2 V (BF (λL s=>∃(ap:LH) (ah:Ao) (ai:Nat) (aq:Seg),Jn ao H ap [aq] [(3,sV ah aC ai)] L s (OL 166 Cp ap ah ai aq aC)) ?_ ?_);rintro _ _ ⟨ap,ah,ai,aq,rfl,rfl,aS,aT,aU⟩;refine C 5 V (Cj 0 aU aT V λbE aV aW aX=>?_);cases aR;exact AU func77 V V (aM ((aN.M aS).M aV) V ⟨ah,ai,V,V,aW⟩ aX);intro aY;refine JL.block (Es aQ (λL s K=>∃(O:LH) (Y:Ao) (Z:Nat) (aa:Seg),Jn ao H O [aa] [(3,sV Y K.1 Z),(9,iV (p0.1.length:Int)),(10,iV K.2)] L s (OL 166 Cp O Y Z aa K.1)) ⟨ao,none,0,[],V,V,BR,aP,OL.nil⟩ ?_);rintro _ _ K ⟨O,Y,Z,aa,rfl,rfl,aD,aE,aF⟩ aZ ⟨bF,ar⟩ a0;have aG:=ar;unfold Mz at aG;refine C 5 V (AX aG (λa2 a3=>?_) (λa2 a4=>?_));let⟨au,a5,a6⟩:=bs a3;refine C 13 V (BF (λL s=>∃(aj:LH) (ak:Ao) (al:Nat) (am:Seg),Jn O H aj [am] [(3,sV ak au al),(9,iV (p0.1.length:Int)),(10,iV K.2)] L s (OL 166 Cp aj ak al am au)) ?_ ?_);rintro _ _ ⟨aj,ak,al,am,rfl,rfl,a7,a8,a9⟩;let⟨ba,bb,be⟩:=bs a6;refine C 2 V (Bi bb V V V ?_);refine C 2 V ?_;cases be;exact AP (a0 _ _ (au,ba) ⟨aj,ak,al,am,V,V,(aD.M a7),a8,a9⟩ ar) V;intro bf;refine JL.block (Es a5 (λL s U=>∃(ab:LH) (ae:Ao) (ag:Nat) (an:Seg),Jn O H ab [an] [(3,sV ae U.1 ag),(4,iV K.2),(9,iV (p0.1.length:Int)),(10,iV K.2),(13,iV K.2),(14,iV U.2)] L s (OL 166 Cp ab ae ag an U.1)) ⟨O,Y,Z,aa,V,V,BR,aE,aF⟩ ?_);rintro _ _ U ⟨ab,ae,ag,an,rfl,rfl,aH,aI,aJ⟩ bg ⟨bG,av⟩ bh;have aK:=av;unfold MH at aK;refine C 5 V (AX aK (λbi bj=>?_) (λbi bl=>?_));refine C 12 V (As (v:=.agg #[iV U.2,iV K.2]) V (λρ h=>BB [(0,1),(1,1)] h JN underlying166 ⟨V,AB type3,V,AB type3,trivial⟩ V V) ?_);let⟨bm,bn,bo⟩:=bs bj;refine JS.app (pp:=Cp) (v:=.agg #[iV U.2,iV K.2]) (a:=ae) (c:=ag) 0 bn V V V V (λ_=>V) V (λ_=>V) V V V underlying159 underlying159 underlying159 Fg (Cy type166) JN V (by decide) (by decide) (by decide) (by decide) aJ ⟨_,_,V,V,V⟩ aI V λbH bp bq br bu bv=>?_;let⟨bw,bx,bz⟩:=bs bo;refine C 4 V (Bi bx V V V ?_);refine C 2 V ?_;cases bz;exact AP (bh _ _ (bm,bw) ⟨ab,bp,bq,br,V,V,aH,bv,bu⟩ av) V;refine JL.exit V ?_;cases bl;obtain rfl:=bg _ av;exact AP (bf _ _ ⟨ab,ae,ag,an,V,V,aH,aI,aJ⟩) V;refine JL.exit V ?_;cases a4;obtain rfl:=aZ _ ar;exact AP (aY _ _ ⟨O,Y,Z,aa,V,V,aD,aE,aF⟩) V
def f113(fu_:Nat)(p0:Int×Int×Int)(p1:Int×Int×Int):Option Int:=if p0.1≠p1.1 then((AG (p0.1 - p1.1)).bind λK=>some K) else(if p0.2.1≠p1.2.1 then((AG (p0.2.1 - p1.2.1)).bind λO=>some O) else((AG (p0.2.2 - p1.2.2)).bind λU=>some U))
theorem Rj{p0 p1:Int×Int×Int}{r:Int}(ab:f113 fu_ p0 p1=some r):AO J 46 [.agg #[iV p0.1,iV p0.2.1,iV p0.2.2],.agg #[iV p1.1,iV p1.2.1,iV p1.2.2]] E [] (λw E' B'=>w=iV r/\B'=[]):=by
 refine Bd func46 λQ av cs H ae Y=>?_;unfold f113 at ab;refine C 2 V (BZ ae λr2 aw Z O ag=>?_);refine BZ ag λay az K U aa=>?_;refine C 6 V (Br 0 (O.Ad K) underlying42 AE AJ ?_);refine Br 0 U underlying42 AE AJ ?_;refine C 3 V (AX ab (λah ai=>?_) (λah aj=>?_));refine C 2 V (Br 0 (O.Ad K) underlying42 AE AJ ?_);refine Br 0 U underlying42 AE AJ ?_;let⟨aA,ak,al⟩:=bs ai;refine Ce ak V V V (C 2 V ?_);cases al;exact AU func46 V V (Y (Z.M K) V ⟨V,V⟩ aa);refine C 2 V (Br 1 (O.Ad K) underlying42 AE AJ ?_);refine Br 1 U underlying42 AE AJ ?_;refine C 3 V (AX aj (λam an=>?_) (λam ao=>?_));refine C 2 V (Br 1 (O.Ad K) underlying42 AE AJ ?_);refine Br 1 U underlying42 AE AJ ?_;let⟨aB,ap,aq⟩:=bs an;refine Ce ap V V V (C 2 V ?_);cases aq;exact AU func46 V V (Y (Z.M K) V ⟨V,V⟩ aa);refine C 4 V (Br 2 (O.Ad K) underlying42 AE AJ ?_);refine Br 2 U underlying42 AE AJ ?_;let⟨aC,ar,au⟩:=bs ao;refine Ce ar V V V (C 2 V ?_);cases au;exact AU func46 V V (Y (Z.M K) V ⟨V,V⟩ aa)
def M6(fu_:Nat)(p0:List Int)(K:Int×Int):Option (Bl (Int×Int) Int):=if K.2<(p0.length:Int) then((ix p0 K.2).bind λO=>(AG (K.1+O)).bind λU=>(AG (K.2+1)).bind λY=>some (.more (U,Y))) else(some (.done K.1))
def f85(fu_:Nat)(p0:List Int):Option Int:=Option.bind (iter (M6 fu_ p0) fu_ (0,0)) λK=>some K
theorem Hj{p0:List Int}(ab:Ak rI E a1 c2 p0){r:Int}(Y:f85 fu_ p0=some r):AO J 95 [sV a1 p0 c2] E [] (λw E' B'=>w=iV r/\B'=[]):=by
 refine Bd func95 λQ aE cs H ae ag=>?_;unfold f85 at Y;refine C 12 V (JL.ln underlying22 V V V ?_);let⟨ah,ai,aj⟩:=bs Y;refine C 2 V (Gq [] [(3,iV ah)] (λaF ak al=>?_) (λam=>?_));refine C 5 V ?_;cases aj;exact AU func95 V V (ag ak V ⟨V,V⟩ al);refine JL.block (Dj ai (λK=>[]) (λK=>[(3,iV K.1),(6,sV a1 p0 c2),(7,iV (p0.length:Int)),(8,iV K.2)]) BR ae ?_);rintro K aG O Z an ⟨aH,U⟩ ao;have aa:=U;unfold M6 at aa;refine C 5 V (AX aa (λap aq=>?_) (λap ar=>?_));let⟨aI,au,av⟩:=bs aq;refine C 5 V (JS.ix (ab.Ad O) au underlying22 AE ?_);rintro aJ aK _ rfl aw;refine Bu 0 aw AJ V V V ?_;let⟨ay,az,aA⟩:=bs av;refine C 5 V (Bi az V V V ?_);let⟨aB,aC,aD⟩:=bs aA;refine C 4 V (Bi aC V V V ?_);refine C 2 V ?_;cases aD;exact ao (ay,aB) O Z V U;refine JL.exit V ?_;cases ar;obtain rfl:=an _ U;exact am O Z V
end Pal
namespace Pal
open Go Go.Conc
variable {P:Program}{Q:Gs_}{b:Frame}{n:Nat}{ds:Ld_}{ops:Ao_}{k:Li_}{cs:Lf_}{L:Env}{E H:LH}{S:List Seg}
variable {d:Option Tmp}{x w:Operand}{t u ty:TypeId}{p:String}{af:Ae_}{g:On_}{rest:List Nat}{s:St}{ρ:Operand->Value}
variable{α:Type}{bk kk o:Nat}{ws:Lv_}{hi:Int}
section
variable {J:Judge P}
variable {y:Operand}{e:TypeId}{i:Nat}
theorem Ak.YX{pp:Rp α}{xs ys:List α}(U:At E bk o ws)(O:(rA kk pp).r E ws xs)(hC:EY xs 0 hi=some ys):Ak pp E (some ⟨bk,o,none⟩) kk ys:=by
 have ab:=O.1;unfold EY at hC;split at hC
 .rename_i hb;cases hC;refine⟨by simp;omega,.inr ⟨bk,o,V,λq z K=>?_⟩⟩;simp only[Int.toNat_zero,List.drop_zero,l5] at K;split at K
  .have Y:ix xs (q:Int)=some z:=by unfold ix;rw[d5 (by omega)];simpa using K
   let⟨us,Z,aa,_,_⟩:=HM O U Y;exact⟨us,Z,by simpa using aa⟩
  .cases K
 .cases hC
theorem QV{pp:Rp α}{xs ys:List α}(U:At E bk o ws)(K:(rA kk pp).r E ws xs)(hC:EY xs 0 hi=some ys)
  (Y:ops[i]?=some ⟨d,.slice t x none (some w) none,ty,p,af,g⟩) (hw:AQ L ops ⟨d,.slice t x none (some w) none,ty,p,af,g⟩=some true) (Z:BH b n ⟨d,.slice t x none (some w) none,ty,p,af,g⟩=true)
  (aa:ev L x=some (.pointer (some ⟨bk,o,none⟩))) (ab:ev L w=some (iV hi)) (ae:P.underlying t=some (.array kk e)) (ag:A5 P e=some pp.n)
  (h:Ak pp E (some ⟨bk,o,none⟩) kk ys->JL J Q b n (Az L d (.slice (some ⟨bk,o,none⟩) ys.length kk)) ds (.inRegion ops rest::k) cs s):
  JL J Q b n L ds (.inRegion ops (i::rest)::k) cs s:=by
 have ah:=Ak.YX U K hC;have ak:=K.1;refine Aj Y hw Z (λρ O=>?_) (h ah);refine EJ (sm:=Instr.sliceAt t (ρ x) none (some (ρ w)) none) V ?_;rw[O _ _ aa,O _ _ ab];unfold EY at hC;split at hC
 .rename_i hb;cases hC;obtain⟨al,am,an⟩:=hb;unfold Instr.sliceAt;refine Av _ _ (B6 ae ?_);simp only[Instr.sureAddr,bind,Sem.bind,pure];have ai:Instr.sliceBounds false kk kk none (some (iV hi)) none=(pure (0,hi.toNat,kk):Sem _):=by
   simp only[Instr.sliceBounds,Instr.sliceBound,asIntOf,bind,Sem.bind,pure];rw[d5 (by omega)];rfl
  rw[ai];simp only[pure,Sem.bind];refine Av (x:=Go.sizeOf e) _ (DO ag ?_);have aj:(if kk=0 then(⟨bk,o,none⟩:Addr) else Addr.add ⟨bk,o,none⟩ (0*pp.n))=⟨bk,o,none⟩:=by
   split;rfl;rw[CV rfl];simp
  rw[aj];have e2:((xs.take hi.toNat).drop (0:Int).toNat).length=hi.toNat - 0:=by simp;omega
  rw[e2];exact⟨V,V⟩
 .cases hC
end
open Go.Proofs Go.Proofs.Tryz
variable {J:Judge Tryz.prog}
def Rh(fu_:Nat)(p0:Bz)(p1:List Int)(K:Int):Option (Bl Int ((Bz×Int)⊕(Unit))):=if K<(p1.length:Int) then((ix p1 K).bind λO=>(AG ((p0.1.length:Int) - 1)).bind λU=>(f91 fu_ O 0 U).bind λY=>if(!Y)=true then(some (.done (Sum.inl (([],[]),3)))) else((AG (K+1)).bind λZ=>some (.more Z))) else(some (.done (Sum.inr ())))
def f70(fu_:Nat)(p0:Bz)(p1:List Int):Option (Bz×Int):=(f47 fu_ p0).bind λK=>if K≠0 then(some (([],[]),K)) else(Option.bind (iter (Rh fu_ p0 p1) fu_ 0) λO=>Sum.elim (λr=>some r) (λaa=>Option.bind (if(p1.length:Int)=2 then((ix p1 (0)).bind λU=>(ix p1 (1)).bind λY=>some (decide (U=Y))) else(some false)) λZ=>if Z=true then(some (([],[]),8)) else(some (p0,0))) O)
variable{a1:Ao}{c2 fu_:Nat}
theorem RS{Y:Ao}{Z:Nat}{ae:Ao}{ag:Nat}{p0:Bz}{p1:List Int}(aq:Ak (rL rI) E a1 c2 p0.1)(ar:Ak A3 E Y Z p0.2)(ak:Ak rI E ae ag p1){r:Bz×Int}(au:f70 fu_ p0 p1=some r):AO J 21 [.agg #[sV a1 p0.1 c2,sV Y p0.2 Z],sV ae p1 ag] E [] (λw E' B'=>∃(av:Ao) (aw:Nat) (ay:Ao) (az:Nat),w=.tuple #[.agg #[sV av r.1.1 aw,sV ay r.1.2 az],iV r.2]/\B'=[]/\Ak (rL rI) E' av aw r.1.1/\Ak A3 E' ay az r.1.2):=by
 refine Bd func21 λQ bM cs H aR ai=>?_;unfold f70 at au;refine C 2 V (BZ aR λal bN K am aS=>?_);refine BO aS I2 λab aT=>?_;refine C 5 V (Cu am JH G6 V V ?_);obtain⟨aA,aU,aV⟩:=bs au;refine CX (Yd (aq.Ad K) (ar.Ad K) aU) V V (A0 func42 V) aT λaW O aB=>C 7 V (AX aV (λaX aY=>?_) (λaX aZ=>?_));refine C 2 V (As (v:=.agg #[nS,nS]) V (λρ h=>BB [(0,2)] h I2 underlying73 ⟨V,AB type37,trivial⟩ V V) ?_);refine C 1 V (Bf 2 aB EN λaC=>?_);refine C 2 V ?_;cases aY;refine JL.ret (v:=.tuple #[.agg #[nS,nS],iV aA]) V V (Bq.list func21 V (vs:=[.agg #[nS,nS],iV aA]) ⟨⟨_,V,Ld.many (vs:=[nS,nS]) G1 EN (Gg (off:=0) 2 aC V V)⟩,V,trivial⟩) (CB 2 aC V λa0=>?_);exact ai (K.M O) V ⟨none,0,none,0,V,V,Ak.nil,Ak.nil⟩ a0;refine C 5 V (JL.ln underlying22 V V V ?_);let⟨aD,a2,aE⟩:=bs aZ;refine C 2 V (BF (λL s=>∃(aF:Unit) (an:LH),aD=Sum.inr aF/\Jm aW H an [bX ab #[nS,nS] 73] [(1,sV ae p1 ag),(2,Ax al 0),(4,Ax ab 0)] L s) ?_ ?_);rintro _ _ ⟨aF,an,rfl,rfl,rfl,aa,aG⟩;have a3:=elim_inr aE;refine C 2 V (Dk 12 λU=>?_);refine Ct 0 U V V (AZ 1 U V V (λρ h s' bO=>Yl.len V underlying22 (h _ _ V)) ?_);refine Bv U V [2,3] V ?_;let⟨a4,aH,a5⟩:=bs a3;refine Ib 0 (tR_ 12 0) (λL s=>L=[(2,Ax al 0),(4,Ax ab 0),(41,.bool a4)]/\s=Ah an H [bX ab #[nS,nS] 73]) ?_ ?_;rintro _ _ ⟨rfl,rfl⟩;refine AI.fin (by decide+kernel) (CI a5 (λa6 a7=>?_) (λa6 a8=>?_));refine C 2 V (As (v:=.agg #[nS,nS]) V (λρ h=>BB [(0,2)] h I2 underlying73 ⟨V,AB type37,trivial⟩ V V) ?_);refine Bf 0 aG EN λaI=>?_;refine C 2 V ?_;cases a7;refine JL.ret (v:=.tuple #[.agg #[nS,nS],iV 8]) V V (Bq.list func21 V (vs:=[.agg #[nS,nS],iV 8]) ⟨⟨_,V,Ld.many (vs:=[nS,nS]) G1 EN (Gg (off:=0) 0 aI V V)⟩,V,trivial⟩) (CB 0 aI V λa9=>?_);exact ai ((K.M O).M aa) V ⟨none,0,none,0,V,V,Ak.nil,Ak.nil⟩ a9;refine C 3 V (Cu (am.Ad (O.M aa)) JH G6 V V ?_);refine As (v:=.agg #[sV a1 p0.1 c2,sV Y p0.2 Z]) V (λρ h=>BB [(0,2)] h I2 underlying73 ⟨V,AB type37,trivial⟩ V V) (Bf 0 aG EN λaJ=>?_);refine C 2 V ?_;cases a8;refine JL.ret (v:=.tuple #[.agg #[sV a1 p0.1 c2,sV Y p0.2 Z],iV 0]) V V (Bq.list func21 V (vs:=[.agg #[sV a1 p0.1 c2,sV Y p0.2 Z],iV 0]) ⟨⟨_,V,Ld.many (vs:=[sV a1 p0.1 c2,sV Y p0.2 Z]) G1 EN (Gg (off:=0) 0 aJ V V)⟩,V,trivial⟩) (CB 0 aJ V λba=>?_);exact ai ((K.M O).M aa) V ⟨a1,c2,Y,Z,V,V,(aq.Ad ((K.M O).M aa)),(ar.Ad ((K.M O).M aa))⟩ ba;intro aK;refine Mc (q:=(p1.length:Int)=2) (i:=33) V (λao=>?_) (λao=>?_);have bb:=ip aH ao;refine Ct 4 U V V ?_;let⟨bP,be,bf⟩:=bs bb;refine FJ 5 (ak.Ad ((K.M O).M aa)) be U underlying22 AE ?_;rintro bQ bR _ rfl bg;refine BM 6 U 0 bg AJ V V V V ?_;refine Ct 7 U V V ?_;let⟨bS,bh,bi⟩:=bs bf;refine FJ 8 (ak.Ad ((K.M O).M aa)) bh U underlying22 AE ?_;rintro bT bU _ rfl bj;refine BM 9 U 0 bj AJ V V V V ?_;refine Bv U V [10,11] V ?_;cases bi;refine G8 ?_ (aK _ _ ⟨V,V⟩);exact⟨V,V,V,trivial⟩;have bl:=im aH ao;refine Bv U V [4,5,6,7,8,9,10,11] V ?_;cases bl;refine G8 ?_ (aK _ _ ⟨V,V⟩);exact⟨V,V,V,trivial⟩;intro bm;refine JL.block (Dj a2 (λap=>[bX ab #[nS,nS] 73]) (λap=>[(1,sV ae p1 ag),(2,Ax al 0),(4,Ax ab 0),(15,sV ae p1 ag),(16,iV (p1.length:Int)),(17,iV ap)]) BR aB ?_);rintro ap bn ah aL aM ⟨bV,aj⟩ bo;have aN:=aj;unfold Rh at aN;refine C 5 V (AX aN (λbp bq=>?_) (λbp br=>?_));let⟨bW,bu,bv⟩:=bs bq;refine C 5 V (JS.ix (ak.Ad ((K.M O).M ah)) bu underlying22 AE ?_);rintro bY bZ _ rfl bw;refine Bu 0 bw AJ V V V (C 5 V ?_);refine Br 0 (am.Ad (O.M ah)) underlying37 EI GA ?_;refine JL.ln underlying23 V V V ?_;let⟨b0,bx,bz⟩:=bs bv;refine Ce bx V V V ?_;let⟨bA,bB,bC⟩:=bs bz;refine CX (La bB) V V KF aL λb1 aO aP=>As (v:=.bool (!bA)) V (λρ h=>Yl.not (h _ _ V)) (JL.done ?_);refine CI bC (λbD bE=>?_) (λbD bF=>?_);refine C 2 V (As (v:=.agg #[nS,nS]) V (λρ h=>BB [(0,2)] h I2 underlying73 ⟨V,AB type37,trivial⟩ V V) ?_);refine Bf 0 aP EN λaQ=>?_;refine C 2 V ?_;cases bE;obtain rfl:=aM _ aj;have bG:=elim_inl aE;cases bG;refine JL.ret (v:=.tuple #[.agg #[nS,nS],iV 3]) V V (Bq.list func21 V (vs:=[.agg #[nS,nS],iV 3]) ⟨⟨_,V,Ld.many (vs:=[nS,nS]) G1 EN (Gg (off:=0) 0 aQ V V)⟩,V,trivial⟩) (CB 0 aQ V λbH=>?_);exact ai (((K.M O).M ah).M aO) V ⟨none,0,none,0,V,V,Ak.nil,Ak.nil⟩ bH;let⟨bI,bJ,bK⟩:=bs bF;refine C 3 V (Bi bJ V V V ?_);refine C 2 V ?_;cases bK;exact bo bI (ah.M aO) aP V aj;refine JL.exit V ?_;cases br;have bL:aD=(Sum.inr ()):=(aM _ aj).symm;exact AP (bm _ _ ⟨(),bn,bL,V,V,ah,aL⟩) V
def Lb(fu_:Nat)(p0:List Int):Option ((List Int)):=(CJ ([]:List Int) p0).bind λK=>some K
variable{ad:Addr}
theorem WR{p0:List Int}(Y:Ak rI E (some ad) c2 p0){r:(List Int)}(K:Lb fu_ p0=some r):AO J 23 [.slice (some ad) p0.length c2] E [] (λw E' B'=>∃(O:Ao) (U:Nat) (g0:Seg),w= sV O r U/\B'=g0/\OL 3 rI E' O U g0 r):=by
 refine Bd func23 λQ an cs H Z aa=>?_;unfold Lb at K;refine C 8 V (As (v:=.bool false) V (λρ h=>JW (a:=(some ad)) underlying22 (h _ _ V) (h _ _ V)) ?_);refine C 5 V (OA (pp:=rI) V V V underlying22 AE Z λr1 g2 ab ae=>?_);let⟨ao,ag,ah⟩:=bs K;refine C 1 V (G9 (pp:=rI) 1 ag V V V V V V V underlying22 underlying22 AE (Cy type3) DL V (by decide) (by decide) ab Y ae V λai aj ak al am=>?_);refine C 2 V ?_;cases ah;exact AU func23 V V (aa BR V ⟨ai,aj,ak,V,(by first | rfl | simp | (simp[Value.cells])),al⟩ am)
def Sd(fu_:Nat)(p0:List Int):Option ((List Int)):=some ([])
theorem XB{p0:List Int}(aa:Ak rI E none c2 p0){r:(List Int)}(K:Sd fu_ p0=some r):AO J 23 [sV none p0 c2] E [] (λw E' B'=>∃(O:Ao) (U:Nat) (g0:Seg),w= sV O r U/\B'=g0/\OL 3 rI E' O U g0 r):=by
 refine Bd func23 λQ ab cs H Y Z=>?_;unfold Sd at K;refine C 8 V (As (v:=.bool true) V (λρ h=>JW (a:=none) underlying22 (h _ _ V) (h _ _ V)) ?_);refine C 6 V ?_;cases K;exact AU func23 V V (Z BR V ⟨none,0,[],V,V,OL.nil⟩ Y)
def f87(fu_:Nat)(p0:List Int):Option (List Int):=Lb fu_ p0
theorem Yv{p0:List Int}(O:Ak rI E a1 c2 p0){r:List Int}(K:f87 fu_ p0=some r):AO J 23 [.slice a1 p0.length c2] E [] (λw E' B'=>∃(U:Ao) (Y:Nat) (g0:Seg),w=.slice U r.length Y/\B'=g0/\OL 3 rI E' U Y g0 r):=by
 cases a1 with
 | some ad=>exact WR O K
 | none=>
  have Z:p0=[]:=by
   rcases O.2 with h | ⟨_,_,h,_⟩;exact h.1;cases h
  subst Z;have aa:r=[]:=by
   have ab:Lb fu_ []=some []:=V;unfold f87 at K;rw[ab] at K;exact(d6 K).symm
  subst aa;exact XB (fu_:=fu_) O V
def K9(fu_:Nat)(p0:AS):Option (AS):=(CJ ([]:AS) p0).bind λK=>some K
variable{p0 r:AS}
theorem VZ(Y:Ak A3 E (some ad) c2 p0)(K:K9 fu_ p0=some r):AO J 98 [.slice (some ad) p0.length c2] E [] (λw E' B'=>∃(O:Ao) (U:Nat) (g0:Seg),w= sV O r U/\B'=g0/\OL 42 A3 E' O U g0 r):=by
 refine Bd func98 λQ an cs H Z aa=>?_;unfold K9 at K;refine C 8 V (As (v:=.bool false) V (λρ h=>JW (a:=(some ad)) underlying80 (h _ _ V) (h _ _ V)) ?_);refine C 5 V (OA (pp:=A3) V V V underlying80 BA Z λr1 g2 ab ae=>?_);let⟨ao,ag,ah⟩:=bs K;refine C 1 V (G9 (pp:=A3) 1 ag V V V V V V V underlying80 underlying80 BA (Cy type42) BU V (by decide) (by decide) ab Y ae V λai aj ak al am=>?_);refine C 2 V ?_;cases ah;exact AU func98 V V (aa BR V ⟨ai,aj,ak,V,(by first | rfl | simp | (simp[Value.cells])),al⟩ am)
def RJ(fu_:Nat)(p0:AS):Option (AS):=some ([])
theorem V0(aa:Ak A3 E none c2 p0)(K:RJ fu_ p0=some r):AO J 98 [sV none p0 c2] E [] (λw E' B'=>∃(O:Ao) (U:Nat) (g0:Seg),w= sV O r U/\B'=g0/\OL 42 A3 E' O U g0 r):=by
 refine Bd func98 λQ ab cs H Y Z=>?_;unfold RJ at K;refine C 8 V (As (v:=.bool true) V (λρ h=>JW (a:=none) underlying80 (h _ _ V) (h _ _ V)) ?_);refine C 6 V ?_;cases K;exact AU func98 V V (Z BR V ⟨none,0,[],V,V,OL.nil⟩ Y)
def f129(fu_:Nat)(p0:AS):Option AS:=K9 fu_ p0
theorem Xw(O:Ak A3 E a1 c2 p0)(K:f129 fu_ p0=some r):AO J 98 [.slice a1 p0.length c2] E [] (λw E' B'=>∃(U:Ao) (Y:Nat) (g0:Seg),w=.slice U r.length Y/\B'=g0/\OL 42 A3 E' U Y g0 r):=by
 cases a1 with
 | some ad=>exact VZ O K
 | none=>
  have Z:p0=[]:=by
   rcases O.2 with h | ⟨_,_,h,_⟩;exact h.1;cases h
  subst Z;have aa:r=[]:=by
   have ab:K9 fu_ []=some []:=V;unfold f129 at K;rw[ab] at K;exact(d6 K).symm
  subst aa;exact V0 (fu_:=fu_) O V
def f43(fu_:Nat)(p0:Bz):Option ((List Int)×Int):=(f70 fu_ p0 ([])).bind λK=>if K.2≠0 then(some ([],K.2)) else((f84 fu_ K.1).bind λO=>(EY O 0 (p0.1.length:Int)).bind λU=>(f87 fu_ U).bind λY=>some (Y,0))
theorem Yp{aa:Ao}{dep:Nat}{p0:Bz}(ap:Ak (rL rI) E a1 c2 p0.1)(aq:Ak A3 E aa dep p0.2){r:(List Int)×Int}(ae:f43 fu_ p0=some r):AO J 8 [.agg #[sV a1 p0.1 c2,sV aa p0.2 dep]] E [] (λw E' B'=>∃(ag:Ao) (ah:Nat),w=.tuple #[sV ag r.1 ah,iV r.2]/\B'=[]/\Ak rI E' ag ah r.1):=by
 refine Bd func8 λQ a0 cs H ar ai=>?_;unfold f43 at ae;refine C 2 V (BZ ar λa2 a3 U aj au=>?_);refine C 5 V (Cu aj JH G6 V V ?_);let⟨a4,av,aw⟩:=bs ae;refine C7 (RS (ap.Ad U) (aq.Ad U) Ak.nil av) V V (A0 func21 V) au ?_;rintro _ a5 _ Y ⟨a6,a7,a8,a9,rfl,rfl,ay,az⟩ aA;refine C 3 V (BO aA I2 λba aB=>?_);refine Bf 3 aB EN λaC=>?_;refine Cw 3 aC V λbb K aD ak=>C 8 V (AX aw (λaE aF=>?_) (λaE aG=>?_));refine C 6 V ?_;cases aF;exact AU func8 V V (ai ((U.M Y).M K) V ⟨none,0,V,V,Ak.nil⟩ ak);refine C 3 V (Cu aD G1 EN V V ?_);let⟨be,aH,aI⟩:=bs aG;refine C7 (RP (ay.Ad K) (az.Ad K) aH) V V (A0 func22 V) ak ?_;rintro _ al _ am ⟨Z,rfl,rfl,O⟩ aJ;refine BO aJ JR λbf aK=>?_;refine ES (v:=.agg Z.toArray) (l:=[]) (ws:=(List.replicate 5 (iV 0):Lv_)) (us:=Z) (o:=0) 5 V V V aK V V V (by rw[BC (kk:=5) (pp:=rI) O];exact AB type77) ((rA 5 rI).one O) V (by rw[BC (kk:=5) (pp:=rI) O,BC (kk:=5) (pp:=rI) (Gm (E:=al) (pp:=rI) rfl)];omega) λan=>?_;rw[H8 (by rw[BC (kk:=5) (pp:=rI) O,BC (kk:=5) (pp:=rI) (Gm (E:=al) (pp:=rI) rfl)])] at an ⊢;refine C 3 V (Br 0 (aj.Ad ((Y.M K).M am)) underlying37 EI GA ?_);refine JL.ln underlying23 V V V (Cw 5 an V λbg ao aL aM=>?_);let⟨bh,aN,aO⟩:=bs aI;refine QV (ws:=Z) (pp:=rI) aL (Rp.Ad _ ao O) aN V V V V V underlying77 AE λaP=>?_;let⟨bi,aQ,aR⟩:=bs aO;refine C7 (Yv aP aQ) V V (A0 func23 V) aM ?_;rintro _ bj bl aS ⟨aT,aU,_,rfl,rfl,aV⟩ aW;refine C 3 V (Cj 6 aV aW V λbm aX aY aZ=>?_);cases aR;exact AU func8 V V (ai ((((((U.M Y).M K).M am).M ao).M aS).M aX) V ⟨aT,aU,V,V,aY⟩ aZ)
def MA(fu_:Nat)(p0:AS)(p1:AS)(K:Int):Option (Bl Int ((Int)⊕(Unit))):=if K<(p0.length:Int) then((ix p0 K).bind λU=>if(p1.length:Int)<=K then(some (.done (Sum.inl 1))) else((ix p1 K).bind λY=>(f113 fu_ U Y).bind λO=>if O≠0 then(some (.done (Sum.inl O))) else((AG (K+1)).bind λZ=>some (.more Z)))) else(some (.done (Sum.inr ())))
def f112(fu_:Nat)(p0:AS)(p1:AS):Option Int:=Option.bind (iter (MA fu_ p0 p1) fu_ 0) λK=>Sum.elim (λr=>some r) (λO=>if(p0.length:Int)<(p1.length:Int) then(some (-1)) else(some 0)) K
variable{p1:AS}
theorem XJ{U:Ao}{Y:Nat}(ay:Ak A3 E a1 c2 p0)(az:Ak A3 E U Y p1){r:Int}(ak:f112 fu_ p0 p1=some r):AO J 45 [sV a1 p0 c2,sV U p1 Y,(fV 46)] E [] (λw E' B'=>w=iV r/\B'=[]):=by
 refine Bd func45 λQ bg cs H aA Z=>?_;unfold f112 at ak;refine C 8 V (JL.ln underlying80 V V V ?_);let⟨al,aB,ab⟩:=bs ak;refine C 2 V (BF (λL s=>∃(am:Unit) (an:LH),al=Sum.inr am/\Jm E H an [] [(0,sV a1 p0 c2),(1,sV U p1 Y)] L s) ?_ ?_);rintro _ _ ⟨am,an,rfl,rfl,rfl,ao,ap⟩;have aC:=elim_inr ab;refine C 4 V (JL.ln underlying80 V V V ?_);refine C 1 V (JL.ln underlying80 V V V ?_);refine C 2 V (AX aC (λaD aE=>?_) (λaD aF=>?_));refine C 4 V ?_;cases aE;exact AU func45 V V (Z ao V ⟨V,V⟩ ap);refine C 5 V ?_;cases aF;exact AU func45 V V (Z ao V ⟨V,V⟩ ap);intro aG;refine JL.block (Dj aB (λae=>[]) (λae=>[(0,sV a1 p0 c2),(1,sV U p1 Y),(2,(fV 46)),(11,sV a1 p0 c2),(12,iV (p0.length:Int)),(13,iV ae)]) BR aA ?_);rintro ae aH K aq ag ⟨bh,O⟩ aI;have ar:=O;unfold MA at ar;refine C 5 V (AX ar (λaJ aK=>?_) (λaJ aL=>?_));let⟨ah,aM,aN⟩:=bs aK;refine C 6 V (JS.ix (ay.Ad K) aM underlying80 BA ?_);rintro bi bj _ ⟨_,_,rfl,rfl,⟨_,_,rfl,rfl,rfl⟩⟩ aO;refine Cu aO FB BA V V (BO aq BU λbl aP=>?_);refine C 1 V (Bf 0 aP BA λaQ=>?_);refine Cw 0 aQ V λbm aa aR au=>C 6 V (JL.ln underlying80 V V V ?_);refine C 2 V (AX aN (λaS aT=>?_) (λaS aU=>?_));refine C 4 V ?_;cases aT;obtain rfl:=ag _ O;have aV:=elim_inl ab;cases aV;exact AU func45 V V (Z (K.M aa) V ⟨V,V⟩ au);let⟨ai,aW,aX⟩:=bs aU;refine C 5 V (JS.ix (az.Ad (K.M aa)) aW underlying80 BA ?_);rintro bn bo _ ⟨_,_,rfl,rfl,⟨_,_,rfl,rfl,rfl⟩⟩ aY;refine Cu aY FB BA V V (BO au BU λbp aZ=>?_);refine Bf 1 aZ BA λa0=>?_;refine Cw 1 a0 V λbq aj a2 a3=>C 4 V (Cu (aR.Ad aj) FB BA V V ?_);refine Cu a2 FB BA V V ?_;let⟨br,a4,a5⟩:=bs aX;refine Ol (vs:=[.agg #[iV ah.1,iV ah.2.1,iV ah.2.2],.agg #[iV ai.1,iV ai.2.1,iV ai.2.2]]) (Rj a4) V V V V (A0 func46 V) V a3 ?_;rintro _ bu _ av ⟨rfl,rfl⟩ aw;refine C 7 V (AX a5 (λa6 a7=>?_) (λa6 a8=>?_));refine C 5 V ?_;cases a7;obtain rfl:=ag _ O;have a9:=elim_inl ab;cases a9;exact AU func45 V V (Z (((K.M aa).M aj).M av) V ⟨V,V⟩ aw);let⟨ba,bb,be⟩:=bs a8;refine C 3 V (Bi bb V V V ?_);refine C 2 V ?_;cases be;exact aI ba (((K.M aa).M aj).M av) aw V O;refine JL.exit V ?_;cases aL;have bf:al=(Sum.inr ()):=(ag _ O).symm;exact AP (aG _ _ ⟨(),aH,bf,V,V,K,aq⟩) V
def f74(fu_:Nat)(p0:AS)(p1:AS):Option Int:=(f112 fu_ p0 p1).bind λK=>some K
variable{aw:Ao}{O:Nat}
theorem Yk(Y:Ak A3 E a1 c2 p0)(Z:Ak A3 E aw O p1){r:Int}(U:f74 fu_ p0 p1=some r):AO J 27 [sV a1 p0 c2,sV aw p1 O] E [] (λw E' B'=>w=iV r/\B'=[]):=by
 refine Bd func27 λQ aj cs H aa ab=>?_;unfold f74 at U;let⟨ak,ae,ag⟩:=bs U;refine C 8 V (CX (XJ Y Z ae) V V (A0 func45 V) aa λal ah ai=>?_);refine C 2 V ?_;cases ag;exact AU func27 V V (ab ah V ⟨V,V⟩ ai)
def f73(fu_:Nat)(p0:AS)(p1:AS):Option Bool:=(f74 fu_ p0 p1).bind λK=>some (decide (K<0))
theorem Yt(Y:Ak A3 E a1 c2 p0)(Z:Ak A3 E aw O p1){r:Bool}(U:f73 fu_ p0 p1=some r):AO J 26 [sV a1 p0 c2,sV aw p1 O] E [] (λw E' B'=>w=.bool r/\B'=[]):=by
 refine Bd func26 λQ aj cs H aa ab=>?_;unfold f73 at U;let⟨ak,ae,ag⟩:=bs U;refine C 8 V (CX (Yk Y Z ae) V V (A0 func27 V) aa λal ah ai=>?_);refine C 3 V ?_;cases ag;exact AU func26 V V (ab ah V ⟨V,V⟩ ai)
def f72(fu_:Nat)(p0:AS×Bool)(p1:AS):Option ((AS×Bool)):=Option.bind (if(!p0.2)=true then(some true) else((f73 fu_ p1 p0.1).bind λK=>some K)) λO=>Option.bind (if O=true then(some (p1,true)) else(some p0)) λU=>some U
theorem YE{K:Ao}{p0:AS×Bool}(ah:Ak A3 E a1 c2 p0.1)(ai:Ak A3 E K O p1){r:(AS×Bool)}(aj:f72 fu_ p0 p1=some r):AO J 25 [Ax bk 0,sV K p1 O,(fV 26)] E [(bk,.cells #[sV a1 p0.1 c2,.bool p0.2] 82 (0,0))] (λw E' B'=>∃(ak:Ao) (al:Nat),w=.tuple #[]/\B'=[(bk,.cells #[sV ak r.1 al,.bool r.2] 82 (0,0))]/\Ak A3 E' ak al r.1):=by
 refine Bd func25 λQ aO cs H Y ap=>?_;unfold f72 at aj;refine C 4 V (Bg underlying82 EO V V V ?_);refine As (v:=.bool p0.2) V (λρ h=>Yl.load FC (h _ _ V) (Be (j:=0) (off:=1) Y V V)) (As (v:=.bool (!p0.2)) V (λρ h=>Yl.not (h _ _ V)) ?_);let⟨aq,ar,au⟩:=bs aj;refine C 1 V (GH [] (λL s=>∃(U:LH),Jm E H U [bX bk #[sV a1 p0.1 c2,.bool p0.2] 82] [(0,Ax bk 0),(1,sV K p1 O),(19,.bool aq)] L s) ?_ ?_);rintro _ _ ⟨U,rfl,rfl,ab,am⟩;let⟨ae,av,aw⟩:=bs au;refine JL.done (BF (λL s=>∃(ag:LH) (Z:Ao) (aa:Nat),Jn U H ag [bX bk #[sV Z ae.1 aa,.bool ae.2] 82] [] L s (Ak A3 ag Z aa ae.1)) ?_ ?_);rintro _ _ ⟨ag,Z,aa,rfl,rfl,ay,az,aA⟩;cases aw;exact JL.fin (v:=.tuple #[]) V V (Bq.list func25 V (vs:=[]) trivial) (ap (ab.M ay) V ⟨Z,aa,V,V,aA⟩ az);intro an;refine CI av (λaB aC=>?_) (λaB aD=>?_);refine C 5 V (Bg underlying82 H0 V V V ?_);refine Bf 0 am H0 λaE=>?_;refine C 1 V (Bg underlying82 EO V V V ?_);refine Bf 0 aE EO λaF=>?_;refine JL.done ?_;cases aC;exact AP (an _ _ ⟨U,K,O,V,V,BR,aF,(ai.Ad ab)⟩) V;refine JL.skip ?_;cases aD;exact AP (an _ _ ⟨U,a1,c2,V,V,BR,am,(ah.Ad ab)⟩) V;intro ao;refine DD 11 ar (λaG aH=>?_) (λaG aI=>?_);refine C 8 V ?_;cases aH;exact AP (ao _ _ ⟨E,V,V,BR,Y⟩) V;refine C 4 V (Bg underlying82 H0 V V V ?_);refine As (v:=sV a1 p0.1 c2) V (λρ h=>Yl.load FA (h _ _ V) (Be (j:=0) (off:=0) Y V V)) ?_;let⟨aP,aJ,aK⟩:=bs aI;refine Ol (vs:=[sV K p1 O,sV a1 p0.1 c2]) (Yt ai ah aJ) V V V V (A0 func26 V) V Y ?_;rintro _ aL _ aM ⟨rfl,rfl⟩ aN;refine C 1 V ?_;cases aK;exact AP (ao _ _ ⟨aL,V,V,aM,aN⟩) V
variable {J:Judge Tryz.prog}
variable {J:Judge Tryz.prog}
def Rq:List Nat:=[0,1,2,2,3,3,3,3,4,4,4,4,4,4,4,4,5,5,5,5,5,5,5,5,5,5,5,5,5,5,5,5,6,6,6,6,6,6,6,6,6,6,6,6,6,6,6,6,6,6,6,6,6,6,6,6,6,6,6,6,6,6,6,6,7,7,7,7,7,7,7,7,7,7,7,7,7,7,7,7,7,7,7,7,7,7,7,7,7,7,7,7,7,7,7,7,7,7,7,7,7,7,7,7,7,7,7,7,7,7,7,7,7,7,7,7,7,7,7,7,7,7,7,7,7,7,7,7,8,8,8,8,8,8,8,8,8,8,8,8,8,8,8,8,8,8,8,8,8,8,8,8,8,8,8,8,8,8,8,8,8,8,8,8,8,8,8,8,8,8,8,8,8,8,8,8,8,8,8,8,8,8,8,8,8,8,8,8,8,8,8,8,8,8,8,8,8,8,8,8,8,8,8,8,8,8,8,8,8,8,8,8,8,8,8,8,8,8,8,8,8,8,8,8,8,8,8,8,8,8,8,8,8,8,8,8,8,8,8,8,8,8,8,8,8,8,8,8,8,8,8,8,8,8,8,8]
def Pa(fu_:Nat)(p0:Nat):Option Int:=Option.bind (if(((4294967296):Nat):Int)<=(((p0):Nat):Int) then(some (p0>>>32,32)) else(some (p0,0))) λK=>Option.bind (if(((65536):Nat):Int)<=(((K.1):Nat):Int) then((AG (K.2+16)).bind λY=>some (K.1>>>16,Y)) else(some K)) λO=>Option.bind (if(((256):Nat):Int)<=(((O.1):Nat):Int) then((AG (O.2+8)).bind λZ=>some (O.1>>>8,Z)) else(some O)) λU=>(O9 Rq (((((U.1)%256):Nat):Int))).bind λaa=>(AG (((aa):Nat):Int)).bind λab=>(AG (U.2+ab)).bind λae=>some ae
theorem X9{p0:Nat}{r:Int}(Y:Pa fu_ p0=some r):AO J 111 [.int .u64 ((p0:Nat):Int)] E [] (λw E' B'=>w=iV r/\B'=[]):=by
 refine Bd func111 λQ aR cs H Z ai=>?_;unfold Pa at Y;let⟨K,aj,ak⟩:=bs Y;refine C 10 V (Gq [] [(0,.int .u64 ((K.1:Nat):Int)),(2,iV K.2)] (λaS al aa=>?_) (λab=>?_));let⟨O,am,an⟩:=bs ak;refine C 6 V (Gq [] [(0,.int .u64 ((O.1:Nat):Int)),(2,iV O.2)] (λaT ao ae=>?_) (λag=>?_));let⟨U,ap,aq⟩:=bs an;refine C 6 V (Gq [] [(0,.int .u64 ((U.1:Nat):Int)),(2,iV U.2)] (λaU ar au=>?_) (λah=>?_));refine C 4 V (As (v:=.int .u8 (((U.1)%256:Nat):Int)) V (λρ h=>Wy underlying54 underlying5 (h _ _ V)) ?_);let⟨av,aw,ay⟩:=bs aq;refine As (v:=.int .u8 ((av:Nat):Int)) V (λρ h=>Ub (l:=Rq) (by decide+kernel) underlying9 (h _ _ V) (h _ _ V) aw) ?_;let⟨az,aA,aB⟩:=bs ay;refine As (v:=iV az) V (λρ h=>Vp underlying5 underlying3 (h _ _ V) aA) ?_;obtain⟨aV,aC,aD⟩:=bs aB;refine Bi aC V V V (C 2 V ?_);cases aD;exact AU func111 V V (ai ((al.M ao).M ar) V ⟨V,V⟩ au);refine AX ap (λaE aF=>?_) (λaE aG=>?_);refine C 3 V (As (v:=.int .u64 ((O.1>>>8:Nat):Int)) V (λρ h=>Ka 8 (h _ _ V) (h _ _ V) (by decide)) ?_);let⟨aW,aH,aI⟩:=bs aF;refine C 4 V (Bi aH V V V ?_);refine C 2 V ?_;cases aI;exact ah BR ae V;refine JL.skip ?_;cases aG;exact ah BR ae V;refine AX am (λaJ aK=>?_) (λaJ aL=>?_);refine C 3 V (As (v:=.int .u64 ((K.1>>>16:Nat):Int)) V (λρ h=>Ka 16 (h _ _ V) (h _ _ V) (by decide)) ?_);let⟨aX,aM,aN⟩:=bs aK;refine C 4 V (Bi aM V V V ?_);refine C 2 V ?_;cases aN;exact ag BR aa V;refine JL.skip ?_;cases aL;exact ag BR aa V;refine AX aj (λaO aP=>?_) (λaO aQ=>?_);refine C 3 V (As (v:=.int .u64 ((p0>>>32:Nat):Int)) V (λρ h=>Ka 32 (h _ _ V) (h _ _ V) (by decide)) ?_);refine C 5 V ?_;cases aP;exact ab BR Z V;refine JL.skip ?_;cases aQ;exact ab BR Z V
def f115(fu_:Nat)(p0:Nat):Option Int:=(Pa fu_ p0).bind λK=>some K
theorem Rt{p0:Nat}{r:Int}(K:f115 fu_ p0=some r):AO J 101 [.int .u64 ((p0:Nat):Int)] E [] (λw E' B'=>w=iV r/\B'=[]):=by
 refine Bd func101 λQ ae cs H O U=>?_;unfold f115 at K;let⟨ag,Y,Z⟩:=bs K;refine C 10 V (CX (X9 Y) V V (A0 func111 V) O λah aa ab=>?_);refine C 2 V ?_;cases Z;exact AU func101 V V (U aa V ⟨V,V⟩ ab)
def ME(fu_:Nat)(p1:Int)(K:Int×AS):Option (Bl (Int×AS) (AS)):=Option.bind (if p1<K.1 then((ix K.2 K.1).bind λY=>(AG (K.1 - 1)).bind λZ=>(ix K.2 Z).bind λaa=>(f113 fu_ Y aa).bind λab=>some (decide (ab<0))) else(some false)) λae=>if ae=true then((AG (K.1 - 1)).bind λO=>(AG (K.1 - 1)).bind λag=>(ix K.2 ag).bind λU=>(ix K.2 K.1).bind λah=>(ix (K.2.set (Int.toNat K.1) U) O).bind λaj=>(AG (K.1 - 1)).bind λai=>some (.more (ai,((K.2.set (Int.toNat K.1) U).set (Int.toNat O) ah)))) else(some (.done K.2))
def Mw(fu_:Nat)(p1:Int)(p2:Int)(K:Int×AS):Option (Bl (Int×AS) (AS)):=if K.1<p2 then(Option.bind (iter (ME fu_ p1) fu_ K) λO=>(AG (K.1+1)).bind λU=>some (.more (U,O))) else(some (.done K.2))
def Ks(fu_:Nat)(p0:AS)(p1:Int)(p2:Int):Option (AS):=(AG (p1+1)).bind λK=>Option.bind (iter (Mw fu_ p1 p2) fu_ (K,p0)) λO=>some O
variable{K nw:Nat}{p2:Int}
theorem Xt{ar:Av_}{p1:Int}(hW:WL 42 A3 E K c2 nw ar p0)(aA:Ks fu_ p0 p1 p2=some r):AO J 102 [.slice (B2 K) nw c2,iV p1,iV p2,(fV 46)] E [(K,.cells ar 42 (0,0))] (λw E' B'=>∃(aB:Av_),w=.tuple #[]/\B'=[(K,.cells aB 42 (0,0))]/\WL 42 A3 E' K c2 nw aB r):=by
 refine Bd func102 λQ bU cs H aR aS=>?_;unfold Ks at aA;obtain⟨bV,aT,aU⟩:=bs aA;refine C 3 V (Bi aT V V V ?_);obtain⟨aV,aW,aX⟩:=bs aU;refine C 2 V (BF (λL s=>∃(au:LH) (f17:Av_),Jn E H au [bX K f17 42] [] L s (WL 42 A3 au K c2 nw f17 aV)) ?_ ?_);rintro _ _ ⟨au,f17,rfl,rfl,aY,aZ,a0⟩;cases aX;exact JL.fin (v:=.tuple #[]) V V (Bq.list func102 V (vs:=[]) trivial) (aS aY V ⟨f17,V,(by first | rfl | simp | (simp[Value.cells])),a0⟩ aZ);intro a1;refine JL.block (Es aW (λL s ag=>∃(ae:LH) (f25:Av_),Jn E H ae [bX K f25 42] [(0,.slice (B2 K) nw c2),(1,iV p1),(2,iV p2),(3,(fV 46)),(8,iV ag.1)] L s (WL 42 A3 ae K c2 nw f25 ag.2)) ⟨E,ar,V,V,BR,aR,hW⟩ ?_);rintro _ _ ag ⟨ae,f25,rfl,rfl,aC,aD,aE⟩ a2 ⟨bW,av⟩ a3;have aF:=av;unfold Mw at aF;refine C 7 V (AX aF (λa4 a5=>?_) (λa4 a6=>?_));let⟨aG,a7,a8⟩:=bs a5;refine C 8 V (BF (λL s=>∃(an:LH) (f48:Av_),Jn ae H an [bX K f48 42] [(0,.slice (B2 K) nw c2),(1,iV p1),(2,iV p2),(3,(fV 46)),(8,iV ag.1)] L s (WL 42 A3 an K c2 nw f48 aG)) ?_ ?_);rintro _ _ ⟨an,f48,rfl,rfl,a9,ba,bb⟩;let⟨be,bf,bg⟩:=bs a8;refine C 3 V (Bi bf V V V ?_);refine C 2 V ?_;cases bg;exact AP (a3 _ _ (be,aG) ⟨an,f48,V,V,(aC.M a9),ba,bb⟩ av) V;intro bh;refine JL.block (Es a7 (λL s ab=>∃(ak:LH) (f58:Av_),Jn ae H ak [bX K f58 42] [(0,.slice (B2 K) nw c2),(1,iV p1),(2,iV p2),(3,(fV 46)),(8,iV ag.1),(9,iV ab.1)] L s (WL 42 A3 ak K c2 nw f58 ab.2)) ⟨ae,f25,V,V,BR,aD,aE⟩ ?_);rintro _ _ ab ⟨ak,f58,rfl,rfl,aH,al,O⟩ bi ⟨bY,aw⟩ bj;have aI:=aw;unfold ME at aI;refine C 2 V (Gn 17 [K] ⟨⟨0,_,V⟩,trivial⟩ al λaa=>?_);refine Bv aa V [0,1,2,3] V ?_;let⟨bl,aJ,bm⟩:=bs aI;refine Ib 0 (tR_ 17 0) (λL s=>∃(ao:LH),Jm ak H ao [bX K f58 42] [(0,.slice (B2 K) nw c2),(1,iV p1),(2,iV p2),(3,(fV 46)),(8,iV ag.1),(9,iV ab.1),(34,.bool bl)] L s) ?_ ?_;rintro _ _ ⟨ao,rfl,rfl,ah,ap⟩;refine AI.fin (by decide+kernel) (CI bm (λbn bo=>?_) (λbn bp=>?_));refine C 3 V (VN [15,17] [K] [] mixed V ?_);refine IH 0 V V (IH 1 V V ?_);refine IH 2 V V (IH 3 V V ?_);let⟨aK,bq,br⟩:=bs bo;refine Nm 4 true V V (λρ h s' aL=>GK (h _ _ V) (h _ _ V) bq) (IH 5 V V ?_);refine IH 6 V V ?_;let⟨bZ,bu,bv⟩:=bs br;refine Nm 7 true V V (λρ h s' aL=>GK (h _ _ V) (h _ _ V) bu) ?_;let⟨Y,aM,bw⟩:=bs bv;obtain⟨_,⟨_,_,rfl,rfl,⟨_,_,rfl,rfl,rfl⟩⟩,bx⟩:=WL.at (O.Ad ah) aM;refine JB.ix 8 O.2 aM underlying35 BA ?_;refine RO 9 [iV Y.1,iV Y.2.1,iV Y.2.2] 0 ap bx FB BA ?_;refine IH 10 V V (IH 11 V V ?_);let⟨Z,aq,bz⟩:=bs bw;obtain⟨_,⟨_,_,rfl,rfl,⟨_,_,rfl,rfl,rfl⟩⟩,bA⟩:=WL.at (O.Ad ah) aq;refine JB.ix 12 O.2 aq underlying35 BA ?_;refine RO 13 [iV Z.1,iV Z.2.1,iV Z.2.2] 0 ap bA FB BA ?_;refine JB.ix 14 O.2 aq underlying35 BA ?_;have am:=WL.put (x':=Y) (ws':=[iV Y.1,iV Y.2.1,iV Y.2.2]) (O.Ad ah) O.2 aq ⟨_,_,V,V,⟨_,_,V,V,V⟩⟩;refine Sa 15 0 ap BA trivial am.2 λbB=>?_;let⟨b0,ay,bC⟩:=bs bz;obtain⟨_,⟨_,_,rfl,rfl,⟨_,_,rfl,rfl,rfl⟩⟩,b1⟩:=WL.at am.1 ay;refine JB.ix 16 (am.1).2 ay underlying35 BA ?_;have aN:=WL.put (x':=Z) (ws':=[iV Z.1,iV Z.2.1,iV Z.2.2]) am.1 (am.1).2 ay ⟨_,_,V,V,⟨_,_,V,V,V⟩⟩;refine Sa 17 0 bB BA trivial aN.2 λbD=>?_;refine JB.fin (by decide+kernel) ?_;let⟨bE,bF,bG⟩:=bs bC;refine C 3 V (Ce bF V V V ?_);refine C 2 V ?_;cases bG;exact AP (bj _ _ (bE,((ab.2.set (Int.toNat ab.1) Y).set (Int.toNat aK) Z)) ⟨ao,(Bx (Bx f58 (Int.toNat (ab.1)*3) [iV Y.1,iV Y.2.1,iV Y.2.2]) (Int.toNat (aK)*3) [iV Z.1,iV Z.2.1,iV Z.2.2]),V,V,(aH.M ah),bD,aN.1⟩ aw) V;refine JL.exit V ?_;cases bp;obtain rfl:=bi _ aw;exact AP (bh _ _ ⟨ao,f58,V,V,(aH.M ah),ap,(O.Ad ah)⟩) V;intro aO;refine Mc (q:=p1<ab.1) (i:=21) V (λaz=>?_) (λaz=>?_);have bH:=ip aJ az;refine Bv aa V [4,5,6] V ?_;let⟨ai,aP,bI⟩:=bs bH;obtain⟨_,⟨_,_,rfl,rfl,⟨_,_,rfl,rfl,rfl⟩⟩,bJ⟩:=WL.at O aP;refine JG.ix 7 aa (O).2 aP underlying35 BA ?_;refine RG 8 aa [iV ai.1,iV ai.2.1,iV ai.2.2] 0 al bJ FB BA ?_;refine Bv aa V [9,10] V ?_;let⟨b2,bK,bL⟩:=bs bI;refine AZ 11 aa V V (λρ h s' aL=>GK (h _ _ V) (h _ _ V) bK) ?_;let⟨aj,aQ,bM⟩:=bs bL;obtain⟨_,⟨_,_,rfl,rfl,⟨_,_,rfl,rfl,rfl⟩⟩,bN⟩:=WL.at O aQ;refine JG.ix 12 aa (O).2 aQ underlying35 BA ?_;refine RG 13 aa [iV aj.1,iV aj.2.1,iV aj.2.2] 0 al bN FB BA ?_;let⟨b3,bO,bP⟩:=bs bM;refine TL (i:=14) ⟨⟨0,_,V⟩,trivial⟩ (vs:=[.agg #[iV ai.1,iV ai.2.1,iV ai.2.2],.agg #[iV aj.1,iV aj.2.1,iV aj.2.2]]) (Rj bO) (by decide+kernel) V V V V (A0 func46 V) V al ?_;rintro _ bQ _ bR ⟨rfl,rfl⟩ bS;refine Bv aa V [15,16] V ?_;cases bP;refine G8 ?_ (aO _ _ ⟨bQ,V,V,bR,bS⟩);exact⟨V,V,V,V,V,V,V,trivial⟩;have bT:=im aJ az;refine Bv aa V [4,5,6,7,8,9,10,11,12,13,14,15,16] V ?_;cases bT;refine G8 ?_ (aO _ _ ⟨ak,V,V,BR,al⟩);exact⟨V,V,V,V,V,V,V,trivial⟩;refine JL.exit V ?_;cases a6;obtain rfl:=a2 _ av;exact AP (a1 _ _ ⟨ae,f25,V,V,aC,aD,aE⟩) V
def OC(fu_:Nat)(p0:AS)(p1:Int)(p2:Int)(p3:Int)(U:Unit):Option (Bl Unit ((AS)⊕(Unit))):=(AG (p2 - p1)).bind λK=>if K<=12 then((Ks fu_ p0 p1 p2).bind λO=>some (.done (Sum.inl O))) else(if p3=0 then(none) else(none))
def LB(fu_:Nat)(p0:AS)(p1:Int)(p2:Int)(p3:Int):Option (AS):=Option.bind (iter (OC fu_ p0 p1 p2 p3) fu_ ()) λK=>Sum.elim (λr=>some r) (λO=>none) K
variable{U:Av_}{p3:Int}
theorem Xf{p1:Int}(hW:WL 42 A3 E K O nw U p0)(Y:LB fu_ p0 p1 p2 p3=some r):AO J 100 [.slice (B2 K) nw O,iV p1,iV p2,iV p3,(fV 46)] E [(K,.cells U 42 (0,0))] (λw E' B'=>∃(Z:Av_),w=.tuple #[]/\B'=[(K,.cells Z 42 (0,0))]/\WL 42 A3 E' K O nw Z r):=by
 refine Bd func100 λQ aF cs H ah ai=>?_;unfold LB at Y;let⟨aG,aj,ak⟩:=bs Y;refine C 8 V (BF (λL s=>False) ?_ ?_);intro _ _ al;exact al.elim;intro aH;refine JL.block (Dj aj (λaa=>[bX K U 42]) (λaa=>[(0,.slice (B2 K) nw O),(1,iV p1),(2,iV p2),(3,iV p3),(4,(fV 46)),(10,.bool true),(11,.bool true)]) BR ah ?_);rintro aa aI ab am an ⟨aJ,ae⟩ aK;have ag:=ae;unfold OC at ag;let⟨aL,ao,ap⟩:=bs ag;refine C 5 V (Ce ao V V V ?_);refine C 8 V (AX ap (λaq ar=>?_) (λaq au=>?_));let⟨aM,av,aw⟩:=bs ar;refine C 6 V (C6 0 (Xt (hW.Ad ab) av) V V (A0 func102 V) am V ?_);rintro _ aN _ ay ⟨f32,rfl,rfl,az⟩ aA;refine JL.done ?_;cases aw;obtain rfl:=an _ ae;have aB:=elim_inl ak;cases aB;exact AU func100 V V (ai (ab.M ay) V ⟨f32,V,(by first | rfl | simp | (simp[Value.cells])),az⟩ aA);refine C 7 V (AX au (λaC aD=>?_) (λaC aE=>?_));refine C 6 V ?_;cases aD;refine C 5 V (As (v:=.bool false) V (λρ h=>Yl.not (c:=true) (h _ _ V)) ?_);refine C 9 V ?_;cases aE
def f130(fu_:Nat)(p0:AS):Option (AS):=(f115 fu_ (CK (p0.length:Int))).bind λK=>(LB fu_ p0 0 (p0.length:Int) K).bind λO=>some O
theorem XN(hW:WL 42 A3 E K O nw U p0)(Y:f130 fu_ p0=some r):AO J 99 [.slice (B2 K) nw O,(fV 46)] E [(K,.cells U 42 (0,0))] (λw E' B'=>∃(Z:Av_),w=.tuple #[]/\B'=[(K,.cells Z 42 (0,0))]/\WL 42 A3 E' K O nw Z r):=by
 refine Bd func99 λQ ao cs H ab ae=>?_;unfold f130 at Y;refine C 3 V (As (v:=iV (p0.length:Int)) V (λρ h=>VG (hW).2 V underlying80 (h _ _ V)) ?_);refine C 6 V (As (v:=.int .u64 ((CK (p0.length:Int):Nat):Int)) V (λρ h=>Yl.CK underlying3 underlying129 (h _ _ V)) ?_);let⟨ap,ag,ah⟩:=bs Y;refine CX (Rt ag) V V (A0 func101 V) ab λaq aa ai=>?_;let⟨ar,aj,ak⟩:=bs ah;refine C 1 V (C6 0 (Xf (hW.Ad aa) aj) V V (A0 func100 V) ai V ?_);rintro _ au _ al ⟨f12,rfl,rfl,am⟩ an;refine JL.done ?_;cases ak;exact JL.fin (v:=.tuple #[]) V V (Bq.list func99 V (vs:=[]) trivial) (ae (aa.M al) V ⟨f12,V,(by first | rfl | simp | (simp[Value.cells])),am⟩ an)
def Qz(fu_:Nat)(p1:Int)(K:Int)(U:Unit):Option (Bl Unit Unit):=Option.bind (if p1<K then(none) else(some false)) λO=>if O=true then((AG (K - 1)).bind λY=>(AG (K - 1)).bind λZ=>none) else(some (.done ()))
def QK(fu_:Nat)(p1:Int)(p2:Int)(K:Int):Option (Bl Int Unit):=if K<p2 then(Option.bind (iter (Qz fu_ p1 K) fu_ ()) λU=>(AG (K+1)).bind λO=>some (.more O)) else(some (.done ()))
def O7(fu_:Nat)(p1:Int)(p2:Int):Option Unit:=(AG (p1+1)).bind λK=>Option.bind (iter (QK fu_ p1 p2) fu_ K) λO=>some ()
theorem Wr{p1:Int}{r:Unit}(Z:O7 fu_ p1 p2=some r):AO J 102 [nS,iV p1,iV p2,(fV 46)] E [] (λw E' B'=>w=.tuple #[]/\B'=[]):=by
 refine Bd func102 λQ a3 cs H am an=>?_;unfold O7 at Z;let⟨a4,ao,ap⟩:=bs Z;refine C 3 V (Bi ao V V V ?_);let⟨a5,aq,ar⟩:=bs ap;refine C 2 V (Gq [] [] (λa6 au av=>?_) (λaw=>?_));cases ar;exact JL.fin (v:=.tuple #[]) V V (Bq.list func102 V (vs:=[]) trivial) (an au V ⟨V,V⟩ av);refine JL.block (Dj aq (λK=>[]) (λK=>[(0,.slice none 0 0),(1,iV p1),(2,iV p2),(3,(fV 46)),(8,iV K)]) BR am ?_);rintro K a7 aa ab ay ⟨a8,U⟩ az;have ae:=U;unfold QK at ae;refine C 7 V (AX ae (λaA aB=>?_) (λaA aC=>?_));let⟨a9,aD,aE⟩:=bs aB;refine C 8 V (Gq [] [(0,.slice none 0 0),(1,iV p1),(2,iV p2),(3,(fV 46)),(8,iV K)] (λba aF aG=>?_) (λaH=>?_));let⟨aI,aJ,aK⟩:=bs aE;refine C 3 V (Bi aJ V V V ?_);refine C 2 V ?_;cases aK;exact az aI (aa.M aF) aG V U;refine JL.block (Dj aD (λag=>[]) (λag=>[(0,.slice none 0 0),(1,iV p1),(2,iV p2),(3,(fV 46)),(8,iV K),(9,iV K)]) BR ab ?_);rintro ag ah aL aM aN ⟨bb,ai⟩ be;have aj:=ai;unfold Qz at aj;refine C 2 V (Dk 17 λO=>?_);refine Bv O V [0,1,2,3] V ?_;let⟨aO,ak,aP⟩:=bs aj;refine Ib 0 (tR_ 17 0) (λL s=>∃(al:LH),Jm ah H al [] [(0,.slice none 0 0),(1,iV p1),(2,iV p2),(3,(fV 46)),(8,iV K),(9,iV K),(34,.bool aO)] L s) ?_ ?_;rintro _ _ ⟨al,rfl,rfl,aQ,aR⟩;refine AI.fin (by decide+kernel) (CI aP (λaS aT=>?_) (λaS aU=>?_));refine C 3 V (Dk 16 λO=>?_);refine Bv O V [0,1,2,3] V ?_;obtain⟨bf,aV,aW⟩:=bs aT;refine AZ 4 O V V (λρ h s' aX=>GK (h _ _ V) (h _ _ V) aV) (Bv O V [5,6] V ?_);let⟨bg,aY,aZ⟩:=bs aW;refine AZ 7 O V V (λρ h s' aX=>GK (h _ _ V) (h _ _ V) aY) ?_;cases aZ;refine JL.exit V ?_;cases aU;obtain rfl:=aN _ ai;exact aH (aL.M aQ) aR V;intro a0;refine Mc (q:=p1<K) (i:=21) V (λY=>?_) (λY=>?_);have a1:=ip ak Y;refine Bv O V [4,5,6] V ?_;cases a1;have a2:=im ak Y;refine Bv O V [4,5,6,7,8,9,10,11,12,13,14,15,16] V ?_;cases a2;refine G8 ?_ (a0 _ _ ⟨ah,V,V,BR,aM⟩);exact⟨V,V,V,V,V,V,V,trivial⟩;refine JL.exit V ?_;cases aC;obtain rfl:=ay _ U;exact aw aa ab V
def QH(fu_:Nat)(p1:Int)(p2:Int)(p3:Int)(O:Unit):Option (Bl Unit ((Unit)⊕(Unit))):=(AG (p2 - p1)).bind λK=>if K<=12 then((O7 fu_ p1 p2).bind λU=>some (.done (Sum.inl ()))) else(if p3=0 then(none) else(none))
def O4(fu_:Nat)(p1:Int)(p2:Int)(p3:Int):Option Unit:=Option.bind (iter (QH fu_ p1 p2 p3) fu_ ()) λK=>Sum.elim (λr=>some r) (λO=>none) K
theorem Vw{p1:Int}{r:Unit}(K:O4 fu_ p1 p2 p3=some r):AO J 100 [nS,iV p1,iV p2,iV p3,(fV 46)] E [] (λw E' B'=>w=.tuple #[]/\B'=[]):=by
 refine Bd func100 λQ aA cs H Z aa=>?_;unfold O4 at K;let⟨aB,ab,ae⟩:=bs K;refine C 8 V (BF (λL s=>False) ?_ ?_);intro _ _ ag;exact ag.elim;intro aC;refine JL.block (Dj ab (λO=>[]) (λO=>[(0,.slice none 0 0),(1,iV p1),(2,iV p2),(3,iV p3),(4,(fV 46)),(10,.bool true),(11,.bool true)]) BR Z ?_);rintro O aD ah ai aj ⟨aE,U⟩ aF;have Y:=U;unfold QH at Y;let⟨aG,ak,al⟩:=bs Y;refine C 5 V (Ce ak V V V ?_);refine C 8 V (AX al (λam an=>?_) (λam ao=>?_));let⟨aH,ap,aq⟩:=bs an;refine C 6 V (CX (Wr ap) V V (A0 func102 V) ai λaI ar au=>?_);refine JL.done ?_;cases aq;obtain rfl:=aj _ U;have av:=elim_inl ae;cases av;exact AU func100 V V (aa (ah.M ar) V ⟨V,V⟩ au);refine C 7 V (AX ao (λaw ay=>?_) (λaw az=>?_));refine C 6 V ?_;cases ay;refine C 5 V (As (v:=.bool false) V (λρ h=>Yl.not (c:=true) (h _ _ V)) ?_);refine C 9 V ?_;cases az
def RR(fu_:Nat):Option Unit:=(f115 fu_ (CK ((0:Nat):Int))).bind λK=>(O4 fu_ 0 ((0:Nat):Int) K).bind λO=>some ()
theorem Wo{r:Unit}(K:RR fu_=some r):AO J 99 [nS,(fV 46)] E [] (λw E' B'=>w=.tuple #[]/\B'=[]):=by
 refine Bd func99 λQ aj cs H O U=>?_;unfold RR at K;refine C 3 V (JL.ln underlying80 V V V ?_);refine C 6 V (As (v:=.int .u64 ((CK ((0:Nat):Int):Nat):Int)) V (λρ h=>Yl.CK underlying3 underlying129 (h _ _ V)) ?_);let⟨ak,Y,Z⟩:=bs K;refine CX (Rt Y) V V (A0 func101 V) O λal aa ab=>?_;let⟨am,ae,ag⟩:=bs Z;refine C 1 V (CX (Vw ae) V V (A0 func100 V) ab λan ah ai=>?_);refine JL.done ?_;cases ag;exact JL.fin (v:=.tuple #[]) V V (Bq.list func99 V (vs:=[]) trivial) (U (aa.M ah) V ⟨V,V⟩ ai)
theorem Wp{J:Judge Tryz.prog}{E:LH}{a:Ao}{c:Nat}{g:Seg}(Y:OL 42 A3 E a c g p0)(K:f130 fu_ p0=some r):
  AO J 99 [.slice a p0.length c,.func (.func 46) #[] #[]] E g (λw E' B'=>w=.tuple #[]/\OL 42 A3 E' a c B' r/\r.length=p0.length):=by
 rcases Y.cases with⟨rfl,rfl,rfl,rfl⟩ | ⟨bk,f,rfl,rfl,hW⟩
 .have Z:r=[]:=by
   cases fu_ with
   | zero=>exact absurd K (by simp[f130,LB,Ks,iter])
   | succ fu_=>
    cases fu_ with
    | zero=>exact(d6 (K.symm.trans (by rfl:f130 1 []=some []))).trans rfl
    | succ fu_=>exact(d6 (K.symm.trans (by rfl:f130 (fu_+2) []=some []))).trans rfl
  subst Z;refine(Wo (fu_:=10) (r:=()) V).Ad ?_;rintro w E' B' hle ⟨O,rfl⟩;exact⟨O,OL.nil,V⟩
 .refine(XN hW K).Ad ?_;rintro w E' B' hle ⟨aa,O,rfl,U⟩;exact⟨O,U.1,U.2⟩
def f90(fu_:Nat)(p0:AS):Option (AS):=(f129 fu_ p0).bind λK=>(f130 fu_ K).bind λO=>some O
theorem YQ(ae:Ak A3 E a1 c2 p0)(Z:f90 fu_ p0=some r):AO J 97 [sV a1 p0 c2] E [] (λw E' B'=>∃(aa:Ao) (ab:Nat),w= sV aa r ab/\B'=[]/\Ak A3 E' aa ab r):=by
 refine Bd func97 λQ ay cs H ag ah=>?_;unfold f90 at Z;let⟨az,ai,aj⟩:=bs Z;refine C 7 V (C7 (Xw ae ai) V V (A0 func98 V) ag ?_);rintro _ aA aB ak ⟨K,O,_,rfl,rfl,al⟩ am;let⟨U,an,ao⟩:=bs aj;refine C 5 V (C6 1 (Wp al an) V V (A0 func99 V) am V ?_);rintro _ aC aD ap ⟨rfl,aq,Y⟩ ar;refine Jb (L':=[(6,.tuple #[]),(0,.slice K U.length O),(2,.slice none 0 0),(3,.slice a1 p0.length c2),(4,.slice K U.length O),(5,.slice K U.length O)]) ⟨V,by rw[Y];rfl,V,V,by rw[Y];rfl,by rw[Y];rfl,trivial⟩ ?_;refine C 6 V (Cj 1 aq ar V λaE au av aw=>?_);cases ao;exact AU func97 V V (ah ((ak.M ap).M au) V ⟨K,O,V,V,av⟩ aw)
end Pal
namespace Pal
open Go Go.Conc
variable{us vs ws:Lv_}
theorem P1{a b:Nat}(h:∀j w,vs[j]?=some w->ws[a+j]?=some w)(Y:a+vs.length<=ws.length)(hb:b+us.length<=vs.length):Dw ws a (Dw vs b us)=Dw ws (a+b) us:=by
 apply lF;intro j;rw[I7 (q:=a) (by rw[L6];exact Y),I7 (q:=a+b) (ws:=ws) (by omega),L6];by_cases K:a<=j/\j<a+vs.length;rw[d5 K,I7 hb];by_cases O:b<=j - a/\j - a<b+us.length;rw[d5 O,d5 (by omega),show j - a - b=j - (a+b) by omega];rw[d7 O,d7 (by omega)];have U:vs[j - a]?=some vs[j - a]:=d3 (by omega);have:=h _ _ U;rw[show a+(j - a)=j by omega] at this;rw[U,this];rw[d7 K,d7 (by omega)]
variable{K kk:Nat}
theorem VJ{α:Type}{pp:Rp α}{E:LH}{xs:List (List α)}{m m':Int}{x:List α}{x2 y:α}(U:(rA kk (rA K pp)).r E ws xs)(hm:ix xs m=some x)(Z:ix x m'=some x2)(hu:pp.r E us y):
  (rA kk (rA K pp)).r E (Dw ws (m.toNat*(rA K pp).n+m'.toNat*pp.n) us) (xs.set m.toNat (x.set m'.toNat y))/\m.toNat*(rA K pp).n+m'.toNat*pp.n+us.length<=ws.length:=by
 let⟨vs,aa,ae,ag,ab⟩:=DR U hm;have s1:=HI aa Z hu;have s2:=HI U hm s1.1;have Y:=s2.2;rw[L6] at Y;rw[P1 ab Y s1.2] at s2;exact⟨s2.1,by have:=s1.2;omega⟩
variable {P:Program}{E:LH}{s:St}{ρ:Operand->Value}{d:Option Tmp}{x:Operand}{t ty:TypeId}{p:String}{af:Ae_}{g:On_}{kd:IntKind}
section
variable {y:Operand}{e:TypeId}
theorem Qg{α:Type}{pp:Rp α}{xs:List α}{xv:α}{m:Int}{bk o o1:Nat}(K:(rA kk pp).r E ws xs)(hm:ix xs m=some xv)(O:P.underlying t=some (.array kk e))(U:A5 P e=some pp.n)(Y:ρ x=.pointer (some ⟨bk,o+o1,none⟩))(Z:ρ y=.int kd m):
  Yl P ⟨d,.indexAddr t x y,ty,p,af,g⟩ ρ s (.pointer (some ⟨bk,o+(o1+m.toNat*pp.n),none⟩)):=by
 rw[← mc];exact Df K hm O U Y Z
end
theorem U0{P:Program}{J:Judge P}{Q:Gs_}{b:Frame}{n:Nat}{ds:Ld_}{ops:Ao_}{k:Li_}{cs:Lf_}{m fuel:Nat}{D:Nat->Bool}{listed:Array Bool}{L:Env}{E H:LH}{S S':List Seg}(K:S=S')(O:An E H S)(h:An E H S'->AI J Q b n ds ops k cs m D fuel listed L (Ah E H S')):AI J Q b n ds ops k cs m D fuel listed L (Ah E H S):=by
 subst K;exact h O
variable {Q:Gs_}{b:Frame}{n:Nat}{L L':Env}{ds:Ld_}{k:Li_}{cs:Lf_}{ops:Ao_}{H:LH}{S:List Seg}
variable {d2:Option Tmp}{x2 y2:Operand}{ty2:TypeId}{p2:String}{af2:Ae_}{g2:On_}
variable {bks xl l0:List Nat}{α:Type}{q:Rp α}{xs:List (List α)}{xv:List α}{mm:Int}{bk c c1 n':Nat}{f:Av_}
section
variable {J:Judge P}
variable {y:Operand}{e:TypeId}
variable {m fuel:Nat}{listed:Array Bool}
end
variable {v:Value}
section
variable {J:Judge P}{m fuel:Nat}{listed:Array Bool}
variable {y:Operand}{e:TypeId}{i:Nat}
theorem Take.y0{oi:Oper}(hi:ops[i]?=some oi)(K:(!CQ oi.op&&A6 n oi.dst)=true)(hw:AQ L ops oi=some true)(O:∀ρ,Ed L ρ->Yl P oi ρ s v)
  (h:AI J Q b n ds ops k cs m Cn fuel (AV listed i) (Az L oi.dst v) s):Take J Q b n ds ops k cs m Cn fuel listed L s i:=
 Take.LK hi K hw λρ U=>by
  have:=O ρ U
  unfold Yl at this
  refine CH _ this ?_ (λ_ _ h=>h)
  rintro Y s' ⟨rfl,rfl⟩
  exact h
end
def FN{P:Program}(J:Judge P)(f:FuncId)(args:Lv_)(E:LH)(B:Seg)(p:Bool)(pv:Value)(R:Value->LH->Seg->Prop):Prop:=
 ∀(Q:Gs_) (bc:Frame) (Tc:Av_) (dsc:Ld_) (K:Li_) (cs:Lf_) (H:LH),Nd E H B->
  (p=false->∀v E' B',Le E E'->R v E' B'->Nd E' H B'->J.ok Q (G ((fr bc Tc dsc K).finish v) cs) (mk E' H B'))->
  (p=true->∀E' B',Le E E'->Nd E' H B'->J.ok Q (G (F6 bc Tc dsc K (raised pv)) cs) (mk E' H B'))->
  J.ok Q (G (Frame.enter P f args.toArray .normal) (fr bc Tc dsc K::cs)) (mk E H B)
variable {bc:Frame}{dsc:Ld_}{rest:List Nat}{pp:String}{pv:Value}
variable{B seg:Seg}{R:Value->LH->Seg->Prop}{caps:Lv_}{args:Array Operand}{ats:Array TypeId}{a:Option Addr}{hi:Int}{t1 xt:TypeId}{Y:Nat}{z:Value}{f1:Array Field}
section
variable {J:Judge P}{i:Nat}{e:TypeId}
theorem FN.enter{f:FuncId}{fn:Func}{c:Code}{p:Bool}(aa:P.funcs[f]?=some fn)(hb:fn.body=some c)(al:vs.length<=fn.ntmps)
  (h:∀(Q:Gs_) (bc:Frame) (Tc:Av_) (dsc:Ld_) (O:Li_) (cs:Lf_) (H:LH),An E H [B]->
   (p=false->∀v E' S' B',Le E E'->S'.flatten=B'->R v E' B'->An E' H S'->J.ok Q (G ((fr bc Tc dsc O).finish v) cs) (Ah E' H S'))->
   (p=true->∀E' S',Le E E'->An E' H S'->J.ok Q (G (F6 bc Tc dsc O (raised pv)) cs) (Ah E' H S'))->
   JL J Q (base f) fn.ntmps (EL 0 vs) [] [.code c] (fr bc Tc dsc O::cs) (Ah E H [B])):FN J f vs E B p pv R:=λQ bc Tc dsc O cs H ab ae K=>by
 have he:Frame.enter P f vs.toArray .normal=fr (base f) (vs.toArray++Array.replicate (fn.ntmps - vs.length) undef) [] [.code c]:=by
  simp[Frame.enter,fr,aa,hb,base];rfl
 have ag:mk E H B=Ah E H [B]:=by unfold Ah;simp
 rw[he,ag];refine h Q bc Tc dsc O cs H (by unfold An;simpa using ab) (λU v E' S' B' hle ah ai Y=>?_) (λU E' S' hle Y=>?_) _ ⟨by simp;omega,λt v aj=>?_⟩;subst ah;exact ae U v E' S'.flatten hle ai Y;exact K U E' S'.flatten hle Y
 .let⟨_,K⟩:=H4 aj;have ak:t<vs.length:=by
   rcases lb t vs.length with Z | Z;exact Z;simp at K;have:=(d0.1 K).1;omega
  rw[f4,lM (by simpa using ak)];simp at K;simp[K]
theorem T3{x:Operand}{f:FuncId}{s:St}(hb:Cz P f=true)
  (U:ops[i]?=some ⟨d,.call ⟨.value x,args,ats⟩,ty,pp,af,g⟩) (hw:AQ L ops ⟨d,.call ⟨.value x,args,ats⟩,ty,pp,af,g⟩=some true) (O:((b.kind != .early)&&A6 n d)=true)
  (Y:ev L x=some (.func (.func f) #[] caps.toArray)) (Z:evs L args.toList=some vs)
  (h:∀T,Has n L T->J.ok Q (G (Frame.enter P f (vs++caps).toArray .normal) (fr b T ds (.inRegion ops (i::rest)::k)::cs)) s):
  JL J Q b n L ds (.inRegion ops (i::rest)::k) cs s:=λT K=>by
 simp only[f5] at O
 have aa:args.map (A7 T)=vs.toArray:=by
  rw[← ER K.El Z];apply lR;simp
 refine Judge.oper U (Cd K hw) (by simpa using O.1) (.inr λc ab=>by cases ab) ?_;have hd:lp P (execOp (A7 T) ⟨d,.call ⟨.value x,args,ats⟩,ty,pp,af,g⟩) s (upon J Q b T ds ops i rest k cs d) (IN J Q b T ds ops i rest k cs):=by
  have ae:execOp (A7 T) ⟨d,.call ⟨.value x,args,ats⟩,ty,pp,af,g⟩=(do let d ← Deferred.ofValue (.func (.func f) #[] caps.toArray) vs.toArray;invoke d.target d.args):=by
   simp only[execOp,resolve,aa,K.El _ _ Y]
  rw[ae];simp only[Deferred.ofValue,bind,Sem.bind,pure,invoke];have e: #[]++vs.toArray++caps.toArray=(vs++caps).toArray:=by simp
  rw[e];exact H2 hb (h T K)
 exact hd
theorem T0{f:FuncId}{s:St}(hb:Cz P f=true)
  (U:ops[i]?=some ⟨d,.call ⟨.value (.func f),args,ats⟩,ty,pp,af,g⟩) (hw:AQ L ops ⟨d,.call ⟨.value (.func f),args,ats⟩,ty,pp,af,g⟩=some true) (O:((b.kind != .early)&&A6 n d)=true)
  (Y:evs L args.toList=some vs)
  (h:∀T,Has n L T->J.ok Q (G (Frame.enter P f vs.toArray .normal) (fr b T ds (.inRegion ops (i::rest)::k)::cs)) s):
  JL J Q b n L ds (.inRegion ops (i::rest)::k) cs s:=λT K=>by
 simp only[f5] at O
 have Z:args.map (A7 T)=vs.toArray:=by
  rw[← ER K.El Y];apply lR;simp
 refine Judge.oper U (Cd K hw) (by simpa using O.1) (.inr λc aa=>by cases aa) ?_;have hd:lp P (execOp (A7 T) ⟨d,.call ⟨.value (.func f),args,ats⟩,ty,pp,af,g⟩) s (upon J Q b T ds ops i rest k cs d) (IN J Q b T ds ops i rest k cs):=by
  simp only[execOp,resolve,bind,Sem.bind,Deferred.ofValue,A7,pure,invoke];have e: #[]++args.map (A7 T)++ #[]=vs.toArray:=by rw[Z];simp
  rw[e];exact H2 hb (h T K)
 exact hd
theorem Vy{g:Frame}{s:St}(O:s.q=false)(h:(∃w,Fits s w)->J.ok Q (G g cs) s):J.ok Q (G g cs) s:=by
 by_cases K:∃w,Fits s w;exact h K;exact J.step ⟨V,λw f=>absurd ⟨w,f⟩ K,λe=>by subst e;cases O⟩
theorem FN.use{f:FuncId}{p:Bool}{Tc:Av_}{Y:Li_}(j:Nat)(ah:FN J f vs E B p pv R)(aa:An E H S)(ab:S[j]?=some B)
  (Z:p=false->∀v E' B',Le E E'->R v E' B'->An E' H (S.set j B')->J.ok Q (G ((fr bc Tc dsc Y).finish v) cs) (Ah E' H (S.set j B')))
  (ai:p=true->∀E' B',Le E E'->An E' H (S.set j B')->J.ok Q (G (F6 bc Tc dsc Y (raised pv)) cs) (Ah E' H (S.set j B'))):
  J.ok Q (G (Frame.enter P f vs.toArray .normal) (fr bc Tc dsc Y::cs)) (Ah E H S):=by
 have K:S.flatten.Perm (B++(S.set j []).flatten):=(Cl (seg':=B) ab).1.trans f6;have ae:Nd E H (B++(S.set j []).flatten):=Nd.perm aa K;have aj:Ah E H S=mk E (AM (S.set j []).flatten H) B:=by
  rw[show Ah E H S=mk E H S.flatten from rfl,C3 aa K];unfold mk;rw[DC]
 have ak:Nd E H (S.set j []).flatten:=by
  have:=ae;rw[Nd.iff] at this ⊢;rw[lL,lG] at this;exact⟨this.1.2.1,λq al=>this.2 q (lI _ al)⟩
 have back:∀(g:Frame) (E':LH) (B':Seg),Le E E'->Nd E' (AM (S.set j []).flatten H) B'->(An E' H (S.set j B')->J.ok Q (G g cs) (Ah E' H (S.set j B')))->J.ok Q (G g cs) (mk E' (AM (S.set j []).flatten H) B'):=λg E' B' hle U am=>by
  have e2:mk E' (AM (S.set j []).flatten H) B'=mk E' H (B'++(S.set j []).flatten):=by unfold mk;rw[DC]
  refine Vy V λ⟨w,an⟩=>?_;have ao:Nd E' H (S.set j []).flatten:=ak.grow λx ap=>by
   have aq:=an.d x ap;have Z:AM B' (AM (S.set j []).flatten H) x=none:=aq;exact(FF Z).1
  have O:Nd E' H (B'++(S.set j []).flatten):=Nd.glue U ao;rw[e2];have ag:(B'++(S.set j []).flatten).Perm (S.set j B').flatten:=f6.trans (Cl ab).2.symm;rw[C3 O ag];exact am (Nd.perm O ag)
 rw[aj];refine ah Q bc Tc dsc Y cs _ (Nd.front ae) (λK v E' B' hle ar U=>back _ E' B' hle U λO=>Z K v E' B' hle ar O) (λK E' B' hle U=>back _ E' B' hle U λO=>ai K E' B' hle O)
theorem P8{x:Operand}{f:FuncId}{p:Bool}(j:Nat)(hb:Cz P f=true)
  (aa:FN J f (vs++caps) E seg p pv R) (Y:ops[i]?=some ⟨d,.call ⟨.value x,args,ats⟩,ty,pp,af,g⟩) (hw:AQ L ops ⟨d,.call ⟨.value x,args,ats⟩,ty,pp,af,g⟩=some true) (K:((b.kind != .early)&&A6 n d)=true)
  (ab:ev L x=some (.func (.func f) #[] caps.toArray)) (ae:evs L args.toList=some vs) (ag:An E H S) (ah:S[j]?=some seg)
  (ai:p=true->∀E' seg',Le E E'->An E' H (S.set j seg')->JP J Q b n L ds cs (raised pv) (Ah E' H (S.set j seg')))
  (aj:p=false->∀v E' seg',Le E E'->R v E' seg'->An E' H (S.set j seg')->JL J Q b n (Az L d v) ds (.inRegion ops rest::k) cs (Ah E' H (S.set j seg'))):
  JL J Q b n L ds (.inRegion ops (i::rest)::k) cs (Ah E H S):=
 T3 hb Y hw K ab ae λT Z=>FN.use j aa ag ah
  (λO v E' B' hle ak U=>by
   rw[Ei (o:=⟨d,.call ⟨.value x,args,ats⟩,ty,pp,af,g⟩) _ _ _ _ _ Y]
   simp only[f5] at K
   exact aj O v E' B' hle ak U _ (Z.put K.2 v))
  (λO E' B' hle U=>ai O E' B' hle U T Z _)
theorem To{f:FuncId}{p:Bool}(j:Nat)(hb:Cz P f=true)
  (aa:FN J f vs E seg p pv R) (Y:ops[i]?=some ⟨d,.call ⟨.value (.func f),args,ats⟩,ty,pp,af,g⟩) (hw:AQ L ops ⟨d,.call ⟨.value (.func f),args,ats⟩,ty,pp,af,g⟩=some true) (K:((b.kind != .early)&&A6 n d)=true)
  (ab:evs L args.toList=some vs) (ae:An E H S) (ag:S[j]?=some seg)
  (ah:p=true->∀E' seg',Le E E'->An E' H (S.set j seg')->JP J Q b n L ds cs (raised pv) (Ah E' H (S.set j seg')))
  (ai:p=false->∀v E' seg',Le E E'->R v E' seg'->An E' H (S.set j seg')->JL J Q b n (Az L d v) ds (.inRegion ops rest::k) cs (Ah E' H (S.set j seg'))):
  JL J Q b n L ds (.inRegion ops (i::rest)::k) cs (Ah E H S):=
 T0 hb Y hw K ab λT Z=>FN.use j aa ae ag
  (λO v E' B' hle aj U=>by
   rw[Ei (o:=⟨d,.call ⟨.value (.func f),args,ats⟩,ty,pp,af,g⟩) _ _ _ _ _ Y]
   simp only[f5] at K
   exact ai O v E' B' hle aj U _ (Z.put K.2 v))
  (λO E' B' hle U=>ah O E' B' hle U T Z _)
theorem Take.Rd{m fuel:Nat}{listed:Array Bool}{bk:Nat}{x y:Operand}{v:Value}{e t ty:TypeId}(j:Nat)(O:An E H S)(U:ops[i]?=some ⟨d,.store t x y,ty,pp,af,g⟩)(hw:AQ L ops ⟨d,.store t x y,ty,pp,af,g⟩=some true)(Y:A6 n d=true)
  (Z:ev L x=some (.pointer (some ⟨bk,0,none⟩))) (aa:ev L y=some v) (K:v.cells.toList=us) (ab:A5 P t=some us.length) (ae:∀u∈us,BX u=true) (ag:S[j]?=some [(bk,.cells (([]:Lv_)++ws).toArray e (0,0))]) (hle:us.length=ws.length)
  (h:An E H (S.set j [(bk,.cells (([]:Lv_)++us).toArray e (0,0))])->AI J Q b n ds ops k cs m Cn fuel (AV listed i) (Az L d undef) (Ah E H (S.set j [(bk,.cells (([]:Lv_)++us).toArray e (0,0))]))):
  Take J Q b n ds ops k cs m Cn fuel listed L (Ah E H S) i:=by
 have ah:v.cells.size=us.length:=by rw[← K];simp
 refine Take.Ie (v:=v) (off:=0) j O U hw Y Z aa (by rw[ah];exact ab) (by rw[K];exact ae) ag (by simp;omega) ?_;have ai:Bx (([]:Lv_)++ws).toArray 0 v.cells.toList=(([]:Lv_)++us).toArray:=by
  have:=PV (l:=[]) (ws:=ws) (q:=0) (us:=us) (by omega);rw[K];simp only[n4,mD,lT] at this;rw[this,H8 hle]
 rw[ai];exact h
theorem UQ{ρ:Operand->Value}{x y z1:Operand}{s:St}{p:String}{l c m:Nat}(O:∀ad,a=some ad->ad.spot=none∨c=0)(U:m<=c)(he:hi=(m:Int))(Y:P.underlying t=some (.slice e))(Z:A5 P e=some K)(aa:ρ x=.slice a l c)(ab:ρ y=iV hi)(ae:ρ z1=iV hi):
  Yl P ⟨d,.slice t x none (some y) (some z1),ty,p,af,g⟩ ρ s (.slice a m m):=by
 subst he;have h:=Yl.slice (P:=P) (s:=s) (d:=d) (ty:=ty) (p:=p) (af:=af) (g:=g) (olo:=none) (ohi:=some y) (omx:=some z1) (lo:=0) (hi:=m) (mx:=m) Y Z aa ae ab V U (la _) (mz _);have ag:(if m=0 then a else a.map (·.add (0*K)))=a:=by
  split;rfl
  .cases a with
   | none=>rfl
   | some ad=>
    have:=(O ad rfl).resolve_right (by omega);simp only[lW,mC];rw[CV this];obtain⟨b,o,sp⟩:=ad;simp only at this;subst this;simp
 rw[ag] at h;simpa using h
theorem Ak.Yu{α:Type}{q:Rp α}{c:Nat}{xs ys:List α}(U:Ak q E a c xs)(hC:EY xs 0 hi=some ys):Ak q E a c ys/\ys.length<=c/\hi=(ys.length:Int):=by
 unfold EY at hC;split at hC
 rotate_left
 .cases hC
 rename_i hb;obtain⟨Z,aa,ab⟩:=hb;cases hC;have ae:=U.1;have hlen:(((xs.take hi.toNat).drop (0:Int).toNat)).length=hi.toNat:=by simp;omega
 refine⟨⟨by rw[hlen];omega,?_⟩,by rw[hlen];omega,by rw[hlen];omega⟩;rcases U.2 with⟨h,O⟩ | ⟨bk,off,Y,O⟩;exact .inl ⟨by rw[h];simp,O⟩;refine .inr ⟨bk,off,Y,λi x K=>O i x ?_⟩;simp only[Int.toNat_zero,List.drop_zero] at K;rw[l5] at K;split at K;exact K;cases K
theorem Take.Qu{m fuel:Nat}{listed:Array Bool}{x y:Operand}{p:String}{α:Type}{q:Rp α}{c cx:Nat}{ax:Option Addr}{xs ys Z:List α}(U:CJ xs ys=some Z)
  (ak:ops[i]?=some ⟨d,.call ⟨.builtin .append,#[x,y],ats⟩,ty,p,af,g⟩) (hw:AQ L ops ⟨d,.call ⟨.builtin .append,#[x,y],ats⟩,ty,p,af,g⟩=some true) (al:A6 n d=true)
  (am:ev L x=some (.slice a xs.length xs.length)) (an:ev L y=some (.slice ax ys.length cx)) (ao:ats[0]?=some t) (ap:ats[1]?=some t1) (aq:P.underlying t=some (.slice e)) (ar:P.underlying t1=some (.slice e)) (au:A5 P e=some q.n) (hb:Ew P e=some Y) (av:zeroOf P e=some z) (aw:z.cells.size=q.n)
  (ay:0<Y) (az:Y<=127) (aa:Ak q E a c xs) (aA:Ak q E ax cx ys) (ab:An E H S)
  (h:∀E' ae K,Le E E'->Ak q E' ae K Z->An E' H (S++ [[]])->AI J Q b n ds ops k cs m Cn fuel (AV listed i) (Az L d (.slice ae Z.length K)) (Ah E' H (S++ [[]]))):
  Take J Q b n ds ops k cs m Cn fuel listed L (Ah E H S) i:=by
 unfold CJ at U;split at U
 rotate_left
 .cases U
 rename_i aB;cases U;let⟨wss,ag,aC,aD,aT⟩:=Ak.Q7 (H:=H) (B:=S.flatten) aa.full;let⟨aE,aF,aG,aH,aI⟩:=Ak.Q7 (H:=H) (B:=S.flatten) aA;have hlen:(xs++ys).length=xs.length+ys.length:=by simp
 show Take J Q b n ds ops k cs m Cn fuel listed L (mk E H S.flatten) i;refine Take.LK ak (by simp[CQ,al]) hw λρ ah=>?_;rw[KI,ah x _ am,ah y _ an];refine Av _ _ (SA ao ap ar aq au hb av aw ab aD aH aI ay aB az ?_ ?_)
 .intro hm;have aJ:ys=[]:=lD hm;subst aJ;have aK:An E H (S++ [[]]):=by unfold An at*;rw[Gi,lf];exact ab
  have aL:mk E H S.flatten=Ah E H (S++ [[]]):=by unfold Ah;rw[Gi,lf]
  rw[aL];have:=h E a xs.length (Le.refl _) (by rw[lf];exact aa.full) aK;rw[hlen] at this;exact this
 .intro r O K aM aN aO aP;have aQ:OL e q E (some ⟨r,0,none⟩) K [(r,.cells O e (0,0))] (xs++ys):=
   ⟨wss++aE,.inr ⟨r,O,rfl,rfl,aN,by rw[hlen];exact aM,by rw[hlen,mf];exact aO.symm⟩,by simp[ag,aF],NX ag aC aG⟩
  have ai:=EU (S:=S) (seg:=[(r,.cells O e (0,0))]) aP;show AI J Q b n ds ops k cs m Cn fuel _ _ (mk E H (S.flatten++ [(r,.cells O e (0,0))]));rw[ai.1];refine Ep S.length aQ ai.2 (by simp) λE' hle aR aj=>?_;have aS:(S++ [[(r,Obj.cells O e (0,0))]]).set S.length []=S++ [[]]:=HE _ _ _ _;rw[aS] at aj ⊢;have:=h E' (some ⟨r,0,none⟩) K hle aR aj;rw[hlen] at this;exact this
theorem SH{ρ:Operand->Value}{x:Operand}{s:St}{p:String}{v:Value}(K:P.underlying t1=some (.struct f1))(O:ρ x=.iface t1 v):Yl P ⟨d,.typeAssert x xt t1 true,ty,p,af,g⟩ ρ s (.tuple #[v,.bool true]):=by
 refine EJ (sm:=Instr.typeAssert (ρ x) xt t1 true) V ?_;rw[O];unfold Instr.typeAssert;refine Av _ _ (B6 K ?_);simp[lp,pure]
theorem SF{ρ:Operand->Value}{x:Operand}{s:St}{p:String}(K:P.underlying t1=some (.struct f1))(O:zeroOf P t1=some z)(U:ρ x=.nilIface):Yl P ⟨d,.typeAssert x xt t1 true,ty,p,af,g⟩ ρ s (.tuple #[z,.bool false]):=by
 refine EJ (sm:=Instr.typeAssert (ρ x) xt t1 true) V ?_;rw[U];unfold Instr.typeAssert;refine Av _ _ (B6 K ?_);exact Av (x:=zeroValue t1) _ (Fh O ⟨V,V⟩)
end
section
variable {J:Judge P}{i:Nat}{e:TypeId}{y:Operand}
end
variable {D:Nat->Bool}{E':LH}
variable {u:TypeId}
section
variable {J:Judge P}{m fuel:Nat}{listed:Array Bool}
variable {y:Operand}{e:TypeId}{i:Nat}
theorem Take.Jd{f:FuncId}(j:Nat)(O:An E H S)(ah:AO J f vs E seg R)
  (ai:ops[i]?=some ⟨d,.call ⟨.value (.func f),args,ats⟩,ty,p,af,g⟩) (hw:AQ L ops ⟨d,.call ⟨.value (.func f),args,ats⟩,ty,p,af,g⟩=some true) (aj:A6 n d=true) (hb:Cz P f=true) (ak:evs L args.toList=some vs) (U:S[j]?=some seg)
  (al:∀v E' seg',Le E E'->R v E' seg'->An E' H (S.set j seg')->AI J Q b n ds ops k cs m Cn fuel (AV listed i) (Az L d v) (Ah E' H (S.set j seg'))):
  Take J Q b n ds ops k cs m Cn fuel listed L (Ah E H S) i:=by
 have Y:S.flatten.Perm (seg++(S.set j []).flatten):=(Cl (seg':=seg) U).1.trans f6;have Z:Nd E H (seg++(S.set j []).flatten):=Nd.perm O Y;have am:Ah E H S=mk E (AM (S.set j []).flatten H) seg:=by
  rw[show Ah E H S=mk E H S.flatten from rfl,C3 O Y];unfold mk;rw[DC]
 have aa:=DK.Km (ah (AM (S.set j []).flatten H) (Nd.front Z)) (by rintro v s' ⟨E',B',_,_,_,rfl⟩;rfl);rw[← am] at aa;refine⟨_,ai,by simp[CQ],aj,hw,λρ ab=>?_⟩;have an:args.map ρ=vs.toArray:=by
  rw[← ER ab ak];apply lR;simp
 have ao:ρ (.func f)=.func (.func f) #[] #[]:=ab _ _ V;simp only[execOp,resolve,bind,Sem.bind,Deferred.ofValue,ao,pure,invoke];have e: #[]++args.map ρ++ #[]=vs.toArray:=by rw[an];simp
 rw[e];refine H2 hb ?_;rw[JZ];refine⟨_,aa,?_⟩;rintro v aB ⟨⟨E',B',hle,ap,aq,rfl⟩,w,ar⟩;have e2:mk E' (AM (S.set j []).flatten H) B'=mk E' H (B'++(S.set j []).flatten):=by unfold mk;rw[DC]
 have au:Nd E H (S.set j []).flatten:=by
  have:=Z;rw[Nd.iff] at this ⊢;rw[lL,lG] at this;exact⟨this.1.2.1,λq av=>this.2 q (lI _ av)⟩
 have aw:Nd E' H (S.set j []).flatten:=au.grow λx K=>by
  have ay:=ar.d x K;have az:AM B' (AM (S.set j []).flatten H) x=none:=ay;exact(FF az).1
 have ae:Nd E' H (B'++(S.set j []).flatten):=Nd.glue aq aw;have ag:(B'++(S.set j []).flatten).Perm (S.set j B').flatten:=f6.trans (Cl U).2.symm;have aA:An E' H (S.set j B'):=Nd.perm ae ag;rw[e2,C3 ae ag];exact⟨V,λx o K=>hle _ _ K,al v E' B' hle ap aA⟩
end
section
variable {J:Judge P}{m fuel:Nat}{listed:Array Bool}
variable {y:Operand}{e:TypeId}{i:Nat}
end
open Go.Proofs
variable {J:Judge Tryz.prog}
def f20(fuel:Nat)(p0:List Int):Option ((Cc)):=
 some (p0,0,2685821657736338717)
variable{a1:Ao}{c2:Nat}
theorem Ym{p0:List Int}(Z:Ak rI E a1 c2 (p0)){fuel:Nat}{r:(Cc)}(K:f20 fuel p0=some r):AO J 5 [.slice a1 (p0).length c2] E [] (λw E' B'=>∃(O:Nat) (U:Ao) (Y:Nat),w=.pointer (some ⟨O,0,none⟩)/\B'=[(O,.cells #[.slice U (r.1).length Y,iV r.2.1,.int .u64 ((r.2.2:Nat):Int)] 56 (0,0))]/\Ak rI E' U Y (r.1)):=by
 refine Bd Tryz.func5 λQ ah cs H aa ab=>?_;unfold f20 at K;refine C 7 V (As (v:=.agg #[.slice a1 (p0).length c2,iV 0,.int .u64 ((2685821657736338717:Nat):Int)]) V (λρ h=>BB [(0,1),(1,1),(2,1)] h (B4 Tryz.type56) Tryz.underlying56 ⟨V,AB Tryz.type22,V,AB Tryz.type3,V,AB Tryz.type54,trivial⟩ V V) ?_);refine JS.box (v:=.agg #[.slice a1 (p0).length c2,iV 0,.int .u64 ((2685821657736338717:Nat):Int)]) V V V aa V λae ag=>C 2 V ?_;cases K;exact AU Tryz.func5 V V (ab (Le.refl _) V ⟨ae,a1,c2,V,(by first | rfl | simp | (simp[Value.cells])),Z⟩ ag)
def f83(fuel:Nat)(p0:Cc):Option (Nat×(Cc)):=
 (AG (p0.2.1+1)).bind λO=>
 Option.bind (
  if O<=((p0.1).length:Int) then(
   (AG (O - 1)).bind λU=>
   (ix p0.1 (U)).bind λY=>
   some (((((CK O)*11400714819323198485)%2^64) ^^^ (((CK Y)*14029467366897019727)%2^64))%2^64)
  ) else(
   some (((CK O)*11400714819323198485)%2^64)
  )
 ) λK=>
 some (((((((((((p0.2.2 ^^^ K)%2^64)*18397679294719823053)%2^64) ^^^ (((((p0.2.2 ^^^ K)%2^64)*18397679294719823053)%2^64)>>>33))%2^64)*14181476777654086739)%2^64) ^^^ (((((((((p0.2.2 ^^^ K)%2^64)*18397679294719823053)%2^64) ^^^ (((((p0.2.2 ^^^ K)%2^64)*18397679294719823053)%2^64)>>>33))%2^64)*14181476777654086739)%2^64)>>>29))%2^64)>>>11,(p0.1,O,(((((p0.2.2 ^^^ K)%2^64)*18397679294719823053)%2^64) ^^^ (((((p0.2.2 ^^^ K)%2^64)*18397679294719823053)%2^64)>>>33))%2^64))
variable{p0:Cc}
theorem YO{bk:Nat}(ae:Ak rI E a1 c2 (p0.1)){fuel:Nat}{r:Nat×(Cc)}(ag:f83 fuel p0=some r):AO J 28 [.pointer (some ⟨bk,0,none⟩)] E [(bk,.cells #[.slice a1 (p0.1).length c2,iV p0.2.1,.int .u64 ((p0.2.2:Nat):Int)] 56 (0,0))] (λw E' B'=>∃(ah:Ao) (ai:Nat),w=.int .u64 ((r.1:Nat):Int)/\B'=[(bk,.cells #[.slice ah (r.2.1).length ai,iV r.2.2.1,.int .u64 ((r.2.2.2:Nat):Int)] 56 (0,0))]/\Ak rI E' ah ai (r.2.1)):=by
 refine Bd Tryz.func28 λQ aE cs H aj ao=>?_;unfold f83 at ag;refine C 8 V (Bg Tryz.underlying56 AE V V V ?_);refine As (v:=iV p0.2.1) V (λρ h=>Yl.load AJ (h _ _ V) (Be (j:=0) (off:=1) aj V V)) ?_;let⟨Y,ap,aq⟩:=bs ag;refine Bi ap V V V (C 1 V ?_);refine Bg Tryz.underlying56 AE V V V (Bf 0 aj AE λU=>?_);refine C 5 V (Bg Tryz.underlying56 AE V V V ?_);refine As (v:=iV Y) V (λρ h=>Yl.load AJ (h _ _ V) (Be (j:=0) (off:=1) U V V)) (As (v:=.int .u64 ((CK Y:Nat):Int)) V (λρ h=>Yl.CK Tryz.underlying3 Tryz.underlying54 (h _ _ V)) ?_);refine As (v:=.int .u64 ((((CK Y)*11400714819323198485)%2^64:Nat):Int)) V (λρ h=>MC (h _ _ V) (h _ _ V)) (C 4 V ?_);refine Gn 9 [bk] ⟨⟨0,_,V⟩,trivial⟩ U λK=>Bv K V [0,1] V (BT 2 K Tryz.underlying56 AE V V V V ?_);refine Hi 3 K 1 0 U AJ ?_;refine Bv K V [4,5] V (BT 6 K Tryz.underlying56 CO V V V V ?_);refine Hi 7 K 0 0 U Ge ?_;refine AZ 8 K V V (λρ h s' Z=>Yl.len V Tryz.underlying22 (h _ _ V)) (BY [9] ?_);let⟨O,ar,au⟩:=bs aq;refine C 2 V (Gq [[(bk,.cells #[.slice a1 (p0.1).length c2,iV Y,.int .u64 ((p0.2.2:Nat):Int)] 56 (0,0))]] [(0,.pointer (some ⟨bk,0,none⟩)),(3,.int .u64 ((O:Nat):Int))] (λaF ak al=>?_) (λam=>?_));refine C 5 V (Bg Tryz.underlying56 Iw V V V ?_);refine As (v:=.int .u64 ((p0.2.2:Nat):Int)) V (λρ h=>Yl.load LX (h _ _ V) (Be (j:=0) (off:=2) al V V)) (C 1 V ?_);refine As (v:=.int .u64 (((p0.2.2 ^^^ O)%2^64:Nat):Int)) V (λρ h=>MB (h _ _ V) (h _ _ V)) (As (v:=.int .u64 (((((p0.2.2 ^^^ O)%2^64)*18397679294719823053)%2^64:Nat):Int)) V (λρ h=>MC (h _ _ V) (h _ _ V)) ?_);refine C 1 V (Bg Tryz.underlying56 Iw V V V ?_);refine Bf 0 al Iw λaa=>?_;refine C 2 V (Gn 11 [bk] ⟨⟨0,_,V⟩,trivial⟩ aa λK=>?_);refine Bv K V [0,1,2] V (BT 3 K Tryz.underlying56 Iw V V V V ?_);refine Hi 4 K 2 0 aa LX ?_;refine Bv K V [5,6] V (BT 7 K Tryz.underlying56 Iw V V V V ?_);refine Hi 8 K 2 0 aa LX ?_;refine AZ (v:=.int .u64 ((((((p0.2.2 ^^^ O)%2^64)*18397679294719823053)%2^64)>>>33:Nat):Int)) 9 K V V (λρ h s' Z=>Ka 33 (h _ _ V) (h _ _ V) (by decide)) (AZ (v:=.int .u64 (((((((p0.2.2 ^^^ O)%2^64)*18397679294719823053)%2^64) ^^^ (((((p0.2.2 ^^^ O)%2^64)*18397679294719823053)%2^64)>>>33))%2^64:Nat):Int)) 10 K V V (λρ h s' Z=>MB (h _ _ V) (h _ _ V)) ?_);refine BY [11,12,13] (C 1 V ?_);refine Bg Tryz.underlying56 Iw V V V (Bf 0 aa Iw λan=>?_);refine C 5 V (Bg Tryz.underlying56 Iw V V V ?_);refine As (v:=.int .u64 (((((((p0.2.2 ^^^ O)%2^64)*18397679294719823053)%2^64) ^^^ (((((p0.2.2 ^^^ O)%2^64)*18397679294719823053)%2^64)>>>33))%2^64:Nat):Int)) V (λρ h=>Yl.load LX (h _ _ V) (Be (j:=0) (off:=2) an V V)) (As (v:=.int .u64 (((((((((p0.2.2 ^^^ O)%2^64)*18397679294719823053)%2^64) ^^^ (((((p0.2.2 ^^^ O)%2^64)*18397679294719823053)%2^64)>>>33))%2^64)*14181476777654086739)%2^64:Nat):Int)) V (λρ h=>MC (h _ _ V) (h _ _ V)) ?_);refine C 6 V (As (v:=.int .u64 ((((((((((p0.2.2 ^^^ O)%2^64)*18397679294719823053)%2^64) ^^^ (((((p0.2.2 ^^^ O)%2^64)*18397679294719823053)%2^64)>>>33))%2^64)*14181476777654086739)%2^64)>>>29:Nat):Int)) V (λρ h=>Ka 29 (h _ _ V) (h _ _ V) (by decide)) ?_);refine As (v:=.int .u64 (((((((((((p0.2.2 ^^^ O)%2^64)*18397679294719823053)%2^64) ^^^ (((((p0.2.2 ^^^ O)%2^64)*18397679294719823053)%2^64)>>>33))%2^64)*14181476777654086739)%2^64) ^^^ (((((((((p0.2.2 ^^^ O)%2^64)*18397679294719823053)%2^64) ^^^ (((((p0.2.2 ^^^ O)%2^64)*18397679294719823053)%2^64)>>>33))%2^64)*14181476777654086739)%2^64)>>>29))%2^64:Nat):Int)) V (λρ h=>MB (h _ _ V) (h _ _ V)) (As (v:=.int .u64 ((((((((((((p0.2.2 ^^^ O)%2^64)*18397679294719823053)%2^64) ^^^ (((((p0.2.2 ^^^ O)%2^64)*18397679294719823053)%2^64)>>>33))%2^64)*14181476777654086739)%2^64) ^^^ (((((((((p0.2.2 ^^^ O)%2^64)*18397679294719823053)%2^64) ^^^ (((((p0.2.2 ^^^ O)%2^64)*18397679294719823053)%2^64)>>>33))%2^64)*14181476777654086739)%2^64)>>>29))%2^64)>>>11:Nat):Int)) V (λρ h=>Ka 11 (h _ _ V) (h _ _ V) (by decide)) ?_);refine C 2 V ?_;cases au;exact AU Tryz.func28 V V (ao ak V ⟨a1,c2,V,V,(ae.Ad ak)⟩ an);refine AX ar (λav aw=>?_) (λav ay=>?_);refine Gn 14 [bk] ⟨⟨0,_,V⟩,trivial⟩ U λK=>Bv K V [0,1,2] V (BT 3 K Tryz.underlying56 CO V V V V ?_);refine Hi 4 K 0 0 U Ge ?_;refine Bv K V [5,6] V (BT 7 K Tryz.underlying56 AE V V V V ?_);refine Hi 8 K 1 0 U AJ ?_;let⟨aG,az,aA⟩:=bs aw;refine AZ 9 K V V (λρ h s' Z=>GK (h _ _ V) (h _ _ V) az) ?_;let⟨ab,aB,aC⟩:=bs aA;refine FJ 10 ae aB K Tryz.underlying22 AE ?_;rintro aH aI _ rfl aD;refine JG.lp 11 K 0 aD U ⟨⟨0,_,V⟩,trivial⟩ AJ ?_;refine AZ (v:=.int .u64 ((CK ab:Nat):Int)) 12 K V V (λρ h s' Z=>Yl.CK Tryz.underlying3 Tryz.underlying54 (h _ _ V)) (AZ (v:=.int .u64 ((((CK ab)*14029467366897019727)%2^64:Nat):Int)) 13 K V V (λρ h s' Z=>MC (h _ _ V) (h _ _ V)) ?_);refine BY [14,15] (As (v:=.int .u64 ((((((CK Y)*11400714819323198485)%2^64) ^^^ (((CK ab)*14029467366897019727)%2^64))%2^64:Nat):Int)) V (λρ h=>MB (h _ _ V) (h _ _ V)) ?_);refine C 2 V ?_;cases aC;exact am (Le.refl _) U V;refine JL.skip ?_;cases ay;exact am (Le.refl _) U V
def f36(fuel:Nat)(p0:Cc)(p1:Int):Option (Int×(Cc)):=
 (f83 fuel p0).bind λK=>
 if p1<1 then(
  some (0,K.2)
 ) else(
  (Na (K.1) ((CK p1+1)%2^64)).bind λO=>
  some (LO O,K.2)
 )
variable{p1:Int}{r:Int×(Cc)}
theorem Kg{bk:Nat}(ai:Ak rI E a1 c2 (p0.1)){fuel:Nat}(K:f36 fuel p0 p1=some r):AO J 12 [.pointer (some ⟨bk,0,none⟩),iV p1] E [(bk,.cells #[.slice a1 (p0.1).length c2,iV p0.2.1,.int .u64 ((p0.2.2:Nat):Int)] 56 (0,0))] (λw E' B'=>∃(O:Ao) (U:Nat),w=iV r.1/\B'=[(bk,.cells #[.slice O (r.2.1).length U,iV r.2.2.1,.int .u64 ((r.2.2.2:Nat):Int)] 56 (0,0))]/\Ak rI E' O U (r.2.1)):=by
 refine Bd Tryz.func12 λQ ar cs H aj Y=>?_;unfold f36 at K;let⟨au,ak,al⟩:=bs K;refine C 7 V (C6 0 (YO ai ak) V V (A0 Tryz.func28 V) aj V ?_);rintro _ av _ Z ⟨aa,ab,rfl,rfl,ae⟩ ag;refine C 8 V (AX al (λam an=>?_) (λam ao=>?_));refine C 4 V ?_;cases an;exact AU Tryz.func12 V V (Y Z V ⟨aa,ab,V,V,ae⟩ ag);refine C 5 V (As (v:=.int .u64 ((CK p1:Nat):Int)) V (λρ h=>Yl.CK Tryz.underlying3 Tryz.underlying54 (h _ _ V)) ?_);refine As (v:=.int .u64 (((CK p1+1)%2^64:Nat):Int)) V (λρ h=>V8 (h _ _ V) (h _ _ V)) ?_;let⟨ah,ap,aq⟩:=bs ao;refine As (v:=.int .u64 ((ah:Nat):Int)) V (λρ h=>Uq (h _ _ V) (h _ _ V) ap) (As (v:=iV (LO ah)) V (λρ h=>XD Tryz.underlying54 Tryz.underlying3 (h _ _ V)) ?_);refine C 2 V ?_;cases aq;exact AU Tryz.func12 V V (Y Z V ⟨aa,ab,V,V,ae⟩ ag)
def f37(fuel:Nat)(p0:Cc)(p1:Int)(p2:Int):Option (Int×(Cc)):=
 (AG (p2 - p1)).bind λO=>
 (f36 fuel p0 O).bind λK=>
 (AG (p1+K.1)).bind λU=>
 some (U,K.2)
theorem RL{bk:Nat}{p2:Int}(Y:Ak rI E a1 c2 (p0.1)){fuel:Nat}(K:f37 fuel p0 p1 p2=some r):AO J 13 [.pointer (some ⟨bk,0,none⟩),iV p1,iV p2] E [(bk,.cells #[.slice a1 (p0.1).length c2,iV p0.2.1,.int .u64 ((p0.2.2:Nat):Int)] 56 (0,0))] (λw E' B'=>∃(O:Ao) (U:Nat),w=iV r.1/\B'=[(bk,.cells #[.slice O (r.2.1).length U,iV r.2.2.1,.int .u64 ((r.2.2.2:Nat):Int)] 56 (0,0))]/\Ak rI E' O U (r.2.1)):=by
 refine Bd Tryz.func13 λQ ap cs H Z aa=>?_;unfold f37 at K;let⟨aq,ab,ae⟩:=bs K;refine C 10 V (Ce ab V V V ?_);let⟨ar,ag,ah⟩:=bs ae;refine C6 0 (Kg Y ag) V V JM Z V ?_;rintro _ au _ ai ⟨aj,ak,rfl,rfl,al⟩ am;let⟨av,an,ao⟩:=bs ah;refine Bi an V V V (C 2 V ?_);cases ao;exact AU Tryz.func13 V V (aa ai V ⟨aj,ak,V,V,al⟩ am)
def f32(fuel:Nat)(p0:Cc)(p1:Int):Option (Bool×(Cc)):=
 (AG (p1 - 1)).bind λO=>
 (f36 fuel p0 O).bind λK=>
 some (decide (K.1=0),K.2)
theorem OV{bk:Nat}(Y:Ak rI E a1 c2 (p0.1)){fuel:Nat}{r:Bool×(Cc)}(K:f32 fuel p0 p1=some r):AO J 14 [.pointer (some ⟨bk,0,none⟩),iV p1] E [(bk,.cells #[.slice a1 (p0.1).length c2,iV p0.2.1,.int .u64 ((p0.2.2:Nat):Int)] 56 (0,0))] (λw E' B'=>∃(O:Ao) (U:Nat),w=.bool r.1/\B'=[(bk,.cells #[.slice O (r.2.1).length U,iV r.2.2.1,.int .u64 ((r.2.2.2:Nat):Int)] 56 (0,0))]/\Ak rI E' O U (r.2.1)):=by
 refine Bd Tryz.func14 λQ an cs H Z aa=>?_;unfold f32 at K;let⟨ao,ab,ae⟩:=bs K;refine C 8 V (Ce ab V V V ?_);let⟨ap,ag,ah⟩:=bs ae;refine C6 0 (Kg Y ag) V V JM Z V ?_;rintro _ aq _ ai ⟨aj,ak,rfl,rfl,al⟩ am;refine C 3 V ?_;cases ah;exact AU Tryz.func14 V V (aa ai V ⟨aj,ak,V,V,al⟩ am)
def f81(fuel:Nat)(p0:Cc)(p1:List Int):Option (Int×(Cc)):=
 (AG (((p1).length:Int) - 1)).bind λO=>
 (f36 fuel p0 O).bind λK=>
 (ix p1 (K.1)).bind λU=>
 some (U,K.2)
theorem Ki{bk:Nat}{K:Ao}{O:Nat}{p1:List Int}(ab:Ak rI E a1 c2 (p0.1))(ae:Ak rI E K O (p1)){fuel:Nat}(U:f81 fuel p0 p1=some r):AO J 11 [.pointer (some ⟨bk,0,none⟩),.slice K (p1).length O] E [(bk,.cells #[.slice a1 (p0.1).length c2,iV p0.2.1,.int .u64 ((p0.2.2:Nat):Int)] 56 (0,0))] (λw E' B'=>∃(Y:Ao) (Z:Nat),w=iV r.1/\B'=[(bk,.cells #[.slice Y (r.2.1).length Z,iV r.2.2.1,.int .u64 ((r.2.2.2:Nat):Int)] 56 (0,0))]/\Ak rI E' Y Z (r.2.1)):=by
 refine Bd Tryz.func11 λQ av cs H ag ah=>?_;unfold f81 at U;refine C 9 V (JL.ln Tryz.underlying22 V V V ?_);let⟨aw,ai,aj⟩:=bs U;refine Ce ai V V V ?_;let⟨ay,ak,al⟩:=bs aj;refine C6 0 (Kg ab ak) V V JM ag V ?_;rintro _ az _ aa ⟨am,an,rfl,rfl,ao⟩ ap;let⟨aA,aq,ar⟩:=bs al;refine JS.ix (ae.Ad aa) aq Tryz.underlying22 AE ?_;rintro aB aC _ rfl au;refine Bu 0 au AJ V V V (C 2 V ?_);cases ar;exact AU Tryz.func11 V V (ah aa V ⟨am,an,V,V,ao⟩ ap)
variable {J:Judge Tryz.prog}
def Li(fuel:Nat)(p0:Cc):Option ((Int×Bool)×(Cc)):=
 (f81 fuel p0 ([0,0,1,2]:List Int)).bind λK=>
 (f32 fuel K.2 4).bind λO=>
 some ((K.1,O.1),O.2)
theorem W2{bk:Nat}(ae:Ak rI E a1 c2 (p0.1)){fuel:Nat}{r:(Int×Bool)×(Cc)}(U:Li fuel p0=some r):AO J 29 [.pointer (some ⟨bk,0,none⟩)] E [(bk,.cells #[.slice a1 (p0.1).length c2,iV p0.2.1,.int .u64 ((p0.2.2:Nat):Int)] 56 (0,0))] (λw E' B'=>∃(Y:Ao) (Z:Nat),w=.agg #[iV r.1.1,.bool r.1.2]/\B'=[(bk,.cells #[.slice Y (r.2.1).length Z,iV r.2.2.1,.int .u64 ((r.2.2.2:Nat):Int)] 56 (0,0))]/\Ak rI E' Y Z (r.2.1)):=by
 refine Bd Tryz.func29 λQ aD cs H ag ah=>?_;unfold Li at U;refine C 2 V (BO ag Ff λaE ai=>?_);refine C 4 V (FY (pp:=rI) [iV 0,iV 0,iV 1,iV 2] [0,0,1,2] V V V Tryz.underlying22 AE DL (by decide) V V V ⟨V,V,V,V,trivial⟩ ai λaF aG aj ak=>?_);refine Cj 2 aj ak V λaH aa al am=>?_;let⟨K,an,ao⟩:=bs U;refine C6 0 (Ki (ae.Ad aa) al an) V V JK am V ?_;rintro _ aI _ ap ⟨aJ,aK,rfl,rfl,aq⟩ ar;let⟨O,au,av⟩:=bs ao;refine C 1 V (C6 0 (OV aq au) V V NF ar V ?_);rintro _ aL _ aw ⟨ay,az,rfl,rfl,aA⟩ aB;refine As (v:=.agg #[iV K.1,.bool O.1]) V (λρ h=>BB [(0,1),(1,1)] h Ff Tryz.underlying71 ⟨V,AB Tryz.type3,V,AB Tryz.type4,trivial⟩ V V) (Bf 1 aB Eo λab=>?_);refine JL.done ?_;cases av;refine JL.ret (v:=.agg #[iV K.1,.bool O.1]) V V (Bq.list Tryz.func29 V (vs:=[.agg #[iV K.1,.bool O.1]]) ⟨⟨_,V,Ld.many (vs:=[iV K.1,.bool O.1]) LV Eo (Gg (off:=0) 1 ab V V)⟩,trivial⟩) (CB 1 ab V λaC=>?_);exact ah ((aa.trans ap).trans aw) V ⟨ay,az,V,V,aA⟩ aC
def Ox(fuel:Nat)(K:(List Int)×Int×Nat×(List (Int×Bool))×Int):Option (Bl ((List Int)×Int×Nat×(List (Int×Bool))×Int) ((List (Int×Bool))×Cc)):=
 if 0<K.2.2.2.2 then(
  (Li fuel (K.1,K.2.1,K.2.2.1)).bind λO=>
  (room K.2.2.2.1 O.1).bind λU=>
  (AG (K.2.2.2.2 - 1)).bind λY=>
  some (.more (O.2.1,O.2.2.1,O.2.2.2,U,Y))
 ) else(
  some (.done (K.2.2.2.1,K.1,K.2.1,K.2.2.1))
 )
def Lk(fuel:Nat)(p0:Cc)(p1:Int):Option ((List (Int×Bool))×(Cc)):=
 (f37 fuel p0 1 p1).bind λK=>
 Option.bind (iter (Ox fuel) fuel (K.2.1,K.2.2.1,K.2.2.2,[],K.1)) λO=>
 some O
theorem MS{bk:Nat}(aE:Ak rI E a1 c2 (p0.1)){fuel:Nat}{r:(List (Int×Bool))×(Cc)}(ap:Lk fuel p0 p1=some r):AO J 15 [.pointer (some ⟨bk,0,none⟩),iV p1] E [(bk,.cells #[.slice a1 (p0.1).length c2,iV p0.2.1,.int .u64 ((p0.2.2:Nat):Int)] 56 (0,0))] (λw E' B'=>∃(aq:Ao) (ar:Nat) (au:Ao) (av:Nat),w=.slice aq (r.1).length ar/\B'=[(bk,.cells #[.slice au (r.2.1).length av,iV r.2.2.1,.int .u64 ((r.2.2.2:Nat):Int)] 56 (0,0))]/\Ak (rP rI rB) E' aq ar (r.1)/\Ak rI E' au av (r.2.1)):=by
 refine Bd Tryz.func15 λQ bo cs H aF aG=>?_;unfold Lk at ap;let⟨bp,aH,aI⟩:=bs ap;refine C 13 V (C6 0 (RL aE aH) V V (A0 Tryz.func13 V) aF V ?_);rintro _ am _ aJ ⟨aK,aL,rfl,rfl,aM⟩ aN;let⟨O,aO,aP⟩:=bs aI;refine C 2 V (BF (λL s=>∃(ab:LH) (ae:Ao) (ag:Nat) (an:Seg) (ah:Ao) (ai:Nat),Jn am H ab [[(bk,.cells #[.slice ah (O.2.1).length ai,iV O.2.2.1,.int .u64 ((O.2.2.2:Nat):Int)] 56 (0,0))],an] [(5,.slice ae (O.1).length ag)] L s (OL 71 (rP rI rB) ab ae ag an (O.1)/\Ak rI ab ah ai (O.2.1))) ?_ ?_);rintro _ _ ⟨ab,ae,ag,an,ah,ai,rfl,rfl,aQ,aR,aS,aT⟩;refine C 5 V (Cj 1 aS aR V λbq aw aU aV=>?_);cases aP;exact AU Tryz.func15 V V (aG ((aJ.trans aQ).trans aw) V ⟨ae,ag,ah,ai,V,V,aU,(aT.Ad aw)⟩ aV);intro aW;refine JL.block (Es aO (λL s K=>∃(U:LH) (aj:Ao) (ak:Nat) (Y:Ao) (Z:Nat) (al:Seg),Jn am H U [[(bk,.cells #[.slice aj (K.1).length ak,iV K.2.1,.int .u64 ((K.2.2.1:Nat):Int)] 56 (0,0))],al] [(0,.pointer (some ⟨bk,0,none⟩)),(5,.slice Y (K.2.2.2.1).length Z),(6,iV K.2.2.2.2)] L s (Ak rI U aj ak (K.1)/\OL 71 (rP rI rB) U Y Z al (K.2.2.2.1))) ⟨am,aK,aL,none,0,[],V,V,(Le.refl _),aN,aM,OL.nil⟩ ?_);rintro _ _ K ⟨U,aj,ak,Y,Z,al,rfl,rfl,ay,az,aA,aB⟩ aX ⟨br,ao⟩ aY;have aC:=ao;unfold Ox at aC;refine C 6 V (AX aC (λaZ a0=>?_) (λaZ a2=>?_));let⟨aa,a3,a4⟩:=bs a0;refine C 6 V (C6 0 (W2 aA a3) V V (A0 Tryz.func29 V) az V ?_);rintro _ a5 _ aD ⟨a6,a7,rfl,rfl,a8⟩ a9;let⟨ba,bb,be⟩:=bs a4;refine JS.app (pp:=(rP rI rB)) (v:=.agg #[iV aa.1.1,.bool aa.1.2]) (a:=Y) (c:=Z) 1 bb V V V V (λ_=>V) V (λ_=>V) V V V Tryz.underlying40 Tryz.underlying40 Tryz.underlying40 Eo (Cy Tryz.type71) Ff V (by decide) (by decide) (by decide) (by decide) (aB.Ad aD) ⟨_,_,V,V,V⟩ a9 V λbu bf bg bh bi bj=>?_;let⟨bl,bm,bn⟩:=bs be;refine C 5 V (Ce bm V V V ?_);refine C 2 V ?_;cases bn;exact AP (aY _ _ (aa.2.1,aa.2.2.1,aa.2.2.2,ba,bl) ⟨a5,a6,a7,bf,bg,bh,V,V,(ay.trans aD),bj,a8,bi⟩ ao) V;refine JL.exit V ?_;cases a2;obtain rfl:=aX _ ao;exact AP (aW _ _ ⟨U,Y,Z,al,aj,ak,V,V,ay,az,aB,aA⟩) V
def KX(fuel:Nat)(U:Int×(Cc))(K:(List Int)×Int×Nat×(List Int)×Int):Option (Bl ((List Int)×Int×Nat×(List Int)×Int) ((List Int)×Cc)):=
 Option.bind (
  if K.2.2.2.2<U.1 then(
   some (decide (((K.2.2.2.1).length:Int)<3))
  ) else(
   some false
  )
 ) λY=>
 if Y=true then(
  (f32 fuel (K.1,K.2.1,K.2.2.1) 3).bind λO=>
  Option.bind (
   if O.1=true then(
    (room K.2.2.2.1 K.2.2.2.2).bind λZ=>
    some Z
   ) else(
    some K.2.2.2.1
   )
  ) λaa=>
  (AG (K.2.2.2.2+1)).bind λab=>
  some (.more (O.2.1,O.2.2.1,O.2.2.2,aa,ab))
 ) else(
  some (.done (K.2.2.2.1,K.1,K.2.1,K.2.2.1))
 )
def Mp(fuel:Nat)(p1:Int)(K:(List Int)×(List (List Int))×(List Int)×Int×Nat×Int):Option (Bl ((List Int)×(List (List Int))×(List Int)×Int×Nat×Int) ((List Int)×Int×Nat×(List Int)×(List (List Int)))):=
 if 0<K.2.2.2.2.2 then(
  (f37 fuel (K.2.2.1,K.2.2.2.1,K.2.2.2.2.1) 1 p1).bind λO=>
  Option.bind (iter (KX fuel O) fuel (O.2.1,O.2.2.1,O.2.2.2,[],0)) λU=>
  Option.bind (
   if((U.1).length:Int)=0 then(
    (f32 fuel U.2 6).bind λZ=>
    some ((!Z.1),Z.2.1,Z.2.2.1,Z.2.2.2)
   ) else(
    some (false,U.2.1,U.2.2.1,U.2.2.2)
   )
  ) λY=>
  Option.bind (
   if Y.1=true then(
    (AG (O.1 - 1)).bind λae=>
    (f36 fuel Y.2 ae).bind λaa=>
    some (([aa.1]:List Int),aa.2.1,aa.2.2.1,aa.2.2.2)
   ) else(
    some (U.1,Y.2.1,Y.2.2.1,Y.2.2.2)
   )
  ) λab=>
  (CJ K.1 ([O.1]:List Int)).bind λag=>
  (CJ K.2.1 ([ab.1]:List (List Int))).bind λah=>
  (AG (K.2.2.2.2.2 - 1)).bind λai=>
  some (.more (ag,ah,ab.2.1,ab.2.2.1,ab.2.2.2,ai))
 ) else(
  some (.done (K.2.2.1,K.2.2.2.1,K.2.2.2.2.1,K.1,K.2.1))
 )
def OB(fuel:Nat)(K:(List (List (Int×Bool)))×(List Int)×Int×Nat×Int):Option (Bl ((List (List (Int×Bool)))×(List Int)×Int×Nat×Int) ((List Int)×Int×Nat×(List (List (Int×Bool))))):=
 if 0<K.2.2.2.2 then(
  (f81 fuel (K.2.1,K.2.2.1,K.2.2.2.1) ([1,1,2,3]:List Int)).bind λU=>
  (Lk fuel U.2 U.1).bind λO=>
  (CJ K.1 ([O.1]:List (List (Int×Bool)))).bind λY=>
  (AG (K.2.2.2.2 - 1)).bind λZ=>
  some (.more (Y,O.2.1,O.2.2.1,O.2.2.2,Z))
 ) else(
  some (.done (K.2.1,K.2.2.1,K.2.2.2.1,K.1))
 )
def Lt(fuel:Nat)(p0:Cc)(p1:Int)(p2:Int):Option (((List Int)×(List (List Int))×Int×(List (List (Int×Bool))))×(Cc)):=
 (f36 fuel p0 3).bind λZ=>
 (f81 fuel Z.2 ([0,1,2,2,Z.1]:List Int)).bind λaa=>
 (f81 fuel aa.2 ([1,1,2]:List Int)).bind λO=>
 Option.bind (iter (Mp fuel p1) fuel ([],[],O.2.1,O.2.2.1,O.2.2.2,O.1)) λK=>
 (f36 fuel (K.1,K.2.1,K.2.2.1) p2).bind λU=>
 Option.bind (iter (OB fuel) fuel ([],U.2.1,U.2.2.1,U.2.2.2,U.1)) λY=>
 some ((K.2.2.2.1,K.2.2.2.2,aa.1,Y.2.2.2),(Y.1,Y.2.1,Y.2.2.1))
theorem XL{bk:Nat}{p2:Int}(ed:Ak rI E a1 c2 (p0.1)){fuel:Nat}{r:((List Int)×(List (List Int))×Int×(List (List (Int×Bool))))×(Cc)}(cD:Lt fuel p0 p1 p2=some r):AO J 4 [.pointer (some ⟨bk,0,none⟩),iV p1,iV p2] E [(bk,.cells #[.slice a1 (p0.1).length c2,iV p0.2.1,.int .u64 ((p0.2.2:Nat):Int)] 56 (0,0))] (λw E' B'=>∃(cE:Ao) (cF:Nat) (cG:Ao) (cH:Nat) (cI:Ao) (cJ:Nat) (cK:Ao) (cM:Nat),w=.agg #[.slice cE (r.1.1).length cF,.slice cG (r.1.2.1).length cH,iV r.1.2.2.1,.slice cI (r.1.2.2.2).length cJ]/\B'=[(bk,.cells #[.slice cK (r.2.1).length cM,iV r.2.2.1,.int .u64 ((r.2.2.2:Nat):Int)] 56 (0,0))]/\Ak rI E' cE cF (r.1.1)/\Ak (rL rI) E' cG cH (r.1.2.1)/\Ak (rL (rP rI rB)) E' cI cJ (r.1.2.2.2)/\Ak rI E' cK cM (r.2.1)):=by
 refine Bd Tryz.func4 λQ kc cs H ee ef=>?_;unfold Lt at cD;refine C 2 V (BO ee JU λY eg=>?_);let⟨a7,eh,ei⟩:=bs cD;refine C 5 V (C6 0 (Kg ed eh) V V JM eg V ?_);rintro _ ke _ ej ⟨ek,el,rfl,rfl,em⟩ en;refine FY (pp:=rI) [iV 0,iV 1,iV 2,iV 2,iV a7.1] [0,1,2,2,a7.1] V V V Tryz.underlying22 AE DL (by decide) V V V ⟨V,V,V,V,V,trivial⟩ en λkf eo ep er=>Bt (S':=[[(bk,.cells #[.slice ek (a7.2.1).length el,iV a7.2.2.1,.int .u64 ((a7.2.2.2:Nat):Int)] 56 (0,0))],[(Y,.cells #[.slice none 0 0,.slice none 0 0,iV 0,.slice none 0 0] 26 (0,0))],eo]) V er λet=>Cj 2 ep et V λkg cN eu ew=>?_;let⟨U,ex,ey⟩:=bs ei;refine C6 0 (Ki (em.Ad cN) eu ex) V V JK ew V ?_;rintro _ kh _ ez ⟨cO,cP,rfl,rfl,eA⟩ eB;refine As (v:=.agg #[.slice none 0 0,.slice none 0 0,iV U.1,.slice none 0 0]) V (λρ h=>BB [(0,1),(1,1),(2,1),(3,1)] h JU Tryz.underlying26 ⟨V,AB Tryz.type22,V,AB Tryz.type23,V,AB Tryz.type3,V,AB Tryz.type24,trivial⟩ V V) (BO eB JU λZ eC=>?_);refine Bt (S':=[[(bk,.cells #[.slice cO (U.2.1).length cP,iV U.2.2.1,.int .u64 ((U.2.2.2:Nat):Int)] 56 (0,0))],[(Y,.cells #[.slice none 0 0,.slice none 0 0,iV 0,.slice none 0 0] 26 (0,0))],[],[(Z,.cells #[.slice none 0 0,.slice none 0 0,iV 0,.slice none 0 0] 26 (0,0))]]) V eC λeD=>Bf 3 eD Dz λeE=>?_;refine C 5 V (FY (pp:=rI) [iV 1,iV 1,iV 2] [1,1,2] V V V Tryz.underlying22 AE DL (by decide) V V V ⟨V,V,V,trivial⟩ eE λki kj eF eG=>?_);refine Cj 4 eF eG V λkl cQ eH eI=>Bt (S':=[[(bk,.cells #[.slice cO (U.2.1).length cP,iV U.2.2.1,.int .u64 ((U.2.2.2:Nat):Int)] 56 (0,0))],[(Y,.cells #[.slice none 0 0,.slice none 0 0,iV 0,.slice none 0 0] 26 (0,0))],[],[(Z,.cells #[.slice none 0 0,.slice none 0 0,iV U.1,.slice none 0 0] 26 (0,0))],[]]) V eI λeJ=>?_;let⟨km,eK,eL⟩:=bs ey;refine C6 0 (Ki (eA.Ad cQ) eH eK) V V JK eJ V ?_;rintro _ bS _ eM ⟨eN,eO,rfl,rfl,eP⟩ eQ;let⟨O,eR,eS⟩:=bs eL;refine C 2 V (BF (λL s=>∃(a8:LH) (bT:Ao) (bU:Nat) (ae:Ao) (ag:Nat) (al:Seg) (ah:Ao) (ai:Nat) (am:Seg),Jn bS H a8 [[(bk,.cells #[.slice bT (O.1).length bU,iV O.2.1,.int .u64 ((O.2.2.1:Nat):Int)] 56 (0,0))],[(Y,.cells #[.slice none 0 0,.slice none 0 0,iV 0,.slice none 0 0] 26 (0,0))],[(Z,.cells #[.slice ae (O.2.2.2.1).length ag,.slice ah (O.2.2.2.2).length ai,iV U.1,.slice none 0 0] 26 (0,0))],al,am] [(0,.pointer (some ⟨bk,0,none⟩)),(2,iV p2),(6,.pointer (some ⟨Y,0,none⟩)),(7,.pointer (some ⟨Z,0,none⟩))] L s (Ak rI a8 bT bU (O.1)/\OL 3 rI a8 ae ag al (O.2.2.2.1)/\OL 22 (rL rI) a8 ah ai am (O.2.2.2.2))) ?_ ?_);rintro _ _ ⟨a8,bT,bU,ae,ag,al,ah,ai,am,rfl,rfl,eT,eU,eV,eW,eX⟩;let⟨kn,eY,eZ⟩:=bs eS;refine C 5 V (C6 0 (Kg eV eY) V V JM eU V ?_);rintro _ bV _ bW ⟨e0,e1,rfl,rfl,e3⟩ e4;let⟨ak,e5,e6⟩:=bs eZ;refine C 2 V (BF (λL s=>∃(bq:LH) (aV:Ao) (aW:Nat) (az:Ao) (aA:Nat) (br:Seg),Jn bV H bq [[(bk,.cells #[.slice aV (ak.1).length aW,iV ak.2.1,.int .u64 ((ak.2.2.1:Nat):Int)] 56 (0,0))],[(Y,.cells #[.slice none 0 0,.slice none 0 0,iV 0,.slice none 0 0] 26 (0,0))],[(Z,.cells #[.slice ae (O.2.2.2.1).length ag,.slice ah (O.2.2.2.2).length ai,iV U.1,.slice az (ak.2.2.2).length aA] 26 (0,0))],al,am,br] [(6,.pointer (some ⟨Y,0,none⟩)),(7,.pointer (some ⟨Z,0,none⟩))] L s (Ak rI bq aV aW (ak.1)/\OL 40 (rL (rP rI rB)) bq az aA br (ak.2.2.2))) ?_ ?_);rintro _ _ ⟨bq,aV,aW,az,aA,br,rfl,rfl,bY,cR,e7,e8⟩;refine C 2 V (As V (λρ h=>HC (vs:=[.slice ae (O.2.2.2.1).length ag,.slice ah (O.2.2.2.2).length ai,iV U.1,.slice az (ak.2.2.2).length aA]) I1 Dz (h _ _ V) (Gg (off:=0) 2 cR V V)) ?_);refine Bf 1 cR Dz λe9=>?_;refine Bt (S':=[[(bk,.cells #[.slice aV (ak.1).length aW,iV ak.2.1,.int .u64 ((ak.2.2.1:Nat):Int)] 56 (0,0))],[(Y,.cells #[.slice ae (O.2.2.2.1).length ag,.slice ah (O.2.2.2.2).length ai,iV U.1,.slice az (ak.2.2.2).length aA] 26 (0,0))],[(Z,.cells #[.slice ae (O.2.2.2.1).length ag,.slice ah (O.2.2.2.2).length ai,iV U.1,.slice az (ak.2.2.2).length aA] 26 (0,0))],al,am,br]) V e9 λfa=>JL.done (Cj 3 (eW.Ad (bW.trans bY)) fa V λko bu fb fc=>?_);refine Cj 4 (eX.Ad ((bW.trans bY).trans bu)) fc V λkp bv fe ff=>Cj 5 (e8.Ad (bu.trans bv)) ff V λkq bw fg fh=>Bt (S':=[[(bk,.cells #[.slice aV (ak.1).length aW,iV ak.2.1,.int .u64 ((ak.2.2.1:Nat):Int)] 56 (0,0))],[(Y,.cells #[.slice ae (O.2.2.2.1).length ag,.slice ah (O.2.2.2.2).length ai,iV U.1,.slice az (ak.2.2.2).length aA] 26 (0,0))],[(Z,.cells #[.slice ae (O.2.2.2.1).length ag,.slice ah (O.2.2.2.2).length ai,iV U.1,.slice az (ak.2.2.2).length aA] 26 (0,0))],[],[],[]]) V fh λfj=>JS.drop 2 fj V λcT=>?_;cases e6;refine JL.ret (v:=.agg #[.slice ae (O.2.2.2.1).length ag,.slice ah (O.2.2.2.2).length ai,iV U.1,.slice az (ak.2.2.2).length aA]) V V (Bq.list Tryz.func4 V (vs:=[.agg #[.slice ae (O.2.2.2.1).length ag,.slice ah (O.2.2.2.2).length ai,iV U.1,.slice az (ak.2.2.2).length aA]]) ⟨⟨_,V,Ld.many (vs:=[.slice ae (O.2.2.2.1).length ag,.slice ah (O.2.2.2.2).length ai,iV U.1,.slice az (ak.2.2.2).length aA]) I1 Dz (Gg (off:=0) 1 cT V V)⟩,trivial⟩) (CB 1 cT V λfk=>?_);exact ef ((((((((((ej.trans cN).trans ez).trans cQ).trans eM).trans eT).trans bW).trans bY).trans bu).trans bv).trans bw) V ⟨ae,ag,ah,ai,az,aA,aV,aW,V,V,(fb.Ad (bv.trans bw)),(fe.Ad bw),fg,(e7.Ad ((bu.trans bv).trans bw))⟩ fk;intro fl;refine JL.block (Es e5 (λL s aj=>∃(a9:LH) (ar:Ao) (au:Nat) (aD:Seg) (ba:Ao) (bb:Nat),Jn bV H a9 [[(bk,.cells #[.slice ba (aj.2.1).length bb,iV aj.2.2.1,.int .u64 ((aj.2.2.2.1:Nat):Int)] 56 (0,0))],[(Y,.cells #[.slice none 0 0,.slice none 0 0,iV 0,.slice none 0 0] 26 (0,0))],[(Z,.cells #[.slice ae (O.2.2.2.1).length ag,.slice ah (O.2.2.2.2).length ai,iV U.1,.slice ar (aj.1).length au] 26 (0,0))],al,am,aD] [(0,.pointer (some ⟨bk,0,none⟩)),(6,.pointer (some ⟨Y,0,none⟩)),(7,.pointer (some ⟨Z,0,none⟩)),(12,iV aj.2.2.2.2)] L s (OL 40 (rL (rP rI rB)) a9 ar au aD (aj.1)/\Ak rI a9 ba bb (aj.2.1))) ⟨bV,none,0,[],e0,e1,V,V,(Le.refl _),e4,OL.nil,e3⟩ ?_);rintro _ _ aj ⟨a9,ar,au,aD,ba,bb,rfl,rfl,aX,bx,aY,bz⟩ fm ⟨kr,aN⟩ be;have cV:=aN;unfold OB at cV;refine C 6 V (AX cV (λfo fp=>?_) (λfo fq=>?_));refine C 3 V (Dk 8 λaB=>?_);refine BT 0 aB Tryz.underlying26 Ds V V V V (Bv aB V [2,3] V ?_);let⟨bA,bZ,fs⟩:=bs fp;let⟨K,bB,bf⟩:=bs fs;refine Du (i:=1) (j:=4) V (by decide+kernel) ?_ ?_;refine Take.y0 (v:=.slice ar (aj.1).length au) V V V (λρ h=>Yl.load EG (h _ _ V) (Be (j:=2) bx V V)) (JG.one (i:=4) V (by decide+kernel) ?_);refine Take.DF (pp:=rI) [iV 1,iV 1,iV 2,iV 3] ([1,1,2,3]:List Int) bx V V V Tryz.underlying22 AE DL (by decide) V V V ⟨V,V,V,V,trivial⟩ λfu kt fv fw=>Ep 6 fv fw V λku b0 fx fy=>JG.one (i:=5) V (by decide+kernel) (Take.Jd (vs:=[.pointer (some ⟨bk,0,none⟩),.slice (some ⟨fu,0,none⟩) (([1,1,2,3]:List Int)).length 4]) 0 fy (Ki (bz.Ad b0) fx bZ) V V V JK V V ?_);rintro _ kv _ cW ⟨kw,kx,rfl,rfl,fz⟩ fA;refine JG.one (i:=6) V (by decide+kernel) (Take.Jd (vs:=[.pointer (some ⟨bk,0,none⟩),iV bA.1]) 0 fA (MS fz bB) V V V LY V V ?_);rintro _ ky _ cX ⟨fB,fC,b1,b2,rfl,rfl,fD,fE⟩ fF;refine JG.one (i:=7) V (by decide+kernel) (Take.DF (pp:=(rL (rP rI rB))) [.slice fB (K.1).length fC] ([K.1]:List (List (Int×Bool))) fF V V V Tryz.underlying24 EH G5 (by decide) V V V ⟨⟨_,_,V,fD⟩,trivial⟩ λkz fG fH fI=>?_);refine BY [8,9,10] (Bt (S':=[[(bk,.cells #[.slice b1 (K.2.1).length b2,iV K.2.2.1,.int .u64 ((K.2.2.2:Nat):Int)] 56 (0,0))],[(Y,.cells #[.slice none 0 0,.slice none 0 0,iV 0,.slice none 0 0] 26 (0,0))],[(Z,.cells #[.slice ae (O.2.2.2.1).length ag,.slice ah (O.2.2.2.2).length ai,iV U.1,.slice ar (aj.1).length au] 26 (0,0))],al,am,aD,[],fG]) V fI λfJ=>?_);refine Cj 7 fH fJ V λfK b3 fL fM=>?_;let⟨cY,fN,fO⟩:=bs bf;refine G9 (pp:=(rL (rP rI rB))) 5 fN V V V V V V V Tryz.underlying24 Tryz.underlying24 EH (Cy Tryz.type40) G5 V (by decide) (by decide) (aY.Ad (((b0.trans cW).trans cX).trans b3)) fL fM V λcZ c0 c3 fP fQ=>Bg Tryz.underlying26 Ds V V V (Bf 2 fQ Ds λfR=>?_);refine Bt (S':=[[(bk,.cells #[.slice b1 (K.2.1).length b2,iV K.2.2.1,.int .u64 ((K.2.2.2:Nat):Int)] 56 (0,0))],[(Y,.cells #[.slice none 0 0,.slice none 0 0,iV 0,.slice none 0 0] 26 (0,0))],[(Z,.cells #[.slice ae (O.2.2.2.1).length ag,.slice ah (O.2.2.2.2).length ai,iV U.1,.slice cZ (cY).length c0] 26 (0,0))],al,am,c3,[],[]]) V fR λfS=>?_;let⟨fT,fU,fW⟩:=bs fO;refine C 4 V (Ce fU V V V ?_);refine C 2 V ?_;cases fW;exact AP (be _ _ (cY,K.2.1,K.2.2.1,K.2.2.2,fT) ⟨fK,cZ,c0,c3,b1,b2,V,V,((((aX.trans b0).trans cW).trans cX).trans b3),fS,fP,(fE.Ad b3)⟩ aN) V;refine Take.DF (pp:=rI) [iV 1,iV 1,iV 2,iV 3] ([1,1,2,3]:List Int) bx V V V Tryz.underlying22 AE DL (by decide) V V V ⟨V,V,V,V,trivial⟩ λc4 kA fX fY=>Ep 6 fX fY V λkB aE c5 fZ=>U0 (S':=[[(bk,.cells #[.slice ba (aj.2.1).length bb,iV aj.2.2.1,.int .u64 ((aj.2.2.2.1:Nat):Int)] 56 (0,0))],[(Y,.cells #[.slice none 0 0,.slice none 0 0,iV 0,.slice none 0 0] 26 (0,0))],[(Z,.cells #[.slice ae (O.2.2.2.1).length ag,.slice ah (O.2.2.2.2).length ai,iV U.1,.slice ar (aj.1).length au] 26 (0,0))],al,am,aD,[]]) V fZ λb4=>Du (i:=1) (j:=5) V (by decide+kernel) ?_ ?_;refine Take.y0 (v:=.slice ar (aj.1).length au) V V V (λρ h=>Yl.load EG (h _ _ V) (Be (j:=2) b4 V V)) (JG.one (i:=5) V (by decide+kernel) ?_);refine Take.Jd (vs:=[.pointer (some ⟨bk,0,none⟩),.slice (some ⟨c4,0,none⟩) (([1,1,2,3]:List Int)).length 4]) 0 b4 (Ki (bz.Ad aE) c5 bZ) V V V JK V V ?_;rintro _ kC _ c6 ⟨kD,kF,rfl,rfl,ga⟩ gb;refine JG.one (i:=6) V (by decide+kernel) (Take.Jd (vs:=[.pointer (some ⟨bk,0,none⟩),iV bA.1]) 0 gb (MS ga bB) V V V LY V V ?_);rintro _ kG _ c7 ⟨gc,ge,b5,b6,rfl,rfl,gf,gg⟩ gh;refine JG.one (i:=7) V (by decide+kernel) (Take.DF (pp:=(rL (rP rI rB))) [.slice gc (K.1).length ge] ([K.1]:List (List (Int×Bool))) gh V V V Tryz.underlying24 EH G5 (by decide) V V V ⟨⟨_,_,V,gf⟩,trivial⟩ λkI gi gj gk=>?_);refine BY [8,9,10] (Bt (S':=[[(bk,.cells #[.slice b5 (K.2.1).length b6,iV K.2.2.1,.int .u64 ((K.2.2.2:Nat):Int)] 56 (0,0))],[(Y,.cells #[.slice none 0 0,.slice none 0 0,iV 0,.slice none 0 0] 26 (0,0))],[(Z,.cells #[.slice ae (O.2.2.2.1).length ag,.slice ah (O.2.2.2.2).length ai,iV U.1,.slice ar (aj.1).length au] 26 (0,0))],al,am,aD,[],gi]) V gk λgl=>?_);refine Cj 7 gj gl V λgm b7 gn gp=>?_;let⟨c8,gq,gt⟩:=bs bf;refine G9 (pp:=(rL (rP rI rB))) 5 gq V V V V V V V Tryz.underlying24 Tryz.underlying24 EH (Cy Tryz.type40) G5 V (by decide) (by decide) (aY.Ad (((aE.trans c6).trans c7).trans b7)) gn gp V λc9 da db gu gv=>Bg Tryz.underlying26 Ds V V V (Bf 2 gv Ds λgw=>?_);refine Bt (S':=[[(bk,.cells #[.slice b5 (K.2.1).length b6,iV K.2.2.1,.int .u64 ((K.2.2.2:Nat):Int)] 56 (0,0))],[(Y,.cells #[.slice none 0 0,.slice none 0 0,iV 0,.slice none 0 0] 26 (0,0))],[(Z,.cells #[.slice ae (O.2.2.2.1).length ag,.slice ah (O.2.2.2.2).length ai,iV U.1,.slice c9 (c8).length da] 26 (0,0))],al,am,db,[],[]]) V gw λgx=>?_;let⟨gy,gz,gA⟩:=bs gt;refine C 4 V (Ce gz V V V ?_);refine C 2 V ?_;cases gA;exact AP (be _ _ (c8,K.2.1,K.2.2.1,K.2.2.2,gy) ⟨gm,c9,da,db,b5,b6,V,V,((((aX.trans aE).trans c6).trans c7).trans b7),gx,gu,(gg.Ad b7)⟩ aN) V;refine Take.Jd (vs:=[.pointer (some ⟨bk,0,none⟩),.slice (some ⟨c4,0,none⟩) (([1,1,2,3]:List Int)).length 4]) 0 b4 (Ki (bz.Ad aE) c5 bZ) V V V JK V V ?_;rintro _ kJ _ aZ ⟨kK,kL,rfl,rfl,dc⟩ b8;refine Du (i:=1) (j:=6) V (by decide+kernel) ?_ ?_;refine Take.y0 (v:=.slice ar (aj.1).length au) V V V (λρ h=>Yl.load EG (h _ _ V) (Be (j:=2) b8 V V)) (JG.one (i:=6) V (by decide+kernel) ?_);refine Take.Jd (vs:=[.pointer (some ⟨bk,0,none⟩),iV bA.1]) 0 b8 (MS dc bB) V V V LY V V ?_;rintro _ kM _ dd ⟨gB,gC,b9,ca,rfl,rfl,gD,gE⟩ gF;refine JG.one (i:=7) V (by decide+kernel) (Take.DF (pp:=(rL (rP rI rB))) [.slice gB (K.1).length gC] ([K.1]:List (List (Int×Bool))) gF V V V Tryz.underlying24 EH G5 (by decide) V V V ⟨⟨_,_,V,gD⟩,trivial⟩ λkN gG gH gI=>?_);refine BY [8,9,10] (Bt (S':=[[(bk,.cells #[.slice b9 (K.2.1).length ca,iV K.2.2.1,.int .u64 ((K.2.2.2:Nat):Int)] 56 (0,0))],[(Y,.cells #[.slice none 0 0,.slice none 0 0,iV 0,.slice none 0 0] 26 (0,0))],[(Z,.cells #[.slice ae (O.2.2.2.1).length ag,.slice ah (O.2.2.2.2).length ai,iV U.1,.slice ar (aj.1).length au] 26 (0,0))],al,am,aD,[],gG]) V gI λgJ=>?_);refine Cj 7 gH gJ V λgK cb gL gM=>?_;let⟨de,gO,gP⟩:=bs bf;refine G9 (pp:=(rL (rP rI rB))) 5 gO V V V V V V V Tryz.underlying24 Tryz.underlying24 EH (Cy Tryz.type40) G5 V (by decide) (by decide) (aY.Ad (((aE.trans aZ).trans dd).trans cb)) gL gM V λdf dg dh gQ gR=>Bg Tryz.underlying26 Ds V V V (Bf 2 gR Ds λgS=>?_);refine Bt (S':=[[(bk,.cells #[.slice b9 (K.2.1).length ca,iV K.2.2.1,.int .u64 ((K.2.2.2:Nat):Int)] 56 (0,0))],[(Y,.cells #[.slice none 0 0,.slice none 0 0,iV 0,.slice none 0 0] 26 (0,0))],[(Z,.cells #[.slice ae (O.2.2.2.1).length ag,.slice ah (O.2.2.2.2).length ai,iV U.1,.slice df (de).length dg] 26 (0,0))],al,am,dh,[],[]]) V gS λgT=>?_;obtain⟨gU,gV,gW⟩:=bs gP;refine C 4 V (Ce gV V V V ?_);refine C 2 V ?_;cases gW;exact AP (be _ _ (de,K.2.1,K.2.2.1,K.2.2.2,gU) ⟨gK,df,dg,dh,b9,ca,V,V,((((aX.trans aE).trans aZ).trans dd).trans cb),gT,gQ,(gE.Ad cb)⟩ aN) V;refine Take.Jd (vs:=[.pointer (some ⟨bk,0,none⟩),iV bA.1]) 0 b8 (MS dc bB) V V V LY V V ?_;rintro _ kO _ bC ⟨di,dj,a0,a2,rfl,rfl,dk,dl⟩ cc;refine Du (i:=1) (j:=7) V (by decide+kernel) ?_ ?_;refine Take.y0 (v:=.slice ar (aj.1).length au) V V V (λρ h=>Yl.load EG (h _ _ V) (Be (j:=2) cc V V)) (JG.one (i:=7) V (by decide+kernel) ?_);refine Take.DF (pp:=(rL (rP rI rB))) [.slice di (K.1).length dj] ([K.1]:List (List (Int×Bool))) cc V V V Tryz.underlying24 EH G5 (by decide) V V V ⟨⟨_,_,V,dk⟩,trivial⟩ λkP gX gY gZ=>BY [8,9,10] (Bt (S':=[[(bk,.cells #[.slice a0 (K.2.1).length a2,iV K.2.2.1,.int .u64 ((K.2.2.2:Nat):Int)] 56 (0,0))],[(Y,.cells #[.slice none 0 0,.slice none 0 0,iV 0,.slice none 0 0] 26 (0,0))],[(Z,.cells #[.slice ae (O.2.2.2.1).length ag,.slice ah (O.2.2.2.2).length ai,iV U.1,.slice ar (aj.1).length au] 26 (0,0))],al,am,aD,[],gX]) V gZ λg0=>?_);refine Cj 7 gY g0 V λg1 cd g3 g4=>?_;let⟨dm,g5,g6⟩:=bs bf;refine G9 (pp:=(rL (rP rI rB))) 5 g5 V V V V V V V Tryz.underlying24 Tryz.underlying24 EH (Cy Tryz.type40) G5 V (by decide) (by decide) (aY.Ad (((aE.trans aZ).trans bC).trans cd)) g3 g4 V λdn dp dq g7 g8=>Bg Tryz.underlying26 Ds V V V (Bf 2 g8 Ds λg9=>?_);refine Bt (S':=[[(bk,.cells #[.slice a0 (K.2.1).length a2,iV K.2.2.1,.int .u64 ((K.2.2.2:Nat):Int)] 56 (0,0))],[(Y,.cells #[.slice none 0 0,.slice none 0 0,iV 0,.slice none 0 0] 26 (0,0))],[(Z,.cells #[.slice ae (O.2.2.2.1).length ag,.slice ah (O.2.2.2.2).length ai,iV U.1,.slice dn (dm).length dp] 26 (0,0))],al,am,dq,[],[]]) V g9 λha=>?_;let⟨hb,hc,hd⟩:=bs g6;refine C 4 V (Ce hc V V V ?_);refine C 2 V ?_;cases hd;exact AP (be _ _ (dm,K.2.1,K.2.2.1,K.2.2.2,hb) ⟨g1,dn,dp,dq,a0,a2,V,V,((((aX.trans aE).trans aZ).trans bC).trans cd),ha,g7,(dl.Ad cd)⟩ aN) V;refine Take.DF (pp:=(rL (rP rI rB))) [.slice di (K.1).length dj] ([K.1]:List (List (Int×Bool))) cc V V V Tryz.underlying24 EH G5 (by decide) V V V ⟨⟨_,_,V,dk⟩,trivial⟩ λkQ he hf dr=>JG.one (i:=1) V (by decide+kernel) (Take.y0 (v:=.slice ar (aj.1).length au) V V V (λρ h=>Yl.load EG (h _ _ V) (Be (j:=2) dr V V)) ?_);refine BY [8,9,10] (Bt (S':=[[(bk,.cells #[.slice a0 (K.2.1).length a2,iV K.2.2.1,.int .u64 ((K.2.2.2:Nat):Int)] 56 (0,0))],[(Y,.cells #[.slice none 0 0,.slice none 0 0,iV 0,.slice none 0 0] 26 (0,0))],[(Z,.cells #[.slice ae (O.2.2.2.1).length ag,.slice ah (O.2.2.2.2).length ai,iV U.1,.slice ar (aj.1).length au] 26 (0,0))],al,am,aD,[],he]) V dr λhg=>?_);refine Cj 7 hf hg V λhj ce hk hl=>?_;let⟨dt,hm,hn⟩:=bs bf;refine G9 (pp:=(rL (rP rI rB))) 5 hm V V V V V V V Tryz.underlying24 Tryz.underlying24 EH (Cy Tryz.type40) G5 V (by decide) (by decide) (aY.Ad (((aE.trans aZ).trans bC).trans ce)) hk hl V λdu dv dw ho hp=>Bg Tryz.underlying26 Ds V V V (Bf 2 hp Ds λhq=>?_);refine Bt (S':=[[(bk,.cells #[.slice a0 (K.2.1).length a2,iV K.2.2.1,.int .u64 ((K.2.2.2:Nat):Int)] 56 (0,0))],[(Y,.cells #[.slice none 0 0,.slice none 0 0,iV 0,.slice none 0 0] 26 (0,0))],[(Z,.cells #[.slice ae (O.2.2.2.1).length ag,.slice ah (O.2.2.2.2).length ai,iV U.1,.slice du (dt).length dv] 26 (0,0))],al,am,dw,[],[]]) V hq λhr=>?_;let⟨hs,ht,hu⟩:=bs hn;refine C 4 V (Ce ht V V V ?_);refine C 2 V ?_;cases hu;exact AP (be _ _ (dt,K.2.1,K.2.2.1,K.2.2.2,hs) ⟨hj,du,dv,dw,a0,a2,V,V,((((aX.trans aE).trans aZ).trans bC).trans ce),hr,ho,(dl.Ad ce)⟩ aN) V;refine JL.exit V ?_;cases fq;obtain rfl:=fm _ aN;exact AP (fl _ _ ⟨a9,ba,bb,ar,au,aD,V,V,aX,bx,bz,aY⟩) V;intro hv;refine JL.block (Es eR (λL s aa=>∃(a3:LH) (an:Ao) (ao:Nat) (aw:Seg) (ap:Ao) (aq:Nat) (ay:Seg) (bD:Ao) (bE:Nat),Jn bS H a3 [[(bk,.cells #[.slice bD (aa.2.2.1).length bE,iV aa.2.2.2.1,.int .u64 ((aa.2.2.2.2.1:Nat):Int)] 56 (0,0))],[(Y,.cells #[.slice none 0 0,.slice none 0 0,iV 0,.slice none 0 0] 26 (0,0))],[(Z,.cells #[.slice an (aa.1).length ao,.slice ap (aa.2.1).length aq,iV U.1,.slice none 0 0] 26 (0,0))],aw,ay] [(0,.pointer (some ⟨bk,0,none⟩)),(1,iV p1),(2,iV p2),(6,.pointer (some ⟨Y,0,none⟩)),(7,.pointer (some ⟨Z,0,none⟩)),(8,iV aa.2.2.2.2.2)] L s (OL 3 rI a3 an ao aw (aa.1)/\OL 22 (rL rI) a3 ap aq ay (aa.2.1)/\Ak rI a3 bD bE (aa.2.2.1))) ⟨bS,none,0,[],none,0,[],eN,eO,V,V,(Le.refl _),eQ,OL.nil,OL.nil,eP⟩ ?_);rintro _ _ aa ⟨a3,an,ao,aw,ap,aq,ay,bD,bE,rfl,rfl,bF,dx,bG,bH,dy⟩ hw ⟨kR,bg⟩ cf;have dz:=bg;unfold Mp at dz;refine C 6 V (AX dz (λhx hy=>?_) (λhx hz=>?_));let⟨aF,hA,hB⟩:=bs hy;refine C 7 V (C6 0 (RL dy hA) V V (A0 Tryz.func13 V) dx V ?_);rintro _ cg _ aJ ⟨hC,hD,rfl,rfl,hE⟩ hF;let⟨aO,hG,hH⟩:=bs hB;refine C 11 V (BF (λL s=>∃(a4:LH) (bh:Ao) (bi:Nat) (aP:Seg) (bI:Ao) (bJ:Nat),Jn cg H a4 [[(bk,.cells #[.slice bI (aO.2.1).length bJ,iV aO.2.2.1,.int .u64 ((aO.2.2.2:Nat):Int)] 56 (0,0))],[(Y,.cells #[.slice none 0 0,.slice none 0 0,iV 0,.slice none 0 0] 26 (0,0))],[(Z,.cells #[.slice an (aa.1).length ao,.slice ap (aa.2.1).length aq,iV U.1,.slice none 0 0] 26 (0,0))],aw,ay,aP] [(0,.pointer (some ⟨bk,0,none⟩)),(1,iV p1),(2,iV p2),(6,.pointer (some ⟨Y,0,none⟩)),(7,.pointer (some ⟨Z,0,none⟩)),(8,iV aa.2.2.2.2.2),(9,iV aF.1),(10,.slice bh (aO.1).length bi)] L s (OL 3 rI a4 bh bi aP (aO.1)/\Ak rI a4 bI bJ (aO.2.1))) ?_ ?_);rintro _ _ ⟨a4,bh,bi,aP,bI,bJ,rfl,rfl,aK,dA,hI,dB⟩;refine C 4 V (JL.ln Tryz.underlying22 V V V ?_);let⟨bj,hJ,hK⟩:=bs hH;refine C 2 V (GH [] (λL s=>∃(bl:LH) (bK:Ao) (bL:Nat),Jn a4 H bl [[(bk,.cells #[.slice bK (bj.2.1).length bL,iV bj.2.2.1,.int .u64 ((bj.2.2.2:Nat):Int)] 56 (0,0))],[(Y,.cells #[.slice none 0 0,.slice none 0 0,iV 0,.slice none 0 0] 26 (0,0))],[(Z,.cells #[.slice an (aa.1).length ao,.slice ap (aa.2.1).length aq,iV U.1,.slice none 0 0] 26 (0,0))],aw,ay,aP] [(0,.pointer (some ⟨bk,0,none⟩)),(1,iV p1),(2,iV p2),(6,.pointer (some ⟨Y,0,none⟩)),(7,.pointer (some ⟨Z,0,none⟩)),(8,iV aa.2.2.2.2.2),(9,iV aF.1),(10,.slice bh (aO.1).length bi),(52,.bool bj.1)] L s (Ak rI bl bK bL (bj.2.1))) ?_ ?_);rintro _ _ ⟨bl,bK,bL,rfl,rfl,aG,dC,dD⟩;let⟨ab,hL,hM⟩:=bs hK;refine JL.done (BF (λL s=>∃(bM:LH) (a5:Ao) (a6:Nat) (ci:Seg) (aH:Ao) (aI:Nat),Jn bl H bM [[(bk,.cells #[.slice aH (ab.2.1).length aI,iV ab.2.2.1,.int .u64 ((ab.2.2.2:Nat):Int)] 56 (0,0))],[(Y,.cells #[.slice none 0 0,.slice none 0 0,iV 0,.slice none 0 0] 26 (0,0))],[(Z,.cells #[.slice an (aa.1).length ao,.slice ap (aa.2.1).length aq,iV U.1,.slice none 0 0] 26 (0,0))],aw,ay,ci] [(0,.pointer (some ⟨bk,0,none⟩)),(1,iV p1),(2,iV p2),(6,.pointer (some ⟨Y,0,none⟩)),(7,.pointer (some ⟨Z,0,none⟩)),(8,iV aa.2.2.2.2.2),(9,iV aF.1),(10,.slice a5 (ab.1).length a6)] L s (OL 3 rI bM a5 a6 ci (ab.1)/\Ak rI bM aH aI (ab.2.1))) ?_ ?_);rintro _ _ ⟨bM,a5,a6,ci,aH,aI,rfl,rfl,aL,hN,hO,ck⟩;refine Cj 5 hO hN V λcm aC cn hP=>Bt (S':=[[(bk,.cells #[.slice aH (ab.2.1).length aI,iV ab.2.2.1,.int .u64 ((ab.2.2.2:Nat):Int)] 56 (0,0))],[(Y,.cells #[.slice none 0 0,.slice none 0 0,iV 0,.slice none 0 0] 26 (0,0))],[(Z,.cells #[.slice an (aa.1).length ao,.slice ap (aa.2.1).length aq,iV U.1,.slice none 0 0] 26 (0,0))],aw,ay,[]]) V hP λbm=>Gn 11 [Z] ⟨⟨2,_,V⟩,trivial⟩ bm λaB=>BT 0 aB Tryz.underlying26 CO V V V V (Hi 1 aB 0 2 bm Ge ?_);refine Ct 2 aB V V (BT 5 aB Tryz.underlying26 EI V V V V ?_);refine Hi 6 aB 1 2 bm GA ?_;refine Ct 7 aB V V ?_;let⟨co,cp,hQ⟩:=bs hM;let⟨cq,cr,ct⟩:=bs hQ;refine Du (i:=3) (j:=8) V (by decide+kernel) ?_ ?_;refine Take.lit (pp:=rI) (jp:=2) [iV aF.1] ([aF.1]:List Int) bm V V V V Tryz.underlying22 AE DL (by decide) V V V ⟨V,trivial⟩ λkS dE dF dG=>Du (i:=4) (j:=8) V (by decide+kernel) ?_ ?_;refine Take.app (pp:=rI) (jp:=2) 3 6 dG V cp V V V V V V V Tryz.underlying22 Tryz.underlying22 AE (Cy Tryz.type3) DL V (by decide) (by decide) (bG.Ad ((((aJ.trans aK).trans aG).trans aL).trans aC)) dF V V V V λhR hS kT dH hT hU=>BT 10 aB Tryz.underlying26 CO V V V V (JG.one (i:=8) V (by decide+kernel) ?_);refine Take.lit (pp:=(rL rI)) (jp:=2) [.slice a5 (ab.1).length a6] ([ab.1]:List (List Int)) hU V V V V Tryz.underlying23 CO HY (by decide) V V V ⟨⟨_,_,V,cn⟩,trivial⟩ λkU hV hW hX=>JG.one (i:=9) V (by decide+kernel) (Take.app (pp:=(rL rI)) (jp:=2) 4 7 hX V cr V V V V V V V Tryz.underlying23 Tryz.underlying23 CO (Cy Tryz.type22) HY V (by decide) (by decide) (bH.Ad ((((aJ.trans aK).trans aG).trans aL).trans aC)) hW V V V V λhY hZ kV dI h0 h1=>?_);refine BY [11,12,13] (Gk 3 V h1 λh2=>?_);refine JS.drop 3 h2 V λh3=>Gk 4 V h3 λh4=>JS.drop 4 h4 V λh5=>Bt (S':=[[(bk,.cells #[.slice aH (ab.2.1).length aI,iV ab.2.2.1,.int .u64 ((ab.2.2.2:Nat):Int)] 56 (0,0))],[(Y,.cells #[.slice none 0 0,.slice none 0 0,iV 0,.slice none 0 0] 26 (0,0))],[(Z,.cells #[.slice an (aa.1).length ao,.slice ap (aa.2.1).length aq,iV U.1,.slice none 0 0] 26 (0,0))],[],[],[],dE,hV,dH,dI]) V h5 λh6=>Bf 2 h6 CO λh7=>?_;refine Bg Tryz.underlying26 EI V V V (Bf 2 h7 EI λh8=>?_);let⟨h9,ia,ic⟩:=bs ct;refine C 4 V (Ce ia V V V ?_);refine C 2 V (JS.drop 6 h8 V λie=>?_);refine JS.drop 7 ie V λig=>?_;cases ic;exact AP (cf _ _ (co,cq,ab.2.1,ab.2.2.1,ab.2.2.2,h9) ⟨cm,hR,hS,dH,hY,hZ,dI,aH,aI,V,V,(((((bF.trans aJ).trans aK).trans aG).trans aL).trans aC),ig,hT,h0,(ck.Ad aC)⟩ bg) V;refine Take.lit (pp:=(rL rI)) (jp:=2) [.slice a5 (ab.1).length a6] ([ab.1]:List (List Int)) dG V V V V Tryz.underlying23 CO HY (by decide) V V V ⟨⟨_,_,V,cn⟩,trivial⟩ λkW ih ii ij=>JG.one (i:=4) V (by decide+kernel) (Take.app (pp:=rI) (jp:=2) 3 6 ij V cp V V V V V V V Tryz.underlying22 Tryz.underlying22 AE (Cy Tryz.type3) DL V (by decide) (by decide) (bG.Ad ((((aJ.trans aK).trans aG).trans aL).trans aC)) dF V V V V λik il kX dJ io iq=>?_);refine BT 10 aB Tryz.underlying26 CO V V V V (JG.one (i:=9) V (by decide+kernel) ?_);refine Take.app (pp:=(rL rI)) (jp:=2) 4 7 iq V cr V V V V V V V Tryz.underlying23 Tryz.underlying23 CO (Cy Tryz.type22) HY V (by decide) (by decide) (bH.Ad ((((aJ.trans aK).trans aG).trans aL).trans aC)) ii V V V V λir it kY dK iu iv=>BY [11,12,13] (Gk 3 V iv λiw=>?_);refine JS.drop 3 iw V λiy=>Gk 4 V iy λiz=>JS.drop 4 iz V λiA=>Bt (S':=[[(bk,.cells #[.slice aH (ab.2.1).length aI,iV ab.2.2.1,.int .u64 ((ab.2.2.2:Nat):Int)] 56 (0,0))],[(Y,.cells #[.slice none 0 0,.slice none 0 0,iV 0,.slice none 0 0] 26 (0,0))],[(Z,.cells #[.slice an (aa.1).length ao,.slice ap (aa.2.1).length aq,iV U.1,.slice none 0 0] 26 (0,0))],[],[],[],dE,ih,dJ,dK]) V iA λiB=>Bf 2 iB CO λiC=>?_;refine Bg Tryz.underlying26 EI V V V (Bf 2 iC EI λiD=>?_);let⟨iE,iF,iG⟩:=bs ct;refine C 4 V (Ce iF V V V ?_);refine C 2 V (JS.drop 6 iD V λiH=>?_);refine JS.drop 7 iH V λiI=>?_;cases iG;exact AP (cf _ _ (co,cq,ab.2.1,ab.2.2.1,ab.2.2.2,iE) ⟨cm,ik,il,dJ,ir,it,dK,aH,aI,V,V,(((((bF.trans aJ).trans aK).trans aG).trans aL).trans aC),iI,io,iu,(ck.Ad aC)⟩ bg) V;refine Take.lit (pp:=(rL rI)) (jp:=2) [.slice a5 (ab.1).length a6] ([ab.1]:List (List Int)) bm V V V V Tryz.underlying23 CO HY (by decide) V V V ⟨⟨_,_,V,cn⟩,trivial⟩ λkZ iJ iK iL=>JG.one (i:=3) V (by decide+kernel) (Take.lit (pp:=rI) (jp:=2) [iV aF.1] ([aF.1]:List Int) iL V V V V Tryz.underlying22 AE DL (by decide) V V V ⟨V,trivial⟩ λk0 iM iN iO=>?_);refine JG.one (i:=4) V (by decide+kernel) (Take.app (pp:=rI) (jp:=2) 3 7 iO V cp V V V V V V V Tryz.underlying22 Tryz.underlying22 AE (Cy Tryz.type3) DL V (by decide) (by decide) (bG.Ad ((((aJ.trans aK).trans aG).trans aL).trans aC)) iN V V V V λiP iQ k1 dL iR iS=>?_);refine BT 10 aB Tryz.underlying26 CO V V V V (JG.one (i:=9) V (by decide+kernel) ?_);refine Take.app (pp:=(rL rI)) (jp:=2) 4 6 iS V cr V V V V V V V Tryz.underlying23 Tryz.underlying23 CO (Cy Tryz.type22) HY V (by decide) (by decide) (bH.Ad ((((aJ.trans aK).trans aG).trans aL).trans aC)) iK V V V V λiT iU k2 dM iW iX=>BY [11,12,13] (Gk 3 V iX λiY=>?_);refine JS.drop 3 iY V λiZ=>Gk 4 V iZ λi0=>JS.drop 4 i0 V λi1=>Bt (S':=[[(bk,.cells #[.slice aH (ab.2.1).length aI,iV ab.2.2.1,.int .u64 ((ab.2.2.2:Nat):Int)] 56 (0,0))],[(Y,.cells #[.slice none 0 0,.slice none 0 0,iV 0,.slice none 0 0] 26 (0,0))],[(Z,.cells #[.slice an (aa.1).length ao,.slice ap (aa.2.1).length aq,iV U.1,.slice none 0 0] 26 (0,0))],[],[],[],iJ,iM,dL,dM]) V i1 λi3=>Bf 2 i3 CO λi4=>?_;refine Bg Tryz.underlying26 EI V V V (Bf 2 i4 EI λi5=>?_);let⟨i6,i7,i8⟩:=bs ct;refine C 4 V (Ce i7 V V V ?_);refine C 2 V (JS.drop 6 i5 V λi9=>?_);refine JS.drop 7 i9 V λja=>?_;cases i8;exact AP (cf _ _ (co,cq,ab.2.1,ab.2.2.1,ab.2.2.2,i6) ⟨cm,iP,iQ,dL,iT,iU,dM,aH,aI,V,V,(((((bF.trans aJ).trans aK).trans aG).trans aL).trans aC),ja,iR,iW,(ck.Ad aC)⟩ bg) V;intro dN;refine CI hL (λjb jc=>?_) (λjb jd=>?_);let⟨k3,je,jf⟩:=bs jc;refine C 3 V (Ce je V V V ?_);let⟨bn,jg,jh⟩:=bs jf;refine C6 0 (Kg dD jg) V V JM dC V ?_;rintro _ ji _ jj ⟨dO,dQ,rfl,rfl,jk⟩ jl;refine Bt (S':=[[(bk,.cells #[.slice dO (bn.2.1).length dQ,iV bn.2.2.1,.int .u64 ((bn.2.2.2:Nat):Int)] 56 (0,0))],[(Y,.cells #[.slice none 0 0,.slice none 0 0,iV 0,.slice none 0 0] 26 (0,0))],[(Z,.cells #[.slice an (aa.1).length ao,.slice ap (aa.2.1).length aq,iV U.1,.slice none 0 0] 26 (0,0))],aw,ay,aP]) V jl λjm=>FY (pp:=rI) [iV bn.1] [bn.1] V V V Tryz.underlying22 AE DL (by decide) V V V ⟨V,trivial⟩ jm λjo jq jr js=>C 2 V (JS.drop 5 js V λjt=>?_);cases jh;exact AP (dN _ _ ⟨ji,(some ⟨jo,0,none⟩),1,jq,dO,dQ,V,V,jj,jt,jr,jk⟩) V;refine JL.skip ?_;cases jd;exact AP (dN _ _ ⟨bl,bh,bi,aP,bK,bL,V,V,(Le.refl _),dC,(hI.Ad aG),dD⟩) V;intro dR;refine DW 48 hJ (λju jv=>?_) (λju jw=>?_);let⟨bN,jx,jy⟩:=bs jv;refine C 1 V (C6 0 (OV dB jx) V V NF dA V ?_);rintro _ jz _ jA ⟨dS,dT,rfl,rfl,jB⟩ jC;refine Bt (S':=[[(bk,.cells #[.slice dS (bN.2.1).length dT,iV bN.2.2.1,.int .u64 ((bN.2.2.2:Nat):Int)] 56 (0,0))],[(Y,.cells #[.slice none 0 0,.slice none 0 0,iV 0,.slice none 0 0] 26 (0,0))],[(Z,.cells #[.slice an (aa.1).length ao,.slice ap (aa.2.1).length aq,iV U.1,.slice none 0 0] 26 (0,0))],aw,ay,aP]) V jC λjD=>As (v:=.bool (!bN.1)) V (λρ h=>Yl.not (h _ _ V)) (C 1 V ?_);cases jy;exact AP (dR _ _ ⟨jz,dS,dT,V,V,jA,jD,jB⟩) V;refine C 4 V ?_;cases jw;exact AP (dR _ _ ⟨a4,bI,bJ,V,V,(Le.refl _),dA,dB⟩) V;intro jE;refine JL.block (Es hG (λL s av=>∃(aQ:LH) (bo:Ao) (bp:Nat) (aR:Ao) (aS:Nat) (aT:Seg),Jn cg H aQ [[(bk,.cells #[.slice bo (av.1).length bp,iV av.2.1,.int .u64 ((av.2.2.1:Nat):Int)] 56 (0,0))],[(Y,.cells #[.slice none 0 0,.slice none 0 0,iV 0,.slice none 0 0] 26 (0,0))],[(Z,.cells #[.slice an (aa.1).length ao,.slice ap (aa.2.1).length aq,iV U.1,.slice none 0 0] 26 (0,0))],aw,ay,aT] [(0,.pointer (some ⟨bk,0,none⟩)),(1,iV p1),(2,iV p2),(6,.pointer (some ⟨Y,0,none⟩)),(7,.pointer (some ⟨Z,0,none⟩)),(8,iV aa.2.2.2.2.2),(9,iV aF.1),(10,.slice aR (av.2.2.2.1).length aS),(11,iV av.2.2.2.2)] L s (Ak rI aQ bo bp (av.1)/\OL 3 rI aQ aR aS aT (av.2.2.2.1))) ⟨cg,hC,hD,none,0,[],V,V,(Le.refl _),hF,hE,OL.nil⟩ ?_);rintro _ _ av ⟨aQ,bo,bp,aR,aS,aT,rfl,rfl,dU,dV,dW,cu⟩ jF ⟨k4,cv⟩ jG;have dX:=cv;unfold KX at dX;let⟨jH,jI,jJ⟩:=bs dX;refine C 7 V (GH [] (λL s=>∃(cw:LH),Jm aQ H cw [[(bk,.cells #[.slice bo (av.1).length bp,iV av.2.1,.int .u64 ((av.2.2.1:Nat):Int)] 56 (0,0))],[(Y,.cells #[.slice none 0 0,.slice none 0 0,iV 0,.slice none 0 0] 26 (0,0))],[(Z,.cells #[.slice an (aa.1).length ao,.slice ap (aa.2.1).length aq,iV U.1,.slice none 0 0] 26 (0,0))],aw,ay,aT] [(0,.pointer (some ⟨bk,0,none⟩)),(1,iV p1),(2,iV p2),(6,.pointer (some ⟨Y,0,none⟩)),(7,.pointer (some ⟨Z,0,none⟩)),(8,iV aa.2.2.2.2.2),(9,iV aF.1),(10,.slice aR (av.2.2.2.1).length aS),(11,iV av.2.2.2.2),(36,.bool jH)] L s) ?_ ?_);rintro _ _ ⟨cw,rfl,rfl,aU,dY⟩;refine JL.done (CI jJ (λjK jL=>?_) (λjK jM=>?_));let⟨aM,jN,jO⟩:=bs jL;refine C 6 V (C6 0 (OV (dW.Ad aU) jN) V V NF dY V ?_);rintro _ cy _ cz ⟨cA,cB,rfl,rfl,jP⟩ jQ;refine Bt (S':=[[(bk,.cells #[.slice cA (aM.2.1).length cB,iV aM.2.2.1,.int .u64 ((aM.2.2.2:Nat):Int)] 56 (0,0))],[(Y,.cells #[.slice none 0 0,.slice none 0 0,iV 0,.slice none 0 0] 26 (0,0))],[(Z,.cells #[.slice an (aa.1).length ao,.slice ap (aa.2.1).length aq,iV U.1,.slice none 0 0] 26 (0,0))],aw,ay,aT]) V jQ λdZ=>?_;let⟨cC,jR,jS⟩:=bs jO;refine JL.done (BF (λL s=>∃(bO:LH) (bP:Ao) (bQ:Nat) (bR:Seg),Jn cy H bO [[(bk,.cells #[.slice cA (aM.2.1).length cB,iV aM.2.2.1,.int .u64 ((aM.2.2.2:Nat):Int)] 56 (0,0))],[(Y,.cells #[.slice none 0 0,.slice none 0 0,iV 0,.slice none 0 0] 26 (0,0))],[(Z,.cells #[.slice an (aa.1).length ao,.slice ap (aa.2.1).length aq,iV U.1,.slice none 0 0] 26 (0,0))],aw,ay,bR] [(0,.pointer (some ⟨bk,0,none⟩)),(1,iV p1),(2,iV p2),(6,.pointer (some ⟨Y,0,none⟩)),(7,.pointer (some ⟨Z,0,none⟩)),(8,iV aa.2.2.2.2.2),(9,iV aF.1),(10,.slice bP (cC).length bQ),(11,iV av.2.2.2.2)] L s (OL 3 rI bO bP bQ bR (cC))) ?_ ?_);rintro _ _ ⟨bO,bP,bQ,bR,rfl,rfl,ea,jT,jU⟩;obtain⟨jV,jW,jX⟩:=bs jS;refine C 3 V (Bi jW V V V ?_);refine C 2 V ?_;cases jX;exact AP (jG _ _ (aM.2.1,aM.2.2.1,aM.2.2.2,cC,jV) ⟨bO,cA,cB,bP,bQ,bR,V,V,(((dU.trans aU).trans cz).trans ea),jT,(jP.Ad ea),jU⟩ cv) V;intro eb;refine CI jR (λjY jZ=>?_) (λjY j0=>?_);let⟨k5,j1,j2⟩:=bs jZ;refine C 3 V (JS.app (pp:=rI) (v:=iV av.2.2.2.2) (a:=aR) (c:=aS) 5 j1 V V V V (λ_=>V) V (λ_=>V) V V V Tryz.underlying22 Tryz.underlying22 Tryz.underlying22 AE (Cy Tryz.type3) DL V (by decide) (by decide) (by decide) (by decide) (cu.Ad (aU.trans cz)) V dZ V λk6 j3 j4 j5 j6 j7=>?_);refine C 2 V ?_;cases j2;exact AP (eb _ _ ⟨cy,j3,j4,j5,V,V,(Le.refl _),j7,j6⟩) V;refine JL.skip ?_;cases j0;exact AP (eb _ _ ⟨cy,aR,aS,aT,V,V,(Le.refl _),dZ,(cu.Ad (aU.trans cz))⟩) V;refine JL.exit V ?_;cases jM;obtain rfl:=jF _ cv;exact AP (jE _ _ ⟨cw,aR,aS,aT,bo,bp,V,V,(dU.trans aU),dY,(cu.Ad aU),(dW.Ad aU)⟩) V;intro ec;refine DW 32 jI (λj8 j9=>?_) (λj8 kb=>?_);refine C 1 V (JL.ln Tryz.underlying22 V V V ?_);refine C 2 V ?_;cases j9;exact AP (ec _ _ ⟨aQ,V,V,(Le.refl _),dV⟩) V;refine C 4 V ?_;cases kb;exact AP (ec _ _ ⟨aQ,V,V,(Le.refl _),dV⟩) V;refine JL.exit V ?_;cases hz;obtain rfl:=hw _ bg;exact AP (hv _ _ ⟨a3,bD,bE,an,ao,aw,ap,aq,ay,V,V,bF,dx,dy,bG,bH⟩) V
variable {J:Judge Tryz.prog}
def IQ(fuel:Nat)(p0:Int)(p1:Int)(p2:Int):Option (Bool):=
 Option.bind (
  if p0<p1 then(
   some true
  ) else(
   some (decide (p2<p0))
  )
 ) λK=>
 some K
theorem MU{p0 p2:Int}{fuel:Nat}{r:Bool}(K:IQ fuel p0 p1 p2=some r):AO J 31 [iV p0,iV p1,iV p2] E [] (λw E' B'=>w=.bool r/\B'=[]):=by
 refine Bd Tryz.func31 λQ ak cs H O Y=>?_;unfold IQ at K;let⟨Z,aa,ab⟩:=bs K;refine C 10 V (CP 8 1 [] [(14,.bool Z)] (λal ae ag=>?_) (λU=>?_));refine C 2 V ?_;cases ab;exact AU Tryz.func31 V V (Y ae V ⟨V,V⟩ ag);refine DW 10 aa (λah ai=>?_) (λah aj=>?_);refine C 4 V ?_;cases ai;exact U (Le.refl _) O V;refine C 4 V ?_;cases aj;exact U (Le.refl _) O V
def MG(fuel:Nat)(p0:List Int)(p1:Int)(K:Int):Option (Bl (Int) ((Int)⊕(Unit))):=
 if K<((p0).length:Int) then(
  (ix p0 (K)).bind λO=>
  (AG (p1 - 1)).bind λU=>
  (IQ fuel O 0 U).bind λY=>
  if Y=true then(
   some (.done (Sum.inl 3))
  ) else(
   Option.bind (
    if 0<K then(
     (AG (K - 1)).bind λZ=>
     (ix p0 (Z)).bind λaa=>
     some (decide (O<=aa))
    ) else(
     some false
    )
   ) λab=>
   if ab=true then(
    some (.done (Sum.inl 5))
   ) else(
    (AG (K+1)).bind λae=>
    some (.more ae)
   )
  )
 ) else(
  some (.done (Sum.inr ()))
 )
def Lo(fuel:Nat)(p0:List Int)(p1:Int):Option (Int):=
 if 3<((p0).length:Int) then(
  some 6
 ) else(
  Option.bind (iter (MG fuel p0 p1) fuel 0) λK=>
  Sum.elim (λr=>some r) (λO=>
  some 0
  ) K
 )
theorem W4{p0:List Int}(ah:Ak rI E a1 c2 (p0)){fuel:Nat}{r:Int}(ai:Lo fuel p0 p1=some r):AO J 47 [.slice a1 (p0).length c2,iV p1] E [] (λw E' B'=>w=iV r/\B'=[]):=by
 refine Bd Tryz.func47 λQ bf cs H aj U=>?_;unfold Lo at ai;refine C 8 V (JL.ln Tryz.underlying22 V V V ?_);refine C 2 V (AX ai (λc4 av=>?_) (λc4 aw=>?_));refine C 4 V ?_;cases av;exact AU Tryz.func47 V V (U (Le.refl _) V ⟨V,V⟩ aj);refine C 5 V (JL.ln Tryz.underlying22 V V V ?_);let⟨ak,ay,aa⟩:=bs aw;refine C 2 V (BF (λL s=>∃(al:Unit) (am:LH),ak=Sum.inr al/\Jm E H am [] [] L s) ?_ ?_);rintro _ _ ⟨al,am,rfl,rfl,rfl,az,aA⟩;have aB:=elim_inr aa;refine C 4 V ?_;cases aB;exact AU Tryz.func47 V V (U az V ⟨V,V⟩ aA);intro aC;refine JL.block (Dj ay (λY=>[]) (λY=>[(0,.slice a1 (p0).length c2),(1,iV p1),(10,.slice a1 (p0).length c2),(11,iV ((p0).length:Int)),(12,iV Y)]) (Le.refl _) aj ?_);rintro Y aD K an ab ⟨bg,O⟩ aE;have ao:=O;unfold MG at ao;refine C 5 V (AX ao (λaF aG=>?_) (λaF aH=>?_));let⟨bh,aI,aJ⟩:=bs aG;refine C 6 V (JS.ix (ah.Ad K) aI Tryz.underlying22 AE ?_);rintro bi bj _ rfl aK;refine Bu 0 aK AJ V V V ?_;let⟨bl,aL,aM⟩:=bs aJ;refine C 8 V (Ce aL V V V ?_);let⟨bm,aN,aO⟩:=bs aM;refine CX (MU aN) V V L2 an λae Z ag=>JL.done (CI aO (λaP aQ=>?_) (λaP aR=>?_));refine C 4 V ?_;cases aQ;obtain rfl:=ab _ O;have aS:=elim_inl aa;cases aS;exact AU Tryz.func47 V V (U (K.trans Z) V ⟨V,V⟩ ag);obtain⟨aT,aU,aV⟩:=bs aR;refine C 6 V (GH [] (λL s=>∃(ap:LH),Jm ae H ap [] [(0,.slice a1 (p0).length c2),(1,iV p1),(10,.slice a1 (p0).length c2),(11,iV ((p0).length:Int)),(12,iV Y),(31,.bool aT)] L s) ?_ ?_);rintro _ _ ⟨ap,rfl,rfl,aq,ar⟩;refine JL.done (CI aV (λaW aX=>?_) (λaW aY=>?_));refine C 4 V ?_;cases aX;obtain rfl:=ab _ O;have aZ:=elim_inl aa;cases aZ;exact AU Tryz.func47 V V (U ((K.trans Z).trans aq) V ⟨V,V⟩ ar);let⟨a0,a2,a3⟩:=bs aY;refine C 3 V (Bi a2 V V V ?_);refine C 2 V ?_;cases a3;exact aE a0 ((K.trans Z).trans aq) ar V O;intro au;refine DW 23 aU (λa4 a5=>?_) (λa4 a6=>?_);let⟨bn,a7,a8⟩:=bs a5;refine C 3 V (Ce a7 V V V ?_);let⟨bo,a9,ba⟩:=bs a8;refine JS.ix (ah.Ad (K.trans Z)) a9 Tryz.underlying22 AE ?_;rintro bp bq _ rfl bb;refine Bu 0 bb AJ V V V (C 2 V ?_);cases ba;exact AP (au _ _ ⟨ae,V,V,(Le.refl _),ag⟩) V;refine C 8 V ?_;cases a6;exact AP (au _ _ ⟨ae,V,V,(Le.refl _),ag⟩) V;refine JL.exit V ?_;cases aH;have be:ak=(Sum.inr ()):=(ab _ O).symm;exact AP (aC _ _ ⟨(),aD,be,V,V,K,an⟩) V
def MD(fuel:Nat)(p0:List (Int×Bool))(K:Int):Option (Bl (Int) ((Int)⊕(Unit))):=
 if K<((p0).length:Int) then(
  (ix p0 (K)).bind λO=>
  Option.bind (
   if O.1=0 then(
    some (Sum.inr ())
   ) else(
    if O.1=1 then(
     some (Sum.inr ())
    ) else(
     if O.1=2 then(
      some (Sum.inr ())
     ) else(
      some (Sum.inl 8)
     )
    )
   )
  ) λU=>Sum.elim (λr=>some (.done (Sum.inl r))) (λZ=>
  (AG (K+1)).bind λY=>
  some (.more Y)
  ) U
 ) else(
  some (.done (Sum.inr ()))
 )
def LC(fuel:Nat)(p0:List (Int×Bool)):Option (Int):=
 if((p0).length:Int)=0 then(
  some 7
 ) else(
  if 3<((p0).length:Int) then(
   some 6
  ) else(
   Option.bind (iter (MD fuel p0) fuel 0) λK=>
   Sum.elim (λr=>some r) (λO=>
   some 0
   ) K
  )
 )
theorem XU{p0:List (Int×Bool)}(au:Ak (rP rI rB) E a1 c2 (p0)){fuel:Nat}{r:Int}(ag:LC fuel p0=some r):AO J 48 [.slice a1 (p0).length c2] E [] (λw E' B'=>w=iV r/\B'=[]):=by
 refine Bd Tryz.func48 λQ be cs H ab K=>?_;unfold LC at ag;refine C 8 V (JL.ln Tryz.underlying40 V V V ?_);refine C 9 V (AX ag (λc4 av=>?_) (λc4 aw=>?_));refine C 4 V ?_;cases av;exact AU Tryz.func48 V V (K (Le.refl _) V ⟨V,V⟩ ab);refine C 6 V (AX aw (λay az=>?_) (λay aA=>?_));refine C 4 V ?_;cases az;exact AU Tryz.func48 V V (K (Le.refl _) V ⟨V,V⟩ ab);refine C 6 V (JL.ln Tryz.underlying40 V V V ?_);let⟨ah,aB,ai⟩:=bs aA;refine C 2 V (BF (λL s=>∃(aj:Unit) (ak:LH),ah=Sum.inr aj/\Jm E H ak [] [] L s) ?_ ?_);rintro _ _ ⟨aj,ak,rfl,rfl,rfl,aC,aD⟩;have aE:=elim_inr ai;refine C 4 V ?_;cases aE;exact AU Tryz.func48 V V (K aC V ⟨V,V⟩ aD);intro aF;refine JL.block (Dj aB (λO=>[]) (λO=>[(14,.slice a1 (p0).length c2),(15,iV ((p0).length:Int)),(16,iV O)]) (Le.refl _) ab ?_);rintro O aG U al am ⟨bf,Y⟩ aH;have an:=Y;unfold MD at an;refine C 5 V (AX an (λaI aJ=>?_) (λaI aK=>?_));let⟨bg,aL,aM⟩:=bs aJ;refine C 5 V (JS.ix (au.Ad U) aL Tryz.underlying40 Eo ?_);rintro bh bi _ ⟨_,_,rfl,rfl,rfl⟩ aN;refine Cu aN LV Eo V V (BO al Ff λbj aO=>?_);refine Bf 0 aO Eo λaP=>?_;refine Cw 0 aP V λZ ao aQ aa=>C 3 V (Br 0 aQ Tryz.underlying71 AE AJ ?_);let⟨aR,aS,ap⟩:=bs aM;refine JL.done (BF (λL s=>∃(aq:Unit) (ar:LH),aR=Sum.inr aq/\Jm Z H ar [] [(14,.slice a1 (p0).length c2),(15,iV ((p0).length:Int)),(16,iV O)] L s) ?_ ?_);rintro _ _ ⟨aq,ar,rfl,rfl,rfl,aT,aU⟩;have aV:=elim_inr ap;let⟨aW,aX,aY⟩:=bs aV;refine C 2 V (Bi aX V V V ?_);refine C 2 V ?_;cases aY;exact aH aW ((U.trans ao).trans aT) aU V Y;intro ae;refine C 14 V (AX aS (λaZ a0=>?_) (λaZ a2=>?_));exact C 4 V (AP (ae _ _ ⟨(),Z,(d6 a0).symm,V,V,(Le.refl _),aa⟩) V);refine C 7 V (AX a2 (λa3 a4=>?_) (λa3 a5=>?_));exact C 3 V (AP (ae _ _ ⟨(),Z,(d6 a4).symm,V,V,(Le.refl _),aa⟩) V);refine C 6 V (AX a5 (λa6 a7=>?_) (λa6 a8=>?_));exact C 2 V (AP (ae _ _ ⟨(),Z,(d6 a7).symm,V,V,(Le.refl _),aa⟩) V);refine C 7 V ?_;cases a8;have a9:=elim_inl ap;cases a9;obtain rfl:=am _ Y;have ba:=elim_inl ai;cases ba;exact AU Tryz.func48 V V (K (U.trans ao) V ⟨V,V⟩ aa);refine JL.exit V ?_;cases aK;have bb:ah=(Sum.inr ()):=(am _ Y).symm;exact AP (aF _ _ ⟨(),aG,bb,V,V,U,al⟩) V
def Mo(fuel:Nat)(p0:(List Int)×(List (List Int))×Int×(List (List (Int×Bool))))(K:Int):Option (Bl (Int) ((Int)⊕(Unit))):=
 if K<((p0.1).length:Int) then(
  (ix p0.1 (K)).bind λO=>
  (IQ fuel O 1 5).bind λU=>
  if U=true then(
   some (.done (Sum.inl 1))
  ) else(
   (AG (K+1)).bind λY=>
   some (.more Y)
  )
 ) else(
  some (.done (Sum.inr ()))
 )
def My(fuel:Nat)(p0:(List Int)×(List (List Int))×Int×(List (List (Int×Bool))))(K:Int):Option (Bl (Int) ((Int)⊕(Unit))):=
 if K<((p0.2.1).length:Int) then(
  (ix p0.2.1 (K)).bind λU=>
  (ix p0.1 (K)).bind λY=>
  (Lo fuel U Y).bind λO=>
  if O≠0 then(
   some (.done (Sum.inl O))
  ) else(
   (AG (K+1)).bind λZ=>
   some (.more Z)
  )
 ) else(
  some (.done (Sum.inr ()))
 )
def MM(fuel:Nat)(p0:(List Int)×(List (List Int))×Int×(List (List (Int×Bool))))(K:Int):Option (Bl (Int) ((Int)⊕(Unit))):=
 if K<((p0.2.2.2).length:Int) then(
  (ix p0.2.2.2 (K)).bind λU=>
  (LC fuel U).bind λO=>
  if O≠0 then(
   some (.done (Sum.inl O))
  ) else(
   (AG (K+1)).bind λY=>
   some (.more Y)
  )
 ) else(
  some (.done (Sum.inr ()))
 )
def Lg(fuel:Nat)(p0:(List Int)×(List (List Int))×Int×(List (List (Int×Bool)))):Option (Int):=
 if((p0.1).length:Int)=0 then(
  some 7
 ) else(
  if 2<((p0.1).length:Int) then(
   some 6
  ) else(
   Option.bind (iter (Mo fuel p0) fuel 0) λK=>
   Sum.elim (λr=>some r) (λZ=>
   if((p0.2.1).length:Int)≠((p0.1).length:Int) then(
    some 9
   ) else(
    Option.bind (iter (My fuel p0) fuel 0) λO=>
    Sum.elim (λr=>some r) (λaa=>
    (IQ fuel p0.2.2.1 0 6).bind λU=>
    if U=true then(
     some 1
    ) else(
     if 3<((p0.2.2.2).length:Int) then(
      some 6
     ) else(
      Option.bind (iter (MM fuel p0) fuel 0) λY=>
      Sum.elim (λr=>some r) (λab=>
      some 0
      ) Y
     )
    )
    ) O
   )
   ) K
  )
 )
theorem XS{al:Ao}{am:Nat}{an:Ao}{ao:Nat}{p0:(List Int)×(List (List Int))×Int×(List (List (Int×Bool)))}(ay:Ak rI E a1 c2 (p0.1))(a2:Ak (rL rI) E al am (p0.2.1))(a3:Ak (rL (rP rI rB)) E an ao (p0.2.2.2)){fuel:Nat}{r:Int}(az:Lg fuel p0=some r):AO J 30 [.agg #[.slice a1 (p0.1).length c2,.slice al (p0.2.1).length am,iV p0.2.2.1,.slice an (p0.2.2.2).length ao]] E [] (λw E' B'=>w=iV r/\B'=[]):=by
 refine Bd Tryz.func30 λQ cJ cs H a4 U=>?_;unfold Lg at az;refine C 2 V (BZ a4 λae a5 O Y ap=>?_);refine C 5 V (Br 0 Y Tryz.underlying26 CO Ge ?_);refine JL.ln Tryz.underlying22 V V V (C 9 V ?_);refine AX az (λa6 a7=>?_) (λa6 a8=>?_);refine C 4 V ?_;cases a7;exact AU Tryz.func30 V V (U O V ⟨V,V⟩ ap);refine C 6 V (AX a8 (λa9 ba=>?_) (λa9 bb=>?_));refine C 4 V ?_;cases ba;exact AU Tryz.func30 V V (U O V ⟨V,V⟩ ap);refine C 5 V (Br 0 Y Tryz.underlying26 CO Ge ?_);refine JL.ln Tryz.underlying22 V V V ?_;let⟨aA,be,aB⟩:=bs bb;refine C 2 V (BF (λL s=>∃(aC:Unit) (aq:LH),aA=Sum.inr aC/\Jm a5 H aq [] [(1,.pointer (some ⟨ae,0,none⟩))] L s) ?_ ?_);rintro _ _ ⟨aC,aq,rfl,rfl,rfl,K,aD⟩;have bf:=elim_inr aB;refine C 3 V (Br 1 (Y.Ad K) Tryz.underlying26 EI GA ?_);refine JL.ln Tryz.underlying23 V V V (Br 0 (Y.Ad K) Tryz.underlying26 CO Ge ?_);refine JL.ln Tryz.underlying22 V V V (C 2 V ?_);refine AX bf (λbg bh=>?_) (λbg bi=>?_);refine C 4 V ?_;cases bh;exact AU Tryz.func30 V V (U (O.trans K) V ⟨V,V⟩ aD);refine C 4 V (Br 1 (Y.Ad K) Tryz.underlying26 EI GA ?_);refine JL.ln Tryz.underlying23 V V V ?_;let⟨aE,bj,aF⟩:=bs bi;refine C 2 V (BF (λL s=>∃(aG:Unit) (aH:LH),aE=Sum.inr aG/\Jm aq H aH [] [(1,.pointer (some ⟨ae,0,none⟩))] L s) ?_ ?_);rintro _ _ ⟨aG,aH,rfl,rfl,rfl,Z,bl⟩;have bm:=elim_inr aF;refine C 3 V (Br 2 (Y.Ad (K.trans Z)) Tryz.underlying26 AE AJ ?_);let⟨cK,bn,bo⟩:=bs bm;refine CX (MU bn) V V L2 bl λbp aa ar=>JL.done (CI bo (λbq br=>?_) (λbq bu=>?_));refine C 4 V ?_;cases br;exact AU Tryz.func30 V V (U (((O.trans K).trans Z).trans aa) V ⟨V,V⟩ ar);refine C 4 V (Br 3 (Y.Ad ((K.trans Z).trans aa)) Tryz.underlying26 Ds EG ?_);refine JL.ln Tryz.underlying24 V V V (C 2 V ?_);refine AX bu (λbv bw=>?_) (λbv bx=>?_);refine C 4 V ?_;cases bw;exact AU Tryz.func30 V V (U (((O.trans K).trans Z).trans aa) V ⟨V,V⟩ ar);refine C 4 V (Br 3 (Y.Ad ((K.trans Z).trans aa)) Tryz.underlying26 Ds EG ?_);refine JL.ln Tryz.underlying24 V V V ?_;let⟨aI,bz,aJ⟩:=bs bx;refine C 2 V (BF (λL s=>∃(aK:Unit) (aL:LH),aI=Sum.inr aK/\Jm bp H aL [] [] L s) ?_ ?_);rintro _ _ ⟨aK,aL,rfl,rfl,rfl,bA,bB⟩;have bC:=elim_inr aJ;refine C 4 V ?_;cases bC;exact AU Tryz.func30 V V (U ((((O.trans K).trans Z).trans aa).trans bA) V ⟨V,V⟩ bB);intro bD;refine JL.block (Dj bz (λau=>[]) (λau=>[(65,.slice an (p0.2.2.2).length ao),(66,iV ((p0.2.2.2).length:Int)),(67,iV au)]) (Le.refl _) ar ?_);rintro au bE ag aM aN ⟨cM,ah⟩ bF;have aO:=ah;unfold MM at aO;refine C 5 V (AX aO (λbG bH=>?_) (λbG bI=>?_));let⟨cN,bJ,bK⟩:=bs bH;refine C 5 V (JS.ix (a3.Ad ((((O.trans K).trans Z).trans aa).trans ag)) bJ Tryz.underlying24 EH ?_);rintro cO cP _ ⟨cQ,cR,rfl,bL⟩ bM;refine Bu 0 bM I0 V V V ?_;let⟨cT,bN,bO⟩:=bs bK;refine C 5 V (CX (XU bL bN) V V (A0 Tryz.func48 V) aM λcV aP aQ=>?_);refine C 7 V (AX bO (λbP bQ=>?_) (λbP bR=>?_));refine C 5 V ?_;cases bQ;obtain rfl:=aN _ ah;have bS:=elim_inl aJ;cases bS;exact AU Tryz.func30 V V (U (((((O.trans K).trans Z).trans aa).trans ag).trans aP) V ⟨V,V⟩ aQ);obtain⟨bT,bU,bV⟩:=bs bR;refine C 3 V (Bi bU V V V ?_);refine C 2 V ?_;cases bV;exact bF bT (ag.trans aP) aQ V ah;refine JL.exit V ?_;cases bI;have bW:aI=(Sum.inr ()):=(aN _ ah).symm;exact AP (bD _ _ ⟨(),bE,bW,V,V,ag,aM⟩) V;intro bY;refine JL.block (Dj bj (λav=>[]) (λav=>[(1,.pointer (some ⟨ae,0,none⟩)),(39,.slice al (p0.2.1).length am),(40,iV ((p0.2.1).length:Int)),(41,iV av)]) (Le.refl _) aD ?_);rintro av bZ ab aR aS ⟨cW,ai⟩ b0;have aT:=ai;unfold My at aT;refine C 5 V (AX aT (λb1 b2=>?_) (λb1 b3=>?_));let⟨cX,b4,b5⟩:=bs b2;refine C 6 V (JS.ix (a2.Ad ((O.trans K).trans ab)) b4 Tryz.underlying23 CO ?_);rintro cY cZ _ ⟨c0,c3,rfl,b6⟩ b7;refine Bu 0 b7 Ge V V V (C 6 V ?_);refine Br 0 (Y.Ad (K.trans ab)) Tryz.underlying26 CO Ge ?_;let⟨c4,b8,b9⟩:=bs b5;refine C 1 V (JS.ix (ay.Ad ((O.trans K).trans ab)) b8 Tryz.underlying22 AE ?_);rintro c5 c6 _ rfl ca;refine Bu 0 ca AJ V V V ?_;let⟨c7,cb,cc⟩:=bs b9;refine CX (W4 b6 cb) V V (A0 Tryz.func47 V) aR λc8 aU aV=>C 7 V (AX cc (λcd ce=>?_) (λcd cf=>?_));refine C 5 V ?_;cases ce;obtain rfl:=aS _ ai;have cg:=elim_inl aF;cases cg;exact AU Tryz.func30 V V (U (((O.trans K).trans ab).trans aU) V ⟨V,V⟩ aV);let⟨ci,ck,cm⟩:=bs cf;refine C 3 V (Bi ck V V V ?_);refine C 2 V ?_;cases cm;exact b0 ci (ab.trans aU) aV V ai;refine JL.exit V ?_;cases b3;have cn:aE=(Sum.inr ()):=(aS _ ai).symm;exact AP (bY _ _ ⟨(),bZ,cn,V,V,ab,aR⟩) V;intro co;refine JL.block (Dj be (λaw=>[]) (λaw=>[(1,.pointer (some ⟨ae,0,none⟩)),(22,.slice a1 (p0.1).length c2),(23,iV ((p0.1).length:Int)),(24,iV aw)]) (Le.refl _) ap ?_);rintro aw cp aj aW aX ⟨c9,ak⟩ cq;have aY:=ak;unfold Mo at aY;refine C 5 V (AX aY (λcr ct=>?_) (λcr cu=>?_));let⟨da,cv,cw⟩:=bs ct;refine C 5 V (JS.ix (ay.Ad (O.trans aj)) cv Tryz.underlying22 AE ?_);rintro db dc _ rfl cy;refine Bu 0 cy AJ V V V ?_;let⟨dd,cz,cA⟩:=bs cw;refine C 5 V (CX (MU cz) V V L2 aW λde aZ a0=>?_);refine JL.done (CI cA (λcB cC=>?_) (λcB cD=>?_));refine C 4 V ?_;cases cC;obtain rfl:=aX _ ak;have cE:=elim_inl aB;cases cE;exact AU Tryz.func30 V V (U ((O.trans aj).trans aZ) V ⟨V,V⟩ a0);let⟨cF,cG,cH⟩:=bs cD;refine C 3 V (Bi cG V V V ?_);refine C 2 V ?_;cases cH;exact cq cF (aj.trans aZ) a0 V ak;refine JL.exit V ?_;cases cu;have cI:aA=(Sum.inr ()):=(aX _ ak).symm;exact AP (co _ _ ⟨(),cp,cI,V,V,aj,aW⟩) V
def Ou(fuel:Nat)(p0:(List Int)×(List (List Int))×Int×(List (List (Int×Bool))))(p1:List Int)(K:Int):Option (Bl (Int) ((((List Int)×(List (List Int))×Int×(List (List (Int×Bool))))×Int)⊕(Unit))):=
 if K<((p1).length:Int) then(
  (ix p1 (K)).bind λO=>
  (AG (((p0.2.2.2).length:Int) - 1)).bind λU=>
  (IQ fuel O 0 U).bind λY=>
  if Y=true then(
   some (.done (Sum.inl (([],[],0,[]),3)))
  ) else(
   (AG (K+1)).bind λZ=>
   some (.more Z)
  )
 ) else(
  some (.done (Sum.inr ()))
 )
def Lq(fuel:Nat)(p0:(List Int)×(List (List Int))×Int×(List (List (Int×Bool))))(p1:List Int):Option (((List Int)×(List (List Int))×Int×(List (List (Int×Bool))))×Int):=
 (Lg fuel p0).bind λK=>
 if K≠0 then(
  some (([],[],0,[]),K)
 ) else(
  Option.bind (iter (Ou fuel p0 p1) fuel 0) λO=>
  Sum.elim (λr=>some r) (λU=>
  some (p0,0)
  ) O
 )
theorem XQ{U Z:Ao}{dep:Nat}{ai:Ao}{aj:Nat}{p0:(List Int)×(List (List Int))×Int×(List (List (Int×Bool)))}{p1:List Int}(an:Ak rI E a1 c2 (p0.1))(ao:Ak (rL rI) E U Y (p0.2.1))(ap:Ak (rL (rP rI rB)) E Z dep (p0.2.2.2))(aP:Ak rI E ai aj (p1)){fuel:Nat}{r:((List Int)×(List (List Int))×Int×(List (List (Int×Bool))))×Int}(aq:Lq fuel p0 p1=some r):AO J 16 [.agg #[.slice a1 (p0.1).length c2,.slice U (p0.2.1).length Y,iV p0.2.2.1,.slice Z (p0.2.2.2).length dep],.slice ai (p1).length aj] E [] (λw E' B'=>∃(ar:Ao) (au:Nat) (av:Ao) (aw:Nat) (ay:Ao) (az:Nat),w=.tuple #[.agg #[.slice ar (r.1.1).length au,.slice av (r.1.2.1).length aw,iV r.1.2.2.1,.slice ay (r.1.2.2.2).length az],iV r.2]/\B'=[]/\Ak rI E' ar au (r.1.1)/\Ak (rL rI) E' av aw (r.1.2.1)/\Ak (rL (rP rI rB)) E' ay az (r.1.2.2.2)):=by
 refine Bd Tryz.func16 λQ bw cs H aQ ak=>?_;unfold Lq at aq;refine C 2 V (BZ aQ λaA bx K al aR=>?_);refine BO aR KG λag aS=>?_;refine C 5 V (Cu al I1 Dz V V ?_);let⟨aB,aT,aU⟩:=bs aq;refine CX (XS (an.Ad K) (ao.Ad K) (ap.Ad K) aT) V V (A0 Tryz.func30 V) aS λaV O aC=>C 7 V (AX aU (λaW aX=>?_) (λaW aY=>?_));refine C 2 V (As (v:=.agg #[.slice none 0 0,.slice none 0 0,iV 0,.slice none 0 0]) V (λρ h=>BB [(0,4)] h KG Tryz.underlying58 ⟨V,AB Tryz.type26,trivial⟩ V V) ?_);refine C 1 V (Bf 2 aC Dd λaD=>?_);refine C 2 V ?_;cases aX;refine JL.ret (v:=.tuple #[.agg #[.slice none 0 0,.slice none 0 0,iV 0,.slice none 0 0],iV aB]) V V (Bq.list Tryz.func16 V (vs:=[.agg #[.slice none 0 0,.slice none 0 0,iV 0,.slice none 0 0],iV aB]) ⟨⟨_,V,Ld.many (vs:=[.slice none 0 0,.slice none 0 0,iV 0,.slice none 0 0]) FR Dd (Gg (off:=0) 2 aD V V)⟩,V,trivial⟩) (CB 2 aD V λaZ=>?_);exact ak (K.trans O) V ⟨none,0,none,0,none,0,V,V,Ak.nil,Ak.nil,Ak.nil⟩ aZ;refine C 5 V (JL.ln Tryz.underlying22 V V V ?_);let⟨aE,a0,aF⟩:=bs aY;refine C 2 V (BF (λL s=>∃(aG:Unit) (aH:LH),aE=Sum.inr aG/\Jm aV H aH [[(ag,.cells #[.slice none 0 0,.slice none 0 0,iV 0,.slice none 0 0] 58 (0,0))]] [(2,.pointer (some ⟨aA,0,none⟩)),(4,.pointer (some ⟨ag,0,none⟩))] L s) ?_ ?_);rintro _ _ ⟨aG,aH,rfl,rfl,rfl,ab,a2⟩;have a3:=elim_inr aF;refine C 2 V (Cu (al.Ad (O.trans ab)) I1 Dz V V ?_);refine As (v:=.agg #[.slice a1 (p0.1).length c2,.slice U (p0.2.1).length Y,iV p0.2.2.1,.slice Z (p0.2.2.2).length dep]) V (λρ h=>BB [(0,4)] h KG Tryz.underlying58 ⟨V,AB Tryz.type26,trivial⟩ V V) (Bf 0 a2 Dd λaI=>?_);refine C 2 V ?_;cases a3;refine JL.ret (v:=.tuple #[.agg #[.slice a1 (p0.1).length c2,.slice U (p0.2.1).length Y,iV p0.2.2.1,.slice Z (p0.2.2.2).length dep],iV 0]) V V (Bq.list Tryz.func16 V (vs:=[.agg #[.slice a1 (p0.1).length c2,.slice U (p0.2.1).length Y,iV p0.2.2.1,.slice Z (p0.2.2.2).length dep],iV 0]) ⟨⟨_,V,Ld.many (vs:=[.slice a1 (p0.1).length c2,.slice U (p0.2.1).length Y,iV p0.2.2.1,.slice Z (p0.2.2.2).length dep]) FR Dd (Gg (off:=0) 0 aI V V)⟩,V,trivial⟩) (CB 0 aI V λa4=>?_);exact ak ((K.trans O).trans ab) V ⟨a1,c2,U,Y,Z,dep,V,V,(an.Ad ((K.trans O).trans ab)),(ao.Ad ((K.trans O).trans ab)),(ap.Ad ((K.trans O).trans ab))⟩ a4;intro a5;refine JL.block (Dj a0 (λam=>[[(ag,.cells #[.slice none 0 0,.slice none 0 0,iV 0,.slice none 0 0] 58 (0,0))]]) (λam=>[(2,.pointer (some ⟨aA,0,none⟩)),(4,.pointer (some ⟨ag,0,none⟩)),(15,.slice ai (p1).length aj),(16,iV ((p1).length:Int)),(17,iV am)]) (Le.refl _) aC ?_);rintro am a6 ae aJ aK ⟨bz,ah⟩ a7;have aL:=ah;unfold Ou at aL;refine C 5 V (AX aL (λa8 a9=>?_) (λa8 ba=>?_));let⟨bA,bb,be⟩:=bs a9;refine C 5 V (JS.ix (aP.Ad ((K.trans O).trans ae)) bb Tryz.underlying22 AE ?_);rintro bB bC _ rfl bf;refine Bu 0 bf AJ V V V (C 5 V ?_);refine Br 3 (al.Ad (O.trans ae)) Tryz.underlying26 Ds EG ?_;refine JL.ln Tryz.underlying24 V V V ?_;let⟨bD,bg,bh⟩:=bs be;refine Ce bg V V V ?_;let⟨bE,bi,bj⟩:=bs bh;refine CX (MU bi) V V L2 aJ λbF aM aN=>JL.done (CI bj (λbl bm=>?_) (λbl bn=>?_));refine C 2 V (As (v:=.agg #[.slice none 0 0,.slice none 0 0,iV 0,.slice none 0 0]) V (λρ h=>BB [(0,4)] h KG Tryz.underlying58 ⟨V,AB Tryz.type26,trivial⟩ V V) ?_);refine Bf 0 aN Dd λaO=>?_;refine C 2 V ?_;cases bm;obtain rfl:=aK _ ah;have bo:=elim_inl aF;cases bo;refine JL.ret (v:=.tuple #[.agg #[.slice none 0 0,.slice none 0 0,iV 0,.slice none 0 0],iV 3]) V V (Bq.list Tryz.func16 V (vs:=[.agg #[.slice none 0 0,.slice none 0 0,iV 0,.slice none 0 0],iV 3]) ⟨⟨_,V,Ld.many (vs:=[.slice none 0 0,.slice none 0 0,iV 0,.slice none 0 0]) FR Dd (Gg (off:=0) 0 aO V V)⟩,V,trivial⟩) (CB 0 aO V λbp=>?_);exact ak (((K.trans O).trans ae).trans aM) V ⟨none,0,none,0,none,0,V,V,Ak.nil,Ak.nil,Ak.nil⟩ bp;let⟨bq,br,bu⟩:=bs bn;refine C 3 V (Bi br V V V ?_);refine C 2 V ?_;cases bu;exact a7 bq (ae.trans aM) aN V ah;refine JL.exit V ?_;cases ba;have bv:aE=(Sum.inr ()):=(aK _ ah).symm;exact AP (a5 _ _ ⟨(),a6,bv,V,V,ae,aJ⟩) V
end Pal
