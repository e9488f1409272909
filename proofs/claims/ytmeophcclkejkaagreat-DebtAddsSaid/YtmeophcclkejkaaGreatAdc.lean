/- DebtAdds, row of debt: for every input the law is true and its arguments read behind the call as before it. Part 3 of 9. -/
import Derived.Test.YtmeophcclkejkaaGreatAda
import Derived.Test.YtmeophcclkejkaaGreatAdb
import Derived.Test.YtmeophcclkejkaaGreatRows
import Derived.Test.YtmeophcclkejkaaGreatChecked
import Derived.Conc.LeavingOf
import Derived.Conc.HoldsTime
import Derived.Carry
import Derived.ChangeSame
import Derived.ChangeVars
import Derived.ChangeSlices
import Derived.JoinedOf
import Derived.RowKit
import Derived.Deep.Strs
import Derived.Stop.Joined
import Derived.Test.YtmeophcclkejkaaGreatProg
set_option linter.all false
set_option maxRecDepth 100000
namespace Pal
open Go Go.Conc
open Go.ConcN (sumTo upd sumTo_upd upd_ne upd_same)
def Ll(P:Program)(R:Value->St->Prop):GP:=λg s=>
 g.status= .running/\∃v,R v s/\∀w,stepG P true g w= .ended (.done v) w #[]
section
variable {P:Program}{R:Value->St->Prop}{J:Judge P}{n:Nat}{L:Env}{s:St}{b:Frame}
theorem JO.end{fn:Func}{t:Tmp}{v:Value}(K:b.kind= .normal)(hi:P.inits.idxOf? b.fn=none)(O:P.funcs[b.fn]? =some fn)(U:fn.results= #[.tmp t])(V:look L t=some v)(Y:R v s):JO J (Ll P R) b n L [] [] s:=λT Z todo=>by
 refine J.stop ⟨rfl,v,Y,λw=>?_⟩
 have e:results fn T=Sem.pure v:=by
  have:=Z.at_ t v V;simp only [results,U,Array.mapM_eq_mapM_toList];show Sem.pure (T.getD t undef)=_;rw [this]
 have aa:(results fn T).run P w= .ok v w:=by rw [e];rfl
 have e2:(results fn T).events P w #[]= #[]:=by rw [e];simp [Sem.events_pure']
 simp [G,stepG,unwind,Em,O,aa,e2,doReturn,K,GStep.after,hi,seen_none]
end
section
variable {P:Program}{R:Value->St->Prop}
def After(P:Program)(R:Value->St->Prop)(K:World)(s₀:St)(v:Value)(w':World):Prop:=
 ∃s,R v s/\Fits s w'/\(∀b o,s₀.E b=some o->s.E b=some o)/\w'.tape=K.tape/\F5 K.os w'.os/\w'.output=K.output
def PD(P:Program)(R:Value->St->Prop)(K:World)(s₀:St)(O:Nat)(m:Machine)(t:Trace):Prop:=
 ∃gs w sl q Sh g s,m=crowd gs w sl/\G6 P gs w t q Sh g s/\Ll P R g s/\O=sumTo gs.size q/\(∀b o,s₀.E b=some o->s.E b=some o)/\w.tape=K.tape/\F5 K.os w.os/\w.output=K.output
theorem VX{ae:World}{s₀:St}(aj:Nat)(m:Machine)(t:Trace)(h:PD P R ae s₀ aj m t):
  (∃o w ops,stepT P m=(.ended o w,ops)/\Good P (After P R ae s₀) m o w (t++ops))∨(∃m' ops ak,stepT P m=(.next m',ops)/\ak<aj/\PD P R ae s₀ ak m' (t++ops)):=by
 obtain⟨gs,w,sl,q,Sh,g,s,rfl,hC,aA,rfl,al,am,an,ao⟩:=h;obtain⟨Z,v,ap,aq⟩:=aA;have aB:∀x∈gs,awake x:=by
  intro x V;obtain⟨i,hi,rfl⟩:=Array.mem_iff_getElem.1 V;rcases Nat.eq_zero_or_pos i with rfl | ag
  ·have:gs[0]=g:=by simpa [Array.getElem?_eq_getElem hi] using hC.main
   rw [this];exact awake_of (.inl Z)
  ·exact awake_of ((hC.lv.old i _ ag (Array.getElem?_eq_getElem hi)).status.elim .inl λx=> .inr (.inr x))
 obtain⟨i,x,d,ar,hi,V,au⟩:=crowd_pick (P:=P) (w:=w) (sl:=sl) aB ⟨0,g,hC.main,Z⟩;have av:=hC.at_ d;have aC:0<gs.size:=(Array.getElem?_eq_some_iff.1 hC.main).1;have aD:∀(a:Nat) (fn:FuncId) (pos:String),MemOp.ofEvents a fn pos #[]= #[]:=λa fn pos=>by rw [ofEvents_eq];simp
 rcases Nat.eq_zero_or_pos i with rfl | ag
 ·obtain rfl:x=g:=by rw [hC.main] at hi;exact(Option.some.inj hi).symm
  have aa:=runT_many_ended (P:=P) (sl:=ar) (i:=0) hi (show stepG P (0==0) x (w.at d)=_ from aq (w.at d));rw [aD] at aa;refine .inl ⟨_,_,_,au.trans aa,v,rfl,⟨s,ap,av.Cc.fits 0 aC,al,am,an,ao⟩,?_,?_,⟨λy K=>?_,rfl⟩,λj y K O=>?_⟩
  ·simpa using hC.Cc.clean
  ·simpa using hC.over
  ·obtain⟨j,O⟩:=List.mem_iff_getElem?.1 K;rw [List.getElem?_drop] at O;exact⟨_,(hC.lv.old (1+j) y (by omega) (by simpa [crowd] using O)).leaves⟩
  ·have Y:=hC.lv.old j y (by omega) K;exact⟨q j,by simp only [Array.append_empty];exact Y.hears w⟩
 ·have Y:=hC.lv.old i x ag hi;have aE:(i==0)=false:=by simp;omega
  have aw:i<gs.size:=(Array.getElem?_eq_some_iff.1 hi).1;cases ah:q i with
  | zero=>rw [ah] at Y;rw [Y.1] at V;cases V
  | succ k=>
   rw [ah] at Y;rcases Y with⟨aF,_⟩ | ⟨_,x',es,hm,aG,aH⟩
   ·rw [aF] at V;cases V
   have aL:sumTo gs.size (upd q i k)+(k+1)=sumTo gs.size q+k:=by
    have:=sumTo_upd q k id aw;simpa [ah] using this
   have aa:=runT_crowd_go (P:=P) (sl:=ar) (i:=i) hi (by rw [aE];exact aG (w.at d));have ai:((gs.map (woken P x x' (w.at d))).setIfInBounds i x').size=gs.size:=by simp
   have ab:∀op∈MemOp.ofEvents i x.frame.fn x.frame.place es,op.g=i:=λop U=>by obtain⟨e,_,rfl⟩:=mem_ofEvents U;rfl
   have ay:∀op∈MemOp.ofEvents i x.frame.fn x.frame.place es,op.act.touch? =none:=λop U=>by obtain⟨e,he,rfl⟩:=mem_ofEvents U;exact touch_mute (hm e he)
   have aI:G6 P ((gs.map (woken P x x' (w.at d))).setIfInBounds i x') (w.at d) (t++MemOp.ofEvents i x.frame.fn x.frame.place es) (upd q i k) Sh g s:=by
    refine⟨?_,⟨λj y O K=>?_,λj O=>?_⟩,?_,?_,?_⟩
    ·have aJ:i≠0:=by omega
     rw [Array.getElem?_setIfInBounds_ne aJ,Array.getElem?_map,hC.main];simp [woken_run Z]
    ·by_cases ac:i=j
     ·subst ac;rw [Array.getElem?_setIfInBounds_self_of_lt (by simpa using aw)] at K;obtain rfl:=Option.some.inj K;rw [upd_same,Deaf_own];exact aH
     ·rw [Array.getElem?_setIfInBounds_ne ac,Array.getElem?_map] at K;obtain⟨z,aK,rfl⟩:=Option.map_eq_some_iff.1 K;have az:=hC.lv.old j z O aK;rw [woken_quitsD az,upd_ne q k (Ne.symm ac),Deaf_other t ac _ ab];exact az
    ·rw [Deaf_other t (g':=i) (by simp at O;omega) _ ab];exact hC.lv.above j (by simpa using O)
    ·rw [ai];exact av.Cc.mute ab ay (λop U=>by obtain⟨e,he,rfl⟩:=mem_ofEvents U;exact low_mute (hm e he) _) rfl
    ·exact handedOver_app hC.over λop U=> .inr (ay op U)
    ·rw [Deaf_other t (by omega) _ ab];exact hC.hears
   exact .inr ⟨_,_,_,au.trans aa,by rw [← ai];rw [ai];omega,_,_,_,_,_,_,_,rfl,aI,⟨Z,v,ap,aq⟩,rfl,al,am,an,ao⟩
theorem ends{gs:Array Goroutine}{w:World}{sl:Option (Nat×Nat)}{t:Trace}{q:Nat->Nat}{Sh:Nat->Prop}{g:Goroutine}{s:St}(hC:G6 P gs w t q Sh g s)(O:Ll P R g s):
  ∃N last o w' K,runNT P (N+1) (crowd gs w sl) t=(.ended o w',K)/\runN P N (crowd gs w sl)= .next last/\step P last= .ended o w'/\Good P (After P R w s) last o w' K:=
 run_of_inv Nat.lt_wfRel.wf (PD P R w s) (Good P (After P R w s)) VX _ _ _ ⟨gs,w,sl,q,Sh,g,s,rfl,hC,O,rfl,λ_ _ h=>h,rfl,.refl _,rfl⟩
theorem Uc{m m':Machine}{t K:Trace}{n:Nat}(h:runNT P n m t=(.next m',K)):runN P n m= .next m':=by rw [← runNT_fst P n m t,h]
def FB(W:World):St:=⟨λb=>W.heap[b]?,λ_=>none,false⟩
theorem Vx{W:World}{g:Goroutine}(h:(Gv P).ok (Ll P R) g (FB W)):
  ∃M last o w' K,runNT P (M+1) (solo g W) #[]=(.ended o w',K)/\runN P M (solo g W)= .next last/\step P last= .ended o w'/\Good P (After P R W (FB W)) last o w' K:=by
 have hC:G6 P #[g] W #[] (λ_=>0) (λ_=>False) g (FB W):=by
  have V:∀{i:Nat} {a:Touch},touchAt #[] i=some a->False:=λ{i a} h=>by simp [touchAt,Trace.act?] at h
  refine⟨rfl,leavers_one P g,⟨λi hi=>?_,λi j hi Z az=>by simp at hi Z;omega,λi hi b hb=>hb.elim,λb hb=>hb.elim,λsaid=>?_,by simp,λi _ b _ x a O=>(V O).elim,λi _ b _ x a O=>(V O).elim⟩,λi g aa=>by simp [Trace.g?] at aa,rfl⟩
  ·have:i=0:=by simp at hi;exact hi
   subst this;exact⟨λb o U=>U,λb o U=>(by cases U),λb _=>rfl⟩
  ·rintro⟨i,j,_,⟨a,b,ab,_⟩,_⟩;simp [Trace.act?] at ab
 obtain⟨n,gs',w',ac,K,q',aA,g',s',Y,ae,ag,ah,ai,aj,ak⟩:=h #[g] W none #[] _ _ hC;obtain⟨N,last,o,al,am,k1,an,ao,ap⟩:=ends (sl:=ac) ae ag;refine⟨n+N,last,o,al,am,?_,?_,ao,?_⟩
 ·rw [solo_eq_crowd,Nat.add_assoc,runNT_add,Y];exact k1
 ·have aq:=Uc Y;rw [solo_eq_crowd,runN_add,aq];exact an
 ·obtain⟨v,e,⟨s2,a1,ar,au,av,aw,ay⟩,r⟩:=ap;exact⟨v,e,⟨s2,a1,ar,λb o hb=>au b o (ah b o hb),av.trans ai,aj.trans aw,ay.trans ak⟩,r⟩
end
end Pal
namespace Pal
open Go Go.Conc
theorem UD{P:Program}{Q:Gs_}{E H:LH}{f:FuncId}{fn:Func}{c:Code}{vs:Lv_}(U:P.funcs[f]? =some fn)(hb:fn.body=some c)(aa:fn.ntmps=fn.ntmps)(ab:vs.length<=fn.ntmps)
  (h:JL (Gv P) Q (base f) fn.ntmps (FY 0 vs) [] [.code c] [] (Ak E H [[]])):(Gv P).ok Q (G (Frame.enter P f vs.toArray .normal) []) (mk E H []):=by
 have he:Frame.enter P f vs.toArray .normal=fr (base f) (vs.toArray++Array.replicate (fn.ntmps - vs.length) undef) [] [.code c]:=by
  simp [Frame.enter,fr,U,hb,base];rfl
 rw [he];have V:mk E H []=Ak E H [[]]:=by unfold Ak;simp
 rw [V];refine h _ ⟨by simp;omega,λt v Y=>?_⟩;obtain⟨_,K⟩:=I6 Y;have Z:t<vs.length:=by
  rcases Nat.lt_or_ge t vs.length with O | O
  ·exact O
  ·simp at K;have:=(List.getElem?_eq_some_iff.1 K).1;omega
 rw [Array.getD_eq_getD_getElem?,Array.getElem?_append_left (by simpa using Z)];simp at K;simp [K]
end Pal
namespace Pal
open Go Go.Conc Go.Proofs Go.ChangeShapes Go.WideShapes Go.ChangeAt Go.RowKit
open Go.Proofs.YtmeophcclkejkaaGreat
theorem Tryz.own:ownKnob Tryz.prog.godebug=none:=by kernel_rfl
theorem Tryz.laidOut:laidOutB Tryz.prog=true:=by kernel_rfl
theorem Tryz.R6:Tryz.prog.cellsOf 3=1:=by kernel_rfl
theorem Tryz.WW:Tryz.prog.cellsOf 28=1:=by kernel_rfl
theorem Tryz.V3:Tryz.prog.cellsOf 22=1:=by kernel_rfl
theorem Tryz.Wy:Tryz.prog.cellsOf 23=1:=by kernel_rfl
theorem Tryz.WV:Tryz.prog.cellsOf 25=2:=by kernel_rfl
theorem Tryz.Rj:Tryz.prog.cellsOf 27=3:=by kernel_rfl
theorem TY{R:Value->St->Prop}{W w':World}{v:Value}(h:After Tryz.prog R W (FB W) v w'):(∃s,R v s)/\Below W.heap.size W {w' with os:=W.os}/\Go.ConcM.OsLater W.os w'.os:=by
 obtain⟨s,V,Y,Z,aa,ab,ac⟩:=h;have hb:∀k,k<W.heap.size->w'.heap[k]? =W.heap[k]? :=λk O=>by
  have K:(FB W).E k=some W.heap[k]:=Array.getElem?_eq_getElem O;have U:=Y.e k _ (Z k _ K);rw [U,Array.getElem?_eq_getElem O]
 refine⟨⟨s,V⟩,⟨rfl,aa,ac,?_,hb⟩,ab⟩;show W.heap.size<=w'.heap.size;rcases Nat.eq_zero_or_pos W.heap.size with ae | ae
 ·omega
 ·have K:=hb (W.heap.size - 1) (by omega);have ag:W.heap[W.heap.size - 1]? =some W.heap[W.heap.size - 1]:=Array.getElem?_eq_getElem (by omega);rw [ag] at K;have U:=(Array.getElem?_eq_some_iff.1 K).1;omega
theorem Qh(a:Addr):a.add 0=a:=by unfold Addr.add;rw [if_pos rfl]
section
variable {H:Type}{enc:TypeId×Value->H}{W:World}{fuel:Nat}{cs:Lv_}{x:DataW H×List MemPlace}
theorem Vd{b off:Nat}{v:Value}(h:W.cell? ⟨b,off,none⟩=some v):At (FB W).E b off [v]:=by
 unfold World.cell? at h;split at h
 ·rename_i c e f hW;simp only [Option.isSome_none,Bool.false_eq_true,if_false] at h;refine⟨c,e,f,hW,λj w K=>?_⟩
  match j,K with
  | 0,K=>simp at K;subst K;simpa using h
  | j+1,K=>simp at K
 ·cases h
theorem UZ{b off:Nat}(O:0<cs.length)(h:∀j,j<cs.length->W.cell? ⟨b,off+j,none⟩=cs[j]?):At (FB W).E b off cs:=by
 have U:=h 0 O;rw [List.getElem?_eq_getElem O] at U;obtain⟨f,e,fr,V,_⟩:=Vd U;have hW:W.heap[b]? =some (.cells f e fr):=V;refine⟨f,e,fr,V,λj w Y=>?_⟩;have Z:=(List.getElem?_eq_some_iff.1 Y).1;have K:=h j Z;rw [Y] at K;unfold World.cell? at K;simp only [hW] at K;simpa using K
theorem OK{α:Type}{p:Rp α}{t e:TypeId}(am:Tryz.prog.underlying t=some (.slice e))(an:Tryz.prog.cellsOf e=p.n)(ao:0<p.n)
  (ap:∀n cs x,DataW.trod enc Tryz.prog W 0 (λ_=>true) true n e cs=some x->∃v,p.r (FB W).E cs v)
  (aq:DataW.trod enc Tryz.prog W 0 (λ_=>true) true fuel t cs=some x):∃(a:Option Addr) (c:Nat) (ag:List α),cs= [.slice a ag.length c]/\Am p (FB W).E a c ag:=by
 rcases DataW.trod_slice am aq with⟨Z,ar⟩ | ⟨a,len,cap,elems,rest,n,_,Z,ar,_,au,_,hlen,ah,ai,_⟩
 ·exact⟨none,0,[],Z,Am.nil⟩
 ·rw [an] at ah ai;rcases Nat.eq_zero_or_pos cap with aj | aj
  ·have:len=0:=by omega
   subst this;subst aj;exact⟨some a,0,[],Z,Nat.le_refl _,.inl ⟨rfl,λ_ _=> .inr rfl⟩⟩
  ·have ak:∀i,i<len->∃vs y,vs.length=p.n/\(∀j,j<p.n->W.cell? ((a.add (i*p.n)).add j)=vs[j]?)/\DataW.trod enc Tryz.prog W 0 (λ_=>true) true n e vs=some y:=λi hi=>by
    have K:=ah i hi;rw [List.getElem?_eq_getElem (by omega)] at K;obtain⟨vs,ab,V⟩:=Option.bind_eq_some_iff.1 K;obtain⟨_,O,ac⟩:=World.cells?_some ab;exact⟨vs,_,O,ac,V⟩
   have ae:a.spot=none:=by
    have key:∀vs:Lv_,vs.length=p.n->(∀j,j<p.n->W.cell? ((a.add (0*p.n)).add j)=vs[j]?)->a.spot=none:=λvs aa U=>by
     have:=U 0 ao;rw [List.getElem?_eq_getElem (by omega),Qh,Nat.zero_mul,Qh] at this;exact World.cell?_spot this
    rcases Nat.eq_zero_or_pos len with K | K
    ·obtain⟨ab,V⟩:=ai rfl;have O:=V 0 (by omega);rw [List.getElem?_eq_getElem (by omega)] at O;obtain⟨vs,ac,_⟩:=Option.bind_eq_some_iff.1 O;obtain⟨_,aa,U⟩:=World.cells?_some ac;rw [K] at U;exact key vs aa U
    ·obtain⟨vs,y,aa,U,_⟩:=ak 0 K;exact key vs aa U
   have al:∀i:Fin len,∃z:α,∃vs,p.r (FB W).E vs z/\At (FB W).E a.block (a.off+i*p.n) vs:=λi=>by
    obtain⟨vs,y,ab,V,O⟩:=ak i i.2;obtain⟨z,Y⟩:=ap _ _ _ O;refine⟨z,vs,Y,UZ (by omega) λj av=>?_⟩;have:=V j (by omega);rw [DR ae,DR rfl] at this;exact this
   refine⟨some a,cap,List.ofFn λi=>Classical.choose (al i),by simpa using Z,by simpa using au,.inr ⟨a.block,a.off,?_,λi z Y=>?_⟩⟩
   ·obtain⟨b,o,s⟩:=a;simp only at ae;subst ae;rfl
   ·have hi:i<len:=by have:=(List.getElem?_eq_some_iff.1 Y).1;simpa using this
    simp [hi] at Y;have:=Classical.choose_spec (al ⟨i,hi⟩);rw [Y] at this;exact this
theorem Mq(h:DataW.trod enc Tryz.prog W 0 (λ_=>true) true fuel 3 cs=some x):∃z:Int,cs= [iV z]:=by
 obtain⟨n1,K,_⟩:=DataW.trod_int Tryz.underlying3 h;exact⟨n1,K⟩
theorem QV(O:DataW.trod enc Tryz.prog W 0 (λ_=>true) true fuel 28 cs=some x):∃(a:Option Addr) (c:Nat) (K:List Int),cs= [.slice a K.length c]/\Am rI (FB W).E a c K:=
 OK (p:=rI) Tryz.underlying28 Tryz.R6 Nat.one_pos (λn cs x h=>by
  obtain⟨z,rfl⟩:=Mq h
  exact⟨z,rfl⟩) O
theorem VT(O:DataW.trod enc Tryz.prog W 0 (λ_=>true) true fuel 22 cs=some x):∃(a:Option Addr) (c:Nat) (K:List (List Int)),cs= [.slice a K.length c]/\Am (rL rI) (FB W).E a c K:=
 OK (p:=rL rI) Tryz.underlying22 Tryz.WW Nat.one_pos (λn cs x h=>by
  obtain⟨a,c,K,e,g⟩:=QV h
  exact⟨K,a,c,e,g⟩) O
theorem Qi(h:DataW.trod enc Tryz.prog W 0 (λ_=>true) true fuel 27 cs=some x):∃v:Int×Int×Int,cs= [iV v.1,iV v.2.1,iV v.2.2]:=by
 obtain⟨y0,ac,ae,n,_,U,V,Y,Z⟩:=Go.Deep.trod_struct3 Tryz.underlying27 h;obtain⟨n1,K⟩:=Mq V;obtain⟨aa,e2⟩:=Mq Y;obtain⟨ab,O⟩:=Mq Z;rw [Tryz.Rj] at U;rw [Pal.Tryz.R6] at K e2 O;refine⟨(n1,aa,ab),?_⟩
 match cs,U with
 | [u,w,z],_=>simp at K e2 O;rw [K,e2,O]
theorem Ux(O:DataW.trod enc Tryz.prog W 0 (λ_=>true) true fuel 23 cs=some x):∃(a:Option Addr) (c:Nat) (K:List (Int×Int×Int)),cs= [.slice a K.length c]/\Am (rP rI (rP rI rI)) (FB W).E a c K:=
 OK (p:=rP rI (rP rI rI)) Tryz.underlying23 Tryz.Rj (by decide) (λn cs x h=>by
  obtain⟨v,rfl⟩:=Qi h
  exact⟨v,[iV v.1],[iV v.2.1,iV v.2.2],rfl,rfl,[iV v.2.1],[iV v.2.2],rfl,rfl,rfl⟩) O
theorem UI{v:Value}{V:Nat}{d:DataW H}{p:List MemPlace}(Y:Value.okWide Tryz.prog W .any V 25 v)(hd:DataW.Trod enc Tryz.prog W 0 (λ_=>true) true 25 v d p):
  ∃(a1:Option Addr) (c1:Nat) (K:Option Addr) (c2:Nat) (o:List (List Int)×List (Int×Int×Int)),v= .agg #[.slice a1 o.1.length c1,.slice K o.2.length c2]/\Am (rL rI) (FB W).E a1 c1 o.1/\Am (rP rI (rP rI rI)) (FB W).E K c2 o.2:=by
 obtain⟨cs,rfl,U⟩:=okWide_struct Tryz.underlying25 Y;obtain⟨fuel,Z⟩:=hd;obtain⟨y0,ag,n,_,ah,aa,ab⟩:=trod_struct2 Tryz.underlying25 Z;obtain⟨a1,c1,z1,O,ac⟩:=VT aa;obtain⟨K,c2,ae,e2,g2⟩:=Ux ab;refine⟨a1,c1,K,c2,(z1,ae),?_,ac,g2⟩;rw [Tryz.V3] at O;rw [Tryz.WV] at U;rw [Tryz.Wy] at e2;simp only [Value.cells,List.drop_zero] at O e2;obtain⟨l⟩:=cs
 match l,U with
 | [u,w],_=>
  simp at O e2;rw [O,e2]
theorem Vy{v:Value}{O:Nat}{d:DataW H}{p:List MemPlace}(U:Value.okWide Tryz.prog W .any O 28 v)(hd:DataW.Trod enc Tryz.prog W 0 (λ_=>true) true 28 v d p):
  ∃(a:Option Addr) (c:Nat) (K:List Int),v= .slice a K.length c/\Am rI (FB W).E a c K:=by
 obtain⟨Y,len,cap,rfl⟩:=okWide_slice Tryz.underlying28 U;obtain⟨fuel,V⟩:=hd;obtain⟨a,c,K,e,g⟩:=QV V;simp [Value.cells] at e;obtain⟨rfl,rfl,rfl⟩:=e;exact⟨_,_,_,rfl,g⟩
theorem VI{v:Value}{K:Nat}{d:DataW H}{p:List MemPlace}(O:Value.okWide Tryz.prog W .any K 27 v)(hd:DataW.Trod enc Tryz.prog W 0 (λ_=>true) true 27 v d p):∃l:Int×Int×Int,v= .agg #[iV l.1,iV l.2.1,iV l.2.2]:=by
 obtain⟨cs,rfl,V⟩:=okWide_struct Tryz.underlying27 O;obtain⟨fuel,U⟩:=hd;obtain⟨l,e⟩:=Qi U;simp only [Value.cells] at e;refine⟨l,?_⟩;obtain⟨k⟩:=cs;simp only at e;rw [e]
end
end Pal
namespace Pal
open Go Go.Conc
def G7(K:Bool)(ws:Lv_):Value:=if K then .agg ws.toArray else ws.headD undef
def Vr{α:Type}(pp:Rp α)(K:Bool)(E:LH)(v:Value)(x:α):Prop:=∃ws,pp.r E ws x/\v=G7 K ws
theorem Vr.Ag{α:Type}{pp:Rp α}{K:Bool}{E E':LH}{v:Value}{x:α}(h:Vr pp K E v x)(hle:Le E E'):Vr pp K E' v x:=
 let ⟨ws,O,U⟩:=h;⟨ws,pp.Ag hle O,U⟩
structure Gk (P:Program) (t:TypeId) {κ:Type} [DecidableEq κ] (pk:Rp κ) (ka:Bool):Prop where
 BK:∀{em:Bool} {E:LH} {v:Value} {x:κ} {s:St} {Q:Unit->St->Prop} {X:Halt->St->Prop},Vr pk ka E v x->Q () s->lp P (Instr.checkKey em 10000 t v) s Q X
 kind:∃kd,P.underlying t=some kd/\((∀v w,Instr.sameNow kd v w=none)∨∀{E:LH} {v w:Value} {x y:κ},Vr pk ka E v x->Vr pk ka E w y->Instr.sameNow kd v w=some (decide (x=y)))
 eq:∀{E:LH} {v w:Value} {x y:κ} {s:St} {Q:Bool->St->Prop} {X:Halt->St->Prop},Vr pk ka E v x->Vr pk ka E w y->Q (decide (x=y)) s->lp P (Op.equal t v w) s Q X
 same:∀{E:LH} {v:Value} {x:κ},Vr pk ka E v x->Instr.sameBits 10000 v v=true
 uniq:∀{E:LH} {v w:Value} {x:κ},Vr pk ka E v x->Vr pk ka E w x->v=w
section
variable {κ ν:Type} [DecidableEq κ] {pk:Rp κ}{pv:Rp ν}{ka va:Bool}{E E':LH}
def DL(pk:Rp κ)(ka:Bool)(pv:Rp ν)(va:Bool)(E:LH):List MapEntry->List (κ×ν)->Prop
 | [],[]=>True
 | e::es,x::xs=>Vr pk ka E e.key x.1/\Vr pv va E e.val x.2/\DL pk ka pv va E es xs
 | _,_=>False
theorem DL.Ag(hle:Le E E'):∀{es:List MapEntry} {xs:List (κ×ν)},DL pk ka pv va E es xs->DL pk ka pv va E' es xs
 | [],[],_=>trivial
 | e::es,x::xs,h=>⟨h.1.Ag hle,h.2.1.Ag hle,DL.Ag hle h.2.2⟩
 | [],_::_,h=>h.elim
 | _::_,[],h=>h.elim
theorem DL.len:∀{es:List MapEntry} {xs:List (κ×ν)},DL pk ka pv va E es xs->es.length=xs.length
 | [],[],_=>rfl
 | e::es,x::xs,h=>by simp [DL.len h.2.2]
 | [],_::_,h=>h.elim
 | _::_,[],h=>h.elim
def F3(x:κ):List MapEntry->List (κ×ν)->Nat->Option (Nat×Value)
 | e::es,y::ys,i=>if x=y.1 then some (i,e.val) else F3 x es ys (i+1)
 | _,_,_=>none
def BA(xs:List (κ×ν))(x:κ):Option ν:=(xs.find? λy=>decide (x=y.1)).map (·.2)
def Dh(xs:List (κ×ν))(x:κ)(v:ν):List (κ×ν):=match xs with
 | []=> [(x,v)]
 | y::ys=>if x=y.1 then(x,v)::ys else y::Dh ys x v
theorem RO{x:κ}:∀{es:List MapEntry} {xs:List (κ×ν)} {i:Nat},DL pk ka pv va E es xs->(F3 x es xs i=none/\BA xs x=none)∨∃j w v0,F3 x es xs i=some (j,w)/\BA xs x=some v0/\Vr pv va E w v0
 | [],[],i,_=> .inl ⟨rfl,rfl⟩
 | e::es,y::ys,i,h=>by
  unfold F3 BA
  by_cases K:x=y.1
  ·exact .inr ⟨i,e.val,y.2,by rw [if_pos K],by simp [K],h.2.1⟩
  ·rcases RO (x:=x) (i:=i+1) h.2.2 with⟨O,U⟩ | ⟨j,w,v0,O,U,V⟩
   ·exact .inl ⟨by rw [if_neg K];exact O,by simpa [K,BA] using U⟩
   ·exact .inr ⟨j,w,v0,by rw [if_neg K];exact O,by simpa [K,BA] using U,V⟩
 | [],_::_,_,h=>h.elim
 | _::_,[],_,h=>h.elim
theorem DL.put{x:κ}{v0:ν}{O w:Value}(U:Vr pk ka E O x)(hw:Vr pv va E w v0)(Y:Nat):∀{es:List MapEntry} {xs:List (κ×ν)} {i:Nat},DL pk ka pv va E es xs->
  (F3 x es xs i=none/\DL pk ka pv va E (es++ [{key:=O,val:=w,born:=Y}]) (Dh xs x v0))∨
  ∃j u,F3 x es xs i=some (i+j,u)/\j<es.length/\(∀e,es[j]? =some e->Vr pk ka E e.key x)/\DL pk ka pv va E (es.modify j λe=>{e with key:=O,val:=w}) (Dh xs x v0)
 | [],[],i,_=> .inl ⟨rfl,U,hw,trivial⟩
 | e::es,y::ys,i,h=>by
  unfold F3 Dh
  by_cases K:x=y.1
  ·refine .inr ⟨0,e.val,by rw [if_pos K];rfl,by simp,λZ he=>?_,?_⟩
   ·simp at he;subst he;rw [K];exact h.1
   ·rw [if_pos K];exact⟨U,hw,h.2.2⟩
  ·rcases DL.put U hw Y (i:=i+1) h.2.2 with⟨V,aa⟩ | ⟨j,u,V,aa,ab,ac⟩
   ·exact .inl ⟨by rw [if_neg K];exact V,by rw [if_neg K];exact⟨h.1,h.2.1,aa⟩⟩
   ·refine .inr ⟨j+1,u,by rw [if_neg K,V];congr 2;omega,by simp;omega,λZ he=>ab Z (by simpa using he),?_⟩;rw [if_neg K];exact⟨h.1,h.2.1,ac⟩
 | [],_::_,_,h=>h.elim
 | _::_,[],_,h=>h.elim
def Kg(pk:Rp κ)(ka:Bool)(pv:Rp ν)(va:Bool)(E:LH)(o:Obj)(xs:List (κ×ν)):Prop:=
 ∃es clock,o= .map es clock/\DL pk ka pv va E es.toList xs/\(es.toList.map (·.born)).Pairwise (·<·)/\∀e∈es.toList,e.born<clock
theorem Kg.Ag{o:Obj}{xs:List (κ×ν)}(h:Kg pk ka pv va E o xs)(hle:Le E E'):Kg pk ka pv va E' o xs:=
 let ⟨es,c,K,O,U⟩:=h;⟨es,c,K,O.Ag hle,U⟩
variable {P:Program}{s:St}{t tm te:TypeId}{X:Halt->St->Prop}
theorem PM(U:Gk P t pk ka){k:Value}{x:κ}(V:Vr pk ka E k x){Q:Option (Nat×Value)->St->Prop}:∀{es:List MapEntry} {xs:List (κ×ν)} {i:Nat},DL pk ka pv va E es xs->Q (F3 x es xs i) s->lp P (Instr.findAsking t k es i) s Q X
 | [],[],i,_,h=>h
 | e::es,y::ys,i,h,K=>by
  unfold Instr.findAsking
  refine Av _ _ (U.eq V h.1 ?_)
  unfold F3 at K
  by_cases O:x=y.1
  ·rw [decide_eq_true O]
   rw [if_pos O] at K;exact K
  ·rw [decide_eq_false O];rw [if_neg O] at K;exact PM U V h.2.2 K
 | [],_::_,_,h,_=>h.elim
 | _::_,[],_,h,_=>h.elim
theorem P2{kd:TypeDesc}{k:Value}{x:κ}(O:Vr pk ka E k x)(U:∀{E:LH} {v w:Value} {x y:κ},Vr pk ka E v x->Vr pk ka E w y->Instr.sameNow kd v w=some (decide (x=y))):∀{es:List MapEntry} {xs:List (κ×ν)} {i:Nat},DL pk ka pv va E es xs->Instr.findNow kd k es i=some (F3 x es xs i)
 | [],[],i,_=>rfl
 | e::es,y::ys,i,h=>by
  unfold Instr.findNow F3
  rw [U O h.1]
  by_cases K:x=y.1
  ·simp [K]
  ·simp only [decide_eq_false K,if_neg K];exact P2 O U h.2.2
 | [],_::_,_,h=>h.elim
 | _::_,[],_,h=>h.elim
theorem N6(O:Gk P t pk ka){k:Value}{x:κ}(U:Vr pk ka E k x){Q:Option (Nat×Value)->St->Prop}{es:List MapEntry}{xs:List (κ×ν)}(h:DL pk ka pv va E es xs)(K:Q (F3 x es xs 0) s):lp P (Instr.findKey t k es) s Q X:=by
 unfold Instr.findKey;obtain⟨kd,V,Y | Z⟩:=O.kind
 ·refine Av _ _ (Cp V ?_);cases es with
  | nil=>
   cases xs with
   | nil=>exact K
   | cons y ys=>exact h.elim
  | cons e es=>
   have aa:Instr.findNow kd k (e::es) 0=none:=by unfold Instr.findNow;rw [Y]
   rw [aa];exact PM O U h K
 ·refine Av _ _ (Cp V ?_);rw [P2 U Z h];exact K
theorem U7(O:Gk P t pk ka)(hm:P.underlying tm=some (.map t te)){z:Value}{z0:ν}(Y:zeroOf P te=some z)(Z:Vr pv va E z z0){bk:Nat}{o:Obj}{xs:List (κ×ν)}{k:Value}{x:κ}(aa:s.get bk=some o)(ab:Kg pk ka pv va E o xs)(U:Vr pk ka E k x)(ok:Bool){Q:Value->St->Prop}
  (h:∀w,Vr pv va E w ((BA xs x).getD z0)->Q (if ok then .tuple #[w,.bool (BA xs x).isSome] else w) s):lp P (Instr.lookup tm (.map (some bk)) k ok) s Q X:=by
 obtain⟨es,c,rfl,V,ae,ag⟩:=ab;unfold Instr.lookup;refine Av _ _ (Cp hm ?_);refine Av _ _ ?_;unfold getObj;simp only [bind,Sem.bind,lp];refine⟨_,aa,rfl,?_⟩;refine Av (x:=Instr.checkKey _ 10000 t k) _ (O.BK U ?_);refine Av (x:=Instr.findKey t k es.toList) _ (N6 O U V ?_);rcases RO (x:=x) (i:=0) V with⟨K,e2⟩ | ⟨j,w,v0,K,e2,ac⟩
 ·rw [K];simp only;refine Av (x:=zeroValue te) _ (Hd Y ?_);have:=h z (by rw [e2];exact Z);rw [e2] at this;exact this
 ·rw [K];have:=h w (by rw [e2];exact ac);rw [e2] at this;exact this
theorem TJ(O:Gk P t pk ka)(hm:P.underlying tm=some (.map t te)){bk:Nat}{o:Obj}{xs:List (κ×ν)}{k w:Value}{x:κ}{v0:ν}(ac:s.get bk=some o)(Y:s.H bk=some o)(ae:Kg pk ka pv va E o xs)(K:Vr pk ka E k x)(hw:Vr pv va E w v0){Q:Unit->St->Prop}
  (h:∀o',Kg pk ka pv va E o' (Dh xs x v0)->Q () (s.upd bk o')):lp P (Instr.mapUpdate tm (.map (some bk)) k w) s Q X:=by
 obtain⟨es,c,rfl,Z,aa,U⟩:=ae;unfold Instr.mapUpdate;refine Av _ _ (Cp hm ?_);unfold getObj;simp only [bind,Sem.bind,lp];refine⟨_,ac,rfl,?_⟩;refine Av (x:=Instr.checkKey false 10000 t k) _ (O.BK K ?_);refine Av (x:=Instr.findKey t k es.toList) _ (N6 O K Z ?_);rcases DL.put K hw c (i:=0) Z with⟨V,e2⟩ | ⟨j,u,V,e2,ag,ah⟩
 ·rw [V];simp only [setObj,lp];refine⟨⟨_,Y,rfl⟩,rfl,h _ ⟨es.push {key:=k,val:=w,born:=c},c+1,rfl,by simpa using e2,?_,?_⟩⟩
  ·rw [Array.toList_push,List.map_append,List.pairwise_append];refine⟨aa,by simp,λa ai b hb=>?_⟩;simp at hb;subst hb;obtain⟨e,he,rfl⟩:=List.mem_map.1 ai;exact U e he
  ·intro e he;rw [Array.toList_push] at he;rcases List.mem_append.1 he with he | he
   ·have:=U e he;omega
   ·simp at he;subst he;simp
 ·rw [V];have ab:es[j]? =some (es[j]'(by simpa using e2)):=Array.getElem?_eq_getElem (by simpa using e2);have aj:(es[j]'(by simpa using e2)).key=k:=O.uniq (ag _ (by rw [Array.getElem?_toList];exact ab)) K;simp only [Nat.zero_add,ab,Option.map_some,Option.getD_some,aj];refine Av (x:=Instr.keyThatStays k k) _ ?_;unfold Instr.keyThatStays;rw [if_pos (O.same K)];simp only [lp,pure,setObj];refine⟨⟨_,Y,rfl⟩,rfl,h _ ⟨_,c,rfl,by simpa using ah,?_,?_⟩⟩
  ·have:(es.modify j λe=>{e with key:=k,val:=w}).toList.map (·.born)=es.toList.map (·.born):=by
    rw [Array.toList_modify];apply List.ext_getElem?;intro q;simp only [List.getElem?_map,List.getElem?_modify];split <;> cases es.toList[q]? <;> rfl
   rw [this];exact aa
  ·intro e he;rw [Array.toList_modify] at he;obtain⟨q,ak,rfl⟩:=List.mem_iff_getElem.1 he;rw [List.getElem_modify];have al:q<es.toList.length:=by simpa using ak
   split
   ·show(es.toList[q]'al).born<c;exact U _ (List.getElem_mem _)
   ·exact U _ (List.getElem_mem _)
end
end Pal
namespace Pal
open Go Go.Conc
theorem R1{l us r:Lv_}:∀j w,us[j]? =some w->(l++us++r).toArray[l.length+j]? =some w:=λj w h=>by
 have K:j<us.length:=(List.getElem?_eq_some_iff.1 h).1
 rw [List.getElem?_toArray,List.append_assoc,List.getElem?_append_right (by omega),show l.length+j - l.length=j by omega,List.getElem?_append_left K]
 exact h
section
variable {P:Program}{s:St}{t e:TypeId}{X:Halt->St->Prop}
theorem Kx{c:Av_}{off:Nat}{us:Lv_}{O:Bool}(V:Dm P e=some O)(Y:Bm P e=some us.length)(Z:O=false->us.length=1)(hw:∀j w,us[j]? =some w->c[off+j]? =some w)
  {Q:Value->St->Prop} (k:Q (G7 O us) s):lp P (Go.part e c off) s Q X:=by
 unfold Go.part;refine Av (x:=isAgg e) _ (Mn V ?_);cases O with
 | true=>
  simp only [if_true];refine Av (x:=Go.sizeOf e) _ (Ex Y ?_);have aa:c.extract off (off+us.length)=us.toArray:=by
   apply Array.ext_getElem?;intro j;by_cases U:j<us.length
   ·have K:=hw j us[j] (List.getElem?_eq_getElem U);have ab:off+j<c.size:=(Array.getElem?_eq_some_iff.1 K).1;simp only [Array.getElem?_extract];rw [if_pos (by omega),K];simp [U]
   ·simp only [Array.getElem?_extract];rw [if_neg (by omega)];simp;omega
  show Q (.agg (c.extract off (off+us.length))) s;rw [aa];exact k
 | false=>
  obtain⟨w,rfl⟩:∃w,us= [w]:=by
   match us,Z rfl with
   | [w],_=>exact⟨w,rfl⟩
  have K:=hw 0 w rfl;rw [Nat.add_zero] at K;simp only [Bool.false_eq_true,if_false,K];exact k
end
structure B9 (P:Program) (t:TypeId) {α:Type} [DecidableEq α] (pp:Rp α) (K:Bool) (dep:Nat):Prop where
 agg:Dm P t=some K
 size:Bm P t=some pp.n
 one:K=false->pp.n=1
 eq:∀{n:Nat} {E E':LH} {ws ws':Lv_} {x y:α} {s:St} {Q:Bool->St->Prop} {X:Halt->St->Prop},dep<=n->pp.r E ws x->pp.r E' ws' y->Q (decide (x=y)) s->lp P (Op.equalIn n t (G7 K ws) (G7 K ws')) s Q X
 BK:∀{n:Nat} {em:Bool} {E:LH} {ws:Lv_} {x:α} {s:St} {Q:Unit->St->Prop} {X:Halt->St->Prop},dep<=n->pp.r E ws x->Q () s->lp P (Instr.checkKey em n t (G7 K ws)) s Q X
 uniq:∀{E E':LH} {ws ws':Lv_} {x:α},pp.r E ws x->pp.r E' ws' x->ws=ws'
 same:∀{E:LH} {ws:Lv_} {x:α},pp.r E ws x->∀w∈ws,∀m,Instr.sameBits (m+1) w w=true
 now:∃kd,P.underlying t=some kd/\((∀v w,Instr.sameNow kd v w=none)∨∀{E E':LH} {ws ws':Lv_} {x y:α},pp.r E ws x->pp.r E' ws' y->Instr.sameNow kd (G7 K ws) (G7 K ws')=some (decide (x=y)))
section
variable {P:Program}{t e:TypeId}
theorem B9.int{kd:IntKind}(U:P.underlying t=some (.int kd))(V:Bm P t=some 1):B9 P t (rK kd) false 1 where
 agg:=by unfold Dm;rw [U]
 size:=V
 one _:=rfl
 eq {n E E' ws ws' x y s Q X} Y K O k:=by
  obtain⟨m,rfl⟩:∃m,n=m+1:=⟨n - 1,by omega⟩;have K:ws= [.int kd x]:=K;have O:ws'= [.int kd y]:=O;subst K O;refine R9 U ?_;have e:(x==y)=decide (x=y):=by by_cases h:x=y <;> simp [h]
  rw [e];exact k
 BK {n em E ws x s Q X} Y K k:=by
  obtain⟨m,rfl⟩:∃m,n=m+1:=⟨n - 1,by omega⟩;have K:ws= [.int kd x]:=K;subst K;unfold Instr.checkKey;refine Av _ _ (Cp U ?_);exact k
 uniq K O:=by
  have K:_= [Value.int kd _]:=K;have O:_= [Value.int kd _]:=O;rw [K,O]
 same {E ws x} h w hw m:=by
  have h:ws= [Value.int kd x]:=h;subst h;simp at hw;subst hw;simp [Instr.sameBits]
 now:=⟨_,U,.inr λ{E E' ws ws' x y} K O=>by
  have K:ws= [.int kd x]:=K
  have O:ws'= [.int kd y]:=O
  subst K O
  have e:(x==y)=decide (x=y):=by by_cases h:x=y <;> simp [h]
  show(if kd=kd then some (x==y) else none)=_
  rw [if_pos rfl,e]⟩
theorem B9.nat{kd:IntKind}(U:P.underlying t=some (.int kd))(Y:Bm P t=some 1):B9 P t (rN kd) false 1 where
 agg:=by unfold Dm;rw [U]
 size:=Y
 one _:=rfl
 eq {n E E' ws ws' x y s Q X} Z K O k:=by
  obtain⟨m,rfl⟩:∃m,n=m+1:=⟨n - 1,by omega⟩;have K:ws= [.int kd ((x:Nat):Int)]:=K;have O:ws'= [.int kd ((y:Nat):Int)]:=O;subst K O;refine R9 U ?_;have e:((x:Int)==(y:Int))=decide (x=y):=by
   by_cases h:x=y
   ·simp [h]
   ·have V:¬(x:Int)=(y:Int):=by omega
    simp [h,V]
  rw [e];exact k
 BK {n em E ws x s Q X} Z K k:=by
  obtain⟨m,rfl⟩:∃m,n=m+1:=⟨n - 1,by omega⟩;have K:ws= [.int kd ((x:Nat):Int)]:=K;subst K;unfold Instr.checkKey;refine Av _ _ (Cp U ?_);exact k
 uniq K O:=by
  have K:_= [Value.int kd _]:=K;have O:_= [Value.int kd _]:=O;rw [K,O]
 same {E ws x} h w hw m:=by
  have h:ws= [Value.int kd ((x:Nat):Int)]:=h;subst h;simp at hw;subst hw;simp [Instr.sameBits]
 now:=⟨_,U,.inr λ{E E' ws ws' x y} K O=>by
  have K:ws= [.int kd ((x:Nat):Int)]:=K
  have O:ws'= [.int kd ((y:Nat):Int)]:=O
  subst K O
  have e:((x:Int)==(y:Int))=decide (x=y):=by
   by_cases h:x=y
   ·simp [h]
   ·have V:¬(x:Int)=(y:Int):=by omega
    simp [h,V]
  show(if kd=kd then some ((x:Int)==(y:Int)) else none)=_
  rw [if_pos rfl,e]⟩
theorem B9.up{α:Type} [DecidableEq α] {pp:Rp α}{O:Bool}{dep U:Nat}(h:B9 P t pp O dep)(hd:dep<=U):B9 P t pp O U:=
 ⟨h.agg,h.size,h.one,λK=>h.eq (Nat.le_trans hd K),λK=>h.BK (Nat.le_trans hd K),h.uniq,h.same,h.now⟩
theorem OB{α:Type}{kk:Nat}{pp:Rp α}{E:LH}{ws:Lv_}{xs:List α}(K:(rA kk pp).r E ws xs){i:Nat}(hi:i<kk):∃x us,xs[i]? =some x/\pp.r E us x/\us.length=pp.n/\∀j w,us[j]? =some w->ws.toArray[i*pp.n+j]? =some w:=by
 have O:xs[i]? =some (xs[i]'(by rw [K.1];exact hi)):=List.getElem?_eq_getElem (by rw [K.1];exact hi);have V:ix xs (i:Int)=some (xs[i]'(by rw [K.1];exact hi)):=by unfold ix;rw [if_pos (by omega)];simpa using O
 obtain⟨us,U,_,_,Y⟩:=Hh (m:=(i:Int)) K V;exact⟨_,us,O,U,pp.len U,λj w Z=>by have:=Y j w Z;rw [List.getElem?_toArray];simpa using this⟩
theorem B9.arr{α:Type} [DecidableEq α] {pp:Rp α}{ar:Bool}{dep kk:Nat}(h:B9 P e pp ar dep)(Y:P.underlying t=some (.array kk e))(au:Bm P t=some (kk*pp.n)):B9 P t (rA kk pp) true (dep+1) where
 agg:=by unfold Dm;rw [Y]
 size:=au
 one:=λh=>by cases h
 eq {n E E' ws ws' xs ys s Q X} av Z am k:=by
  obtain⟨n,rfl⟩:∃m,n=m+1:=⟨n - 1,by omega⟩;have aF:=Z.1;have aG:=am.1;unfold Op.equalIn;refine Av _ _ (Cp Y ?_);refine Av (x:=Go.sizeOf e) _ (Ex h.size ?_);simp only [G7,if_true];simp only [Std.Legacy.Range.forIn_eq_forIn_range',Std.Legacy.Range.size,Nat.sub_zero,Nat.add_one_sub_one,Nat.div_one];let ab:Nat->Option Bool×Unit->Sem (ForInStep (Option Bool×Unit)):=λi _=>do
   if !(← Op.equalIn n e (← Go.part e ws.toArray (i*pp.n)) (← Go.part e ws'.toArray (i*pp.n))) then pure (ForInStep.done (some false,())) else pure (ForInStep.yield (none,()))
  have key:∀(m st:Nat),st+m=kk->(∀i,i<st->xs[i]? =ys[i]?)->∀{K:Option Bool×Unit->St->Prop},K (if xs=ys then(none,()) else(some false,())) s->lp P (forIn (List.range' st m) (none,()) ab:Sem _) s K X:=by
   intro m
   induction m with
   | zero=>
    intro st ac ae K O;have U:xs=ys:=by
     apply List.ext_getElem?;intro i;rcases Nat.lt_or_ge i st with hi | hi
     ·exact ae i hi
     ·rw [List.getElem?_eq_none (by omega),List.getElem?_eq_none (by omega)]
    rw [if_pos U] at O;simp only [List.range'_zero,List.forIn_nil];exact O
   | succ m ag=>
    intro st ac ae K O;simp only [List.range'_succ,List.forIn_cons];obtain⟨a,us,aa,ah,V,ai⟩:=OB Z (i:=st) (by omega);obtain⟨c,aH,aj,aw,an,ay⟩:=OB am (i:=st) (by omega);refine Av _ _ (Av _ _ (Kx h.agg (by rw [V];exact h.size) (λq=>by rw [V];exact h.one q) ai ?_));refine Av _ _ (Kx h.agg (by rw [an];exact h.size) (λq=>by rw [an];exact h.one q) ay ?_);refine Av _ _ (h.eq (by omega) ah aw ?_);by_cases ak:a=c
    ·subst ak;simp only [decide_true,Bool.not_true,Bool.false_eq_true,if_false,lp,pure];exact ag (st+1) (by omega) (λi hi=>by
      rcases Nat.lt_or_ge i st with ao | ao
      ·exact ae i ao
      ·obtain rfl:i=st:=by omega
       rw [aa,aj]) O
    ·have az:¬xs=ys:=λq=>ak (by rw [q] at aa;rw [aa] at aj;exact Option.some.inj aj);rw [if_neg az] at O;simp only [ak,decide_false,Bool.not_false,if_true,lp,pure];exact O
  refine Av _ _ (key kk 0 (by omega) (λi hi=>by omega) ?_);by_cases U:xs=ys
  ·rw [if_pos U];simpa [lp,pure,U] using k
  ·rw [if_neg U];simpa [lp,pure,U] using k
 BK {n em E ws xs s Q X} av Z k:=by
  obtain⟨n,rfl⟩:∃m,n=m+1:=⟨n - 1,by omega⟩;unfold Instr.checkKey;refine Av _ _ (Cp Y ?_);simp only [G7,if_true];simp only [Std.Legacy.Range.forIn_eq_forIn_range',Std.Legacy.Range.size,Nat.sub_zero,Nat.add_one_sub_one,Nat.div_one];let ab:Nat->Unit->Sem (ForInStep Unit):=λi _=>do
   Instr.checkKey em n e (← Go.part e ws.toArray (i*(← Go.sizeOf e)))
   pure (ForInStep.yield ())
  have key:∀(m st:Nat),st+m=kk->∀{K:Unit->St->Prop},K () s->lp P (forIn (List.range' st m) () ab:Sem _) s K X:=by
   intro m
   induction m with
   | zero=>
    intro st ac K O;simp only [List.range'_zero,List.forIn_nil];exact O
   | succ m ag=>
    intro st ac K O;simp only [List.range'_succ,List.forIn_cons];obtain⟨a,us,aa,ah,V,ai⟩:=OB Z (i:=st) (by omega);refine Av _ _ (Av (x:=Go.sizeOf e) _ (Ex h.size ?_));refine Av _ _ (Kx h.agg (by rw [V];exact h.size) (λq=>by rw [V];exact h.one q) ai ?_);refine Av _ _ (h.BK (by omega) ah ?_);exact ag (st+1) (by omega) O
  exact Av _ _ (key kk 0 (by omega) k)
 uniq {E E' ws ws' xs} al aA:=by
  obtain⟨a1,wss,rfl,ap,c1⟩:=al;obtain⟨aI,aB,rfl,aJ,c2⟩:=aA;have:wss=aB:=by
   apply List.ext_getElem (by omega);intro i hi aC;have aq:xs[i]? =some (xs[i]'(by omega)):=List.getElem?_eq_getElem (by omega);exact h.uniq (c1 i _ _ aq (List.getElem?_eq_getElem hi)) (c2 i _ _ aq (List.getElem?_eq_getElem aC))
  rw [this]
 same {E ws xs} al w hw m:=by
  obtain⟨a1,wss,rfl,ap,c1⟩:=al;obtain⟨us,aD,hw⟩:=List.mem_flatten.1 hw;obtain⟨i,hi⟩:=List.mem_iff_getElem?.1 aD;have aE:i<xs.length:=by rw [a1,← ap];exact(List.getElem?_eq_some_iff.1 hi).1
  exact h.same (c1 i _ us (List.getElem?_eq_getElem aE) hi) w hw m
 now:=⟨_,Y,.inl λv w=>rfl⟩
theorem B9.field{α:Type} [DecidableEq α] {pp:Rp α}{Z:Bool}{dep n:Nat}{f:Field}{s:St}{X:Halt->St->Prop}(h:B9 P f.type pp Z dep)(hd:dep<=n)(aa:f.name≠ "_"){E E':LH}{us V:Lv_}{x y:α}(r1:pp.r E us x)(r2:pp.r E' V y){cx Y:Av_}
  (w1:∀j w,us[j]? =some w->cx[f.offset+j]? =some w) (w2:∀j w,V[j]? =some w->Y[f.offset+j]? =some w) {K:ForInStep (Option Bool×Unit)->St->Prop} (O:K (if x=y then .yield (none,()) else .done (some false,())) s):
  lp P (if f.name≠ "_" then do
   if !(← Op.equalIn n f.type (← Go.part f.type cx f.offset) (← Go.part f.type Y f.offset)) then pure (ForInStep.done (some false,())) else pure (ForInStep.yield (none,()))
   else pure (ForInStep.yield (none,()))) s K X:=by
 rw [if_pos aa]
 refine Av _ _ (Kx h.agg (by rw [pp.len r1];exact h.size) (λq=>by rw [pp.len r1];exact h.one q) w1 ?_)
 refine Av _ _ (Kx h.agg (by rw [pp.len r2];exact h.size) (λq=>by rw [pp.len r2];exact h.one q) w2 ?_)
 refine Av _ _ (h.eq hd r1 r2 ?_)
 by_cases U:x=y
 ·rw [if_pos U] at O;simpa [lp,pure,U] using O
 ·rw [if_neg U] at O;simpa [lp,pure,U] using O
theorem B9.Lp{α:Type} [DecidableEq α] {pp:Rp α}{O em:Bool}{dep n:Nat}{f:Field}{s:St}{X:Halt->St->Prop}(h:B9 P f.type pp O dep)(hd:dep<=n)(U:f.name≠ "_"){E:LH}{us:Lv_}{x:α}(r1:pp.r E us x){cx:Av_}
  (w1:∀j w,us[j]? =some w->cx[f.offset+j]? =some w) {K:ForInStep Unit->St->Prop} (V:K (.yield ()) s):
  lp P (if f.name≠ "_" then do
   Instr.checkKey em n f.type (← Go.part f.type cx f.offset)
   pure (ForInStep.yield ())
   else pure (ForInStep.yield ())) s K X:=by
 rw [if_pos U]
 refine Av _ _ (Kx h.agg (by rw [pp.len r1];exact h.size) (λq=>by rw [pp.len r1];exact h.one q) w1 ?_)
 refine Av _ _ (h.BK hd r1 ?_)
 exact V
theorem KS{us r:Lv_}{o:Nat}(K:o=0):∀j w,us[j]? =some w->(us++r).toArray[o+j]? =some w:=λj w h=>by subst K;exact R1 (l:= []) j w h
theorem Nh{l us r:Lv_}{o:Nat}(K:o=l.length):∀j w,us[j]? =some w->(l++(us++r)).toArray[o+j]? =some w:=λj w h=>by
 subst K
 have:=R1 (l:=l) (r:=r) j w h
 rwa [List.append_assoc] at this
theorem Ni{l us:Lv_}{o:Nat}(K:o=l.length):∀j w,us[j]? =some w->(l++us).toArray[o+j]? =some w:=λj w h=>by
 have:=Nh (r:= []) K j w h
 rwa [List.append_nil] at this
theorem ON{l m us:Lv_}{o:Nat}(K:o=l.length+m.length):∀j w,us[j]? =some w->(l++(m++us)).toArray[o+j]? =some w:=λj w h=>by
 have:=Ni (l:=l++m) (o:=o) (by simp [K]) j w h
 rwa [List.append_assoc] at this
theorem B9.two{α β:Type} [DecidableEq α] [DecidableEq β] {K:Rp α}{p2:Rp β}{a1 aj:Bool}{dep:Nat}{f1 f2:Field}(O:P.underlying t=some (.struct #[f1,f2]))(U:B9 P f1.type K a1 dep)(V:B9 P f2.type p2 aj dep)(ak:P.stoodInHeld t=false)
  (n1:f1.name≠ "_") (ai:f2.name≠ "_") (aa:f1.offset=0) (ab:f2.offset=K.n) (al:Bm P t=some (K.n+p2.n)):B9 P t (rP K p2) true (dep+1) where
 agg:=by unfold Dm;rw [O]
 size:=al
 one:=λh=>by cases h
 eq {n E E' ws ws' x y s Q X} am ac an k:=by
  obtain⟨n,rfl⟩:∃m,n=m+1:=⟨n - 1,by omega⟩;obtain⟨ae,ag,rfl,r1,r2⟩:=ac;obtain⟨v1,v2,rfl,Y,ah⟩:=an;simp only [G7,if_true];unfold Op.equalIn;refine Av _ _ (Cp O ?_);refine Av (x:=program) _ ?_;show lp P (if P.stoodInHeld t=true then _ else _) s _ _
  rw [if_neg (by rw [ak];exact Bool.false_ne_true)]
  dsimp only;rw [← Array.forIn_toList];simp only [List.forIn_cons,List.forIn_nil];refine Av _ _ (Av _ _ (U.field (by omega) n1 r1 Y (KS aa) (KS aa) ?_));by_cases Z:x.1=y.1
  ·rw [if_pos Z];refine Av _ _ (V.field (by omega) ai r2 ah (Ni (ab.trans (K.len r1).symm)) (Ni (ab.trans (K.len Y).symm)) ?_);by_cases e2:x.2=y.2
   ·have e:x=y:=Prod.ext Z e2;rw [if_pos e2];simpa [lp,pure,e] using k
   ·have e:¬x=y:=λq=>e2 (by rw [q]);rw [if_neg e2];simpa [lp,pure,e] using k
  ·have e:¬x=y:=λq=>Z (by rw [q]);rw [if_neg Z];simpa [lp,pure,e] using k
 BK {n em E ws x s Q X} am ac k:=by
  obtain⟨n,rfl⟩:∃m,n=m+1:=⟨n - 1,by omega⟩;obtain⟨ae,ag,rfl,r1,r2⟩:=ac;simp only [G7,if_true];unfold Instr.checkKey;refine Av _ _ (Cp O ?_)
  dsimp only;rw [← Array.forIn_toList];simp only [List.forIn_cons,List.forIn_nil];refine Av _ _ (Av _ _ (U.Lp (by omega) n1 r1 (KS aa) ?_));refine Av _ _ (V.Lp (by omega) ai r2 (Ni (ab.trans (K.len r1).symm)) ?_);exact k
 uniq {E E' ws ws' x} a b:=by
  obtain⟨ae,ag,rfl,r1,r2⟩:=a;obtain⟨v1,v2,rfl,Y,ah⟩:=b;rw [U.uniq r1 Y,V.uniq r2 ah]
 same {E ws x} a w hw m:=by
  obtain⟨ae,ag,rfl,r1,r2⟩:=a;rcases List.mem_append.1 hw with hw | hw
  ·exact U.same r1 w hw m
  ·exact V.same r2 w hw m
 now:=⟨_,O,.inl λv w=>rfl⟩
theorem B9.three{α β an:Type} [DecidableEq α] [DecidableEq β] [DecidableEq an] {K:Rp α}{p2:Rp β}{p3:Rp an}{a1 aq ar:Bool}{dep:Nat}{f1 f2 f3:Field}(U:P.underlying t=some (.struct #[f1,f2,f3]))(V:B9 P f1.type K a1 dep)(Y:B9 P f2.type p2 aq dep)(Z:B9 P f3.type p3 ar dep)(au:P.stoodInHeld t=false)
  (n1:f1.name≠ "_") (ao:f2.name≠ "_") (ap:f3.name≠ "_") (ae:f1.offset=0) (ag:f2.offset=K.n) (ah:f3.offset=K.n+p2.n) (av:Bm P t=some (K.n+(p2.n+p3.n))):B9 P t (rP K (rP p2 p3)) true (dep+1) where
 agg:=by unfold Dm;rw [U]
 size:=av
 one:=λh=>by cases h
 eq {n E E' ws ws' x y s Q X} aw ai ay k:=by
  obtain⟨n,rfl⟩:∃m,n=m+1:=⟨n - 1,by omega⟩;obtain⟨aj,_,rfl,r1,ak,al,rfl,r2,r3⟩:=ai;obtain⟨v1,_,rfl,O,v2,az,rfl,aa,am⟩:=ay;simp only [G7,if_true];unfold Op.equalIn;refine Av _ _ (Cp U ?_);refine Av (x:=program) _ ?_;show lp P (if P.stoodInHeld t=true then _ else _) s _ _
  rw [if_neg (by rw [au];exact Bool.false_ne_true)]
  dsimp only;rw [← Array.forIn_toList];simp only [List.forIn_cons,List.forIn_nil];refine Av _ _ (Av _ _ (V.field (by omega) n1 r1 O (KS ae) (KS ae) ?_));by_cases ab:x.1=y.1
  ·rw [if_pos ab];refine Av _ _ (Y.field (by omega) ao r2 aa (Nh (ag.trans (K.len r1).symm)) (Nh (ag.trans (K.len O).symm)) ?_);by_cases e2:x.2.1=y.2.1
   ·rw [if_pos e2];refine Av _ _ (Z.field (by omega) ap r3 am (ON (by rw [ah,K.len r1,p2.len r2])) (ON (by rw [ah,K.len O,p2.len aa])) ?_);by_cases ac:x.2.2=y.2.2
    ·have e:x=y:=Prod.ext ab (Prod.ext e2 ac);rw [if_pos ac];simpa [lp,pure,e] using k
    ·have e:¬x=y:=λq=>ac (by rw [q]);rw [if_neg ac];simpa [lp,pure,e] using k
   ·have e:¬x=y:=λq=>e2 (by rw [q]);rw [if_neg e2];simpa [lp,pure,e] using k
  ·have e:¬x=y:=λq=>ab (by rw [q]);rw [if_neg ab];simpa [lp,pure,e] using k
 BK {n em E ws x s Q X} aw ai k:=by
  obtain⟨n,rfl⟩:∃m,n=m+1:=⟨n - 1,by omega⟩;obtain⟨aj,_,rfl,r1,ak,al,rfl,r2,r3⟩:=ai;simp only [G7,if_true];unfold Instr.checkKey;refine Av _ _ (Cp U ?_)
  dsimp only;rw [← Array.forIn_toList];simp only [List.forIn_cons,List.forIn_nil];refine Av _ _ (Av _ _ (V.Lp (by omega) n1 r1 (KS ae) ?_));refine Av _ _ (Y.Lp (by omega) ao r2 (Nh (ag.trans (K.len r1).symm)) ?_);refine Av _ _ (Z.Lp (by omega) ap r3 (ON (by rw [ah,K.len r1,p2.len r2])) ?_);exact k
 uniq {E E' ws ws' x} a b:=by
  obtain⟨aj,_,rfl,r1,ak,al,rfl,r2,r3⟩:=a;obtain⟨v1,_,rfl,O,v2,az,rfl,aa,am⟩:=b;rw [V.uniq r1 O,Y.uniq r2 aa,Z.uniq r3 am]
 same {E ws x} a w hw m:=by
  obtain⟨aj,_,rfl,r1,ak,al,rfl,r2,r3⟩:=a;rcases List.mem_append.1 hw with hw | hw
  ·exact V.same r1 w hw m
  ·rcases List.mem_append.1 hw with hw | hw
   ·exact Y.same r2 w hw m
   ·exact Z.same r3 w hw m
 now:=⟨_,U,.inl λv w=>rfl⟩
theorem B9.key{α:Type} [DecidableEq α] {pp:Rp α}{K:Bool}{dep:Nat}(h:B9 P t pp K dep)(hd:dep<=10000):Gk P t pp K where
 BK:=by
  rintro em E v x s Q X ⟨ws,V,rfl⟩ k;exact h.BK hd V k
 kind:=by
  obtain⟨kd,O,Y⟩:=h.now;refine⟨kd,O,Y.imp id λZ=>?_⟩;rintro E v w x y ⟨ws,r1,rfl⟩ ⟨ws',r2,rfl⟩;exact Z r1 r2
 eq:=by
  rintro E v w x y s Q X ⟨ws,r1,rfl⟩ ⟨ws',r2,rfl⟩ k;exact h.eq hd r1 r2 k
 same:=by
  rintro E v x ⟨ws,r1,rfl⟩;cases K with
  | false=>
   obtain⟨w,rfl⟩:∃w,ws= [w]:=by
    have:=(pp.len r1).trans (h.one rfl)
    match ws,this with
    | [w],_=>exact⟨w,rfl⟩
   exact h.same r1 w (by simp) 9999
  | true=>
   show(ws.toArray.size==ws.toArray.size&&(ws.toArray.toList.zip ws.toArray.toList).all λ(x,y)=>Instr.sameBits 9999 x y)=true;rw [Bool.and_eq_true];refine⟨by simp,List.all_eq_true.2 ?_⟩;rintro⟨a,b⟩ aa;have O:∀(l:Lv_) a b,(a,b)∈l.zip l->a=b/\a∈l:=by
    intro l
    induction l with
    | nil=>intro a b h;simp at h
    | cons c l U=>
     intro a b h;simp only [List.zip_cons_cons,List.mem_cons,Prod.mk.injEq] at h;rcases h with⟨rfl,rfl⟩ | h
     ·exact⟨rfl,by simp⟩
     ·exact⟨(U a b h).1,List.mem_cons_of_mem _ (U a b h).2⟩
   obtain⟨rfl,hm⟩:=O _ a b aa;exact h.same r1 a (by simpa using hm) 9998
 uniq:=by
  rintro E v w x ⟨ws,r1,rfl⟩ ⟨ws',r2,rfl⟩;rw [h.uniq r1 r2]
section
variable {s:St}{ρ:Operand->Value}{x y:Operand}{d:Option Tmp}{u ty:TypeId}{p:String}{af:Ae_}{g:On_}{E E':LH}{ws ws':Lv_}
theorem Rm{α:Type} [DecidableEq α] {pp:Rp α}{dep:Nat}{a b:α}(h:B9 P t pp true dep)(hd:dep<=10000)(K:P.eqGuardType P.depth t=false)(r1:pp.r E ws a)(r2:pp.r E' ws' b)(O:ρ x= .agg ws.toArray)(U:ρ y= .agg ws'.toArray):Yl P ⟨d,.binOp .neq t x y u,ty,p,af,g⟩ ρ s (.bool (decide (a≠b))):=by
 refine FL (sm:=do eqGuard .neq t x y (ρ x) (ρ y);binOp .neq t (ρ x) (ρ y)) rfl ?_
 rw [O,U];refine Av _ _ (UX (.inr rfl) K ?_);have hb:binOp .neq t (.agg ws.toArray) (.agg ws'.toArray)=(do pure (.bool (!(← Op.equal t (.agg ws.toArray) (.agg ws'.toArray))))):=rfl
 rw [hb];exact Av (x:=Op.equal t _ _) _ (h.eq hd r1 r2 ⟨by simp,rfl⟩)
end
end
end Pal
namespace Pal
open Go Go.Conc
theorem TM{E H:LH}{B:List (Nat×Obj)}(i:Nat){bk:Nat}{o:Obj}(K:Nd E H B)(h:B[i]? =some (bk,o)):∃E',Le E E'/\E' bk=some o/\Nd E' H (B.eraseIdx i)/\Cl (mk E H B) (mk E' H (B.eraseIdx i)):=by
 have ae:=List.mem_of_getElem? h;have ag:E bk=none/\H bk=none:=by
  have:∀{B:List (Nat×Obj)},Nd E H B->(bk,o)∈B->E bk=none/\H bk=none:=by
   intro B K O
   induction B with
   | nil=>simp at O
   | cons q B V=>
    rcases List.mem_cons.1 O with rfl | O
    ·exact⟨K.1,K.2.1⟩
    ·exact V K.2.2.2 O
  exact this K ae
 let E':LH:=λx=>if x=bk then some o else E x
 have aa:E' bk=some o:=by simp [E']
 have hle:Le E E':=λx u U=>by
  have:x≠bk:=λe=>by subst e;rw [ag.1] at U;cases U
  simp [E',this,U]
 have ah:Nd E' H (B.eraseIdx i):=by
  have:∀{B:List (Nat×Obj)} {i:Nat},Nd E H B->B[i]? =some (bk,o)->Nd E' H (B.eraseIdx i)/\∀p∈B.eraseIdx i,p.1≠bk:=by
   intro B
   induction B with
   | nil=>intro i _ h;simp at h
   | cons q B V=>
    obtain⟨c,v⟩:=q;intro i K h;have up:∀{B:List (Nat×Obj)},Nd E H B->(∀p∈B,p.1≠bk)->Nd E' H B:=by
     intro B K ab
     induction B with
     | nil=>trivial
     | cons q B ai=>exact⟨by simpa [E',ab q (by simp)] using K.1,K.2.1,K.2.2.1,ai K.2.2.2 λp O=>ab p (List.mem_cons_of_mem _ O)⟩
    cases i with
    | zero=>
     simp at h;obtain⟨rfl,rfl⟩:=h;exact⟨up K.2.2.2 K.2.2.1,K.2.2.1⟩
    | succ i=>
     simp at h;obtain⟨Y,Z⟩:=V K.2.2.2 h;have ac:c≠bk:=λe=>K.2.2.1 (bk,o) (List.mem_of_getElem? h) e.symm;refine⟨⟨by simpa [E',ac] using K.1,K.2.1,λp O=>K.2.2.1 p (List.mem_of_mem_eraseIdx O),Y⟩,λp O=>?_⟩;rcases List.mem_cons.1 O with rfl | O
     ·exact ac
     ·exact Z p O
  exact(this K h).1
 refine⟨E',hle,aa,ah,⟨λx u U=>hle x u U,λx u U=>(La K h U).2,λx u U=>?_,rfl⟩⟩;by_cases e:x=bk
 ·subst e;right;have:u=o:=by have:E' x=some u:=U;rw [aa] at this;exact(Option.some.inj this).symm
  subst this;refine⟨IM K h,?_⟩;cases aj:(mk E' H (B.eraseIdx i)).H x with
  | none=>rfl
  | some y=>exact absurd rfl (La K h aj).1
 ·left;have Y:E' x=some u:=U;have Z:E' x=E x:=by simp [E',e]
  show E x=some u;rw [← Z];exact Y
theorem Tx{E H:LH}{B0:List (Nat×Obj)}{e:TypeId}{K l c:Nat}{a:Option Addr}{blk:List (Nat×Obj)}{xs:Lv_}(aa:GS e K a l c blk xs)(U:Nd E H (B0++blk)):∃E',Le E E'/\Nv E' K (.slice a l c) l xs/\Nd E' H B0/\Cl (mk E H (B0++blk)) (mk E' H B0):=by
 rcases aa with⟨rfl,rfl,rfl,rfl,rfl⟩ | ⟨bk,f,rfl,rfl,ab,V,rfl⟩
 ·simp only [List.append_nil] at U ⊢;exact⟨E,Le.refl _,.nil,U,.refl _⟩
 ·have ac:(B0++ [(bk,Obj.cells f e (0,0))])[B0.length]? =some (bk,Obj.cells f e (0,0)):=by simp
  obtain⟨E',hle,ae,Y,Z⟩:=TM B0.length U ac;have ag:(B0++ [(bk,Obj.cells f e (0,0))]).eraseIdx B0.length=B0:=by rw [List.eraseIdx_append_of_length_le (Nat.le_refl _)];simp
  rw [ag] at Y Z;refine⟨E',hle,⟨_,c,rfl,V,?_,.inr ⟨bk,0,f,e,(0,0),rfl,ae,λj w O=>?_⟩⟩,Y,Z⟩
  ·have:l*K<=c*K:=Nat.mul_le_mul_right _ V;simp [ab,Nat.min_eq_left this]
  ·rw [List.getElem?_take] at O;split at O
   ·simpa using O
   ·cases O
theorem TG{α:Type}{pp:Rp α}{E H:LH}{S:List Seg}{e:TypeId}{a:Option Addr}{c:Nat}{seg:Seg}{xs:List α}(j:Nat)(U:OL e pp E a c seg xs)(ae:An E H S)(ag:S[j]? =some seg):∃E',Le E E'/\Am pp E' a c xs/\An E' H (S.set j [])/\Cl (Ak E H S) (Ak E' H (S.set j [])):=by
 obtain⟨wss,U,Z,aa⟩:=U;have ah:∀ad:Addr,a=some ad->ad.spot=none:=λad K=>by
  rcases U with⟨O,_⟩ | ⟨bk,f,O,_⟩
  ·rw [O] at K;cases K
  ·rw [O] at K;cases K;rfl
 obtain⟨O,ai⟩:=Gx ae ag;obtain⟨E',hle,aj,ak,ab⟩:=Tx U ai;rw [← O] at ab;refine⟨E',hle,?_,ak,ab⟩;obtain⟨al,am,V,an,au,Y⟩:=aj;obtain⟨rfl,-,rfl⟩:a=al/\xs.length=xs.length/\c=am:=by
  simp only [Value.slice.injEq] at V;exact⟨V.1,rfl,V.2.2⟩
 refine⟨an,?_⟩;rcases Y with Y | ⟨bk,off,f,ao,fr,ap,g2,aq⟩
 ·exact .inl ⟨List.eq_nil_of_length_eq_zero Y,λad K=> .inl (ah ad K)⟩
 ·refine .inr ⟨bk,off,ap,λi x ac=>?_⟩;have ar:i<wss.length:=by rw [Z];exact(List.getElem?_eq_some_iff.1 ac).1
  have hw:=List.getElem?_eq_getElem ar;refine⟨wss[i],pp.Ag hle (aa i x _ ac hw),f,ao,fr,g2,λm w hm=>?_⟩;rw [Nat.add_assoc];exact aq _ w (JN (HN Z aa) hw m w hm)
theorem Cl.get{s s₀:St}(h:Cl s s₀){b:Nat}{o:Obj}(K:s₀.get b=some o):s.get b=some o:=by
 unfold St.get at K ⊢;cases O:s₀.E b with
 | some o'=>
  rw [O] at K;simp only at K;cases K;rcases h.ED _ _ O with U | ⟨U,_⟩
  ·rw [U]
  ·cases he:s.E b with
   | none=>exact U
   | some V=>
    have:=h.ext _ _ he;rw [O] at this;cases this;rfl
 | none=>
  rw [O] at K;simp only at K;cases he:s.E b with
  | none=>exact h.own _ _ K
  | some V=>
   have:=h.ext _ _ he;rw [O] at this;cases this
theorem Cl.upd{s s₀:St}(h:Cl s s₀){b:Nat}(o:Obj)(hb:(∃u,s₀.H b=some u)∨s₀.E b=none):Cl (s.upd b o) (s₀.upd b o):=by
 refine⟨h.ext,λx u K=>?_,λx u K=>?_,h.q⟩
 ·simp only [St.upd] at K ⊢;by_cases e:x=b
  ·rw [if_pos e] at K ⊢;exact K
  ·rw [if_neg e] at K ⊢;exact h.own _ _ K
 ·have O:s₀.E x=some u:=K;rcases h.ED _ _ O with U | ⟨U,V⟩
  ·exact .inl U
  ·refine .inr ?_;have e:x≠b:=λe=>by
    subst e;rcases hb with⟨w,hw⟩ | hb
    ·rw [hw] at V;cases V
    ·rw [hb] at O;cases O
   simp only [St.upd,if_neg e];exact⟨U,V⟩
theorem Cl.none{s s₀:St}(h:Cl s s₀){b:Nat}(U:s.E b=none)(O:s.H b=none):s₀.E b=none/\s₀.H b=none:=by
 constructor
 ·cases he:s₀.E b with
  | none=>rfl
  | some o=>
   rcases h.ED _ _ he with K | ⟨K,_⟩
   ·rw [U] at K;cases K
   ·rw [O] at K;cases K
 ·cases he:s₀.H b with
  | none=>rfl
  | some o=>have:=h.own _ _ he;rw [O] at this;cases this
theorem Vh{P:Program}{α:Type}(x:Sem α):∀{s s₀:St} {Q:α->St->Prop} {X:Halt->St->Prop},Cl s s₀->lp P x s₀ Q X->lp P x s (λa s'=>∃Y,Cl s' Y/\Q a Y) (λh s'=>∃Y,Cl s' Y/\X h Y):=by
 induction x with
 | pure a=>intro s s₀ Q X g h;exact⟨s₀,g,h⟩
 | load m a k K=>
  intro s s₀ Q X g h;obtain⟨O,v,U,V⟩:=h;obtain⟨o,ab,ac⟩:=Option.bind_eq_some_iff.1 U;exact⟨O,v,by unfold St.cell?;rw [g.get ab];exact ac,K v g V⟩
 | store m a v k K=>
  intro s s₀ Q X g h;obtain⟨O,U,o,V,ae,ag,ah⟩:=h;exact⟨O,U,o,g.own _ _ V,ae,ag,K (g.upd _ (.inl ⟨o,V⟩)) ah⟩
 | new o k K=>
  intro s s₀ Q X g h;refine⟨by rw [← g.q];exact h.1,λr O U=>?_⟩;obtain⟨aa,e2⟩:=g.none O U;exact K r (g.upd _ (.inr aa)) (h.2 r aa e2)
 | shape r k K=>intro s s₀ Q X g h;obtain⟨o,O,U⟩:=h;exact⟨o,g.get O,K _ g U⟩
 | freeze a n k K=>intro s s₀ Q X g h;exact h.elim
 | frozen a k K=>intro s s₀ Q X g h;obtain⟨o,O,U⟩:=h;exact⟨o,g.get O,K _ g U⟩
 | getObj r k K=>intro s s₀ Q X g h;obtain⟨o,O,U,V⟩:=h;exact⟨o,g.get O,U,K _ g V⟩
 | setObj r o k K=>
  intro s s₀ Q X g h;obtain⟨⟨o',O,ai⟩,U,V⟩:=h;exact⟨⟨o',g.own _ _ O,ai⟩,U,K (g.upd _ (.inl ⟨o',O⟩)) V⟩
 | choose q k K=>
  intro s s₀ Q X g h;simp only [lp] at h ⊢;split
  ·rename_i Z;rw [if_pos Z] at h;exact K _ g h
  ·rename_i Z;rw [if_neg Z] at h;exact⟨by rw [← g.q];exact h.1,λt=>K _ g (h.2 t)⟩
 | sys c k K=>intro s s₀ Q X g h;exact h.elim
 | program k K=>intro s s₀ Q X g h;exact K _ g h
 | mark m k K=>
  intro s s₀ Q X g h;refine⟨?_,K g h.2⟩;rcases h.1 with⟨O,U⟩ | O
  ·exact .inl ⟨by rw [← g.q];exact O,U⟩
  ·exact .inr O
 | halt h=>intro s s₀ Q X g aj;exact⟨s₀,g,aj⟩
section
variable {P:Program}{J:Judge P}{Q:Gs_}{b:Frame}{n:Nat}{ds:Ld_}{ops:Ao_}{k:Li_}{cs:Lf_}{m fuel:Nat}{D:Nat->Bool}{listed:Array Bool}{L:Env}{s:St}{E E' H:LH}{S:List Seg}
variable {d:Option Tmp}{x y:Operand}{t u ty e:TypeId}{p:String}{af:Ae_}{g:On_}{v:Value}{i:Nat}{kd:IntKind}
theorem Of{f:FuncId}{args:Array Operand}{ats:Array TypeId}{vs:Lv_}{seg:Seg}{R:Value->LH->Seg->Prop}(j:Nat)(al:∀x,D x=true->∃(O:Nat) (o:Obj),(S.set j [])[O]? =some [(x,o)])(am:AP J f vs E seg R)(an:Region.ready .any ops listed= [i])
  (ao:ops[i]? =some ⟨d,.call ⟨.value (.func f),args,ats⟩,ty,p,af,g⟩) (ap:Bh n d=true) (hw:AT L ops ⟨d,.call ⟨.value (.func f),args,ats⟩,ty,p,af,g⟩=some true) (hb:DI P f=true) (aq:evs L args.toList=some vs) (Y:An E H S) (Z:S[j]? =some seg)
  (ar:∀v E' seg',Le E E'->R v E' seg'->An E' H (S.set j seg')->AL J Q b n ds ops k cs m D fuel (Ba listed i) (Ax L d v) (Ak E' H (S.set j seg'))):
  AL J Q b n ds ops k cs m D (fuel+1) listed L (Ak E H S):=by
 have ab:S.flatten.Perm (seg++(S.set j []).flatten):=(Ei (seg':=seg) Z).1.trans List.perm_append_comm;have ac:Nd E H (seg++(S.set j []).flatten):=Nd.perm Y ab;have au:Ak E H S=mk E (Bi (S.set j []).flatten H) seg:=by
  rw [show Ak E H S=mk E H S.flatten from rfl,EZ Y ab];unfold mk;rw [FM]
 have ae:=EH.K1 (am (Bi (S.set j []).flatten H) (Nd.front ac)) (by rintro v s' ⟨E',B',_,_,_,rfl⟩;rfl);rw [← au] at ae;refine AL.call rfl an ao ap hw hb aq ae ?_;rintro v aE ⟨⟨E',B',hle,av,aw,rfl⟩,w,ay⟩;have e2:mk E' (Bi (S.set j []).flatten H) B'=mk E' H (B'++(S.set j []).flatten):=by unfold mk;rw [FM]
 have az:Nd E H (S.set j []).flatten:=by
  have:=ac;rw [Nd.iff] at this ⊢;rw [List.map_append,List.nodup_append] at this;exact⟨this.1.2.1,λq aA=>this.2 q (List.mem_append_right _ aA)⟩
 have aB:Nd E' H (S.set j []).flatten:=az.grow λx U=>by
  have aC:=ay.d x U;have aa:Bi B' (Bi (S.set j []).flatten H) x=none:=aC;exact(HI aa).1
 have ag:Nd E' H (B'++(S.set j []).flatten):=Nd.glue aw aB;have ah:(B'++(S.set j []).flatten).Perm (S.set j B').flatten:=List.perm_append_comm.trans (Ei Z).2.symm;have ai:An E' H (S.set j B'):=Nd.perm ag ah;rw [e2,EZ ag ah];refine⟨rfl,λx o U=>?_,ar v E' B' hle av ai⟩;by_cases hd:D x=true
 ·obtain⟨O,o',V⟩:=al x hd;have aj:j≠O:=λh=>by
   subst h;rw [List.getElem?_set_self (List.getElem?_eq_some_iff.1 Z).1] at V;cases V
  have ak:S[O]? =some [(x,o')]:=by rw [List.getElem?_set_ne aj] at V;exact V
  have aa:(Ak E H S).get x=some o':=DW (i:=0) Y ak rfl;have aD:(Ak E' H (S.set j B')).get x=some o':=DW (i:=0) ai (by rw [List.getElem?_set_ne aj];exact ak) rfl;have K:(if D x then(Ak E H S).get x else E x)=some o:=U
  show(if D x then(Ak E' H (S.set j B')).get x else E' x)=some o
  rw [if_pos hd] at K ⊢;rw [aD,← aa];exact K
 ·have K:(if D x then(Ak E H S).get x else E x)=some o:=U
  show(if D x then(Ak E' H (S.set j B')).get x else E' x)=some o
  rw [if_neg hd] at K ⊢;exact hle _ _ K
theorem AL.perm{S':List Seg}(K:S.flatten.Perm S'.flatten)(O:An E H S)(h:An E H S'->AL J Q b n ds ops k cs m D fuel listed L (Ak E H S')):AL J Q b n ds ops k cs m D fuel listed L (Ak E H S):=by
 have e:Ak E H S=Ak E H S':=EZ O K;rw [e];exact h (Nd.perm O K)
theorem JA.ghost:∀(fuel:Nat) {listed:Array Bool} {T:Av_} {s s₀:St},Cl s s₀->JA J Q b ds ops k cs m CL fuel listed T s₀->JA J Q b ds ops k cs m CL fuel listed T s
 | 0,listed,T,s,s₀,g,h=>⟨h.1,J.ghost g h.2⟩
 | fuel+1,listed,T,s,s₀,g,h=>by
  rcases h with⟨O,U⟩ | ⟨O,U,Z⟩
  ·exact .inl ⟨O,λt=>J.ghost g (U t)⟩
  ·refine .inr ⟨O,by rw [← g.q];exact U,λi hi o aa=>?_⟩;obtain⟨a1,ab,ac⟩:=Z i hi o aa;refine⟨a1,λe=>JA.ghost fuel g (ab e),λe=>?_⟩;have ae:=Vh _ (s:=Bx CL s) (s₀:=Bx CL s₀) g (ac e);refine Ej _ ae ?_ (λ_ s' ⟨_,_,h⟩=>h);intro ag s' K;obtain⟨V,Y,K⟩:=K;cases ag with
   | value v=>exact JA.ghost fuel (s:=s') (s₀:=V) Y K
   | skip=>exact JA.ghost fuel (s:=s') (s₀:=V) Y K
   | enter f args=>
    obtain⟨R,ah,ai⟩:=K;refine⟨R,λQ c cs aj=>J.ghost (s:=s') (s₀:=V) Y (ah Q c cs aj),λv ak al=>?_⟩;obtain⟨am,an,ao⟩:=ai v ak al;exact⟨am,λx o K=>an x o (g.ext x o K),ao⟩
   | _=>exact K.elim
theorem Fv{α:Type}{pp:Rp α}{a:Option Addr}{c:Nat}{seg:Seg}{xs:List α}(j:Nat)(K:OL e pp E a c seg xs)(O:An E H S)(U:S[j]? =some seg)
  (h:∀E',Le E E'->Am pp E' a c xs->An E' H (S.set j [])->AL J Q b n ds ops k cs m CL fuel listed L (Ak E' H (S.set j []))):AL J Q b n ds ops k cs m CL fuel listed L (Ak E H S):=λT V=>by
 obtain⟨E',Y,Z,aa,ab⟩:=TG j K O U
 exact JA.ghost _ ab (h E' Y Z aa T V)
end
end Pal
namespace Pal
open Go Go.Conc
theorem oi{α:Type}{a b:α}(h:some a=some b):a=b:=Option.some.inj h
theorem bs{α β:Type}{o:Option α}{f:α->Option β}{r:β}(h:o.bind f=some r):∃x,o=some x/\f x=some r:=bind_some h
def HR(L:Env):Env->List (Option Value)
 | []=> []
 | (t,_)::L'=>look L t::HR L L'
def HY:Env->List (Option Value)
 | []=> []
 | (_,v)::L'=>some v::HY L'
theorem MG{L:Env}:∀{L':Env},HR L L'=HY L'->Sub L' L
 | [],_=>trivial
 | (t,v)::L',h=>by
  simp only [HR,HY,List.cons.injEq] at h
  exact⟨h.1,MG h.2⟩
section
variable {P:Program}{J:Judge P}{Q:Gs_}{b:Frame}{n:Nat}{L L':Env}{ds:Ld_}{k k':Li_}{cs:Lf_}{s:St}{ops:Ao_}{i:Nat}{rest:List Nat}{v:Value}
variable {d:Option Tmp}{op:Op}{ty:TypeId}{p:String}{af:Ae_}{g:On_}
theorem El(L':Env)(h:HR L L'=HY L')(k':JL J Q b n L' ds k cs s):JL J Q b n L ds k cs s:=C3 (MG h) k'
theorem AB(k':JL J Q b n L' ds k cs s)(h:HR L L'=HY L'):JL J Q b n L ds k cs s:=C3 (MG h) k'
def Fq(b:Frame)(n:Nat)(L:Env)(ops:Ao_)(i:Nat):Option Oper:=
 match IX ops.toList i with
 | some ⟨d,op,ty,p,af,g⟩=>match AT L ops ⟨d,op,ty,p,af,g⟩ with
  | some true=>match BK b n ⟨d,op,ty,p,af,g⟩ with
   | true=>some ⟨d,op,ty,p,af,g⟩
   | false=>none
  | _=>none
 | none=>none
theorem J0{o:Oper}(h:Fq b n L ops i=some o):ops[i]? =some o/\AT L ops o=some true/\BK b n o=true:=by
 unfold Fq at h;split at h
 ·rename_i K;rw [KC,Array.getElem?_toList] at K;split at h
  ·rename_i hw;split at h
   ·rename_i O;cases h;exact⟨K,hw,O⟩
   ·cases h
  ·cases h
 ·cases h
theorem Al(K:Fq b n L ops i=some ⟨d,op,ty,p,af,g⟩)(h:∀ρ,EP L ρ->Yl P ⟨d,op,ty,p,af,g⟩ ρ s v)(O:JL J Q b n (Ax L d v) ds (.inRegion ops rest::k) cs s):
  JL J Q b n L ds (.inRegion ops (i::rest)::k) cs s:=
 let ⟨U,V,Y⟩:=J0 K
 Ao U V Y h O
theorem J3{f:FuncId}{fn:Func}{c:Code}{E:LH}{vs:Lv_}{B:Seg}{R:Value->LH->Seg->Prop}(O:P.funcs[f]? =some fn)(hb:fn.body=some c)(U:Nat.ble vs.length fn.ntmps=true)
  (h:∀(Q:Gs_) (K:Frame) (cs:Lf_) (H:LH),An E H [B]->(∀v E' S' B',Le E E'->S'.flatten=B'->R v E' B'->An E' H S'->J.ok Q (G (K.finish v) cs) (Ak E' H S'))->JL J Q (base f) fn.ntmps (FY 0 vs) [] [.code c] (K::cs) (Ak E H [B])):AP J f vs E B R:=
 AP.enter O hb (Nat.le_of_ble_eq_true U) h
def Nu(n:Nat)(L:Env)(ops:Ao_)(i:Nat):Option Env:=
 match IX ops.toList i with
 | some ⟨d,op,ty,p,af,g⟩=>match AT L ops ⟨d,op,ty,p,af,g⟩ with
  | some true=>match Bh n d with
   | true=>match Kf L op with
    | some v=>match d with
     | some d=>some ((d,v)::L)
     | none=>some L
    | none=>none
   | false=>none
  | some false=>match Bh n d with
   | true=>match d with
    | some d=>some ((d,undef)::L)
    | none=>some L
   | false=>none
  | none=>none
 | none=>none
def GD(n:Nat)(L:Env)(ops:Ao_)(i:Nat):Option Oper:=
 match IX ops.toList i with
 | some ⟨d,op,ty,p,af,g⟩=>match AT L ops ⟨d,op,ty,p,af,g⟩ with
  | some true=>match Bh n d with
   | true=>some ⟨d,op,ty,p,af,g⟩
   | false=>none
  | _=>none
 | none=>none
theorem N7{o:Oper}(h:GD n L ops i=some o):ops[i]? =some o/\AT L ops o=some true/\Bh n o.dst=true:=by
 unfold GD at h;split at h
 ·rename_i K;rw [KC,Array.getElem?_toList] at K;split at h
  ·rename_i hw;split at h
   ·rename_i O;cases h;exact⟨K,hw,O⟩
   ·cases h
  ·cases h
 ·cases h
theorem VU(h:Nu n L ops i=some L'):∃o,ops[i]? =some o/\Bh n o.dst=true/\((∃v,AT L ops o=some true/\Kf L o.op=some v/\L'=Ax L o.dst v)∨(AT L ops o=some false/\L'=Ax L o.dst undef)):=by
 unfold Nu at h;split at h
 ·rename_i d op ty p af g O;rw [KC,Array.getElem?_toList] at O;refine⟨_,O,?_⟩;split at h
  ·rename_i hw;split at h
   ·rename_i K;refine⟨K,.inl ?_⟩;split at h
    ·rename_i v U;refine⟨v,hw,U,?_⟩;cases d with
     | none=>cases h;rfl
     | some d=>cases h;rfl
    ·cases h
   ·cases h
  ·rename_i hw;split at h
   ·rename_i K;refine⟨K,.inr ⟨hw,?_⟩⟩;cases d with
    | none=>cases h;rfl
    | some d=>cases h;rfl
   ·cases h
  ·cases h
 ·cases h
variable {m:Nat}{D:Nat->Bool}{fuel:Nat}{listed:Array Bool}
theorem Bc(i:Nat)(K:DU ops m=true)(O:s.q=false)(h:Nu n L ops i=some L')
  (U:AL J Q b n ds ops k cs m D fuel (Ba listed i) L' s) (V:F2 ops listed m i=true:=by decide+kernel):AL J Q b n ds ops k cs m D (fuel+1) listed L s:=by
 obtain⟨o,Y,Z,⟨v,hw,aa,rfl⟩ | ⟨hw,rfl⟩⟩:=VU h
 ·exact JG.val i Y K V O hw Z (λρ ab s' _=>My ab aa) U
 ·exact YB i Y K V O hw Z U
theorem AH(i:Nat)(K:DU ops m=true)(O:s.q=false)(U:GD n L ops i=some ⟨d,op,ty,p,af,g⟩)
  (V:∀ρ,EP L ρ->∀s':St,(∀x o,(Bx D s).E x=some o->s'.E x=some o)->Yl P ⟨d,op,ty,p,af,g⟩ ρ s' v)
  (Y:AL J Q b n ds ops k cs m D fuel (Ba listed i) (Ax L d v) s) (Z:F2 ops listed m i=true:=by decide+kernel):AL J Q b n ds ops k cs m D (fuel+1) listed L s:=by
 obtain⟨aa,ab,ac⟩:=N7 U;exact JG.val i aa K Z O ab ac V Y
end
end Pal
namespace Pal
open Go Go.Conc
abbrev Jn(E H E':LH)(S:List Seg)(K L:Env)(s:St)(R:Prop):Prop:=L=K/\s=Ak E' H S/\Le E E'/\An E' H S/\R
abbrev Jm(E H E':LH)(S:List Seg)(K L:Env)(s:St):Prop:=L=K/\s=Ak E' H S/\Le E E'/\An E' H S
def Np(L:Env):List ResultVar->Option (Lv_)
 | []=>some []
 | .tmp t::rs=>match look L t with
  | some v=>match Np L rs with
   | some vs=>some (v::vs)
   | none=>none
  | none=>none
 | _=>none
theorem RQ{P:Program}{L:Env}{s:St}:∀{rs:List ResultVar} {vs:Lv_},Np L rs=some vs->RV P L s rs vs
 | [],vs,h=>by cases h;trivial
 | .tmp t::rs,vs,h=>by
  unfold Np at h
  split at h
  ·rename_i v K
   split at h
   ·rename_i ws hw;cases h;exact⟨K,RQ hw⟩
   ·cases h
  ·cases h
 | .cell _ _::_,_,h=>by cases h
section
variable {P:Program}{J:Judge P}{Q:Gs_}{b:Frame}{n:Nat}{L L':Env}{ds:Ld_}{k k':Li_}{cs:Lf_}{s:St}{ops:Ao_}{i:Nat}{rest:List Nat}{v:Value}{E H:LH}{S:List Seg}
variable {d:Option Tmp}{op:Op}{x y:Operand}{t ft ty e:TypeId}{p:String}{af:Ae_}{g:On_}
theorem A6{c:Frame}{fn:Func}{vs:Lv_}(O:P.funcs[b.fn]? =some fn)(K:(b.kind== .normal&&b.roundOf.isNone)=true)(U:Np L fn.results.toList=some vs)(h:J.ok Q (G (c.finish (MB vs)) cs) s):JL J Q b n L [] (.code .ret::k) (c::cs) s:=by
 simp only [Bool.and_eq_true,beq_iff_eq,Option.isNone_iff_eq_none] at K;exact JL.ret K.1 K.2 (Bd.list O rfl (RQ U)) h
theorem Ck{f:FuncId}{args:Array Operand}{ats:Array TypeId}{vs:Lv_}{R:Value->LH->Seg->Prop}
  (O:AP J f vs E [] R) (U:Fq b n L ops i=some ⟨d,.call ⟨.value (.func f),args,ats⟩,ty,p,af,g⟩) (V:evs L args.toList=some vs) (hb:DI P f=true)
  (Y:An E H S) (Z:∀v E' seg',Le E E'->R v E' seg'->An E' H (S++ [seg'])->JL J Q b n (Ax L d v) ds (.inRegion ops rest::k) cs (Ak E' H (S++ [seg']))):
  JL J Q b n L ds (.inRegion ops (i::rest)::k) cs (Ak E H S):=by
 obtain⟨aa,ab,K⟩:=J0 U;refine JS.call O aa ab ?_ hb V Y Z;simp only [BK,Bool.and_eq_true] at K ⊢;exact⟨K.1,K.2.1⟩
theorem Cd{f:FuncId}{args:Array Operand}{ats:Array TypeId}{vs:Lv_}{v:Value}
  (O:AP J f vs E [] (λw E' B'=>w=v/\B'= [])) (U:Fq b n L ops i=some ⟨d,.call ⟨.value (.func f),args,ats⟩,ty,p,af,g⟩) (V:evs L args.toList=some vs) (hb:DI P f=true)
  (K:An E H S) (Y:∀E',Le E E'->An E' H (S++ [[]])->JL J Q b n (Ax L d v) ds (.inRegion ops rest::k) cs (Ak E' H (S++ [[]]))):
  JL J Q b n L ds (.inRegion ops (i::rest)::k) cs (Ak E H S):=Ck O U V hb K (by rintro _ E' _ hle ⟨rfl,rfl⟩ K;exact Y E' hle K)
theorem BV{f:FuncId}{args:Array Operand}{ats:Array TypeId}{vs:Lv_}{seg:Seg}{R:Value->LH->Seg->Prop}(j:Nat)
  (O:AP J f vs E seg R) (U:Fq b n L ops i=some ⟨d,.call ⟨.value (.func f),args,ats⟩,ty,p,af,g⟩) (V:evs L args.toList=some vs) (hb:DI P f=true)
  (Y:An E H S) (Z:S[j]? =some seg) (aa:∀v E' seg',Le E E'->R v E' seg'->An E' H (S.set j seg')->JL J Q b n (Ax L d v) ds (.inRegion ops rest::k) cs (Ak E' H (S.set j seg'))):
  JL J Q b n L ds (.inRegion ops (i::rest)::k) cs (Ak E H S):=by
 obtain⟨ab,ac,K⟩:=J0 U;refine Kv j O ab ac ?_ hb V Y Z aa;simp only [BK,Bool.and_eq_true] at K ⊢;exact⟨K.1,K.2.1⟩
def Ln(K:Array Field)(i:Nat):Option (Nat×TypeId):=match K[i]? with
 | some f=>some (f.offset,f.type)
 | none=>none
theorem Bs{r m m':Int}{u:TypeId}(h:Au (m+m')=some r)(K:Fq b n L ops i=some ⟨d,.binOp .add t x y u,ty,p,af,g⟩)(O:ev L x=some (iV m))(U:ev L y=some (iV m'))
  (V:JL J Q b n (Ax L d (iV r)) ds (.inRegion ops rest::k) cs s):JL J Q b n L ds (.inRegion ops (i::rest)::k) cs s:=Al K (λ_ q=>DF (q _ _ O) (q _ _ U) h) V
theorem BF{r m m':Int}{u:TypeId}(h:Au (m - m')=some r)(K:Fq b n L ops i=some ⟨d,.binOp .sub t x y u,ty,p,af,g⟩)(O:ev L x=some (iV m))(U:ev L y=some (iV m'))
  (V:JL J Q b n (Ax L d (iV r)) ds (.inRegion ops rest::k) cs s):JL J Q b n L ds (.inRegion ops (i::rest)::k) cs s:=Al K (λ_ q=>DG (q _ _ O) (q _ _ U) h) V
theorem JL.ln{a:Option Addr}{e:TypeId}{l c:Nat}{ats:Array TypeId}(K:P.underlying t=some (.slice e))(O:Fq b n L ops i=some ⟨d,.call ⟨.builtin .len,#[x],ats⟩,ty,p,af,g⟩)(U:ats[0]? =some t)(V:ev L x=some (.slice a l c))
  (Y:JL J Q b n (Ax L d (.int .i64 l)) ds (.inRegion ops rest::k) cs s):JL J Q b n L ds (.inRegion ops (i::rest)::k) cs s:=Al O (λ_ q=>Yl.len U K (q _ _ V)) Y
theorem JL.fd{bk o O off:Nat}{U:Array Field}{V:Nat}(Y:P.underlying t=some (.struct U))(Z:Bm P ft=some (O+1))(aa:Fq b n L ops i=some ⟨d,.fieldAddr t x V,ty,p,af,g⟩)(ab:ev L x=some (.pointer (some ⟨bk,o,none⟩)))(K:Ln U V=some (off,ft))
  (ac:JL J Q b n (Ax L d (.pointer (some ⟨bk,o+off,none⟩))) ds (.inRegion ops rest::k) cs s):
  JL J Q b n L ds (.inRegion ops (i::rest)::k) cs s:=by
 unfold Ln at K;split at K
 ·rename_i f ae;cases K;refine Al aa (λρ h=>BE (a:=⟨bk,o,none⟩) O f.offset Y Z ae rfl rfl (h _ _ ab)) ?_;rw [DR rfl];exact ac
 ·cases K
theorem EL{bk o:Nat}{ws:Lv_}(j:Nat)(K:At E bk o ws)(O:Dm P t=some false)(U:Fq b n L ops i=some ⟨d,.load t x,ty,p,af,g⟩)(V:ev L x=some (.pointer (some ⟨bk,o+j,none⟩)))(Y:ws[j]? =some v)
  (Z:JL J Q b n (Ax L d v) ds (.inRegion ops rest::k) cs (Ak E H S)):
  JL J Q b n L ds (.inRegion ops (i::rest)::k) cs (Ak E H S):=
 Al U (λ_ h=>Yl.load O (h _ _ V) (At.Dd K Y)) Z
theorem Yp{bk off:Nat}{c:Av_}(j:Nat)(K:An E H S)(O:Bm P t=some v.cells.size)(U:Fq b n L ops i=some ⟨d,.store t x y,ty,p,af,g⟩)
  (V:ev L x=some (.pointer (some ⟨bk,off,none⟩))) (Y:ev L y=some v) (Z:S[j]? =some [(bk,.cells c e (0,0))])
  (h:An E H (S.set j [(bk,.cells (Bb c off v.cells.toList) e (0,0))])->JL J Q b n (Ax L d undef) ds (.inRegion ops rest::k) cs (Ak E H (S.set j [(bk,.cells (Bb c off v.cells.toList) e (0,0))])))
  (hle:off+v.cells.size<=c.size:=by exact Nat.le_of_ble_eq_true rfl) (aa:∀u∈v.cells.toList,BT u=true:=by simp [Value.cells,BT]):
  JL J Q b n L ds (.inRegion ops (i::rest)::k) cs (Ak E H S):=by
 obtain⟨ab,ac,ae⟩:=J0 U;exact JS.store j ab ac ae K V Y O aa Z hle h
theorem Cw{bk o:Nat}{ws:Lv_}(K:At E bk o ws)(O:Dm P t=some true)(U:Bm P t=some ws.length)(V:Fq b n L ops i=some ⟨d,.load t x,ty,p,af,g⟩)(Y:ev L x=some (.pointer (some ⟨bk,o,none⟩)))
  (Z:JL J Q b n (Ax L d (.agg ws.toArray)) ds (.inRegion ops rest::k) cs (Ak E H S)):
  JL J Q b n L ds (.inRegion ops (i::rest)::k) cs (Ak E H S):=
 Al V (λ_ h=>Dk O U (h _ _ Y) (At.Is K)) Z
variable {m:Nat}{D:Nat->Bool}{fuel:Nat}{listed:Array Bool}
theorem JG.fd{bk o O off:Nat}{U:Array Field}{V:Nat}(i:Nat)(Y:DU ops m=true)(Z:P.underlying t=some (.struct U))(aa:Bm P ft=some (O+1))(ab:s.q=false)(ac:GD n L ops i=some ⟨d,.fieldAddr t x V,ty,p,af,g⟩)(ae:ev L x=some (.pointer (some ⟨bk,o,none⟩)))(K:Ln U V=some (off,ft))
  (ag:AL J Q b n ds ops k cs m D fuel (Ba listed i) (Ax L d (.pointer (some ⟨bk,o+off,none⟩))) s) (ah:F2 ops listed m i=true:=by decide+kernel):AL J Q b n ds ops k cs m D (fuel+1) listed L s:=by
 unfold Ln at K;split at K
 ·rename_i f ai;cases K;refine AH i Y ab ac (λρ h _ _=>BE (a:=⟨bk,o,none⟩) O f.offset Z aa ai rfl rfl (h _ _ ae)) ?_ ah;rw [DR rfl];exact ag
 ·cases K
theorem EK{bk o:Nat}{ws:Lv_}(i:Nat)(K:DU ops m=true)(j:Nat)(O:At (Bx D s).E bk o ws)(U:Dm P t=some false)(V:s.q=false)(Y:GD n L ops i=some ⟨d,.load t x,ty,p,af,g⟩)(Z:ev L x=some (.pointer (some ⟨bk,o+j,none⟩)))(aa:ws[j]? =some v)
  (ab:AL J Q b n ds ops k cs m D fuel (Ba listed i) (Ax L d v) s) (ac:F2 ops listed m i=true:=by decide+kernel):AL J Q b n ds ops k cs m D (fuel+1) listed L s:=
 AH i K V Y (λ_ h _ ae=>Yl.load U (h _ _ Z) (At.HU O ae aa)) ab ac
theorem DJ{bk o:Nat}{ws:Lv_}(i:Nat)(K:DU ops m=true)(O:At (Bx D s).E bk o ws)(U:Dm P t=some true)(V:Bm P t=some ws.length)(Y:s.q=false)(Z:GD n L ops i=some ⟨d,.load t x,ty,p,af,g⟩)(aa:ev L x=some (.pointer (some ⟨bk,o,none⟩)))
  (ab:AL J Q b n ds ops k cs m D fuel (Ba listed i) (Ax L d (.agg ws.toArray)) s) (ac:F2 ops listed m i=true:=by decide+kernel):AL J Q b n ds ops k cs m D (fuel+1) listed L s:=
 AH i K Y Z (λ_ h _ ae=>Dk U V (h _ _ aa) (At.KL O ae)) ab ac
end
end Pal
namespace Pal
open Go Go.Conc
abbrev Ch:=List (Int×Int)
abbrev Cg:=List Int×Int×Nat
abbrev Aw:=Option Addr
abbrev Fc:Rp (Int×Int):=rP rI rI
theorem ip{α:Type}{p:Prop} [Decidable p] {A B:Option α}{r:α}(h:(if p then A else B)=some r)(c:p):A=some r:=by rwa [if_pos c] at h
theorem im{α:Type}{p:Prop} [Decidable p] {A B:Option α}{r:α}(h:(if p then A else B)=some r)(c:¬p):B=some r:=by rwa [if_neg c] at h
theorem ib{α:Type}{c:Bool}{A B:Option α}{r:α}(h:(if c=true then A else B)=some r)(K:c=false):B=some r:=by subst K;simpa using h
def PC(n:Nat)(ops:Ao_):List Nat->Nat->Env->Option (Nat×Env)
 | [],f,L=>some (f,L)
 | i::l,f+1,L=>match Nu n L ops i with
  | some L'=>PC n ops l f L'
  | none=>none
 | _::_,0,_=>none
def Pa(ops:Ao_)(m:Nat):Array Bool->List Nat->Bool
 | _,[]=>true
 | listed,i::l=>F2 ops listed m i&&Pa ops m (Ba listed i) l
def S9:Array Bool->List Nat->Array Bool
 | listed,[]=>listed
 | listed,i::l=>S9 (Ba listed i) l
theorem AZ{P:Program}{J:Judge P}{Q:Gs_}{b:Frame}{n:Nat}{ds:Ld_}{k:Li_}{cs:Lf_}{s:St}{ops:Ao_}{m:Nat}{D:Nat->Bool}{L':Env}{U:Nat}(V:DU ops m=true)(Y:s.q=false):
  ∀(l:List Nat) {fuel:Nat} {listed:Array Bool} {L:Env},PC n ops l fuel L=some (U,L')->AL J Q b n ds ops k cs m D U (S9 listed l) L' s->(K:Pa ops m listed l=true:=by decide+kernel)->AL J Q b n ds ops k cs m D fuel listed L s
 | [],fuel,listed,L,h,O,_=>by cases h;exact O
 | i::l,fuel,listed,L,h,O,K=>by
  cases fuel with
  | zero=>cases h
  | succ fuel=>
   unfold Pa at K;rw [Bool.and_eq_true] at K;unfold PC at h;split at h
   ·rename_i Z e;exact Bc i V Y e (AZ V Y l h O K.2) K.1
   ·cases h
theorem zg{P:Program}{J:Judge P}{Q:Gs_}{b:Frame}{n:Nat}{L L':Env}{ds:Ld_}{k k':Li_}{cs:Lf_}{s:St}(m:Nat)(h:MJ b n m k L=some (k',L'))(K:JL J Q b n L' ds k' cs s):JL J Q b n L ds k cs s:=JL.go m h K
abbrev bX(r:Nat)(c:Av_)(t:TypeId):Seg:= [(r,.cells c t (0,0))]
end Pal
namespace Pal
open Go Go.Conc
section
variable {P:Program}{J:Judge P}{Q:Gs_}{b:Frame}{n:Nat}{L L':Env}{ds:Ld_}{k:Li_}{cs:Lf_}{s:St}{ops:Ao_}{E H:LH}{S:List Seg}
variable {α:Type}{A B:Option α}{r:α}
theorem A4{c:Operand}{x y:Code}{p:Prop} [Decidable p] (K:(if p then A else B)=some r)(O:p->A=some r->JL J Q b n L ds (.code x::k) cs s)(U:¬p->B=some r->JL J Q b n L ds (.code y::k) cs s)
  (V:ev L c=some (.bool (decide p)):=by exact rfl):JL J Q b n L ds (.code (.cond c x y)::k) cs s:=C4 V (λh=>O h (ip K h)) λh=>U h (im K h)
theorem B6{c:Operand}{x y:Code}{t:Bool}(K:(if t=true then A else B)=some r)(O:t=true->A=some r->JL J Q b n L ds (.code x::k) cs s)(U:t=false->B=some r->JL J Q b n L ds (.code y::k) cs s)
  (V:ev L c=some (.bool t):=by exact rfl):JL J Q b n L ds (.code (.cond c x y)::k) cs s:=IL V (λh=>O h (ip K h)) λh=>U h (ib K h)
theorem IV{q:Prop} [Decidable q] (i:Nat)(K:(if q then A else B)=some r)(O:q->A=some r->JL J Q b n (Ax L (some i) (.bool true)) ds k cs s)(U:¬q->B=some r->JL J Q b n (Ax L (some i) (.bool false)) ds k cs s)
  (V:look L i=some (.bool (decide q)):=by exact rfl):JL J Q b n L ds k cs s:=JY V (λh=>O h (ip K h)) λh=>U h (im K h)
theorem ER{t:Bool}(i:Nat)(K:(if t=true then A else B)=some r)(O:t=true->A=some r->JL J Q b n (Ax L (some i) (.bool true)) ds k cs s)(U:t=false->B=some r->JL J Q b n (Ax L (some i) (.bool false)) ds k cs s)
  (V:look L i=some (.bool t):=by exact rfl):JL J Q b n L ds k cs s:=I9 V (λh=>O h (ip K h)) λh=>U h (ib K h)
theorem De{K O:Type}{c:Code}{body:K->Option (Bn K O)}{f:Nat}{U:K}{a:O}(Y:iter body f U=some a)(I:Env->St->K->Prop)(Z:I L' s U)
  (round:∀L s x,I L s x->(∀V,body x=some (.done V)->V=a)->(∃st,body x=some st)->(∀L' s' x',I L' s' x'->body x=some (.more x')->JL J Q b n L' ds (.inLoop c::k) cs s')->JL J Q b n L ds (.code c:: .inLoop c::k) cs s)
  (aa:HR L L'=HY L':=by exact rfl):JL J Q b n L ds (.code (.loop c)::k) cs s:=El L' aa (Hi Y I Z round)
variable {m:Nat}{D:Nat->Bool}{fuel:Nat}{listed:Array Bool}
def Nf(ops:Ao_):Array Bool->List Nat->Bool
 | _,[]=>true
 | l,i::t=>Region.ready .any ops l== [i]&&Nf ops (Ba l i) t
theorem RD:∀{t:List Nat} {l:Array Bool},Nf ops l t=true->∀u,Region.linearise.go .any ops t.length u l []=t
 | [],_,_,_=>rfl
 | i::t,l,h,u=>by
  unfold Nf at h
  rw [Bool.and_eq_true,beq_iff_eq] at h
  exact Gy h.1 (RD h.2) u
theorem Cv(t:List Nat)(O:JL J Q b n L ds (.inRegion ops t::k) cs s)(K:(Pe m listed&&Nf ops listed t&&(fuel+1==t.length))=true:=by decide+kernel):AL J Q b n ds ops k cs m D (fuel+1) listed L s:=by
 rw [Bool.and_eq_true,Bool.and_eq_true,beq_iff_eq] at K;exact AL.leaf K.1.1 (by rw [K.2];exact RD K.1.2) O
theorem Et(m:Nat){id:Nat}(h:DU ops m=true->AL J Q b n ds ops k cs m CL ops.size (Array.replicate ops.size false) L (Ak E H S))(hm:P.follows .mixedOrders=true:=by exact rfl)(K:(b.kind != .early)=true:=by exact rfl)(O:DU ops m=true:=by decide+kernel):
  JL J Q b n L ds (.code (.region id ops true)::k) cs (Ak E H S):=IN m hm K O h
theorem EC(m:Nat)(bks:List Nat){id:Nat}(K:Hs S bks)(O:An E H S)(h:DU ops m=true->AL J Q b n ds ops k cs m (AY bks) ops.size (Array.replicate ops.size false) L (Ak E H S))(hm:P.follows .mixedOrders=true:=by exact rfl)(U:(b.kind != .early)=true:=by exact rfl)(V:DU ops m=true:=by decide+kernel):
  JL J Q b n L ds (.code (.region id ops true)::k) cs (Ak E H S):=Vf m bks K O hm U V h
theorem DV{α:Type}{pp:Rp α}{a:Option Addr}{c:Nat}{xs:List α}{xv:α}{K:Int}{d:Option Tmp}{x y:Operand}{t ty e:TypeId}{p:String}{af:Ae_}{g:On_}{kd:IntKind}(i:Nat)(O:Am pp E a c xs)(U:ix xs K=some xv)(V:DU ops m=true)(Y:P.underlying t=some (.slice e))(Z:Bm P e=some pp.n)
  (h:∀bk o ws,pp.r E ws xv->At E bk o ws->AL J Q b n ds ops k cs m D fuel (Ba listed i) (Ax L d (.pointer (some ⟨bk,o,none⟩))) s)
  (aa:ops[i]? =some ⟨d,.indexAddr t x y,ty,p,af,g⟩:=by exact rfl) (ab:F2 ops listed m i=true:=by decide+kernel) (ac:s.q=false:=by exact rfl)
  (hw:AT L ops ⟨d,.indexAddr t x y,ty,p,af,g⟩=some true:=by exact rfl) (ae:Bh n d=true:=by exact rfl)
  (ag:ev L x=some (.slice a xs.length c):=by exact rfl) (ah:ev L y=some (.int kd K):=by exact rfl):
  AL J Q b n ds ops k cs m D (fuel+1) listed L s:=MT i O U aa V ab ac hw ae ag ah Y Z h
end
end Pal
namespace Pal
open Go Go.Conc
theorem Er{P:Program}{J:Judge P}{Q:Gs_}{b:Frame}{n:Nat}{ds:Ld_}{ops:Ao_}{k:Li_}{cs:Lf_}{m fuel:Nat}{D:Nat->Bool}{listed:Array Bool}{L L':Env}{s:St}(k':AL J Q b n ds ops k cs m D fuel listed L' s)(h:HR L L'=HY L'):AL J Q b n ds ops k cs m D fuel listed L s:=B2 (MG h) k'
instance {α:Type} [DecidableEq α] (xs:List α):Decidable (xs= []):=inferInstance
section
variable {P:Program}{J:Judge P}{Q:Gs_}{b:Frame}{n:Nat}{L L':Env}{ds:Ld_}{k:Li_}{cs:Lf_}{s:St}{ops:Ao_}{E H:LH}{S:List Seg}{i:Nat}{rest:List Nat}
variable {d:Option Tmp}{x y:Operand}{t u ty e:TypeId}{p:String}{af:Ae_}{g:On_}{v w:Value}
end
section
variable {P:Program}{J:Judge P}{Q:Gs_}{b:Frame}{n:Nat}{ds:Ld_}{ops:Ao_}{k:Li_}{cs:Lf_}{m fuel:Nat}{listed:Array Bool}{L:Env}{E H:LH}{S:List Seg}
variable {d:Option Tmp}{x y:Operand}{t ty e:TypeId}{p:String}{af:Ae_}{g:On_}{v:Value}{i:Nat}
theorem Take.KP{bk off:Nat}{c:Av_}(j:Nat)(V:An E H S)(Y:ops[i]? =some ⟨d,.store t x y,ty,p,af,g⟩)(hw:AT L ops ⟨d,.store t x y,ty,p,af,g⟩=some true)(Z:Bh n d=true)
  (aa:ev L x=some (.pointer (some ⟨bk,off,none⟩))) (ab:ev L y=some v) (ac:Bm P t=some v.cells.size) (ae:∀u∈v.cells.toList,BT u=true) (K:S[j]? =some [(bk,.cells c e (0,0))]) (hle:off+v.cells.size<=c.size)
  (h:An E H (S.set j [(bk,.cells (Bb c off v.cells.toList) e (0,0))])->AL J Q b n ds ops k cs m CL fuel (Ba listed i) (Ax L d undef) (Ak E H (S.set j [(bk,.cells (Bb c off v.cells.toList) e (0,0))]))):
  Take J Q b n ds ops k cs m CL fuel listed L (Ak E H S) i:=
 Take.Jy Y (by simp [DK,Z]) hw λρ O=>by
  obtain⟨ag,ah⟩:=Gx V K
  rw [ag]
  show lp P (do Instr.storeAt t (ρ x) (ρ y);pure Next.skip) _ _ _
  rw [O x _ aa,O y v ab]
  refine Av _ _ ?_
  unfold Instr.storeAt
  simp only [Instr.sureAddr,bind,Sem.bind,pure]
  refine NW (pl:=(S.set j []).flatten.length) ac ae ah (c:=c) (e:=e) (by simp) hle λU=>?_
  have ai:((S.set j []).flatten++ [(bk,Obj.cells c e (0,0))]).set (S.set j []).flatten.length (bk,.cells (Bb c off v.cells.toList) e (0,0))=(S.set j []).flatten++ [(bk,.cells (Bb c off v.cells.toList) e (0,0))]:=Im _ _ _ _
  rw [ai] at U ⊢
  obtain⟨aj,ak⟩:=Io K U
  rw [aj]
  exact h ak
theorem Take.Lw{α:Type}{pp:Rp α}(O:An E H S)(U:ops[i]? =some ⟨d,.buildSlice t 0 #[],ty,p,af,g⟩)(hw:AT L ops ⟨d,.buildSlice t 0 #[],ty,p,af,g⟩=some true)(V:Bh n d=true)
  (Y:P.underlying t=some (.slice e)) (Z:Bm P e=some pp.n)
  (h:∀r seg,OL e pp E (some ⟨r,0,none⟩) 0 seg ([]:List α)->An E H (S++ [seg])->AL J Q b n ds ops k cs m CL fuel (Ba listed i) (Ax L d (.slice (some ⟨r,0,none⟩) 0 0)) (Ak E H (S++ [seg]))):
  Take J Q b n ds ops k cs m CL fuel listed L (Ak E H S) i:=
 Take.Jy U (by simp [DK,V]) hw λρ ab=>by
  rw [Oh]
  refine Av _ _ ?_
  unfold Instr.buildSlice
  refine Av _ _ (Cp Y ?_)
  refine Av _ _ (Ex Z ?_)
  rw [if_neg (by omega),if_pos (by omega)]
  refine Av (x:=pure #[]) _ ?_
  simp only [lp,pure,List.map_toArray,List.map_nil,Instr.fill]
  refine Av _ _ (Ih O λr K=>?_)
  rw [(EX K).1]
  exact h r _ ⟨[],.inr ⟨r,_,rfl,rfl,by simp,Nat.le_refl _,by simp⟩,rfl,λi x ws aa=>by simp at aa⟩ (EX K).2
theorem Take.Jh{α:Type}{pp:Rp α}{t1:TypeId}{U c cx:Nat}{a ax:Option Addr}{seg:Seg}{xs ys V:List α}{ats:Array TypeId}{z:Value}(j:Nat)(Z:An E H S)(aa:Cr xs ys=some V)
  (ab:ops[i]? =some ⟨d,.call ⟨.builtin .append,#[x,y],ats⟩,ty,p,af,g⟩) (hw:AT L ops ⟨d,.call ⟨.builtin .append,#[x,y],ats⟩,ty,p,af,g⟩=some true) (ac:Bh n d=true)
  (ae:ev L x=some (.slice a xs.length c)) (ag:ev L y=some (.slice ax ys.length cx)) (ah:ats[0]? =some t) (ai:ats[1]? =some t1) (aj:P.underlying t=some (.slice e)) (ak:P.underlying t1=some (.slice e)) (al:Bm P e=some pp.n) (hb:Fp P e=some U) (am:zeroOf P e=some z) (an:z.cells.size=pp.n)
  (ao:0<U) (ap:U<=64) (aq:OL e pp E a c seg xs) (ar:Am pp E ax cx ys) (au:S[j]? =some seg)
  (h:∀K O g seg',OL e pp E K O seg' V->An E H (S.set j (g++seg'))->AL J Q b n ds ops k cs m CL fuel (Ba listed i) (Ax L d (.slice K V.length O)) (Ak E H (S.set j (g++seg')))):
  Take J Q b n ds ops k cs m CL fuel listed L (Ak E H S) i:=
 Take.Jy ab (by simp [DK,ac]) hw λρ Y=>R2 j aa (Y _ _ ae) (Y _ _ ag) ah ai aj ak al hb am an ao ap aq (by
  obtain⟨av,aw,ay,az,_⟩:=ar.KF (H:=H) (B:=S.flatten)
  exact⟨av,az,aw,ay⟩) Z au λK O aA seg' aB aC=>h K O aA seg' aB aC
theorem Lh{s:St}{D:Nat->Bool}{i j l:Nat}(K:s.q=false)(O:Region.ready .any ops listed= [i,j,l])(hi:Take J Q b n ds ops k cs m D fuel listed L s i)(U:Take J Q b n ds ops k cs m D fuel listed L s j)(V:Take J Q b n ds ops k cs m D fuel listed L s l):AL J Q b n ds ops k cs m D (fuel+1) listed L s:=
 N2 K O (by simp) (by intro q K;simp at K;rcases K with rfl | rfl | rfl <;> assumption)
end
theorem Am.cut{α:Type}{pp:Rp α}{E:LH}{a:Option Addr}{c:Nat}{xs ys:List α}{lo hi:Int}(V:Am pp E a c xs)(hC:H2 xs lo hi=some ys):
  ∃Y Z,Am pp E Y Z ys/\∀{P:Program} {ρ:Operand->Value} {s:St} {d:Option Tmp} {x:Operand} {t ty e:TypeId} {p:String} {af:Ae_} {g:On_} {olo ohi:Option Operand},P.underlying t=some (.slice e)->Bm P e=some pp.n->ρ x= .slice a xs.length c->
   (match ohi with | some w=>ρ w=iV hi | none=>hi=xs.length)->(match olo with | some w=>ρ w=iV lo | none=>lo=0)->Yl P ⟨d,.slice t x olo ohi none,ty,p,af,g⟩ ρ s (.slice Y ys.length Z):=by
 unfold H2 at hC;split at hC
 rotate_left
 ·cases hC
 rename_i hb;obtain⟨am,an,ae⟩:=hb;cases hC;obtain⟨lo,rfl⟩:∃l:Nat,lo=l:=⟨lo.toNat,by omega⟩;obtain⟨hi,rfl⟩:∃l:Nat,hi=l:=⟨hi.toNat,by omega⟩;simp only [Int.toNat_natCast] at*;have ao:=V.1;have hlen:((xs.take hi).drop lo).length=hi - lo:=by simp;omega
 have aa:∀ad:Addr,a=some ad->ad.spot=none∨c=0:=λad K=>by
  rcases V.2 with⟨_,h⟩ | ⟨bk,off,h,_⟩
  ·exact h ad K
  ·rw [h] at K;cases K;exact .inl rfl
 refine⟨if c=lo then a else a.map (·.add (lo*pp.n)),c - lo,⟨by rw [hlen];omega,?_⟩,?_⟩
 ·by_cases ag:hi - lo=0
  ·left;refine⟨List.eq_nil_of_length_eq_zero (by rw [hlen];exact ag),λad K=>?_⟩;split at K
   ·exact(aa ad K).imp id λh=>by omega
   ·cases a with
    | none=>cases K
    | some ah=>
     simp only [Option.map_some,Option.some.injEq] at K;subst K;exact .inl (by rw [DR ((aa ah rfl).resolve_right (by omega))])
  ·right;rcases V.2 with⟨h,_⟩ | ⟨bk,off,rfl,O⟩
   ·subst h;simp at ae;omega
   ·refine⟨bk,off+lo*pp.n,?_,λq z U=>?_⟩
    ·rw [if_neg (by omega),Option.map_some,DR rfl]
    ·rw [List.getElem?_drop,List.getElem?_take] at U;split at U
     ·obtain⟨ws,ai,ab⟩:=O _ z U;refine⟨ws,ai,?_⟩;rw [Nat.add_mul] at ab;rw [Nat.add_assoc];exact ab
     ·cases U
 ·intro P ρ s d x t ty e p af g olo ohi aj ak al O ac;rw [hlen];refine Yl.slice (mx:=c) (hi:=hi) (lo:=lo) aj ak al rfl ?_ ?_ (Nat.le_refl _) (by omega) (by omega)
  ·cases ohi with
   | none=>exact⟨by simp only at O;omega,rfl⟩
   | some w=>exact O
  ·cases olo with
   | none=>simp only at ac;show lo=0;omega
   | some w=>exact ac
end Pal
namespace Pal
open Go Go.Conc
section
variable {P:Program}{J:Judge P}{Q:Gs_}{b:Frame}{n:Nat}{ds:Ld_}{ops:Ao_}{k:Li_}{cs:Lf_}{m fuel:Nat}{D:Nat->Bool}{listed:Array Bool}{L:Env}{E H:LH}{S:List Seg}
theorem Hg{S1 S':List Seg}(K:S=S1)(O:S1.Perm S')(U:An E H S)(h:An E H S'->AL J Q b n ds ops k cs m D fuel listed L (Ak E H S')):AL J Q b n ds ops k cs m D fuel listed L (Ak E H S):=by
 subst K;exact AL.perm O.flatten U h
end
end Pal
namespace Pal
open Go Go.Conc
section
variable {P:Program}{J:Judge P}{Q:Gs_}{b:Frame}{n:Nat}{L L':Env}{ds:Ld_}{k:Li_}{cs:Lf_}{s:St}{ops:Ao_}{E H:LH}{S:List Seg}{i:Nat}{rest:List Nat}
variable {d:Option Tmp}{x y:Operand}{t u ty e e2:TypeId}{p:String}{af:Ae_}{g:On_}{v w:Value}
def Jo(E:LH):Nat->Bool:=λx=>(E x).isNone
theorem X8(x:Nat):(Bx (Jo E) (Ak E H S)).E x=(Ak E H S).get x:=by
 show(if Jo E x then(Ak E H S).get x else E x)=_
 unfold Jo;cases h:E x with
 | none=>simp
 | some o=>
  rw [if_neg (by simp)];unfold St.get;rw [show(Ak E H S).E x=some o from h]
theorem Py{s':St}(K:∀x o,(Bx (Jo E) (Ak E H S)).E x=some o->s'.E x=some o){x:Nat}{o:Obj}(h:(Ak E H S).get x=some o):s'.get x=some o:=by
 have:=K x o (by rw [X8];exact h);unfold St.get;rw [this]
theorem Lt{s':St}(K:∀x o,(Bx (Jo E) (Ak E H S)).E x=some o->s'.E x=some o){a:Addr}{v:Value}(h:(Ak E H S).cell? a=some v):s'.cell? a=some v:=by
 obtain⟨o,O,U⟩:=Option.bind_eq_some_iff.1 h;unfold St.cell?;rw [Py K O];exact U
theorem SN{s':St}(K:∀x o,(Bx (Jo E) (Ak E H S)).E x=some o->s'.E x=some o){a:Addr}{vs:Lv_}(h:∀(i:Nat) v,vs[i]? =some v->(Ak E H S).cell? (Addr.add a i)=some v):∀(i:Nat) v,vs[i]? =some v->s'.cell? (Addr.add a i)=some v:=λi v O=>Lt K (h i v O)
theorem Pp(m:Nat){id:Nat}(h:DU ops m=true->AL J Q b n ds ops k cs m (Jo E) ops.size (Array.replicate ops.size false) L (Ak E H S))(hm:P.follows .mixedOrders=true:=by exact rfl)(K:(b.kind != .early)=true:=by exact rfl)(O:DU ops m=true:=by decide+kernel):
  JL J Q b n L ds (.code (.region id ops true)::k) cs (Ak E H S):=Om m (Jo E) rfl hm K (h O)
abbrev rs(q:Nat×Obj)(K:Seg)(p:Nat×Obj)(g2:Seg):Seg:=q::(K++ [p]++g2)
end
end Pal
namespace Pal
open Go Go.Conc
section
variable {κ ν:Type} [DecidableEq κ]
def KN(xs:List (κ×ν)):Prop:=(xs.map (·.1)).Nodup
theorem KN.perm{xs ys:List (κ×ν)}(h:KN xs)(p:ys.Perm xs):KN ys:=((p.map (λq:κ×ν=>q.1)).nodup_iff).2 h
theorem QK{xs:List (κ×ν)}(h:KN xs){x:κ}{v:ν}:BA xs x=some v↔(x,v)∈xs:=by
 induction xs with
 | nil=>simp [BA]
 | cons y ys U=>
  have O:y.1 ∉ ys.map (·.1)/\KN ys:=by simpa [KN] using h
  by_cases e:x=y.1
  ·subst e;have K:BA (y::ys) y.1=some y.2:=by simp [BA]
   rw [K];constructor
   ·intro q;cases q;simp
   ·intro q;rcases List.mem_cons.1 q with q | q
    ·rw [← q]
    ·exact absurd (List.mem_map.2 ⟨_,q,rfl⟩) O.1
  ·have K:BA (y::ys) x=BA ys x:=by simp [BA,e]
   rw [K,U O.2];constructor
   ·intro q;exact List.mem_cons_of_mem _ q
   ·intro q;rcases List.mem_cons.1 q with q | q
    ·exact absurd (by rw [← q]) e
    ·exact q
theorem Qj{xs ys:List (κ×ν)}(h:KN xs)(p:ys.Perm xs)(x:κ):BA ys x=BA xs x:=by
 apply Option.ext;intro v;rw [QK h,QK (h.perm p),p.mem_iff]
def Ef(xs:List (κ×ν))(x:κ):List (κ×ν):=xs.filter λy=>decide (x≠y.1)
theorem Qq{xs:List (κ×ν)}{x:κ}(h:∀y∈xs,x≠y.1):Ef xs x=xs:=List.filter_eq_self.2 λy K=>by simpa using h y K
theorem Mi{x:κ}{v:ν}:∀{xs:List (κ×ν)},KN xs->(Dh xs x v).Perm ((x,v)::Ef xs x)
 | [],_=> .refl _
 | y::ys,h=>by
  have K:y.1 ∉ ys.map (·.1)/\KN ys:=by simpa [KN] using h
  unfold Dh;by_cases e:x=y.1
  ·rw [if_pos e];have e2:Ef (y::ys) x=ys:=by
    have:Ef (y::ys) x=Ef ys x:=by simp [Ef,e]
    rw [this];exact Qq λz O q=>K.1 (List.mem_map.2 ⟨z,O,by rw [← q,e]⟩)
   rw [e2]
  ·rw [if_neg e];have e2:Ef (y::ys) x=y::Ef ys x:=by simp [Ef,e]
   rw [e2];exact((Mi K.2).cons y).trans (List.Perm.swap _ _ _)
theorem Ob{xs ys:List (κ×ν)}(p:ys.Perm xs)(x:κ):(Ef ys x).Perm (Ef xs x):=p.filter _
theorem Uj{xs ys:List (κ×ν)}(h:KN xs)(p:ys.Perm xs)(x:κ)(v:ν):(Dh ys x v).Perm (Dh xs x v):=
 (Mi (h.perm p)).trans (((Ob p x).cons _).trans (Mi h).symm)
theorem KN.del{xs:List (κ×ν)}(h:KN xs)(x:κ):KN (Ef xs x):=by
 unfold KN Ef;exact List.Nodup.sublist (List.Sublist.map _ List.filter_sublist) h
theorem KN.put{xs:List (κ×ν)}(h:KN xs)(x:κ)(v:ν):KN (Dh xs x v):=by
 refine KN.perm ?_ (Mi h);unfold KN;simp only [List.map_cons,List.nodup_cons];refine⟨λq=>?_,h.del x⟩;obtain⟨z,K,e⟩:=List.mem_map.1 q;have:=(List.mem_filter.1 K).2;simp at this;exact this e.symm
variable {pk:Rp κ}{pv:Rp ν}{ka va:Bool}{E E' H:LH}
def BD(pk:Rp κ)(ka:Bool)(pv:Rp ν)(va:Bool)(E:LH)(o:Obj)(xs:List (κ×ν)):Prop:=KN xs/\∃ys,ys.Perm xs/\Kg pk ka pv va E o ys
theorem BD.Ag{o:Obj}{xs:List (κ×ν)}(h:BD pk ka pv va E o xs)(hle:Le E E'):BD pk ka pv va E' o xs:=
 let ⟨K,ys,O,U⟩:=h;⟨K,ys,O,U.Ag hle⟩
theorem BD.perm{o:Obj}{xs ys:List (κ×ν)}(h:BD pk ka pv va E o xs)(p:ys.Perm xs):BD pk ka pv va E o ys:=
 let ⟨K,O,U,V⟩:=h;⟨K.perm p,O,U.trans p.symm,V⟩
theorem BD.nil:BD pk ka pv va E (.map #[] 0) []:=⟨List.nodup_nil,[],.refl _,⟨#[],0,rfl,trivial,.nil,by simp⟩⟩
def rM(pk:Rp κ)(ka:Bool)(pv:Rp ν)(va:Bool):Rp (List (κ×ν)):=⟨1,λE ws xs=>∃bk o,ws= [.map (some bk)]/\E bk=some o/\BD pk ka pv va E o xs,
 λhle ⟨bk,o,h,K,O⟩=>⟨bk,o,h,hle _ _ K,O.Ag hle⟩,λ⟨bk,o,h,_,_⟩=>by subst h;rfl,λ⟨bk,o,h,_,_⟩ w hw=>by subst h;simp at hw;subst hw;rfl⟩
section
variable {P:Program}{s:St}{t tm te:TypeId}{X:Halt->St->Prop}{bk:Nat}{o:Obj}{xs:List (κ×ν)}{k w:Value}{x:κ}{v0:ν}
theorem Uh(K:Gk P t pk ka)(hm:P.underlying tm=some (.map t te)){z:Value}{z0:ν}(O:zeroOf P te=some z)(U:Vr pv va E z z0)(V:s.get bk=some o)(Y:BD pk ka pv va E o xs)(Z:Vr pk ka E k x)(ok:Bool){Q:Value->St->Prop}
  (h:∀w,Vr pv va E w ((BA xs x).getD z0)->Q (if ok then .tuple #[w,.bool (BA xs x).isSome] else w) s):lp P (Instr.lookup tm (.map (some bk)) k ok) s Q X:=by
 obtain⟨aa,ys,ab,ac⟩:=Y;refine U7 K hm O U V ac Z ok ?_;rw [Qj aa ab];exact h
theorem TB(O:Gk P t pk ka)(hm:P.underlying tm=some (.map t te))(U:s.get bk=some o)(V:s.H bk=some o)(Y:BD pk ka pv va E o xs)(Z:Vr pk ka E k x)(hw:Vr pv va E w v0){Q:Unit->St->Prop}
  (h:∀o',BD pk ka pv va E o' (Dh xs x v0)->Q () (s.upd bk o')):lp P (Instr.mapUpdate tm (.map (some bk)) k w) s Q X:=by
 obtain⟨K,ys,aa,ab⟩:=Y;exact TJ O hm U V ab Z hw λo' ac=>h o' ⟨K.put _ _,_,Uj K aa _ _,ac⟩
theorem DL.erase(V:Vr pk ka E k x):∀{es:List MapEntry} {ys:List (κ×ν)} {i:Nat},DL pk ka pv va E es ys->KN ys->
  (F3 x es ys i=none/\Ef ys x=ys)∨∃j u,F3 x es ys i=some (i+j,u)/\DL pk ka pv va E (es.eraseIdx j) (Ef ys x)
 | [],[],i,_,_=> .inl ⟨rfl,rfl⟩
 | e::es,y::ys,i,h,Y=>by
  have U:y.1 ∉ ys.map (·.1)/\KN ys:=by simpa [KN] using Y
  unfold F3;by_cases K:x=y.1
  ·refine .inr ⟨0,e.val,by rw [if_pos K];rfl,?_⟩;have e2:Ef (y::ys) x=ys:=by
    have:Ef (y::ys) x=Ef ys x:=by simp [Ef,K]
    rw [this];exact Qq λz Z q=>U.1 (List.mem_map.2 ⟨z,Z,by rw [← q,K]⟩)
   rw [e2];exact h.2.2
  ·have e2:Ef (y::ys) x=y::Ef ys x:=by simp [Ef,K]
   rcases DL.erase V (i:=i+1) h.2.2 U.2 with⟨a1,O⟩ | ⟨j,u,a1,O⟩
   ·exact .inl ⟨by rw [if_neg K];exact a1,by rw [e2,O]⟩
   ·refine .inr ⟨j+1,u,by rw [if_neg K,a1];congr 2;omega,?_⟩;rw [e2];exact⟨h.1,h.2.1,O⟩
 | [],_::_,_,h,_=>h.elim
 | _::_,[],_,h,_=>h.elim
theorem Uk(aa:Gk P t pk ka)(hm:P.underlying tm=some (.map t te))(ah:s.get bk=some o)(ab:s.H bk=some o)(ai:BD pk ka pv va E o xs)(K:Vr pk ka E k x){u:TypeId}{Q:Value->St->Prop}
  (h:∀o',BD pk ka pv va E o' (Ef xs x)->Q (.tuple #[]) (s.upd bk o')):lp P (Builtin.delete_ #[tm,t] u #[.map (some bk),k]) s Q X:=by
 obtain⟨O,ys,U,es,c,rfl,V,ac,ae⟩:=ai;unfold Builtin.delete_;simp only [List.getElem?_toArray,List.getElem?_cons_zero,List.getElem?_cons_succ];refine Av _ _ (Cp hm ?_)
 dsimp only;refine Av _ _ ?_;unfold getObj;simp only [bind,Sem.bind,lp];refine⟨_,ah,rfl,?_⟩;refine Av (x:=Instr.checkKey _ 10000 t k) _ (aa.BK K ?_);refine Av (x:=Instr.findKey t k es.toList) _ (N6 aa K V ?_);rcases DL.erase K (i:=0) V (O.perm U) with⟨Y,e2⟩ | ⟨j,u,Y,e2⟩
 ·rw [Y];simp only [setObj,lp,pure];refine⟨⟨_,ab,rfl⟩,rfl,h _ ⟨O.del _,_,Ob U x,es,c,rfl,by rw [e2];exact V,ac,ae⟩⟩
 ·rw [Y];simp only [setObj,lp,pure];have ag:(es.toList.eraseIdx j).Sublist es.toList:=List.eraseIdx_sublist _ _;have Z:(es.eraseIdxIfInBounds (0+j)).toList=es.toList.eraseIdx j:=by rw [Nat.zero_add];simp
  refine⟨⟨_,ab,rfl⟩,rfl,h _ ⟨O.del _,_,Ob U x,_,c,rfl,by rw [Z];exact e2,?_,?_⟩⟩
  ·rw [Z];exact ac.sublist (ag.map _)
  ·rw [Z];exact λe he=>ae e (ag.subset he)
end
section
variable {P:Program}{J:Judge P}{Q:Gs_}{b:Frame}{n:Nat}{ds:Ld_}{ops:Ao_}{kk:Li_}{cs:Lf_}{L:Env}{s:St}{S:List Seg}
variable {d:Option Tmp}{x y z:Operand}{t u ty e tm te:TypeId}{p:String}{af:Ae_}{g:On_}{i:Nat}{rest:List Nat}{bk:Nat}{o:Obj}{xs:List (κ×ν)}{k w:Value}{x0:κ}{v0:ν}{ρ:Operand->Value}
theorem Yl.lookup{K v:Value}{z0:ν}{ok:Bool}(O:Gk P t pk ka)(hm:P.underlying tm=some (.map t te))(U:zeroOf P te=some K)(V:Vr pv va E K z0)(Y:BD pk ka pv va E o xs)(Z:Vr pk ka E k x0)
  (aa:∀w,Vr pv va E w ((BA xs x0).getD z0)->(if ok then .tuple #[w,.bool (BA xs x0).isSome] else w)=v) (ab:ρ x= .map (some bk)) (ac:ρ y=k) (ae:s.get bk=some o):Yl P ⟨d,.lookup tm x y ok,ty,p,af,g⟩ ρ s v:=by
 refine FL (sm:=Instr.lookup tm (ρ x) (ρ y) ok) rfl ?_;rw [ab,ac];exact Uh O hm U V ae Y Z ok λw hw=>⟨aa w hw,rfl⟩
theorem JS.makeMap(K:ops[i]? =some ⟨d,.makeMap t none,ty,p,af,g⟩)(hw:AT L ops ⟨d,.makeMap t none,ty,p,af,g⟩=some true)(O:BK b n ⟨d,.makeMap t none,ty,p,af,g⟩=true)(U:An E H S)
  (h:∀r,An E H (S++ [[(r,.map #[] 0)]])->JL J Q b n (Ax L d (.map (some r))) ds (.inRegion ops rest::kk) cs (Ak E H (S++ [[(r,.map #[] 0)]]))):
  JL J Q b n L ds (.inRegion ops (i::rest)::kk) cs (Ak E H S):=
 JL.op K hw O λρ ae=>by
  show lp P (do pure (Next.value (← Instr.makeMap t none))) _ _ _
  refine Av _ _ ?_
  unfold Instr.makeMap
  simp only [newObj,bind,Sem.bind,pure,lp]
  refine⟨rfl,λr V Y=>?_⟩
  obtain⟨Z,aa⟩:=JZ V Y (.map #[] 0) U
  obtain⟨ab,p2⟩:=EX Z
  have ac:(Ak E H S).upd r (.map #[] 0)=Ak E H (S++ [[(r,.map #[] 0)]]):=by rw [← ab,← aa];rfl
  show JL J Q b n (Ax L d (.map (some r))) ds (.inRegion ops rest::kk) cs ((Ak E H S).upd r (.map #[] 0));rw [ac];exact h r p2
theorem JS.mapUpdate(j:Nat)(V:Gk P t pk ka)(hm:P.underlying tm=some (.map t te))(Y:BD pk ka pv va E o xs)(Z:Vr pk ka E k x0)(aa:Vr pv va E w v0)(K:An E H S)(O:S[j]? =some [(bk,o)])
  (ab:ops[i]? =some ⟨d,.mapUpdate tm x y z,ty,p,af,g⟩) (hw:AT L ops ⟨d,.mapUpdate tm x y z,ty,p,af,g⟩=some true) (ac:BK b n ⟨d,.mapUpdate tm x y z,ty,p,af,g⟩=true) (ae:ev L x=some (.map (some bk))) (ag:ev L y=some k) (ah:ev L z=some w)
  (h:∀o',BD pk ka pv va E o' (Dh xs x0 v0)->An E H (S.set j [(bk,o')])->JL J Q b n (Ax L d undef) ds (.inRegion ops rest::kk) cs (Ak E H (S.set j [(bk,o')]))):
  JL J Q b n L ds (.inRegion ops (i::rest)::kk) cs (Ak E H S):=
 JL.op ab hw ac λρ U=>by
  show lp P (do Instr.mapUpdate tm (ρ x) (ρ y) (ρ z);pure Next.skip) _ _ _
  rw [U _ _ ae,U _ _ ag,U _ _ ah]
  refine Av _ _ (TB V hm (DW (i:=0) K O rfl) (Jv K O) Y Z aa λo' ai=>?_)
  obtain⟨aj,ak⟩:=J2 K O o'
  rw [aj]
  exact h o' ai ak
theorem TL{at1:TypeId}(j:Nat)(V:Gk P t pk ka)(hm:P.underlying tm=some (.map t te))(Y:BD pk ka pv va E o xs)(Z:Vr pk ka E k x0)(K:An E H S)(O:S[j]? =some [(bk,o)])
  (aa:ops[i]? =some ⟨d,.call ⟨.builtin .delete,#[x,y],#[tm,t]⟩,ty,p,af,g⟩) (hw:AT L ops ⟨d,.call ⟨.builtin .delete,#[x,y],#[tm,t]⟩,ty,p,af,g⟩=some true) (ab:BK b n ⟨d,.call ⟨.builtin .delete,#[x,y],#[tm,t]⟩,ty,p,af,g⟩=true) (ac:ev L x=some (.map (some bk))) (ae:ev L y=some k)
  (h:∀o',BD pk ka pv va E o' (Ef xs x0)->An E H (S.set j [(bk,o')])->JL J Q b n (Ax L d (.tuple #[])) ds (.inRegion ops rest::kk) cs (Ak E H (S.set j [(bk,o')]))):
  JL J Q b n L ds (.inRegion ops (i::rest)::kk) cs (Ak E H S):=
 JL.op aa hw ab λρ U=>by
  have ag:execOp ρ ⟨d,.call ⟨.builtin .delete,#[x,y],#[tm,t]⟩,ty,p,af,g⟩=(do pure (Next.value (← Builtin.delete_ #[tm,t] ty #[ρ x,ρ y]))):=by
   simp [execOp,resolve,Deferred.ofValue,invoke,bind,Sem.bind,pure,Go.builtin]
  rw [ag,U _ _ ac,U _ _ ae];refine Av _ _ (Uk V hm (DW (i:=0) K O rfl) (Jv K O) Y Z λo' ah=>?_);obtain⟨ai,aj⟩:=J2 K O o';rw [ai];exact h o' ah aj
theorem N3{todo:Li_}(j:Nat)(O:An E H S)(U:S[j]? =some [(bk,o)])
  (h:∀E',Le E E'->E' bk=some o->An E' H (S.set j [])->JL J Q b n L ds todo cs (Ak E' H (S.set j []))):JL J Q b n L ds todo cs (Ak E H S):=by
 obtain⟨V,Y⟩:=Gx O U;rw [V];have Z:((S.set j []).flatten++ [(bk,o)])[(S.set j []).flatten.length]? =some (bk,o):=by simp
 refine JL.freeze (S.set j []).flatten.length Y Z λE' hle aa K=>?_;have ab:((S.set j []).flatten++ [(bk,o)]).eraseIdx (S.set j []).flatten.length=(S.set j []).flatten:=by rw [List.eraseIdx_append_of_length_le (Nat.le_refl _)];simp
 rw [ab] at K ⊢;exact h E' hle aa K
theorem Qv{α:Type}{m:Nat}{f:Nat->Sem α}{s:St}{Q:α->St->Prop}{X:Halt->St->Prop}(hm:0<m)(K:s.q=false)(h:∀i,i<m->lp P (f i) s Q X):lp P ((choose (.mapNext m)).bind f) s Q X:=by
 simp only [choose,Sem.bind,lp];split
 ·exact h 0 hm
 ·exact⟨K,λt=>h _ (Nat.mod_lt _ hm)⟩
theorem JS.range{es:Array MapEntry}{c:Nat}(hm:P.underlying tm=some (.map t te))(K:(Ak E H S).get bk=some (.map es c))(O:ops[i]? =some ⟨d,.range tm x,ty,p,af,g⟩)(hw:AT L ops ⟨d,.range tm x,ty,p,af,g⟩=some true)(U:BK b n ⟨d,.range tm x,ty,p,af,g⟩=true)(V:An E H S)
  (Y:ev L x=some (.map (some bk)))
  (h:∀r,An E H (S++ [[(r,.mapIter (some bk) c #[] c)]])->JL J Q b n (Ax L d (.pointer (some ⟨r,0,none⟩))) ds (.inRegion ops rest::kk) cs (Ak E H (S++ [[(r,.mapIter (some bk) c #[] c)]]))):
  JL J Q b n L ds (.inRegion ops (i::rest)::kk) cs (Ak E H S):=
 JL.op O hw U λρ Z=>by
  show lp P (do pure (Next.value (← Instr.range tm (ρ x)))) _ _ _
  rw [Z _ _ Y]
  refine Av _ _ ?_
  unfold Instr.range
  refine Av _ _ (Cp hm ?_)
  simp only [getObj,newObj,bind,Sem.bind,pure,lp]
  refine⟨_,K,rfl,rfl,λr aa ab=>?_⟩
  obtain⟨ac,ae⟩:=JZ aa ab (.mapIter (some bk) c #[] c) V
  obtain⟨ag,p2⟩:=EX ac
  have ah:(Ak E H S).upd r (.mapIter (some bk) c #[] c)=Ak E H (S++ [[(r,.mapIter (some bk) c #[] c)]]):=by rw [← ag,← ae];rfl
  show JL J Q b n (Ax L d (.pointer (some ⟨r,0,none⟩))) ds (.inRegion ops rest::kk) cs ((Ak E H S).upd r (.mapIter (some bk) c #[] c));rw [ah];exact h r p2
theorem JS.next{es:Array MapEntry}{c r:Nat}{seen:Array Nat}(j:Nat)(ac:(Ak E H S).get bk=some (.map es c))(hb:∀e∈es.toList,e.born<c)(K:An E H S)(O:S[j]? =some [(r,.mapIter (some bk) c seen c)])
  (ae:ops[i]? =some ⟨d,.next x false,ty,p,af,g⟩) (hw:AT L ops ⟨d,.next x false,ty,p,af,g⟩=some true) (ag:BK b n ⟨d,.next x false,ty,p,af,g⟩=true) (U:ev L x=some (.pointer (some ⟨r,0,none⟩)))
  (ah:∀e∈es.toList,e.born ∉ seen->An E H (S.set j [(r,.mapIter (some bk) c (seen.push e.born) c)])->JL J Q b n (Ax L d (.tuple #[.bool true,e.key,e.val])) ds (.inRegion ops rest::kk) cs (Ak E H (S.set j [(r,.mapIter (some bk) c (seen.push e.born) c)])))
  (ai:(∀e∈es.toList,e.born∈seen)->JL J Q b n (Ax L d (.tuple #[.bool false])) ds (.inRegion ops rest::kk) cs (Ak E H S)):
  JL J Q b n L ds (.inRegion ops (i::rest)::kk) cs (Ak E H S):=
 JL.op ae hw ag λρ aj=>by
  show lp P (do pure (Next.value (← Instr.next (ρ x) false ty))) _ _ _
  rw [aj _ _ U]
  refine Av _ _ ?_
  unfold Instr.next
  simp only [getObj,setObj,bind,Sem.bind,pure,lp]
  refine⟨_,DW (i:=0) K O rfl,rfl,?_⟩
  simp only [lp]
  refine⟨_,ac,rfl,?_⟩
  have ak:(!seen.isEmpty&& !es.isEmpty&&es.all (λe=>decide (e.born>=c)))=false:=by
   by_cases he:es.toList= []
   ·have:es.isEmpty=true:=by simpa [Array.isEmpty_iff] using he
    simp [this]
   ·obtain⟨e,aa⟩:=List.exists_mem_of_ne_nil _ he;have aA:=hb e aa;have:es.all (λe=>decide (e.born>=c))=false:=by
     cases U:es.all (λe=>decide (e.born>=c)) with
     | false=>rfl
     | true=>
      have:=Array.all_eq_true'.1 U e (Array.mem_toList_iff.1 aa);simp at this;omega
    simp [this]
  have al:Array.filter (λx:MapEntry=>decide (x.born<c)) (Array.filter (λe=> !seen.contains e.born) es)=Array.filter (λe=> !seen.contains e.born) es:=by
   apply Array.toList_inj.1;rw [Array.toList_filter,List.filter_eq_self];intro e he;rw [Array.toList_filter] at he;simpa using hb e (List.mem_filter.1 he).1
  have e2:Array.filter (λx:MapEntry=>decide (x.born>=c)) (Array.filter (λe=> !seen.contains e.born) es)= #[]:=by
   apply Array.toList_inj.1;rw [Array.toList_filter,List.filter_eq_nil_iff];intro e he;rw [Array.toList_filter] at he;have:=hb e (List.mem_filter.1 he).1;simp;omega
  dsimp only;rw [if_neg (by rw [ak];exact Bool.false_ne_true),al,e2];have V:∀e,e∈(Array.filter (λe=> !seen.contains e.born) es).toList↔e∈es.toList/\e.born ∉ seen:=by
   intro e;rw [Array.toList_filter,List.mem_filter];simp
  generalize Array.filter (λe:MapEntry=> !seen.contains e.born) es=left at V ⊢;by_cases Y:left.toList= []
  ·have am:left= #[]:=Array.toList_inj.1 Y;subst am;refine Qv (by simp) rfl λi hi=>?_;obtain rfl:i=0:=by simp at hi;exact hi
   have an:((if(#[]:Array MapEntry).isEmpty=true then #[none] else #[])++Array.map some ((#[]:Array MapEntry)++ #[]))[0]? =some none:=by simp
   rw [an];refine ai λe he=>?_;by_cases ab:e.born∈seen
   ·exact ab
   ·have:=(V e).2 ⟨he,ab⟩;simp at this
  ·have ao:left.isEmpty=false:=by
    cases ap:left.isEmpty with
    | false=>rfl
    | true=>exact absurd (by simpa [Array.isEmpty_iff] using ap) Y
   rw [ao];simp only [Bool.false_eq_true,if_false,Array.append_empty,Array.empty_append];have aq:0<left.size:=by
    rcases Nat.eq_zero_or_pos left.size with Z | Z
    ·exact absurd (by simpa using Array.eq_empty_of_size_eq_zero Z) Y
    ·exact Z
   refine Qv (by simpa using aq) rfl λi hi=>?_;have ar:i<left.size:=by simpa using hi
   have au:(Array.map some left)[i]? =some (some left[i]):=by simp [ar]
   rw [au];simp only [lp];obtain⟨av,aw⟩:=(V left[i]).1 (Array.getElem_mem_toList _);refine⟨⟨_,Jv K O,rfl⟩,rfl,?_⟩;obtain⟨ay,az⟩:=J2 K O (.mapIter (some bk) c (seen.push left[i].born) c);rw [ay];exact ah _ av aw az
theorem JS.entry{es:Array MapEntry}{c r:Nat}{seen:Array Nat}{e:MapEntry}(j:Nat)(U:(Ak E H S).get bk=some (.map es c))(he:e∈es.toList)(hb:(es.toList.map (·.born)).Pairwise (·<·))(V:An E H S)(Y:S[j]? =some [(r,.mapIter (some bk) c (seen.push e.born) c)])
  (Z:ops[i]? =some ⟨d,.entry x,ty,p,af,g⟩) (hw:AT L ops ⟨d,.entry x,ty,p,af,g⟩=some true) (aa:BK b n ⟨d,.entry x,ty,p,af,g⟩=true) (ab:ev L x=some (.pointer (some ⟨r,0,none⟩)))
  (h:JL J Q b n (Ax L d (.tuple #[e.key,e.val])) ds (.inRegion ops rest::kk) cs (Ak E H S)):
  JL J Q b n L ds (.inRegion ops (i::rest)::kk) cs (Ak E H S):=
 JL.op Z hw aa λρ ac=>by
  show lp P (do pure (Next.value (← Instr.entry (ρ x)))) _ _ _
  rw [ac _ _ ab]
  refine Av _ _ ?_
  unfold Instr.entry
  simp only [getObj,bind,Sem.bind,pure,lp]
  refine⟨_,DW (i:=0) V Y rfl,rfl,?_⟩
  simp only [Array.back?_push,bne_self_eq_false,lp]
  refine⟨_,U,rfl,?_⟩
  have ae:es.find? (λx=>x.born==e.born)=some e:=by
   rw [← Array.find?_toList];have key:∀(l:List MapEntry),e∈l->(l.map (·.born)).Pairwise (·<·)->l.find? (λx=>x.born==e.born)=some e:=by
    intro l
    induction l with
    | nil=>intro h;cases h
    | cons y l ag=>
     intro hm K;rw [List.map_cons,List.pairwise_cons] at K;by_cases O:y.born=e.born
     ·rcases List.mem_cons.1 hm with rfl | hm
      ·simp
      ·have:=K.1 e.born (List.mem_map.2 ⟨e,hm,rfl⟩);omega
     ·rw [List.find?_cons_of_neg (by simpa using O)];rcases List.mem_cons.1 hm with rfl | hm
      ·exact absurd rfl O
      ·exact ag hm K.2
   exact key _ he hb
  simp only [bne_self_eq_false,Bool.false_eq_true,if_false,ae,lp];exact h
end
end
end Pal
namespace Pal
open Go Go.Conc
theorem JK{E H:LH}{S:List Seg}{bk:Nat}{o:Obj}(h:E bk=some o):(Ak E H S).get bk=some o:=by
 show(match E bk with | some o=>some o | none=>_)=some o
 rw [h]
theorem PR{α β:Type}(f:α->β){l:List α}(h:(l.map f).Nodup):l.Nodup:=by
 unfold List.Nodup at h ⊢;rw [List.pairwise_map] at h;exact h.imp λh e=>h (by rw [e])
theorem QO{α:Type}:∀{l l':List α},l.Nodup->(∀x∈l,x∈l')->l.length<=l'.length
 | [],_,_,_=>Nat.zero_le _
 | x::l,l',h,O=>by
  obtain⟨a,b,rfl⟩:=List.append_of_mem (O x (by simp))
  have U:=List.nodup_cons.1 h
  have:=QO (l:=l) (l':=a++b) U.2 (λy V=>by
   have K:=O y (List.mem_cons_of_mem _ V)
   have Y:y≠x:=λe=>U.1 (e▸V)
   simp at K ⊢
   rcases K with K | K | K
   ·exact .inl K
   ·exact absurd K Y
   ·exact .inr K)
  simp at this ⊢;omega
section
variable {κ ν:Type} [DecidableEq κ] {pk:Rp κ}{pv:Rp ν}{ka va:Bool}{E E' H:LH}
def Iq(es:Array MapEntry)(ys:List (κ×ν))(seen:Array Nat)(done:List (κ×ν)):Prop:=
 ∃K:List (MapEntry×(κ×ν)),done=K.map (·.2)/\seen.toList=K.map (·.1.born)/\K.Nodup/\∀q∈K,q∈es.toList.zip ys
theorem Iq.nil{es:Array MapEntry}{ys:List (κ×ν)}:Iq es ys #[] []:=⟨[],rfl,rfl,.nil,by simp⟩
theorem QJ:∀{es:List MapEntry} {ys:List (κ×ν)},(es.map (·.born)).Pairwise (·<·)->∀{p q:MapEntry×(κ×ν)},p∈es.zip ys->q∈es.zip ys->p.1.born=q.1.born->p=q
 | [],_,_,_,_,h,_,_=>by simp at h
 | _::_,[],_,_,_,h,_,_=>by simp at h
 | e::es,y::ys,U,p,q,K,O,hb=>by
  rw [List.map_cons,List.pairwise_cons] at U
  rw [List.zip_cons_cons] at K O
  have V:∀{z:MapEntry×(κ×ν)},z∈es.zip ys->z.1.born∈es.map (·.born):=λ{z} Y=>by
   have:=(List.of_mem_zip Y).1
   exact List.mem_map.2 ⟨z.1,this,rfl⟩
  rcases List.mem_cons.1 K with rfl | K <;> rcases List.mem_cons.1 O with rfl | O
  ·rfl
  ·have:=U.1 _ (V O);simp at hb;omega
  ·have:=U.1 _ (V K);simp at hb;omega
  ·exact QJ U.2 K O hb
theorem DL.zip:∀{es:List MapEntry} {ys:List (κ×ν)},DL pk ka pv va E es ys->∀{q:MapEntry×(κ×ν)},q∈es.zip ys->Vr pk ka E q.1.key q.2.1/\Vr pv va E q.1.val q.2.2
 | [],[],_,_,h=>by simp at h
 | e::es,y::ys,h,q,K=>by
  rw [List.zip_cons_cons] at K
  rcases List.mem_cons.1 K with rfl | K
  ·exact⟨h.1,h.2.1⟩
  ·exact DL.zip h.2.2 K
 | [],_::_,h,_,_=>h.elim
 | _::_,[],h,_,_=>h.elim
theorem QU:∀{es:List MapEntry} {ys:List (κ×ν)},KN ys->(es.map (·.born)).Pairwise (·<·)->∀{p q:MapEntry×(κ×ν)},p∈es.zip ys->q∈es.zip ys->p.2.1=q.2.1->p=q
 | [],_,_,_,_,_,h,_,_=>by simp at h
 | _::_,[],_,_,_,_,h,_,_=>by simp at h
 | e::es,y::ys,Z,V,p,q,K,O,hb=>by
  have U:y.1 ∉ ys.map (·.1)/\KN ys:=by simpa [KN] using Z
  rw [List.map_cons,List.pairwise_cons] at V;rw [List.zip_cons_cons] at K O;have Y:∀{z:MapEntry×(κ×ν)},z∈es.zip ys->z.2.1∈ys.map (·.1):=λ{z} aa=>List.mem_map.2 ⟨z.2,(List.of_mem_zip aa).2,rfl⟩;rcases List.mem_cons.1 K with rfl | K <;> rcases List.mem_cons.1 O with rfl | O
  ·rfl
  ·have:=Y O;simp only at hb;rw [← hb] at this;exact absurd this U.1
  ·have:=Y K;simp only at hb;rw [hb] at this;exact absurd this U.1
  ·exact QU U.2 V.2 K O hb
theorem Iq.len{es:Array MapEntry}{ys:List (κ×ν)}{seen:Array Nat}{done:List (κ×ν)}(h:Iq es ys seen done):done.length<=ys.length:=by
 obtain⟨V,rfl,Y,K,O⟩:=h;rw [List.length_map];have U:=QO K O;exact Nat.le_trans U (by rw [List.length_zip];exact Nat.min_le_right _ _)
section
variable {P:Program}{J:Judge P}{Q:Gs_}{b:Frame}{n:Nat}{ds:Ld_}{ops:Ao_}{kk:Li_}{cs:Lf_}{L:Env}{s:St}{S:List Seg}
variable {d:Option Tmp}{x y z:Operand}{t u ty e tm te:TypeId}{p:String}{af:Ae_}{g:On_}{i:Nat}{rest:List Nat}{bk:Nat}{o:Obj}{xs ys:List (κ×ν)}
theorem QX{es:Array MapEntry}{c r:Nat}{seen:Array Nat}{done:List (κ×ν)}(j:Nat)(aa:DL pk ka pv va E es.toList ys)(Y:(es.toList.map (·.born)).Pairwise (·<·))(hb:∀e∈es.toList,e.born<c)(ah:KN ys)(ai:Iq es ys seen done)(aj:(Ak E' H S).get bk=some (.map es c))(ak:An E' H S)(al:S[j]? =some [(r,.mapIter (some bk) c seen c)])
  (am:ops[i]? =some ⟨d,.next x false,ty,p,af,g⟩) (hw:AT L ops ⟨d,.next x false,ty,p,af,g⟩=some true) (an:BK b n ⟨d,.next x false,ty,p,af,g⟩=true) (ao:ev L x=some (.pointer (some ⟨r,0,none⟩)))
  (ap:∀e O,Vr pk ka E e.key O.1->Vr pv va E e.val O.2->O∈ys->O.1 ∉ done.map (·.1)->e∈es.toList->Iq es ys (seen.push e.born) (done++ [O])->An E' H (S.set j [(r,.mapIter (some bk) c (seen.push e.born) c)])->
   JL J Q b n (Ax L d (.tuple #[.bool true,e.key,e.val])) ds (.inRegion ops rest::kk) cs (Ak E' H (S.set j [(r,.mapIter (some bk) c (seen.push e.born) c)])))
  (aq:done.Perm ys->JL J Q b n (Ax L d (.tuple #[.bool false])) ds (.inRegion ops rest::kk) cs (Ak E' H S)):
  JL J Q b n L ds (.inRegion ops (i::rest)::kk) cs (Ak E' H S):=by
 obtain⟨Z,rfl,a1,ab,V⟩:=ai;have hlen:=aa.len;refine JS.next j aj hb ak al am hw an ao (λe he ar au=>?_) (λav=>?_)
 ·obtain⟨m,hm,aw⟩:=List.mem_iff_getElem.1 he;have U:(e,ys[m]'(by omega))∈es.toList.zip ys:=by
   rw [← aw];have:(es.toList.zip ys)[m]'(by rw [List.length_zip];omega)=(es.toList[m],ys[m]'(by omega)):=List.getElem_zip;rw [← this];exact List.getElem_mem _
  obtain⟨k1,ay⟩:=aa.zip U;have ac:(e,ys[m]'(by omega)) ∉ Z:=λq=>ar (by
   rw [← Array.mem_toList_iff,a1]
   exact List.mem_map.2 ⟨_,q,rfl⟩)
  refine ap e _ k1 ay (List.getElem_mem _) (λq=>?_) he ⟨Z++ [(e,ys[m]'(by omega))],by simp,by simp [a1],?_,λq K=>?_⟩ au
  ·obtain⟨O,az,aA⟩:=List.mem_map.1 q;obtain⟨z,ae,rfl⟩:=List.mem_map.1 az;have:=QU ah Y (V z ae) U aA;exact ac (this▸ae)
  ·rw [List.nodup_append];exact⟨ab,by simp,by intro q K z ag aB;simp at ag;subst ag aB;exact ac K⟩
  ·rcases List.mem_append.1 K with K | K
   ·exact V q K
   ·simp at K;subst K;exact U
 ·refine aq ?_;have aC:Z.Perm (es.toList.zip ys):=by
   have aD:(es.toList.zip ys).Nodup:=by
    have:((es.toList.zip ys).map (·.1)).Nodup:=by
     rw [List.map_fst_zip (by omega)];exact PR (λe:MapEntry=>e.born) (Y.imp (λh=>Nat.ne_of_lt h))
    exact PR _ this
   refine(List.perm_ext_iff_of_nodup ab aD).2 λq=>⟨λK=>V q K,λK=>?_⟩;have:=av q.1 (List.of_mem_zip K).1;rw [← Array.mem_toList_iff,a1] at this;obtain⟨z,U,aE⟩:=List.mem_map.1 this;have:=QJ Y (V z U) K aE;exact this▸U
  have:=aC.map (·.2)
  rwa [List.map_snd_zip (by omega)] at this
end
end
end Pal
namespace Pal
open Go Go.Conc
section
variable {P:Program}{J:Judge P}{Q:Gs_}{b:Frame}{n:Nat}{ds:Ld_}{ops:Ao_}{k:Li_}{cs:Lf_}{fuel:Nat}{D:Nat->Bool}{listed:Array Bool}{L L':Env}{s:St}{xl:List Nat}
variable {d:Option Tmp}{op:Op}{ty:TypeId}{p:String}{af:Ae_}{g:On_}{v:Value}
theorem Hx(i:Nat)(pure:Bool)(K:s.q=false)(O:GD n L ops i=some ⟨d,op,ty,p,af,g⟩)
  (U:∀ρ,EP L ρ->∀s':St,(pure=false->∀x o,(Bx D s).E x=some o->s'.E x=some o)->Yl P ⟨d,op,ty,p,af,g⟩ ρ s' v)
  (V:F4 J Q b n ds ops k cs (AY xl) D fuel (Ba listed i) (Ax L d v) s) (Y:K0 ops listed xl pure i=true:=by decide+kernel):F4 J Q b n ds ops k cs (AY xl) D (fuel+1) listed L s:=by
 obtain⟨Z,aa,ab⟩:=N7 O;exact JB.val i pure Z Y K aa ab U V
def PH(n:Nat)(L:Env)(ops:Ao_)(i:Nat):Option Env:=
 match IX ops.toList i with
 | some ⟨d,op,ty,p,af,g⟩=>match AT L ops ⟨d,op,ty,p,af,g⟩ with
  | some true=>match Bh n d with
   | true=>match Kf L op with
    | some v=>match d with
     | some d=>some ((d,v)::L)
     | none=>some L
    | none=>none
   | false=>none
  | _=>none
 | none=>none
theorem VE{i:Nat}(h:PH n L ops i=some L'):∃o v,ops[i]? =some o/\Bh n o.dst=true/\AT L ops o=some true/\Kf L o.op=some v/\L'=Ax L o.dst v:=by
 unfold PH at h;split at h
 ·rename_i d op ty p af g K;rw [KC,Array.getElem?_toList] at K;split at h
  ·rename_i hw;split at h
   ·rename_i O;split at h
    ·rename_i v U;refine⟨_,v,K,O,hw,U,?_⟩;cases d with
     | none=>cases h;rfl
     | some d=>cases h;rfl
    ·cases h
   ·cases h
  ·cases h
 ·cases h
theorem A8(i:Nat)(K:s.q=false)(h:PH n L ops i=some L')
  (O:F4 J Q b n ds ops k cs (AY xl) D fuel (Ba listed i) L' s) (U:K0 ops listed xl true i=true:=by decide+kernel):F4 J Q b n ds ops k cs (AY xl) D (fuel+1) listed L s:=by
 obtain⟨o,v,V,Y,hw,Z,rfl⟩:=VE h;exact JB.val i true V U K hw Y (λρ aa s' _=>My aa Z) O
end
end Pal
namespace Pal
open Go Go.Conc
section
variable {P:Program}{J:Judge P}{Q:Gs_}{b:Frame}{n:Nat}{L L':Env}{ds:Ld_}{k:Li_}{cs:Lf_}{s:St}{ops:Ao_}{E H:LH}{S:List Seg}{i i2:Nat}{rest:List Nat}
variable {d d2:Option Tmp}{x y x2:Operand}{t t2 ft u ty ty2 e:TypeId}{p p2:String}{af af2:Ae_}{g g2:On_}{v w:Value}
theorem Dc(O:An E H S)(h:∀r E',Le E E'->At E' r 0 v.cells.toList->An E' H (S++ [[]])->JL J Q b n (Ax L d (.pointer (some ⟨r,0,none⟩))) ds (.inRegion ops rest::k) cs (Ak E' H (S++ [[]])))
  (U:Fq b n L ops i=some ⟨d,.box e x,ty,p,af,g⟩:=by exact rfl) (V:ev L x=some v:=by exact rfl):JL J Q b n L ds (.inRegion ops (i::rest)::k) cs (Ak E H S):=by
 obtain⟨Y,Z,aa⟩:=J0 U;refine JS.box Y Z aa O V λr ab=>Cf (bk:=r) (c:=v.cells) (e:=e) (f:=(0,0)) S.length ab (by simp) λE' hle ac K=>?_;have ae:(S++ [[(r,Obj.cells v.cells e (0,0))]]).set S.length []=S++ [[]]:=by simp
 rw [ae] at K ⊢;exact h r E' hle ac K
theorem Cx{z:Value}(K:An E H S)(O:zeroOf P e=some z)(h:∀r,An E H (S++ [[(r,.cells z.cells e (0,0))]])->JL J Q b n (Ax L d (.pointer (some ⟨r,0,none⟩))) ds (.inRegion ops rest::k) cs (Ak E H (S++ [[(r,.cells z.cells e (0,0))]])))
  (U:Fq b n L ops i=some ⟨d,.alloc e,ty,p,af,g⟩:=by exact rfl):JL J Q b n L ds (.inRegion ops (i::rest)::k) cs (Ak E H S):=by
 obtain⟨V,Y,Z⟩:=J0 U;exact JS.alloc V Y Z K O h
theorem Bv{bk off K:Nat}{c:Av_}(j:Nat)(O:An E H S)(U:Bm P t=some K)
  (h:An E H (S.set j [(bk,.cells (Bb c off v.cells.toList) e (0,0))])->JL J Q b n (Ax L d undef) ds (.inRegion ops rest::k) cs (Ak E H (S.set j [(bk,.cells (Bb c off v.cells.toList) e (0,0))])))
  (V:Fq b n L ops i=some ⟨d,.store t x y,ty,p,af,g⟩:=by exact rfl) (Y:ev L x=some (.pointer (some ⟨bk,off,none⟩)):=by exact rfl) (Z:ev L y=some v:=by exact rfl) (aa:S[j]? =some [(bk,.cells c e (0,0))]:=by exact rfl)
  (ab:K=v.cells.size:=by exact rfl) (hle:off+v.cells.size<=c.size:=by exact Nat.le_of_ble_eq_true rfl) (ac:v.cells.toList.all BT=true:=by first | exact rfl | simp [Value.cells,BT]):
  JL J Q b n L ds (.inRegion ops (i::rest)::k) cs (Ak E H S):=Yp j O (by rw [← ab];exact U) V Y Z aa h hle (List.all_eq_true.1 ac)
theorem BJ{bk o K V off:Nat}{O:Array Field}{U:Nat}{ws:Lv_}(j:Nat)(Y:At E bk o ws)(Z:P.underlying t=some (.struct O))(aa:Bm P ft=some (V+1))(ab:Dm P t2=some false)
  (ac:JL J Q b n (Ax (Ax L d (.pointer (some ⟨bk,K+off,none⟩))) d2 v) ds (.inRegion ops rest::k) cs (Ak E H S))
  (ae:Fq b n L ops i=some ⟨d,.fieldAddr t x U,ty,p,af,g⟩:=by exact rfl) (ag:ev L x=some (.pointer (some ⟨bk,K,none⟩)):=by exact rfl) (ah:Ln O U=some (off,ft):=by exact rfl)
  (ai:Fq b n (Ax L d (.pointer (some ⟨bk,K+off,none⟩))) ops i2=some ⟨d2,.load t2 x2,ty2,p2,af2,g2⟩:=by exact rfl) (aj:ev (Ax L d (.pointer (some ⟨bk,K+off,none⟩))) x2=some (.pointer (some ⟨bk,o+j,none⟩)):=by exact rfl) (ak:ws[j]? =some v:=by exact rfl):
  JL J Q b n L ds (.inRegion ops (i::i2::rest)::k) cs (Ak E H S):=JL.fd Z aa ae ag ah (EL j Y ab ai aj ak ac)
theorem Es{α:Type}{pp:Rp α}{a:Option Addr}{c:Nat}{xs:List α}{xv:α}{m:Int}{kd:IntKind}(K:Am pp E a c xs)(hm:ix xs m=some xv)(O:P.underlying t=some (.slice e))(U:Bm P e=some pp.n)
  (h:∀bk o ws,pp.r E ws xv->At E bk o ws->JL J Q b n (Ax L d (.pointer (some ⟨bk,o,none⟩))) ds (.inRegion ops rest::k) cs (Ak E H S))
  (V:Fq b n L ops i=some ⟨d,.indexAddr t x y,ty,p,af,g⟩:=by exact rfl) (Y:ev L x=some (.slice a xs.length c):=by exact rfl) (Z:ev L y=some (.int kd m):=by exact rfl):
  JL J Q b n L ds (.inRegion ops (i::rest)::k) cs (Ak E H S):=by
 obtain⟨aa,ab,ac⟩:=J0 V;exact Hk K hm aa ab ac Y Z O U h
theorem Fa(K:List Seg)(O:Env){todo:Li_}{c:Code}(U:∀E',Le E E'->An E' H K->JL J Q b n O ds todo cs (Ak E' H K))
  (h:(∀{E':LH} {L:Env},Le E E'->An E' H K->HR L O=HY O->JL J Q b n L ds todo cs (Ak E' H K))->JL J Q b n L ds (.code c::todo) cs (Ak E H S)):JL J Q b n L ds (.code c::todo) cs (Ak E H S):=
 h λV Y Z=>AB (U _ V Y) Z
theorem Fh{U:List Nat}(V Y:Nat)(K:List Seg)(O:Env){todo:Li_}(Z:∀E',Le E E'->An E' H K->JL J Q b n O ds (.inRegion ops (List.range' V Y)::todo) cs (Ak E' H K))
  (h:(∀{E':LH} {L:Env},Le E E'->An E' H K->HR L O=HY O->JL J Q b n L ds (.inRegion ops (List.range' V Y)::todo) cs (Ak E' H K))->JL J Q b n L ds (.inRegion ops U::todo) cs (Ak E H S)):JL J Q b n L ds (.inRegion ops U::todo) cs (Ak E H S):=
 h λaa ab ac=>AB (Z _ aa ab) ac
theorem Ds{O aa:Type}{c:Code}{body:O->Option (Bn O aa)}{f:Nat}{V:O}{a:aa}{Y:LH}{k:Li_}(ac:iter body f V=some a)(K:O->List Seg)(U:O->Env)(hle:Le Y E)(ae:An E H (K V))
  (round:∀x E',Le Y E'->An E' H (K x)->(∀ab,body x=some (.done ab)->ab=a)->(∃st,body x=some st)->(∀{L':Env} {Z:LH} (x':O),Le Y Z->An Z H (K x')->HR L' (U x')=HY (U x')->body x=some (.more x')->JL J Q b n L' ds (.inLoop c::k) cs (Ak Z H (K x')))->JL J Q b n (U x) ds (.code c:: .inLoop c::k) cs (Ak E' H (K x)))
  (ag:HR L (U V)=HY (U V):=by exact rfl) (ah:Ak E H S=Ak E H (K V):=by exact rfl):JL J Q b n L ds (.code (.loop c)::k) cs (Ak E H S):=by
 rw [ah];refine El _ ag (Hi ac (λL s x=>∃E',Jm Y H E' (K x) (U x) L s) ⟨E,rfl,rfl,hle,ae⟩ ?_);rintro _ _ x ⟨E',rfl,rfl,ai,aj⟩ hd hb ak;exact round x E' ai aj hd hb λx' al g2 am an=>AB (ak _ _ x' ⟨_,rfl,rfl,al,g2⟩ an) am
theorem Bl{f:FuncId}{fn:Func}{c:Code}{E:LH}{vs:Lv_}{B:Seg}{R:Value->LH->Seg->Prop}(O:P.funcs[f]? =some fn)
  (h:∀(Q:Gs_) (K:Frame) (cs:Lf_) (H:LH),An E H [B]->(∀{v:Value} {E':LH} {S':List Seg} {B':Seg},Le E E'->S'.flatten=B'->R v E' B'->An E' H S'->J.ok Q (G (K.finish v) cs) (Ak E' H S'))->JL J Q (base f) fn.ntmps (FY 0 vs) [] [.code c] (K::cs) (Ak E H [B]))
  (hb:fn.body=some c:=by exact rfl) (U:Nat.ble vs.length fn.ntmps=true:=by exact rfl):AP J f vs E B R:=
 J3 O hb U λQ K cs H V Y=>h Q K cs H V λZ aa ab ac=>Y _ _ _ _ Z aa ab ac
variable {m:Nat}{fuel:Nat}{listed:Array Bool}{bks xl:List Nat}
theorem J4{bk:Nat}{c:Av_}{f:Nat×Nat}(i:Nat)(K:DU ops m=true)(o:Nat)(j:Nat)(O:An E H S)(U:Dm P t=some false)
  (V:AL J Q b n ds ops k cs m (AY bks) fuel (Ba listed i) (Ax L d w) (Ak E H S)) (Y:GD n L ops i=some ⟨d,.load t x,ty,p,af,g⟩:=by exact rfl) (Z:ev L x=some (.pointer (some ⟨bk,o,none⟩)):=by exact rfl)
  (aa:S[j]? =some [(bk,.cells c e f)]:=by exact rfl) (hw:c[o]? =some w:=by exact rfl) (ab:AY bks bk=true:=by simp [AY]) (ac:F2 ops listed m i=true:=by decide+kernel):AL J Q b n ds ops k cs m (AY bks) (fuel+1) listed L (Ak E H S):=
 AH i K rfl Y (λρ h s' ae=>Yl.load U (h _ _ Z) (BN (o:=o) j O aa ab ae hw)) V ac
theorem JG.lp{bk o:Nat}{ws:Lv_}(i:Nat)(K:DU ops m=true)(j:Nat)(O:At E bk o ws)(U:An E H S)(V:Hs S bks)(Y:Dm P t=some false)
  (Z:AL J Q b n ds ops k cs m (AY bks) fuel (Ba listed i) (Ax L d w) (Ak E H S)) (aa:GD n L ops i=some ⟨d,.load t x,ty,p,af,g⟩:=by exact rfl) (ab:ev L x=some (.pointer (some ⟨bk,o+j,none⟩)):=by exact rfl)
  (hw:ws[j]? =some w:=by exact rfl) (ac:F2 ops listed m i=true:=by decide+kernel):AL J Q b n ds ops k cs m (AY bks) (fuel+1) listed L (Ak E H S):=
 AH i K rfl aa (λρ h s' ae=>Yl.load Y (h _ _ ab) (At.HU (j:=j) O (YI U ae V) hw)) Z ac
theorem Tg{bk o K:Nat}{c:Av_}{f:Nat×Nat}(i:Nat)(O:DU ops m=true)(vs:Lv_)(j:Nat)(U:An E H S)(hw:∀(q:Nat) w,vs[q]? =some w->c[o+q]? =some w)(V:Dm P t=some true)(Y:Bm P t=some K)
  (Z:AL J Q b n ds ops k cs m (AY bks) fuel (Ba listed i) (Ax L d (.agg vs.toArray)) (Ak E H S)) (aa:GD n L ops i=some ⟨d,.load t x,ty,p,af,g⟩:=by exact rfl) (ab:ev L x=some (.pointer (some ⟨bk,o,none⟩)):=by exact rfl)
  (ac:S[j]? =some [(bk,.cells c e f)]:=by exact rfl) (ae:K=vs.length:=by exact rfl) (ag:AY bks bk=true:=by simp [AY]) (ah:F2 ops listed m i=true:=by decide+kernel):AL J Q b n ds ops k cs m (AY bks) (fuel+1) listed L (Ak E H S):=
 AH i O rfl aa (λρ h s' ai=>Dk (vs:=vs) V (by rw [← ae];exact Y) (h _ _ ab) (λq w aj=>by rw [DR rfl];exact BN j U ac ag ai (hw q w aj))) Z ah
theorem FX{D:Nat->Bool}{α:Type}{xs:List α}{xv:α}{K:Int}{bk c O U:Nat}{kd:IntKind}(i:Nat)(V:DU ops m=true)(Y:xs.length=U)(hm:ix xs K=some xv)(Z:P.underlying t=some (.slice e))(aa:Bm P e=some O)
  (ab:AL J Q b n ds ops k cs m D fuel (Ba listed i) (Ax L d (.pointer (some ⟨bk,K.toNat*O,none⟩))) s) (ac:s.q=false:=by exact rfl) (ae:GD n L ops i=some ⟨d,.indexAddr t x y,ty,p,af,g⟩:=by exact rfl)
  (ag:ev L x=some (.slice (some ⟨bk,0,none⟩) U c):=by exact rfl) (ah:ev L y=some (.int kd K):=by exact rfl) (ai:F2 ops listed m i=true:=by decide+kernel):AL J Q b n ds ops k cs m D (fuel+1) listed L s:=
 AH i V ac ae (λρ h s' aj=>EA Y hm Z aa (h _ _ ag) (h _ _ ah)) ab ai
theorem BR{D:Nat->Bool}{α:Type}{xs:List α}{xv:α}{K:Int}{bk c O U:Nat}{kd:IntKind}(i:Nat)(V:xs.length=U)(hm:ix xs K=some xv)(Y:P.underlying t=some (.slice e))(Z:Bm P e=some O)
  (aa:F4 J Q b n ds ops k cs (AY xl) D fuel (Ba listed i) (Ax L d (.pointer (some ⟨bk,K.toNat*O,none⟩))) s) (ab:s.q=false:=by exact rfl) (ac:GD n L ops i=some ⟨d,.indexAddr t x y,ty,p,af,g⟩:=by exact rfl)
  (ae:ev L x=some (.slice (some ⟨bk,0,none⟩) U c):=by exact rfl) (ag:ev L y=some (.int kd K):=by exact rfl) (ah:K0 ops listed xl true i=true:=by decide+kernel):F4 J Q b n ds ops k cs (AY xl) D (fuel+1) listed L s:=
 Hx i true ab ac (λρ h s' ai=>EA V hm Y Z (h _ _ ae) (h _ _ ag)) aa ah
theorem S2{bk o K:Nat}{c:Av_}{f:Nat×Nat}(i:Nat)(vs:Lv_)(j:Nat)(O:An E H S)(hw:∀(q:Nat) w,vs[q]? =some w->c[o+q]? =some w)(U:Dm P t=some true)(V:Bm P t=some K)
  (Y:F4 J Q b n ds ops k cs (AY xl) (AY bks) fuel (Ba listed i) (Ax L d (.agg vs.toArray)) (Ak E H S)) (Z:GD n L ops i=some ⟨d,.load t x,ty,p,af,g⟩:=by exact rfl) (aa:ev L x=some (.pointer (some ⟨bk,o,none⟩)):=by exact rfl)
  (ab:S[j]? =some [(bk,.cells c e f)]:=by exact rfl) (ac:K=vs.length:=by exact rfl) (ae:AY bks bk=true:=by simp [AY]) (ag:K0 ops listed xl false i=true:=by decide+kernel):F4 J Q b n ds ops k cs (AY xl) (AY bks) (fuel+1) listed L (Ak E H S):=
 Hx i false rfl Z (λρ h s' ah=>Dk (vs:=vs) U (by rw [← ac];exact V) (h _ _ aa) (λq w ai=>by rw [DR rfl];exact BN j O ab ae (ah rfl) (hw q w ai))) Y ag
theorem Ee{bk off K:Nat}{c:Av_}{D:Nat->Bool}(i j:Nat)(O:An E H S)(U:Bm P t=some K)(hle:off+K<=c.size)
  (h:An E H (S.set j [(bk,.cells (Bb c off v.cells.toList) e (0,0))])->F4 J Q b n ds ops k cs (AY xl) D fuel (Ba listed i) (Ax L d undef) (Ak E H (S.set j [(bk,.cells (Bb c off v.cells.toList) e (0,0))])))
  (V:GD n L ops i=some ⟨d,.store t x y,ty,p,af,g⟩:=by exact rfl) (Y:ev L x=some (.pointer (some ⟨bk,off,none⟩)):=by exact rfl) (Z:ev L y=some v:=by exact rfl) (aa:S[j]? =some [(bk,.cells c e (0,0))]:=by exact rfl)
  (ab:K=v.cells.size:=by exact rfl) (ac:v.cells.toList.all BT=true:=by first | exact rfl | simp [Value.cells,BT]) (ae:Region.ready .any ops listed= [i]:=by decide+kernel) (ag:AY xl i=true:=by decide+kernel):
  F4 J Q b n ds ops k cs (AY xl) D (fuel+1) listed L (Ak E H S):=by
 obtain⟨ah,ai,aj⟩:=N7 V;subst ab;exact JB.store i j ae ag ah ai aj O Y Z U (List.all_eq_true.1 ac) aa hle h
end
end Pal
namespace Pal
open Go Go.Conc
abbrev s8(s:Nat):Value:= .int .u8 (s:Int)
def Nj(a:Nat)(n:Int):Option Nat:=if 0<=n/\n<=8 then some (a>>>n.toNat) else none
def KY(a b:Nat):Option Nat:=if a<256/\b<256 then some (a ||| b) else none
def M1(a b:Nat):Option Nat:=if a<256/\b<256 then some (a&&& b) else none
section
variable {P:Program}{s:St}{ρ:Operand->Value}{d:Option Tmp}{t u ty:TypeId}{x y:Operand}{p:String}{af:Ae_}{g:On_}{a b c r:Nat}{m:Int}
theorem S3{m:Nat}(h:m<256):IntKind.u8.wrap (m:Int)=m:=by
 simp only [IntKind.wrap,IntKind.bits,IntKind.signed];simp;omega
theorem Ns{m:Nat}(h:m<256):(BitVec.ofInt IntKind.u8.bits (m:Int)).toNat=m:=by
 simp [IntKind.bits,BitVec.toNat_ofInt];omega
theorem Yu{k:Nat}(a c:Nat)(K:c<=k):((a:Int).fdiv (2 ^ (min c k)))=((a>>>c:Nat):Int):=by
 rw [Nat.min_eq_left K,Nat.shiftRight_eq_div_pow,Int.fdiv_eq_ediv_of_nonneg _ (Int.pow_nonneg (by decide)),Int.natCast_ediv]
 rfl
theorem QY(K:ρ x=s8 a)(O:ρ y=iV m)(h:Nj a m=some r):Yl P ⟨d,.binOp .shr t x y u,ty,p,af,g⟩ ρ s (s8 r):=by
 unfold Nj at h;split at h
 ·rename_i U;cases h;have h:=Yl.shr (P:=P) (s:=s) (d:=d) (t:=t) (u:=u) (ty:=ty) (p:=p) (af:=af) (g:=g) K O U.1;rw [show IntKind.u8.bits=8 from rfl,Yu a m.toNat (by omega)] at h;exact h
 ·cases h
theorem MD(O:ρ x=s8 a)(U:ρ y=s8 b)(h:KY a b=some r):Yl P ⟨d,.binOp .or t x y u,ty,p,af,g⟩ ρ s (s8 r):=by
 unfold KY at h;split at h
 ·rename_i K;cases h;have h:=Yl.or (P:=P) (s:=s) (d:=d) (t:=t) (u:=u) (ty:=ty) (p:=p) (af:=af) (g:=g) O U;rw [BitVec.toNat_or,Ns K.1,Ns K.2,S3 (Nat.or_lt_two_pow (n:=8) K.1 K.2)] at h;exact h
 ·cases h
theorem Q0(O:ρ x=s8 a)(U:ρ y=s8 b)(h:M1 a b=some r):Yl P ⟨d,.binOp .and t x y u,ty,p,af,g⟩ ρ s (s8 r):=by
 unfold M1 at h;split at h
 ·rename_i K;cases h;have h:=Yl.and (P:=P) (s:=s) (d:=d) (t:=t) (u:=u) (ty:=ty) (p:=p) (af:=af) (g:=g) O U;rw [BitVec.toNat_and,Ns K.1,Ns K.2,S3 (Nat.lt_of_le_of_lt Nat.and_le_left K.1)] at h;exact h
 ·cases h
end
end Pal
namespace Pal
open Go Go.Conc
def O8(a b:Nat):Option Nat:=if a<4294967296/\b<4294967296 then some (a&&& b) else none
def OJ(a:Nat)(n:Int):Option Nat:=if 0<=n/\n<=32/\a*2 ^ n.toNat<4294967296 then some (a*2 ^ n.toNat) else none
def Kb(n:Int):Option Nat:=if 0<=n/\n<=8 then some ((1<<<n.toNat) % 256) else none
section
variable {P:Program}{s:St}{ρ:Operand->Value}{d:Option Tmp}{t u ty e:TypeId}{x y:Operand}{p:String}{af:Ae_}{g:On_}{a b c r:Nat}{m:Int}
theorem wrap32{m:Nat}(h:m<4294967296):IntKind.u32.wrap (m:Int)=m:=by
 simp only [IntKind.wrap,IntKind.bits,IntKind.signed];simp;omega
theorem Tj{m:Nat}(h:m<4294967296):(BitVec.ofInt IntKind.u32.bits (m:Int)).toNat=m:=by
 simp [IntKind.bits,BitVec.toNat_ofInt];omega
theorem UB(O:ρ x= .int .u32 (a:Int))(U:ρ y= .int .u32 (b:Int))(h:O8 a b=some r):Yl P ⟨d,.binOp .and t x y u,ty,p,af,g⟩ ρ s (.int .u32 (r:Int)):=by
 unfold O8 at h;split at h
 ·rename_i K;cases h;have h:=Yl.and (P:=P) (s:=s) (d:=d) (t:=t) (u:=u) (ty:=ty) (p:=p) (af:=af) (g:=g) O U;rw [BitVec.toNat_and,Tj K.1,Tj K.2,wrap32 (Nat.lt_of_le_of_lt Nat.and_le_left K.1)] at h;exact h
 ·cases h
theorem Uy(O:ρ x= .int .u32 (a:Int))(U:ρ y=iV m)(h:OJ a m=some r):Yl P ⟨d,.binOp .shl t x y u,ty,p,af,g⟩ ρ s (.int .u32 (r:Int)):=by
 unfold OJ at h;split at h
 ·rename_i K;cases h;have h:=Yl.shl (P:=P) (s:=s) (d:=d) (t:=t) (u:=u) (ty:=ty) (p:=p) (af:=af) (g:=g) O U K.1;have e:IntKind.u32.wrap ((a:Int)*2 ^ (min m.toNat IntKind.u32.bits))=((a*2 ^ m.toNat:Nat):Int):=by
   have V:min m.toNat IntKind.u32.bits=m.toNat:=by simp [IntKind.bits];omega
   rw [V,← wrap32 K.2.2];simp
  rw [e] at h;exact h
 ·cases h
theorem Lj(K:ρ x=s8 1)(O:ρ y=iV m)(h:Kb m=some r):Yl P ⟨d,.binOp .shl t x y u,ty,p,af,g⟩ ρ s (s8 r):=by
 unfold Kb at h;split at h
 ·rename_i U;cases h;have h:=Yl.shl (P:=P) (s:=s) (d:=d) (t:=t) (u:=u) (ty:=ty) (p:=p) (af:=af) (g:=g) K O U.1;have e:IntKind.u8.wrap (((1:Nat):Int)*2 ^ (min m.toNat IntKind.u8.bits))=(((1<<<m.toNat) % 256:Nat):Int):=
   (by decide:∀k:Fin 9,IntKind.u8.wrap (((1:Nat):Int)*2 ^ (min k.1 IntKind.u8.bits))=(((1<<<k.1) % 256:Nat):Int)) ⟨m.toNat,by omega⟩
  rw [e] at h;exact h
 ·cases h
theorem VH(K:ρ x=s8 a)(O:ρ y=s8 b)(hb:b<=256):Yl P ⟨d,.binOp .sub t x y u,ty,p,af,g⟩ ρ s (s8 ((a+(256 - b)) % 256)):=by
 have h:=Yl.sub (P:=P) (s:=s) (d:=d) (t:=t) (u:=u) (ty:=ty) (p:=p) (af:=af) (g:=g) K O;have e:IntKind.u8.wrap ((a:Int) - (b:Int))=(((a+(256 - b)) % 256:Nat):Int):=by
  simp only [IntKind.wrap,IntKind.bits,IntKind.signed];simp;omega
 rw [e] at h;exact h
theorem V8{kd:IntKind}{E:LH}(xs:List Nat):(rA xs.length (rN kd)).r E (xs.map λx=>Value.int kd ((x:Nat):Int)) xs:=by
 refine⟨rfl,xs.map λx=> [Value.int kd ((x:Nat):Int)],?_,by simp,λi x us K hu=>?_⟩
 ·induction xs with
  | nil=>rfl
  | cons x xs O=>simp [← O]
 ·rw [List.getElem?_map,K] at hu;exact(Option.some.inj hu).symm
theorem MC{α:Type}{kk:Nat}{pp:Rp α}{E:LH}{us:Lv_}{x:α}(h:pp.r E us x):(rA kk pp).r E (List.replicate kk us).flatten (List.replicate kk x):=
 ⟨by simp,List.replicate kk us,rfl,by simp,λi y ws K hw=>by
  rw [List.getElem?_replicate] at K hw
  split at K
  ·rename_i O
   rw [if_pos O] at hw
   cases K;cases hw
   exact h
  ·cases K⟩
theorem Vb{k K:Nat}{z v:Value}(O:P.underlying t=some (.array k e))(U:zeroOf P t=some z)(V:Bm P e=some K)(Y: .agg z.cells=v):Yl P ⟨d,.build t #[],ty,p,af,g⟩ ρ s v:=by
 refine FL N9 ?_;unfold Instr.build;refine Av (x:=zeroValue t) _ (Hd U ?_);refine Av _ _ (Cp O ?_);refine Av (x:=Go.sizeOf e) _ (Ex V ?_);subst Y;simp [Instr.fill,lp,pure]
theorem WU{k K:Nat}{z v:Value}{L:Env}{U:Array (Nat×Operand)}{vs:List (Nat×Value)}(h:EP L ρ)(Y:P.underlying t=some (.array k e))(Z:zeroOf P t=some z)(aa:Bm P e=some K)(ab:U.toList.mapM (λq=>(ev L q.2).map λv=>(q.1,v))=some vs)(O:(Instr.fill (λi=>some (i*K,K)) z.cells vs).map Value.agg=some v):Yl P ⟨d,.build t U,ty,p,af,g⟩ ρ s v:=by
 refine FL N9 ?_;unfold Instr.build;refine Av (x:=zeroValue t) _ (Hd Z ?_);refine Av _ _ (Cp Y ?_);refine Av (x:=Go.sizeOf e) _ (Ex aa ?_);have ac:=Od h ab;have ae:(U.map λ(j,x)=>(j,ρ x)).toList=vs:=by rw [← ac,Array.toList_map]
 rw [ae];cases V:Instr.fill (λi=>some (i*K,K)) z.cells vs with
 | none=>rw [V] at O;cases O
 | some cells=>rw [V] at O;cases O;exact⟨rfl,rfl⟩
end
end Pal
namespace Pal
open Go Go.Conc
section
variable {P:Program}{E H:LH}{S:List Seg}{t e:TypeId}
end
section
variable {P:Program}{J:Judge P}{Q:Gs_}{b:Frame}{n:Nat}{ds:Ld_}{ops:Ao_}{k:Li_}{cs:Lf_}{m fuel:Nat}{D:Nat->Bool}{listed:Array Bool}{L:Env}{s:St}{E E' H:LH}{S:List Seg}
variable {d:Option Tmp}{x y:Operand}{t u ty e e2:TypeId}{p:String}{af:Ae_}{g:On_}{v:Value}{i:Nat}{kd:IntKind}
end
end Pal
namespace Pal
open Go Go.Conc
def GJ(b:Frame)(T:Av_)(ds:Ld_)(todo:Li_)(ch:List PanicEntry):Frame:={b with tmps:=T,todo:=todo,defers:=ds,mode:= .panicking ch}
def raised(v:Value):List PanicEntry:= [{v,recovered:=false}]
def taken(v:Value):List PanicEntry:= [{v,recovered:=true}]
section
variable {P:Program}(J:Judge P)(Q:Gs_)
def JP(b:Frame)(n:Nat)(L:Env)(ds:Ld_)(cs:Lf_)(ch:List PanicEntry)(s:St):Prop:=
 ∀T,Has n L T->∀todo,J.ok Q (G (GJ b T ds todo ch) cs) s
end
section
variable {P:Program}{J:Judge P}{Q:Gs_}{b bc:Frame}{n:Nat}{L L':Env}{ds dsc:Ld_}{k:Li_}{cs:Lf_}{s:St}{ch:List PanicEntry}{T Tc:Av_}{todoc:Li_}
variable {ops:Ao_}{i:Nat}{rest:List Nat}{d:Option Tmp}{x:Operand}{ty:TypeId}{p:String}{af:Ae_}{g:On_}{v:Value}
theorem JL.panic{t:TypeId}(O:ops[i]? =some ⟨d,.panic x,ty,p,af,g⟩)(U:b.roundOf=none)(hw:AT L ops ⟨d,.panic x,ty,p,af,g⟩=some true)(V:ev L x=some (.iface t v))
  (h:JP J Q b n L ds cs (raised (.iface t v)) s):JL J Q b n L ds (.inRegion ops (i::rest)::k) cs s:=λT K=>
 Judge.Db rfl (λw=>by
  have he:execOp (By T) ⟨d,.panic x,ty,p,af,g⟩= .halt (.panic (.iface t v)):=by
   simp [execOp,Instr.panic,K.ev V,goPanic,bind,Sem.bind]
  rw [stepG_op O (Cb K hw)]
  simp [U,stepG.apply,he,Sem.run,Sem.runT,Sem.events,GStep.after,fr,GJ,Frame.raise,G,raised,seen_none]) (h T K (.inRegion ops (i::rest)::k))
theorem JP.pop{fn:Func}(K:P.funcs[b.fn]? =some fn)(h:J.ok Q (G (GJ bc Tc dsc todoc ch) cs) s):JP J Q b n L [] (fr bc Tc dsc todoc::cs) ch s:=λT O todo=>
 Judge.Db rfl (λw=>by simp [G,stepG,unwind,GJ,fr,Frame.raise,Frame.catches,K]) h
theorem JP.OE{f:FuncId}{fn:Func}{c:Code}{vs caps:Lv_}(ae:b.roundOf=none)(O:P.funcs[f]? =some fn)(V:(fn.name== "runtime.NumGoroutine")=false)(hb:fn.body=some c)(Y:(vs++caps).length<=fn.ntmps)
  (h:∀T,Has n L T->∀todo,JL J Q (baseD f) fn.ntmps (FY 0 (vs++caps)) [] [.code c] (GJ b T ds todo ch::cs) s):JP J Q b n L (Ka f vs.toArray caps.toArray::ds) cs ch s:=λT Z todo=>by
 have aa:¬fn.name= "runtime.NumGoroutine" :=by simpa using V
 refine Judge.Db rfl (λw=>?_) (h T Z todo ((vs++caps).toArray++Array.replicate (fn.ntmps - (vs++caps).length) undef) ⟨by simp;simp at Y;omega,λt v ab=>?_⟩)
 ·rw [BI (b:=baseD f) rfl];have:=enter_atD (P:=P) (vs++caps).toArray O hb;simp only [List.size_toArray] at this;rw [← this];simp [G,stepG,unwind,callDeferred,GJ,Ka,invoke,callFunc,O,aa,hb,GStep.after,seen_none]
 ·obtain⟨_,K⟩:=I6 ab;have ac:t<(vs++caps).length:=by
   rcases Nat.lt_or_ge t (vs++caps).length with U | U
   ·exact U
   ·simp only [Nat.sub_zero] at K;have:=(List.getElem?_eq_some_iff.1 K).1;omega
  rw [Array.getD_eq_getD_getElem?,Array.getElem?_append_left (by simpa using ac)];simp only [Nat.sub_zero] at K;rw [List.getElem?_toArray,K];rfl
theorem TO{ats:Array TypeId}{K:List PanicEntry}(O:ops[i]? =some ⟨d,.call ⟨.builtin .recover,#[],ats⟩,ty,p,af,g⟩)(U:b.roundOf=none)(V:b.kind= .deferred)(aa:Bh n d=true)(hw:AT L ops ⟨d,.call ⟨.builtin .recover,#[],ats⟩,ty,p,af,g⟩=some true)
  (h:JL J Q b n (Ax L d v) ds (.inRegion ops rest::k) (GJ bc Tc dsc todoc ({v,recovered:=true}::K)::cs) s):
  JL J Q b n L ds (.inRegion ops (i::rest)::k) (GJ bc Tc dsc todoc ({v,recovered:=false}::K)::cs) s:=λT Y=>
 Judge.Db rfl (λw=>by
  have he:execOp (By T) ⟨d,.call ⟨.builtin .recover,#[],ats⟩,ty,p,af,g⟩= .pure .recover:=by
   simp [execOp,resolve,Deferred.ofValue,invoke,bind,Sem.bind,pure,Go.builtin]
  have Z:=Gc (b:=b) (ds:=ds) (k:=k) T ops i rest v _ O
  simp only [fr,U,V] at Z
  rw [stepG_op O (Cb Y hw)]
  simp [U,V,stepG.apply,he,Sem.run,Sem.runT,Sem.events,GStep.after,fr,GJ,tryRecover,G,seen_none,Z]) (h _ (Y.put aa _))
theorem TR{ats:Array TypeId}(K:ops[i]? =some ⟨d,.call ⟨.builtin .recover,#[],ats⟩,ty,p,af,g⟩)(O:b.roundOf=none)(U:b.kind= .deferred)(Z:Bh n d=true)(hw:AT L ops ⟨d,.call ⟨.builtin .recover,#[],ats⟩,ty,p,af,g⟩=some true)
  (h:JL J Q b n (Ax L d .nilIface) ds (.inRegion ops rest::k) (Em bc Tc dsc todoc::cs) s):
  JL J Q b n L ds (.inRegion ops (i::rest)::k) (Em bc Tc dsc todoc::cs) s:=λT V=>
 Judge.Db rfl (λw=>by
  have he:execOp (By T) ⟨d,.call ⟨.builtin .recover,#[],ats⟩,ty,p,af,g⟩= .pure .recover:=by
   simp [execOp,resolve,Deferred.ofValue,invoke,bind,Sem.bind,pure,Go.builtin]
  have Y:=Gc (b:=b) (ds:=ds) (k:=k) T ops i rest .nilIface _ K
  simp only [fr,O,U] at Y
  rw [stepG_op K (Cb V hw)]
  simp [O,U,stepG.apply,he,Sem.run,Sem.runT,Sem.events,GStep.after,fr,Em,tryRecover,G,seen_none,Y]) (h _ (V.put Z _))
theorem JO.XN{fn:Func}(O:b.kind= .deferred)(U:P.funcs[b.fn]? =some fn)(K:fn.results= #[])(h:J.ok Q (G (Em bc Tc dsc todoc) cs) s):JO J Q b n L [] (GJ bc Tc dsc todoc (taken v)::cs) s:=λT Y todo=>by
 refine Judge.Db rfl (λw=>?_) h
 have V:=results_none K T P w
 have e2:=λ(x:Array Event)=>events_results_none (P:=P) (w:=w) K T x
 simp [G,stepG,unwind,Em,GJ,U,V,e2,doReturn,O,GStep.after,seen_none,taken]
end
end Pal
namespace Pal
open Go Go.Conc Go.Proofs
abbrev Dq:=Int×Int×Int
abbrev Ay:=List Dq
abbrev AO:=List Ay
abbrev A9:=List (List Int)
abbrev AX:=A9×Ay
abbrev Ar:=rP rI Fc
open Go.Proofs.Tryz
def AS:=AU Tryz.type3
def AW:=AU Tryz.type27
def FK:=AU Tryz.type101
def IE:=AU Tryz.type105
def L3:=AU Tryz.type227
def Bj:=C5 Tryz.underlying3
def K6:=A5 Tryz.func91 rfl
def Ct:=AU Tryz.type22
def C7:=C5 Tryz.underlying22
def Cm:=AU Tryz.type23
def Eo:=C5 Tryz.underlying23
def CO:=C5 Tryz.underlying27
def Bq:=Dw Tryz.type27
def Dj:=AU Tryz.type28
def F9:=C5 Tryz.underlying28
def Km:=Dw Tryz.type105
def A2:=AU Tryz.type25
def Ig:=C5 Tryz.underlying105
def ID:=Dw Tryz.type101
def HH:=Dw Tryz.type77
def Bz:=C5 Tryz.underlying25
def DZ:=AU Tryz.type77
def FU:=C5 Tryz.underlying77
def CY:=Dw Tryz.type3
def Kl:=A5 Tryz.func70 rfl
def NK:=A5 Tryz.func84 rfl
def NL:=A5 Tryz.func87 rfl
def Ga:=A5 Tryz.func74 rfl
def K8:=AU Tryz.type4
def Nz:=C5 Tryz.underlying4
def A3:=AU Tryz.type80
def Bu:=C5 Tryz.underlying80
def Hc:=AU Tryz.type197
def Ha:=A5 Tryz.func85 rfl
def Hb:=Dw Tryz.type28
def K7:=Dw Tryz.type4
def LV:=A5 Tryz.func115 rfl
def Ko:=Dw Tryz.type209
def HG:=A5 Tryz.func204 rfl
def NQ:=Dw Tryz.type80
def LQ:=C5 Tryz.underlying167
def Ny:=C5 Tryz.underlying83
def NJ:=A5 Tryz.func71 rfl
def NG:=A5 Tryz.func205 rfl
def NH:=A5 Tryz.func179 rfl
def LU:=A5 Tryz.func137 rfl
def ND:=A5 Tryz.func140 rfl
def NA:=A5 Tryz.func143 rfl
def NF:=A5 Tryz.func144 rfl
def NC:=A5 Tryz.func142 rfl
def NB:=A5 Tryz.func141 rfl
def Kk:=A5 Tryz.func114 rfl
def JH:=C5 Tryz.underlying197
def NN:=Dw Tryz.type227
def LM:=C5 Tryz.underlying227
def I4:=AU Tryz.type156
def L2:=Dw Tryz.type156
def LR:=C5 Tryz.underlying156
def Dp:=AU Tryz.type21
def GM:=C5 Tryz.underlying21
def L4:=AU Tryz.type85
def Dv:=Dw Tryz.type25
def LZ:=A5 Tryz.func67 rfl
def NI:=A5 Tryz.func110 rfl
def LX:=A5 Tryz.func63 rfl
def K5:=A5 Tryz.func29 rfl
def NM:=A5 Tryz.func26 rfl
def LW:=A5 Tryz.func92 rfl
def I5:=AU Tryz.type72
def LS:=C5 Tryz.underlying72
def Kn:=A5 Tryz.func36 rfl
def NO:=A5 Tryz.func37 rfl
def NP:=A5 Tryz.func40 rfl
def LY:=A5 Tryz.func42 rfl
def I3:=A5 Tryz.func30 rfl
theorem mixed:Tryz.prog.follows .mixedOrders=true:=rfl
theorem YN:B9 Tryz.prog 27 (rP rI (rP rI rI)) true 2:=B9.three underlying27 (B9.int underlying3 AS) (B9.int underlying3 AS) (B9.int underlying3 AS) (by decide+kernel) (by decide) (by decide) (by decide) rfl rfl rfl AW
theorem W7:B9 Tryz.prog 101 (rP rI rI) true 2:=B9.two underlying101 (B9.int underlying3 AS) (B9.int underlying3 AS) (by decide+kernel) (by decide) (by decide) rfl rfl FK
theorem Ya:B9 Tryz.prog 105 (rA 5 rI) true 2:=B9.arr (kk:=5) (B9.int underlying3 AS) underlying105 IE
theorem Ye:B9 Tryz.prog 225 (rA 10 rI) true 2:=B9.arr (kk:=10) (B9.int underlying3 AS) underlying225 (AU type225)
theorem Sd:B9 Tryz.prog 227 (rA 5 (rA 10 rI)) true 3:=B9.arr (kk:=5) Ye underlying227 L3
theorem W6:B9 Tryz.prog 249 (rP (rN .u8) (rA 5 (rA 10 rI))) true 4:=B9.two underlying249 ((B9.nat underlying5 (AU type5)).up (by decide)) Sd (by decide+kernel) (by decide) (by decide) rfl rfl (AU type249)
theorem Iu:Gk Tryz.prog 3 rI false:=(B9.int underlying3 AS).key (by decide)
theorem OH:Gk Tryz.prog 101 (rP rI rI) true:=W7.key (by decide)
theorem SF:Gk Tryz.prog 227 (rA 5 (rA 10 rI)) true:=Sd.key (by decide)
theorem Sz:Gk Tryz.prog 249 (rP (rN .u8) (rA 5 (rA 10 rI))) true:=W6.key (by decide)
end Pal
namespace Pal
open Go Go.Conc Go.Proofs
open Go.Proofs.Tryz
variable {J:Judge Tryz.prog}{E:LH}
def f91(fu_:Nat)(p0:Int)(K:Int)(p2:Int):Option Bool:= Option.bind (if K<=p0 then(some (decide (p0<=p2))) else(some false)) λO=> some O
theorem Lu{p0:Int}{K:Int}{p2:Int}{fu_:Nat}{r:Bool}(O:f91 fu_ p0 K p2=some r):AP J 91 [iV p0,iV K,iV p2] E [] (λw E' B'=>w= .bool r/\B'= []):=by
 refine Bl func91 λQ aj cs H U Y=>?_;unfold f91 at O;obtain⟨Z,aa,ab⟩:=bs O;refine zg 10 rfl (Fh 8 1 [] [(14,.bool Z)] (λak ac ae=>?_) (λV=>?_))
 ·refine zg 2 rfl ?_;obtain rfl:=oi ab;exact A6 func91 rfl rfl (Y ac rfl ⟨rfl,rfl⟩ ae)
 ·refine IV 10 aa (λag ah=>?_) (λag ai=>?_)
  ·refine zg 4 rfl ?_;obtain rfl:=oi ah;exact V Az U rfl
  ·refine zg 4 rfl ?_;obtain rfl:=oi ai;exact V Az U rfl
def f86(fu_:Nat)(p0:Int×Int×Int)(K:Int)(p2:Int):Option Int:= (Au (K - 1)).bind λO=> (f91 fu_ p0.1 0 O).bind λU=> Option.bind (if(!U)=true then(some true) else((Au (K - 1)).bind λV=> (f91 fu_ p0.2.1 0 V).bind λY=> some (!Y))) λZ=> if Z=true then(some 3) else(if p0.1=p0.2.1 then(some 8) else((f91 fu_ p0.2.2 1 p2).bind λaa=> if(!aa)=true then(some 1) else(some 0)))
theorem SY{p0:Int×Int×Int}{aa:Int}{p2:Int}{fu_:Nat}{r:Int}(ab:f86 fu_ p0 aa p2=some r):AP J 86 [.agg #[iV p0.1,iV p0.2.1,iV p0.2.2],iV aa,iV p2] E [] (λw E' B'=>w=iV r/\B'= []):=by
 refine Bl func86 λQ aR cs H ai V=>?_;unfold f86 at ab;refine zg 2 rfl (Dc ai λr2 aS Y U aj=>?_);refine zg 6 rfl (BJ 0 U underlying27 AS Bj ?_);obtain⟨aT,ak,al⟩:=bs ab;refine zg 1 rfl (BF ak rfl rfl rfl ?_);obtain⟨am,an,ao⟩:=bs al;refine Cd (Lu an) rfl rfl K6 aj λaU K ac=>Al (v:= .bool (!am)) rfl (λρ h=>Yl.not (h _ _ rfl)) ?_;obtain⟨ap,aq,ar⟩:=bs ao;refine zg 1 rfl (Fh 14 1 [] [(2,iV p2),(3,Ai r2 0),(21,.bool ap)] (λaV O Z=>?_) (λae=>?_))
 ·refine zg 2 rfl (B6 ar (λau av=>?_) (λau aw=>?_))
  ·refine zg 4 rfl ?_;obtain rfl:=oi av;exact A6 func86 rfl rfl (V ((Y.Ac K).Ac O) rfl ⟨rfl,rfl⟩ Z)
  ·refine zg 2 rfl (BJ 0 (U.Ag (K.Ac O)) underlying27 AS Bj ?_);refine BJ 1 (U.Ag (K.Ac O)) underlying27 AS Bj ?_;refine zg 3 rfl (A4 aw (λay az=>?_) (λay aA=>?_))
   ·refine zg 4 rfl ?_;obtain rfl:=oi az;exact A6 func86 rfl rfl (V ((Y.Ac K).Ac O) rfl ⟨rfl,rfl⟩ Z)
   ·refine zg 2 rfl (BJ 2 (U.Ag (K.Ac O)) underlying27 AS Bj ?_);obtain⟨aB,aC,aD⟩:=bs aA;refine zg 1 rfl (Cd (Lu aC) rfl rfl K6 Z λaW ag ah=>?_);refine Al (v:= .bool (!aB)) rfl (λρ h=>Yl.not (h _ _ rfl)) (zg 2 rfl ?_);refine B6 aD (λaE aF=>?_) (λaE aG=>?_)
    ·refine zg 4 rfl ?_;obtain rfl:=oi aF;exact A6 func86 rfl rfl (V (((Y.Ac K).Ac O).Ac ag) rfl ⟨rfl,rfl⟩ ah)
    ·refine zg 6 rfl ?_;obtain rfl:=oi aG;exact A6 func86 rfl rfl (V (((Y.Ac K).Ac O).Ac ag) rfl ⟨rfl,rfl⟩ ah)
 ·refine ER 14 aq (λaH aI=>?_) (λaH aJ=>?_)
  ·refine zg 7 rfl ?_;obtain rfl:=oi aI;exact ae Az ac rfl
  ·refine BJ 1 (U.Ag K) underlying27 AS Bj ?_;obtain⟨aX,aK,aL⟩:=bs aJ;refine zg 1 rfl (BF aK rfl rfl rfl ?_);obtain⟨aM,aN,aO⟩:=bs aL;refine Cd (Lu aN) rfl rfl K6 ac λaY aP aQ=>Al (v:= .bool (!aM)) rfl (λρ h=>Yl.not (h _ _ rfl)) (zg 1 rfl ?_);obtain rfl:=oi aO;exact ae aP aQ rfl
def MZ(fu_:Nat)(O:List Int)(K:Int):Option (Bn Int ((Int)⊕(Unit))):= if K<(O.length:Int) then((ix O K).bind λU=> (f91 fu_ U 1 9).bind λV=> if(!V)=true then(some (.done (Sum.inl 1))) else((Au (K+1)).bind λY=> some (.more Y))) else(some (.done (Sum.inr ())))
def MK(fu_:Nat)(p0:AX)(K:Int):Option (Bn Int ((Int)⊕(Unit))):= if K<(p0.1.length:Int) then((ix p0.1 K).bind λO=> if 3<(O.length:Int) then(some (.done (Sum.inl 6))) else(Option.bind (iter (MZ fu_ O) fu_ 0) λU=> Sum.elim (λr=>some (.done (Sum.inl r))) (λY=> (Au (K+1)).bind λV=> some (.more V)) U)) else(some (.done (Sum.inr ())))
def SC(fu_:Nat)(p0:AX)(K:Int):Option (Bn Int ((Int)⊕(Unit))):= if K<(p0.2.length:Int) then((ix p0.2 K).bind λU=> (f86 fu_ U (p0.1.length:Int) 9).bind λO=> if O≠0 then(some (.done (Sum.inl O))) else((Au (K+1)).bind λV=> some (.more V))) else(some (.done (Sum.inr ())))
def f47(fu_:Nat)(p0:AX):Option Int:= if(p0.1.length:Int)<2 then(some 7) else(if 5<(p0.1.length:Int) then(some 6) else(Option.bind (iter (MK fu_ p0) fu_ 0) λK=> Sum.elim (λr=>some r) (λU=> if 8<(p0.2.length:Int) then(some 6) else(Option.bind (iter (SC fu_ p0) fu_ 0) λO=> Sum.elim (λr=>some r) (λV=> some 0) O)) K))
theorem SW{a1:Aw}{c2:Nat}{ai:Aw}{aj:Nat}{p0:AX}(aU:Am (rL rI) E a1 c2 p0.1)(aV:Am Ar E ai aj p0.2){fu_:Nat}{r:Int}(au:f47 fu_ p0=some r):AP J 47 [.agg #[sV a1 p0.1 c2,sV ai p0.2 aj]] E [] (λw E' B'=>w=iV r/\B'= []):=by
 refine Bl func47 λQ ct cs H aW O=>?_;unfold f47 at au;refine zg 2 rfl (Dc aW λV aX K Y ak=>?_);refine zg 5 rfl (BJ 0 Y underlying25 Ct C7 ?_);refine JL.ln underlying22 rfl rfl rfl (zg 9 rfl ?_);refine A4 au (λaY aZ=>?_) (λaY a0=>?_)
 ·refine zg 4 rfl ?_;obtain rfl:=oi aZ;exact A6 func47 rfl rfl (O K rfl ⟨rfl,rfl⟩ ak)
 ·refine zg 6 rfl (A4 a0 (λa2 a3=>?_) (λa2 a4=>?_))
  ·refine zg 4 rfl ?_;obtain rfl:=oi a3;exact A6 func47 rfl rfl (O K rfl ⟨rfl,rfl⟩ ak)
  ·refine zg 5 rfl (BJ 0 Y underlying25 Ct C7 ?_);refine JL.ln underlying22 rfl rfl rfl ?_;obtain⟨av,a5,al⟩:=bs a4;refine zg 2 rfl (Bg (λL s=>∃(aw:Unit) (am:LH),av=Sum.inr aw/\Jm aX H am [] [(1,Ai V 0)] L s) ?_ ?_)
   ·rintro _ _ ⟨aw,am,rfl,rfl,rfl,U,ay⟩;have a6:=elim_inr al;refine zg 3 rfl (BJ 1 (Y.Ag U) underlying25 Cm Eo ?_);refine JL.ln underlying23 rfl rfl rfl (zg 2 rfl ?_);refine A4 a6 (λa7 a8=>?_) (λa7 a9=>?_)
    ·refine zg 4 rfl ?_;obtain rfl:=oi a8;exact A6 func47 rfl rfl (O (K.Ac U) rfl ⟨rfl,rfl⟩ ay)
    ·refine zg 4 rfl (BJ 1 (Y.Ag U) underlying25 Cm Eo ?_);refine JL.ln underlying23 rfl rfl rfl ?_;obtain⟨az,ba,aA⟩:=bs a9;refine zg 2 rfl (Bg (λL s=>∃(aB:Unit) (aC:LH),az=Sum.inr aB/\Jm am H aC [] [] L s) ?_ ?_)
     ·rintro _ _ ⟨aB,aC,rfl,rfl,rfl,bb,bd⟩;have be:=elim_inr aA;refine zg 4 rfl ?_;obtain rfl:=oi be;exact A6 func47 rfl rfl (O ((K.Ac U).Ac bb) rfl ⟨rfl,rfl⟩ bd)
     ·intro bf;refine JL.block (Ds ba (λan=> []) (λan=> [(1,Ai V 0),(46,sV ai p0.2 aj),(47,iV (p0.2.length:Int)),(48,iV an)]) Az ay ?_);rintro an bg Z aD aE ⟨cu,ae⟩ bh;have aF:=ae;unfold SC at aF;refine zg 5 rfl (A4 aF (λbi bj=>?_) (λbi bl=>?_))
      ·obtain⟨cv,bm,bn⟩:=bs bj;refine zg 5 rfl (Es (aV.Ag ((K.Ac U).Ac Z)) bm underlying23 AW ?_);rintro cw cy _ ⟨_,_,rfl,rfl,⟨_,_,rfl,rfl,rfl⟩⟩ bo;refine Cw bo CO AW rfl rfl (Cx aD Bq λcz bp=>?_);refine Bv 0 bp AW λbq=>?_;refine Cf 0 bq rfl λcA ao br bu=>zg 3 rfl (Cw br CO AW rfl rfl ?_);refine BJ 0 (Y.Ag ((U.Ac Z).Ac ao)) underlying25 Ct C7 ?_;refine JL.ln underlying22 rfl rfl rfl ?_;obtain⟨cB,bv,bw⟩:=bs bn;refine Cd (SY bv) rfl rfl (A5 func86 rfl) bu λcC aG aH=>zg 7 rfl (A4 bw (λbx bz=>?_) (λbx bA=>?_))
       ·refine zg 5 rfl ?_;obtain rfl:=oi bz;obtain rfl:=aE _ ae;have bB:=elim_inl aA;obtain rfl:=oi bB;exact A6 func47 rfl rfl (O ((((K.Ac U).Ac Z).Ac ao).Ac aG) rfl ⟨rfl,rfl⟩ aH)
       ·obtain⟨bC,bD,bE⟩:=bs bA;refine zg 3 rfl (Bs bD rfl rfl rfl ?_);refine zg 2 rfl ?_;obtain rfl:=oi bE;exact bh bC ((Z.Ac ao).Ac aG) aH rfl ae
      ·refine JL.exit rfl ?_;obtain rfl:=oi bl;have bF:az=(Sum.inr ()):=(aE _ ae).symm;exact AB (bf _ _ ⟨(),bg,bF,rfl,rfl,Z,aD⟩) rfl
   ·intro bG;refine JL.block (Ds a5 (λaa=> []) (λaa=> [(1,Ai V 0),(21,sV a1 p0.1 c2),(22,iV (p0.1.length:Int)),(23,iV aa)]) Az ak ?_);rintro aa aI ab ap aq ⟨cD,ac⟩ bH;have aJ:=ac;unfold MK at aJ;refine zg 5 rfl (A4 aJ (λbI bJ=>?_) (λbI bK=>?_))
    ·obtain⟨aK,bL,bM⟩:=bs bJ;refine zg 5 rfl (Es (aU.Ag (K.Ac ab)) bL underlying22 Dj ?_);rintro cE cF _ ⟨bN,bO,rfl,bP⟩ bQ;refine EL 0 bQ F9 rfl rfl rfl (zg 6 rfl ?_);refine JL.ln underlying28 rfl rfl rfl (zg 2 rfl ?_);refine A4 bM (λbR bS=>?_) (λbR bT=>?_)
     ·refine zg 4 rfl ?_;obtain rfl:=oi bS;obtain rfl:=aq _ ac;have bU:=elim_inl al;obtain rfl:=oi bU;exact A6 func47 rfl rfl (O (K.Ac ab) rfl ⟨rfl,rfl⟩ ap)
     ·refine zg 4 rfl (JL.ln underlying28 rfl rfl rfl ?_);obtain⟨aL,bV,aM⟩:=bs bT;refine zg 2 rfl (Bg (λL s=>∃(aN:Unit) (aO:LH),aL=Sum.inr aN/\Jm aI H aO [] [(1,Ai V 0),(21,sV a1 p0.1 c2),(22,iV (p0.1.length:Int)),(23,iV aa)] L s) ?_ ?_)
      ·rintro _ _ ⟨aN,aO,rfl,rfl,rfl,bW,bY⟩;have bZ:=elim_inr aM;obtain⟨b0,b1,b2⟩:=bs bZ;refine zg 2 rfl (Bs b1 rfl rfl rfl ?_);refine zg 2 rfl ?_;obtain rfl:=oi b2;exact bH b0 (ab.Ac bW) bY rfl ac
      ·intro b3;refine JL.block (Ds bV (λar=> []) (λar=> [(1,Ai V 0),(21,sV a1 p0.1 c2),(22,iV (p0.1.length:Int)),(23,iV aa),(30,sV bN aK bO),(31,iV (aK.length:Int)),(32,iV ar)]) Az ap ?_);rintro ar b4 ag aP aQ ⟨cG,ah⟩ b5;have aR:=ah;unfold MZ at aR;refine zg 5 rfl (A4 aR (λb6 b7=>?_) (λb6 b8=>?_))
       ·obtain⟨cH,b9,ca⟩:=bs b7;refine zg 5 rfl (Es (bP.Ag ag) b9 underlying28 AS ?_);rintro cI cJ _ rfl cb;refine EL 0 cb Bj rfl rfl rfl ?_;obtain⟨cc,cd,ce⟩:=bs ca;refine zg 5 rfl (Cd (Lu cd) rfl rfl K6 aP λcK aS aT=>?_);refine Al (v:= .bool (!cc)) rfl (λρ h=>Yl.not (h _ _ rfl)) (JL.done ?_);refine B6 ce (λcf cg=>?_) (λcf ci=>?_)
        ·refine zg 4 rfl ?_;obtain rfl:=oi cg;obtain rfl:=aQ _ ah;have ck:=elim_inl aM;obtain rfl:=oi ck;obtain rfl:=aq _ ac;have cm:=elim_inl al;obtain rfl:=oi cm;exact A6 func47 rfl rfl (O (((K.Ac ab).Ac ag).Ac aS) rfl ⟨rfl,rfl⟩ aT)
        ·obtain⟨cn,co,cp⟩:=bs ci;refine zg 3 rfl (Bs co rfl rfl rfl ?_);refine zg 2 rfl ?_;obtain rfl:=oi cp;exact b5 cn (ag.Ac aS) aT rfl ah
       ·refine JL.exit rfl ?_;obtain rfl:=oi b8;have cq:aL=(Sum.inr ()):=(aQ _ ah).symm;exact AB (b3 _ _ ⟨(),b4,cq,rfl,rfl,ag,aP⟩) rfl
    ·refine JL.exit rfl ?_;obtain rfl:=oi bK;have cr:av=(Sum.inr ()):=(aq _ ac).symm;exact AB (bG _ _ ⟨(),aI,cr,rfl,rfl,ab,ap⟩) rfl
def SH(fu_:Nat)(p0:AX)(O:(List Int)×Int):Option (Bn ((List Int)×Int) ((List Int))):= if O.2<(p0.2.length:Int) then((ix p0.2 O.2).bind λK=> (ix O.1 K.2.1).bind λV=> (Au (V+K.2.2)).bind λU=> (ix O.1 K.2.1).bind λab=> (ix (O.1.set (Int.toNat K.2.1) U) K.1).bind λY=> (Au (Y - K.2.2)).bind λZ=> (ix (O.1.set (Int.toNat K.2.1) U) K.1).bind λac=> (Au (O.2+1)).bind λaa=> some (.more (((O.1.set (Int.toNat K.2.1) U).set (Int.toNat K.1) Z),aa))) else(some (.done O.1))
def f84(fu_:Nat)(p0:AX):Option ((List Int)):= Option.bind (iter (SH fu_ p0) fu_ ((List.replicate 5 (0:Int)),0)) λK=> some K
theorem Pd{a1:Aw}{c2:Nat}{au:Aw}{av:Nat}{p0:AX}(bA:Am (rL rI) E a1 c2 p0.1)(aP:Am Ar E au av p0.2){fu_:Nat}{r:(List Int)}(aD:f84 fu_ p0=some r):AP J 84 [.agg #[sV a1 p0.1 c2,sV au p0.2 av]] E [] (λw E' B'=>∃(aE:Lv_),w= .agg aE.toArray/\B'= []/\(rA 5 rI).r E' aE r):=by
 refine Bl func84 λQ bB cs H aQ aR=>?_;unfold f84 at aD;refine zg 2 rfl (Dc aQ λbC am aF aS aT=>?_);refine Cx aT Km λan aU=>?_;refine zg 3 rfl (Cx aU Km λU aV=>?_);refine zg 4 rfl (JL.fd underlying77 A2 rfl rfl rfl ?_);refine BJ 1 aS underlying25 Cm Eo ?_;refine JL.ln underlying23 rfl rfl rfl ?_;obtain⟨aW,aX,aY⟩:=bs aD;refine zg 2 rfl (Bg (λL s=>∃(ai:LH) (V:Lv_),Jn am H ai [bX an (([]:Lv_)++(List.replicate 5 (iV 0):Lv_)).toArray 105,bX U (([]:Lv_)++V).toArray 105] [(2,Ai an 0),(3,Ai U 0)] L s ((rA 5 rI).r ai V aW)) ?_ ?_)
 ·rintro _ _ ⟨ai,V,rfl,rfl,aZ,aG,Z⟩;refine zg 2 rfl (Al (v:= .agg V.toArray) rfl (λρ h=>HM (kk:=5) (pp:=rI) Z Ig IE (h _ _ rfl) (Gt (l:= []) 1 aG rfl)) ?_);refine Hf (v:= .agg V.toArray) (l:= []) (ws:=(List.replicate 5 (iV 0):Lv_)) (us:=V) (o:=0) 0 rfl rfl rfl aG rfl rfl rfl (by rw [Cj (kk:=5) (pp:=rI) Z];exact AU type105) ((rA 5 rI).one Z) rfl (by rw [Cj (kk:=5) (pp:=rI) Z,Cj (kk:=5) (pp:=rI) (GA (E:=ai) (pp:=rI) rfl)];omega) λaH=>?_;rw [Jb (by rw [Cj (kk:=5) (pp:=rI) Z,Cj (kk:=5) (pp:=rI) (GA (E:=ai) (pp:=rI) rfl)])] at aH ⊢;refine JL.done (JS.drop 1 aH rfl λaI=>?_);obtain rfl:=oi aY;refine JL.ret (v:= .agg V.toArray) rfl rfl (Bd.list func84 rfl (vs:= [.agg V.toArray]) ⟨⟨_,rfl,Ld.many (vs:=V) Ig (by rw [Cj (kk:=5) (pp:=rI) Z];exact AU type105) (Gt (l:= []) 0 aI rfl)⟩,trivial⟩) (Cq 0 aI rfl λa0=>?_);exact aR (aF.Ac aZ) rfl ⟨V,rfl,rfl,Z⟩ a0
 ·intro a2;refine JL.block (De aX (λL s ab=>∃(ao:LH) (ac:Lv_),Jn am H ao [bX an (([]:Lv_)++(List.replicate 5 (iV 0):Lv_)).toArray 105,bX U (([]:Lv_)++ac).toArray 105] [(2,Ai an 0),(3,Ai U 0),(8,sV au p0.2 av),(9,iV (p0.2.length:Int)),(10,iV ab.2)] L s ((rA 5 rI).r ao ac ab.1)) ⟨am,(List.replicate 5 (iV 0):Lv_),rfl,rfl,Az,aV,(GA (E:=am) (pp:=rI) rfl)⟩ ?_);rintro _ _ ab ⟨ao,ac,rfl,rfl,aw,aJ,ae⟩ a3 ⟨bD,ay⟩ a4;have aK:=ay;unfold SH at aK;refine zg 5 rfl (A4 aK (λa5 a6=>?_) (λa5 a7=>?_))
  ·obtain⟨K,a8,a9⟩:=bs a6;refine zg 5 rfl (Es (aP.Ag (aF.Ac aw)) a8 underlying23 AW ?_);rintro bE bF _ ⟨_,_,rfl,rfl,⟨_,_,rfl,rfl,rfl⟩⟩ ba;refine Cw ba CO AW rfl rfl (Cx aJ Bq λbG bb=>?_);refine Bv 2 bb AW λbd=>?_;refine Cf 2 bd rfl λaz ag ap aj=>zg 2 rfl (EC 6 [U] ⟨⟨1,_,rfl⟩,trivial⟩ aj λO=>?_);refine JG.fd 0 O underlying27 AS rfl rfl rfl rfl (JG.lp 1 O 1 ap aj ⟨⟨1,_,rfl⟩,trivial⟩ Bj ?_);obtain⟨be,aL,bf⟩:=bs a9;obtain⟨_,rfl,_,_,bg⟩:=Hh (kk:=5) (pp:=rI) (Rp.Ag _ ag ae) aL;refine AH (v:= .pointer (some ⟨U,0+Int.toNat (K.2.1)*1,none⟩)) 2 O rfl rfl (λρ h s' ak=>IK (kk:=5) (pp:=rI) (Rp.Ag _ ag ae) aL underlying105 AS (h _ _ rfl) (h _ _ rfl)) (AH (v:=iV be) 3 O rfl rfl (λρ h s' ak=>Yl.load Bj (h _ _ rfl) (Mj (l:= []) 1 aj rfl (by simp [AY]) ak (bg 0 _ rfl))) ?_);refine JG.fd 4 O underlying27 AS rfl rfl rfl rfl (JG.lp 5 O 2 ap aj ⟨⟨1,_,rfl⟩,trivial⟩ Bj ?_);refine Cv [6,7,8] ?_;obtain⟨Y,bh,bi⟩:=bs bf;refine Bs bh rfl rfl rfl ?_;obtain⟨bH,aA,bj⟩:=bs bi;obtain⟨_,rfl,_,_,bI⟩:=Hh (kk:=5) (pp:=rI) (Rp.Ag _ ag ae) aA;refine Al (v:= .pointer (some ⟨U,0+Int.toNat (K.2.1)*1,none⟩)) rfl (λρ h=>IK (kk:=5) (pp:=rI) (Rp.Ag _ ag ae) aA underlying105 AS (h _ _ rfl) (h _ _ rfl)) ?_;have aq:=M0 (us:= [iV Y]) (y:=Y) (Rp.Ag _ ag ae) aA rfl;refine Hf (v:=iV Y) (l:= []) (ws:=ac) (us:= [iV Y]) (o:=Int.toNat (K.2.1)*1) 1 rfl rfl rfl aj rfl rfl rfl AS (by simp [Value.cells,BT]) rfl aq.2 λah=>?_;replace aq:=aq.1;generalize bl:H3 ac (Int.toNat (K.2.1)*1) [iV Y]=aB at ah ⊢;have al:(rA 5 rI).r az aB (ab.1.set (Int.toNat K.2.1) Y):=by rw [← bl];exact aq
   refine JL.done (EC 6 [U] ⟨⟨1,_,rfl⟩,trivial⟩ ah λO=>?_);refine JG.fd 0 O underlying27 AS rfl rfl rfl rfl (JG.lp 1 O 0 ap ah ⟨⟨1,_,rfl⟩,trivial⟩ Bj ?_);obtain⟨bm,aM,bn⟩:=bs bj;obtain⟨_,rfl,_,_,bo⟩:=Hh (kk:=5) (pp:=rI) al aM;refine AH (v:= .pointer (some ⟨U,0+Int.toNat (K.1)*1,none⟩)) 2 O rfl rfl (λρ h s' ak=>IK (kk:=5) (pp:=rI) al aM underlying105 AS (h _ _ rfl) (h _ _ rfl)) (AH (v:=iV bm) 3 O rfl rfl (λρ h s' ak=>Yl.load Bj (h _ _ rfl) (Mj (l:= []) 1 ah rfl (by simp [AY]) ak (bo 0 _ rfl))) ?_);refine JG.fd 4 O underlying27 AS rfl rfl rfl rfl (JG.lp 5 O 2 ap ah ⟨⟨1,_,rfl⟩,trivial⟩ Bj ?_);refine Cv [6,7,8] ?_;obtain⟨aa,bp,bq⟩:=bs bn;refine BF bp rfl rfl rfl ?_;obtain⟨bJ,aC,br⟩:=bs bq;obtain⟨_,rfl,_,_,bK⟩:=Hh (kk:=5) (pp:=rI) al aC;refine Al (v:= .pointer (some ⟨U,0+Int.toNat (K.1)*1,none⟩)) rfl (λρ h=>IK (kk:=5) (pp:=rI) al aC underlying105 AS (h _ _ rfl) (h _ _ rfl)) ?_;have ar:=M0 (us:= [iV aa]) (y:=aa) al aC rfl;refine Hf (v:=iV aa) (l:= []) (ws:=aB) (us:= [iV aa]) (o:=Int.toNat (K.1)*1) 1 rfl rfl rfl ah rfl rfl rfl AS (by simp [Value.cells,BT]) rfl ar.2 λaN=>?_;replace ar:=ar.1;generalize bu:H3 aB (Int.toNat (K.1)*1) [iV aa]=aO at aN ⊢;have bv:(rA 5 rI).r az aO ((ab.1.set (Int.toNat K.2.1) Y).set (Int.toNat K.1) aa):=by rw [← bu];exact ar
   obtain⟨bw,bx,bz⟩:=bs br;refine zg 3 rfl (Bs bx rfl rfl rfl ?_);refine zg 2 rfl ?_;obtain rfl:=oi bz;exact AB (a4 _ _ (((ab.1.set (Int.toNat K.2.1) Y).set (Int.toNat K.1) aa),bw) ⟨az,aO,rfl,rfl,(aw.Ac ag),aN,bv⟩ ay) rfl
  ·refine JL.exit rfl ?_;obtain rfl:=oi a7;obtain rfl:=a3 _ ay;exact AB (a2 _ _ ⟨ao,ac,rfl,rfl,aw,aJ,ae⟩) rfl
def f204(fu_:Nat)(p0:List Int)(K:Int×Int×Int):Option ((List Int)):= (ix p0 K.1).bind λU=> (Au (U+K.2.2)).bind λO=> (ix p0 K.1).bind λZ=> (ix (p0.set (Int.toNat K.1) O) K.2.1).bind λV=> (Au (V - K.2.2)).bind λY=> (ix (p0.set (Int.toNat K.1) O) K.2.1).bind λaa=> some ((p0.set (Int.toNat K.1) O).set (Int.toNat K.2.1) Y)
theorem HS{w1:Lv_}{p0:List Int}{K:Int×Int×Int}(ac:(rA 5 rI).r E w1 p0){fu_:Nat}{r:(List Int)}(aq:f204 fu_ p0 K=some r):AP J 204 [.agg w1.toArray,.agg #[iV K.1,iV K.2.1,iV K.2.2]] E [] (λw E' B'=>∃(ar:Lv_),w= .agg ar.toArray/\B'= []/\(rA 5 rI).r E' ar r):=by
 refine Bl func204 λQ aS cs H az aA=>?_;unfold f204 at aq;refine zg 2 rfl (JS.box (v:= .agg w1.toArray) rfl rfl rfl az rfl λr3 aB=>?_);refine Dc aB λaT ai Z aj aC=>?_;refine Cx aC Km λaU ae=>?_;refine zg 2 rfl (EC 6 [r3] ⟨⟨1,_,rfl⟩,trivial⟩ ae λO=>?_);refine JG.fd 0 O underlying27 AS rfl rfl rfl rfl (JG.lp 1 O 0 aj ae ⟨⟨1,_,rfl⟩,trivial⟩ Bj ?_);obtain⟨aD,au,aE⟩:=bs aq;obtain⟨_,rfl,_,_,aF⟩:=Hh (kk:=5) (pp:=rI) (Rp.Ag _ Z ac) au;refine AH (v:= .pointer (some ⟨r3,0+Int.toNat (K.1)*1,none⟩)) 2 O rfl rfl (λρ h s' ag=>IK (kk:=5) (pp:=rI) (Rp.Ag _ Z ac) au underlying105 AS (h _ _ rfl) (h _ _ rfl)) (AH (v:=iV aD) 3 O rfl rfl (λρ h s' ag=>Yl.load Bj (h _ _ rfl) (Mj (l:= []) 1 ae rfl (by simp [AY]) ag (aF 0 _ rfl))) ?_);refine JG.fd 4 O underlying27 AS rfl rfl rfl rfl (JG.lp 5 O 2 aj ae ⟨⟨1,_,rfl⟩,trivial⟩ Bj ?_);refine Cv [6,7,8] ?_;obtain⟨V,aG,aH⟩:=bs aE;refine Bs aG rfl rfl rfl ?_;obtain⟨aV,am,aI⟩:=bs aH;obtain⟨_,rfl,_,_,aW⟩:=Hh (kk:=5) (pp:=rI) (Rp.Ag _ Z ac) am;refine Al (v:= .pointer (some ⟨r3,0+Int.toNat (K.1)*1,none⟩)) rfl (λρ h=>IK (kk:=5) (pp:=rI) (Rp.Ag _ Z ac) am underlying105 AS (h _ _ rfl) (h _ _ rfl)) ?_;have ak:=M0 (us:= [iV V]) (y:=V) (Rp.Ag _ Z ac) am rfl;refine Hf (v:=iV V) (l:= []) (ws:=w1) (us:= [iV V]) (o:=Int.toNat (K.1)*1) 1 rfl rfl rfl ae rfl rfl rfl AS (by simp [Value.cells,BT]) rfl ak.2 λaa=>?_;replace ak:=ak.1;generalize aJ:H3 w1 (Int.toNat (K.1)*1) [iV V]=an at aa ⊢;have ah:(rA 5 rI).r ai an (p0.set (Int.toNat K.1) V):=by rw [← aJ];exact ak
 refine zg 2 rfl (EC 6 [r3] ⟨⟨1,_,rfl⟩,trivial⟩ aa λO=>?_);refine JG.fd 0 O underlying27 AS rfl rfl rfl rfl (JG.lp 1 O 1 aj aa ⟨⟨1,_,rfl⟩,trivial⟩ Bj ?_);obtain⟨aK,av,aL⟩:=bs aI;obtain⟨_,rfl,_,_,aM⟩:=Hh (kk:=5) (pp:=rI) ah av;refine AH (v:= .pointer (some ⟨r3,0+Int.toNat (K.2.1)*1,none⟩)) 2 O rfl rfl (λρ h s' ag=>IK (kk:=5) (pp:=rI) ah av underlying105 AS (h _ _ rfl) (h _ _ rfl)) (AH (v:=iV aK) 3 O rfl rfl (λρ h s' ag=>Yl.load Bj (h _ _ rfl) (Mj (l:= []) 1 aa rfl (by simp [AY]) ag (aM 0 _ rfl))) ?_);refine JG.fd 4 O underlying27 AS rfl rfl rfl rfl (JG.lp 5 O 2 aj aa ⟨⟨1,_,rfl⟩,trivial⟩ Bj ?_);refine Cv [6,7,8] ?_;obtain⟨ab,aN,aO⟩:=bs aL;refine BF aN rfl rfl rfl ?_;obtain⟨aX,ao,aP⟩:=bs aO;obtain⟨_,rfl,_,_,aY⟩:=Hh (kk:=5) (pp:=rI) ah ao;refine Al (v:= .pointer (some ⟨r3,0+Int.toNat (K.2.1)*1,none⟩)) rfl (λρ h=>IK (kk:=5) (pp:=rI) ah ao underlying105 AS (h _ _ rfl) (h _ _ rfl)) ?_;have al:=M0 (us:= [iV ab]) (y:=ab) ah ao rfl;refine Hf (v:=iV ab) (l:= []) (ws:=an) (us:= [iV ab]) (o:=Int.toNat (K.2.1)*1) 1 rfl rfl rfl aa rfl rfl rfl AS (by simp [Value.cells,BT]) rfl al.2 λap=>?_;replace al:=al.1;generalize aQ:H3 an (Int.toNat (K.2.1)*1) [iV ab]=U at ap ⊢;have Y:(rA 5 rI).r ai U ((p0.set (Int.toNat K.1) V).set (Int.toNat K.2.1) ab):=by rw [← aQ];exact al
 refine zg 3 rfl (Al (v:= .agg U.toArray) rfl (λρ h=>HM (kk:=5) (pp:=rI) Y Ig IE (h _ _ rfl) (Gt (l:= []) 1 ap rfl)) ?_);refine Hf (v:= .agg U.toArray) (l:= []) (ws:=(List.replicate 5 (iV 0):Lv_)) (us:=U) (o:=0) 3 rfl rfl rfl ap rfl rfl rfl (by rw [Cj (kk:=5) (pp:=rI) Y];exact AU type105) ((rA 5 rI).one Y) rfl (by rw [Cj (kk:=5) (pp:=rI) Y,Cj (kk:=5) (pp:=rI) (GA (E:=ai) (pp:=rI) rfl)];omega) λaw=>?_;rw [Jb (by rw [Cj (kk:=5) (pp:=rI) Y,Cj (kk:=5) (pp:=rI) (GA (E:=ai) (pp:=rI) rfl)])] at aw ⊢;refine JL.done (JS.drop 1 aw rfl λay=>?_);obtain rfl:=oi aP;refine JL.ret (v:= .agg U.toArray) rfl rfl (Bd.list func204 rfl (vs:= [.agg U.toArray]) ⟨⟨_,rfl,Ld.many (vs:=U) Ig (by rw [Cj (kk:=5) (pp:=rI) Y];exact AU type105) (Gt (l:= []) 3 ay rfl)⟩,trivial⟩) (Cq 3 ay rfl λaR=>?_);exact aA Z rfl ⟨U,rfl,rfl,Y⟩ aR
def f106(fu_:Nat)(p0:Int)(K:Int):Option Nat:= (Au (max p0 K - 1)).bind λO=> (ix ([1,2,4,8]:List Nat) O).bind λU=> (Au (4*(min p0 K))).bind λV=> (OJ U V).bind λY=> some Y
theorem Xw{p0:Int}{K:Int}{fu_:Nat}{r:Nat}(O:f106 fu_ p0 K=some r):AP J 106 [iV p0,iV K] E [] (λw E' B'=>w= .int .u32 ((r:Nat):Int)/\B'= []):=by
 refine Bl func106 λQ aj cs H U V=>?_;unfold f106 at O;refine zg 8 rfl (Al (v:=iV (min p0 K)) rfl (λρ h=>Yl.min2 (h _ _ rfl) (h _ _ rfl)) ?_);refine zg 2 rfl (Al (v:=iV (max p0 K)) rfl (λρ h=>Yl.max2 (h _ _ rfl) (h _ _ rfl)) ?_);refine zg 5 rfl (Al (v:= .agg (([1,2,4,8]:List Nat).map λx=>Value.int .u32 ((x:Nat):Int)).toArray) rfl (λρ h=>WU h underlying164 (Dw type164) (AU type86) rfl rfl) ?_);obtain⟨ak,Y,Z⟩:=bs O;refine zg 1 rfl (BF Y rfl rfl rfl ?_);obtain⟨al,aa,ab⟩:=bs Z;refine SL (V8 (E:=E) ([1,2,4,8]:List Nat)) aa rfl rfl rfl rfl rfl underlying164 (AU type86) (C5 underlying86) ?_ (λ_=>rfl);rintro _ rfl;obtain⟨am,ac,ae⟩:=bs ab;refine zg 1 rfl (Al rfl (λρ h=>Mt (h _ _ rfl) (h _ _ rfl) ac) ?_);obtain⟨ag,ah,ai⟩:=bs ae;refine Al (v:= .int .u32 ((ag:Nat):Int)) rfl (λρ h=>Uy (h _ _ rfl) (h _ _ rfl) ah) (zg 2 rfl ?_);obtain rfl:=oi ai;exact A6 func106 rfl rfl (V Az rfl ⟨rfl,rfl⟩ U)
def f136(fu_:Nat)(p0:Nat)(K:Int)(p2:Int):Option Bool:= (f106 fu_ K p2).bind λO=> (O8 p0 O).bind λU=> some (decide ((((U):Nat):Int)≠(((0):Nat):Int)))
theorem Xy{p0:Nat}{K:Int}{p2:Int}{fu_:Nat}{r:Bool}(O:f136 fu_ p0 K p2=some r):AP J 136 [.int .u32 ((p0:Nat):Int),iV K,iV p2] E [] (λw E' B'=>w= .bool r/\B'= []):=by
 refine Bl func136 λQ ah cs H U V=>?_;unfold f136 at O;obtain⟨ai,Y,Z⟩:=bs O;refine zg 9 rfl (Cd (Xw Y) rfl rfl (A5 func106 rfl) U λaj aa ab=>?_);obtain⟨ac,ae,ag⟩:=bs Z;refine Al (v:= .int .u32 ((ac:Nat):Int)) rfl (λρ h=>UB (h _ _ rfl) (h _ _ rfl) ae) (zg 3 rfl ?_);obtain rfl:=oi ag;exact A6 func136 rfl rfl (V aa rfl ⟨rfl,rfl⟩ ab)
def Re(fu_:Nat)(O:(Ch)×Int)(K:(Ch)×Int):Option (Bn ((Ch)×Int) ((Ch))):= if K.2<O.2 then((room K.1 (K.2,O.2)).bind λU=> (Au (K.2+1)).bind λV=> some (.more (U,V))) else(some (.done K.1))
def Rg(fu_:Nat)(p0:AX)(K:(Ch)×Int):Option (Bn ((Ch)×Int) ((Ch))):= if K.2<(p0.1.length:Int) then(Option.bind (iter (Re fu_ K) fu_ (K.1,0)) λO=> (Au (K.2+1)).bind λU=> some (.more (O,U))) else(some (.done K.1))
def f133(fu_:Nat)(p0:AX):Option ((Ch)):= Option.bind (iter (Rg fu_ p0) fu_ ([],0)) λK=> some K
theorem Xc{a1:Aw}{c2:Nat}{au:Aw}{av:Nat}{p0:AX}(bw:Am (rL rI) E a1 c2 p0.1)(bx:Am Ar E au av p0.2){fu_:Nat}{r:(Ch)}(aw:f133 fu_ p0=some r):AP J 133 [.agg #[sV a1 p0.1 c2,sV au p0.2 av]] E [] (λw E' B'=>∃(ay:Aw) (az:Nat),w= sV ay r az/\B'= []/\Am Fc E' ay az r):=by
 refine Bl func133 λQ bz cs H aJ aK=>?_;unfold f133 at aw;refine zg 2 rfl (Dc aJ λbA am aL aM aN=>?_);refine zg 9 rfl (JL.fd underlying77 A2 rfl rfl rfl ?_);refine BJ 0 aM underlying25 Ct C7 ?_;refine JL.ln underlying22 rfl rfl rfl ?_;obtain⟨aA,aO,aP⟩:=bs aw;refine zg 2 rfl (Bg (λL s=>∃(an:LH) (ae:Aw) (ag:Nat) (ao:Seg),Jn am H an [ao] [(3,sV ae aA ag)] L s (OL 101 Fc an ae ag ao aA)) ?_ ?_)
 ·rintro _ _ ⟨an,ae,ag,ao,rfl,rfl,aQ,aR,aS⟩;refine zg 5 rfl (BC 0 aS aR rfl λbB aT aU aV=>?_);obtain rfl:=oi aP;exact A6 func133 rfl rfl (aK ((aL.Ac aQ).Ac aT) rfl ⟨ae,ag,rfl,rfl,aU⟩ aV)
 ·intro aW;refine JL.block (De aO (λL s K=>∃(O:LH) (V:Aw) (Y:Nat) (Z:Seg),Jn am H O [Z] [(3,sV V K.1 Y),(9,iV (p0.1.length:Int)),(10,iV K.2)] L s (OL 101 Fc O V Y Z K.1)) ⟨am,none,0,[],rfl,rfl,Az,aN,OL.nil⟩ ?_);rintro _ _ K ⟨O,V,Y,Z,rfl,rfl,aB,aC,aD⟩ aX ⟨bC,ap⟩ aY;have aE:=ap;unfold Rg at aE;refine zg 5 rfl (A4 aE (λaZ a0=>?_) (λaZ a2=>?_))
  ·obtain⟨aq,a3,a4⟩:=bs a0;refine zg 13 rfl (Bg (λL s=>∃(ah:LH) (ai:Aw) (aj:Nat) (ak:Seg),Jn O H ah [ak] [(3,sV ai aq aj),(9,iV (p0.1.length:Int)),(10,iV K.2)] L s (OL 101 Fc ah ai aj ak aq)) ?_ ?_)
   ·rintro _ _ ⟨ah,ai,aj,ak,rfl,rfl,a5,a6,a7⟩;obtain⟨a8,a9,ba⟩:=bs a4;refine zg 2 rfl (Bs a9 rfl rfl rfl ?_);refine zg 2 rfl ?_;obtain rfl:=oi ba;exact AB (aY _ _ (aq,a8) ⟨ah,ai,aj,ak,rfl,rfl,(aB.Ac a5),a6,a7⟩ ap) rfl
   ·intro bb;refine JL.block (De a3 (λL s U=>∃(aa:LH) (ab:Aw) (ac:Nat) (al:Seg),Jn O H aa [al] [(3,sV ab U.1 ac),(4,iV K.2),(9,iV (p0.1.length:Int)),(10,iV K.2),(13,iV K.2),(14,iV U.2)] L s (OL 101 Fc aa ab ac al U.1)) ⟨O,V,Y,Z,rfl,rfl,Az,aC,aD⟩ ?_);rintro _ _ U ⟨aa,ab,ac,al,rfl,rfl,aF,aG,aH⟩ bd ⟨bD,ar⟩ be;have aI:=ar;unfold Re at aI;refine zg 5 rfl (A4 aI (λbf bg=>?_) (λbf bh=>?_))
    ·refine zg 12 rfl (Al (v:= .agg #[iV U.2,iV K.2]) rfl (λρ h=>CK [(0,1),(1,1)] h ID underlying101 ⟨rfl,AU type3,rfl,AU type3,trivial⟩ rfl rfl) ?_);obtain⟨bi,bj,bl⟩:=bs bg;refine JS.app (pp:=Fc) (v:= .agg #[iV U.2,iV K.2]) (a:=ab) (c:=ac) 0 bj rfl rfl rfl rfl (λ_=>rfl) rfl (λ_=>rfl) rfl rfl rfl underlying167 underlying167 underlying167 FK (B4 type101) ID rfl (by decide) (by decide) (by decide) (by decide) aH ⟨_,_,rfl,rfl,rfl⟩ aG rfl λbE bm bn bo bp bq=>?_;obtain⟨br,bu,bv⟩:=bs bl;refine zg 4 rfl (Bs bu rfl rfl rfl ?_);refine zg 2 rfl ?_;obtain rfl:=oi bv;exact AB (be _ _ (bi,br) ⟨aa,bm,bn,bo,rfl,rfl,aF,bq,bp⟩ ar) rfl
    ·refine JL.exit rfl ?_;obtain rfl:=oi bh;obtain rfl:=bd _ ar;exact AB (bb _ _ ⟨aa,ab,ac,al,rfl,rfl,aF,aG,aH⟩) rfl
  ·refine JL.exit rfl ?_;obtain rfl:=oi a2;obtain rfl:=aX _ ap;exact AB (aW _ _ ⟨O,V,Y,Z,rfl,rfl,aB,aC,aD⟩) rfl
def f113(fu_:Nat)(p0:Int×Int×Int)(K:Int×Int×Int):Option Int:= if p0.1≠K.1 then((Au (p0.1 - K.1)).bind λO=> some O) else(if p0.2.1≠K.2.1 then((Au (p0.2.1 - K.2.1)).bind λU=> some U) else((Au (p0.2.2 - K.2.2)).bind λV=> some V))
theorem Sl{p0:Int×Int×Int}{V:Int×Int×Int}{fu_:Nat}{r:Int}(ab:f113 fu_ p0 V=some r):AP J 113 [.agg #[iV p0.1,iV p0.2.1,iV p0.2.2],.agg #[iV V.1,iV V.2.1,iV V.2.2]] E [] (λw E' B'=>w=iV r/\B'= []):=by
 refine Bl func113 λQ au cs H ac Y=>?_;unfold f113 at ab;refine zg 2 rfl (Dc ac λr2 av Z O ae=>?_);refine Dc ae λaw ay K U aa=>?_;refine zg 6 rfl (BJ 0 (O.Ag K) underlying27 AS Bj ?_);refine BJ 0 U underlying27 AS Bj ?_;refine zg 3 rfl (A4 ab (λag ah=>?_) (λag ai=>?_))
 ·refine zg 2 rfl (BJ 0 (O.Ag K) underlying27 AS Bj ?_);refine BJ 0 U underlying27 AS Bj ?_;obtain⟨az,aj,ak⟩:=bs ah;refine BF aj rfl rfl rfl (zg 2 rfl ?_);obtain rfl:=oi ak;exact A6 func113 rfl rfl (Y (Z.Ac K) rfl ⟨rfl,rfl⟩ aa)
 ·refine zg 2 rfl (BJ 1 (O.Ag K) underlying27 AS Bj ?_);refine BJ 1 U underlying27 AS Bj ?_;refine zg 3 rfl (A4 ai (λal am=>?_) (λal an=>?_))
  ·refine zg 2 rfl (BJ 1 (O.Ag K) underlying27 AS Bj ?_);refine BJ 1 U underlying27 AS Bj ?_;obtain⟨aA,ao,ap⟩:=bs am;refine BF ao rfl rfl rfl (zg 2 rfl ?_);obtain rfl:=oi ap;exact A6 func113 rfl rfl (Y (Z.Ac K) rfl ⟨rfl,rfl⟩ aa)
  ·refine zg 4 rfl (BJ 2 (O.Ag K) underlying27 AS Bj ?_);refine BJ 2 U underlying27 AS Bj ?_;obtain⟨aB,aq,ar⟩:=bs an;refine BF aq rfl rfl rfl (zg 2 rfl ?_);obtain rfl:=oi ar;exact A6 func113 rfl rfl (Y (Z.Ac K) rfl ⟨rfl,rfl⟩ aa)
def Su(fu_:Nat)(p0:List Int)(K:Int×Int):Option (Bn (Int×Int) Int):= if K.2<(p0.length:Int) then((ix p0 K.2).bind λO=> (Au (K.1+O)).bind λU=> (Au (K.2+1)).bind λV=> some (.more (U,V))) else(some (.done K.1))
def f85(fu_:Nat)(p0:List Int):Option Int:= Option.bind (iter (Su fu_ p0) fu_ (0,0)) λK=> some K
theorem Ht{a1:Aw}{c2:Nat}{p0:List Int}(aa:Am rI E a1 c2 p0){fu_:Nat}{r:Int}(V:f85 fu_ p0=some r):AP J 85 [sV a1 p0 c2] E [] (λw E' B'=>w=iV r/\B'= []):=by
 refine Bl func85 λQ aC cs H ab ac=>?_;unfold f85 at V;refine zg 12 rfl (JL.ln underlying28 rfl rfl rfl ?_);obtain⟨ae,ag,ah⟩:=bs V;refine zg 2 rfl (Fa [] [(3,iV ae)] (λaD ai aj=>?_) (λak=>?_))
 ·refine zg 5 rfl ?_;obtain rfl:=oi ah;exact A6 func85 rfl rfl (ac ai rfl ⟨rfl,rfl⟩ aj)
 ·refine JL.block (Ds ag (λK=> []) (λK=> [(3,iV K.1),(6,sV a1 p0 c2),(7,iV (p0.length:Int)),(8,iV K.2)]) Az ab ?_);rintro K aE O Y al ⟨aF,U⟩ am;have Z:=U;unfold Su at Z;refine zg 5 rfl (A4 Z (λan ao=>?_) (λan ap=>?_))
  ·obtain⟨aG,aq,ar⟩:=bs ao;refine zg 5 rfl (Es (aa.Ag O) aq underlying28 AS ?_);rintro aH aI _ rfl au;refine EL 0 au Bj rfl rfl rfl ?_;obtain⟨av,aw,ay⟩:=bs ar;refine zg 5 rfl (Bs aw rfl rfl rfl ?_);obtain⟨az,aA,aB⟩:=bs ay;refine zg 4 rfl (Bs aA rfl rfl rfl ?_);refine zg 2 rfl ?_;obtain rfl:=oi aB;exact am (av,az) O Y rfl U
  ·refine JL.exit rfl ?_;obtain rfl:=oi ap;obtain rfl:=al _ U;exact ak O Y rfl
end Pal
namespace Pal
open Go Go.Conc
section
variable {P:Program}{J:Judge P}{Q:Gs_}{b:Frame}{n:Nat}{ds:Ld_}{ops:Ao_}{k:Li_}{cs:Lf_}{L:Env}{E H:LH}{S:List Seg}
variable {d:Option Tmp}{x y w:Operand}{t u ty e:TypeId}{p:String}{af:Ae_}{g:On_}{i:Nat}{rest:List Nat}{s:St}{ρ:Operand->Value}
theorem Am.Zj{α:Type}{pp:Rp α}{kk bk o:Nat}{ws:Lv_}{xs ys:List α}{hi:Int}(U:At E bk o ws)(O:(rA kk pp).r E ws xs)(hC:H2 xs 0 hi=some ys):Am pp E (some ⟨bk,o,none⟩) kk ys:=by
 have aa:=O.1;unfold H2 at hC;split at hC
 ·rename_i hb;cases hC;refine⟨by simp;omega,.inr ⟨bk,o,rfl,λq z K=>?_⟩⟩;simp only [Int.toNat_zero,List.drop_zero,List.getElem?_take] at K;split at K
  ·have V:ix xs (q:Int)=some z:=by unfold ix;rw [if_pos (by omega)];simpa using K
   obtain⟨us,Y,Z,_,_⟩:=YG O U V;exact⟨us,Y,by simpa using Z⟩
  ·cases K
 ·cases hC
theorem V4{α:Type}{pp:Rp α}{kk bk o:Nat}{ws:Lv_}{xs ys:List α}{hi:Int}(U:At E bk o ws)(K:(rA kk pp).r E ws xs)(hC:H2 xs 0 hi=some ys)
  (V:ops[i]? =some ⟨d,.slice t x none (some w) none,ty,p,af,g⟩) (hw:AT L ops ⟨d,.slice t x none (some w) none,ty,p,af,g⟩=some true) (Y:BK b n ⟨d,.slice t x none (some w) none,ty,p,af,g⟩=true)
  (Z:ev L x=some (.pointer (some ⟨bk,o,none⟩))) (aa:ev L w=some (iV hi)) (ab:P.underlying t=some (.array kk e)) (ac:Bm P e=some pp.n)
  (h:Am pp E (some ⟨bk,o,none⟩) kk ys->JL J Q b n (Ax L d (.slice (some ⟨bk,o,none⟩) ys.length kk)) ds (.inRegion ops rest::k) cs s):
  JL J Q b n L ds (.inRegion ops (i::rest)::k) cs s:=by
 have ae:=Am.Zj U K hC;have ai:=K.1;refine Ao V hw Y (λρ O=>?_) (h ae);refine FL (sm:=Instr.sliceAt t (ρ x) none (some (ρ w)) none) rfl ?_;rw [O _ _ Z,O _ _ aa];unfold H2 at hC;split at hC
 ·rename_i hb;cases hC;obtain⟨aj,ak,al⟩:=hb;unfold Instr.sliceAt;refine Av _ _ (Cp ab ?_);simp only [Instr.sureAddr,bind,Sem.bind,pure];have ag:Instr.sliceBounds false kk kk none (some (iV hi)) none=(pure (0,hi.toNat,kk):Sem _):=by
   simp only [Instr.sliceBounds,Instr.sliceBound,asIntOf,bind,Sem.bind,pure];rw [if_pos (by omega)];rfl
  rw [ag];simp only [pure,Sem.bind];refine Av (x:=Go.sizeOf e) _ (Ex ac ?_);have ah:(if kk=0 then(⟨bk,o,none⟩:Addr) else Addr.add ⟨bk,o,none⟩ (0*pp.n))=⟨bk,o,none⟩:=by
   split
   ·rfl
   ·rw [DR rfl];simp
  rw [ah];have e2:((xs.take hi.toNat).drop (0:Int).toNat).length=hi.toNat - 0:=by simp;omega
  rw [e2];exact⟨rfl,rfl⟩
 ·cases hC
theorem Ul{a:Option Addr}{l c:Nat}(K:P.underlying t=some (.slice e))(O:ρ x= .slice a l c)(U:ρ (.const (.slice none 0 0))= .slice none 0 0):Yl P ⟨d,.binOp .neq t x (.const (.slice none 0 0)) u,ty,p,af,g⟩ ρ s (.bool (!a.isNone)):=by
 have V:∀o,eqGuard o t x (.const (.slice none 0 0)) (.slice a l c) (.slice none 0 0)=Sem.pure ():=λo=>by cases o <;> rfl
 refine FL (sm:=do eqGuard .neq t x (.const (.slice none 0 0)) (ρ x) (ρ (.const (.slice none 0 0)));binOp .neq t (ρ x) (ρ (.const (.slice none 0 0)))) rfl ?_
 rw [O,U,V];simp only [bind,Sem.bind];have hb:binOp .neq t (.slice a l c) (.slice none 0 0)=(do pure (.bool (!(← Op.equal t (.slice a l c) (.slice none 0 0))))):=rfl
 rw [hb];refine Av (x:=Op.equal t _ _) _ ?_;unfold Op.equal Op.maxDepth Op.equalIn;refine Av _ _ (Cp K ?_);cases a with
 | none=>exact⟨rfl,rfl⟩
 | some ad=>exact⟨rfl,rfl⟩
end
end Pal
namespace Pal
open Go Go.Conc Go.Proofs
open Go.Proofs.Tryz
variable {J:Judge Tryz.prog}{E:LH}
def Sn(fu_:Nat)(p0:AX)(O:List Int)(K:Int):Option (Bn Int ((AX×Int)⊕(Unit))):= if K<(O.length:Int) then((ix O K).bind λU=> (Au ((p0.1.length:Int) - 1)).bind λV=> (f91 fu_ U 0 V).bind λY=> if(!Y)=true then(some (.done (Sum.inl (([],[]),3)))) else((Au (K+1)).bind λZ=> some (.more Z))) else(some (.done (Sum.inr ())))
def f70(fu_:Nat)(p0:AX)(K:List Int):Option (AX×Int):= (f47 fu_ p0).bind λO=> if O≠0 then(some (([],[]),O)) else(Option.bind (iter (Sn fu_ p0 K) fu_ 0) λU=> Sum.elim (λr=>some r) (λaa=> Option.bind (if(K.length:Int)=2 then((ix K (0)).bind λV=> (ix K (1)).bind λY=> some (decide (V=Y))) else(some false)) λZ=> if Z=true then(some (([],[]),8)) else(some (p0,0))) U)
theorem KV{a1:Aw}{c2:Nat}{Y:Aw}{Z:Nat}{ac:Aw}{ae:Nat}{p0:AX}{V:List Int}(ap:Am (rL rI) E a1 c2 p0.1)(aq:Am Ar E Y Z p0.2)(aj:Am rI E ac ae V){fu_:Nat}{r:AX×Int}(ar:f70 fu_ p0 V=some r):AP J 70 [.agg #[sV a1 p0.1 c2,sV Y p0.2 Z],sV ac V ae] E [] (λw E' B'=>∃(au:Aw) (av:Nat) (aw:Aw) (ay:Nat),w= .tuple #[.agg #[sV au r.1.1 av,sV aw r.1.2 ay],iV r.2]/\B'= []/\Am (rL rI) E' au av r.1.1/\Am Ar E' aw ay r.1.2):=by
 refine Bl func70 λQ bK cs H aQ ah=>?_;unfold f70 at ar;refine zg 2 rfl (Dc aQ λak bL K al aR=>?_);refine Cx aR HH λab aS=>?_;refine zg 5 rfl (Cw al Bz A2 rfl rfl ?_);obtain⟨az,aT,aU⟩:=bs ar;refine Cd (SW (ap.Ag K) (aq.Ag K) aT) rfl rfl (A5 func47 rfl) aS λaV O aA=>zg 7 rfl (A4 aU (λaW aX=>?_) (λaW aY=>?_))
 ·refine zg 2 rfl (Al (v:= .agg #[nS,nS]) rfl (λρ h=>CK [(0,2)] h HH underlying77 ⟨rfl,AU type25,trivial⟩ rfl rfl) ?_);refine zg 1 rfl (Bv 2 aA DZ λaB=>?_);refine zg 2 rfl ?_;obtain rfl:=oi aX;refine JL.ret (v:= .tuple #[.agg #[nS,nS],iV az]) rfl rfl (Bd.list func70 rfl (vs:= [.agg #[nS,nS],iV az]) ⟨⟨_,rfl,Ld.many (vs:= [nS,nS]) FU DZ (Cu (off:=0) 2 aB rfl rfl)⟩,rfl,trivial⟩) (Cq 2 aB rfl λaZ=>?_);exact ah (K.Ac O) rfl ⟨none,0,none,0,rfl,rfl,Am.nil,Am.nil⟩ aZ
 ·refine zg 5 rfl (JL.ln underlying28 rfl rfl rfl ?_);obtain⟨aC,a0,aD⟩:=bs aY;refine zg 2 rfl (Bg (λL s=>∃(aE:Unit) (am:LH),aC=Sum.inr aE/\Jm aV H am [bX ab #[nS,nS] 77] [(1,sV ac V ae),(2,Ai ak 0),(4,Ai ab 0)] L s) ?_ ?_)
  ·rintro _ _ ⟨aE,am,rfl,rfl,rfl,aa,aF⟩;have a2:=elim_inr aD;refine zg 2 rfl (Et 12 λU=>?_);refine Bc 0 U rfl rfl (AH 1 U rfl rfl (λρ h s' bM=>Yl.len rfl underlying28 (h _ _ rfl)) ?_);refine AZ U rfl [2,3] rfl ?_;obtain⟨a3,aG,a4⟩:=bs a2;refine DO 0 #[true,true,true,true,true,true,true,true,true,true,true,true] (λL s=>L= [(2,Ai ak 0),(4,Ai ab 0),(41,.bool a3)]/\s=Ak am H [bX ab #[nS,nS] 77]) ?_ ?_
   ·rintro _ _ ⟨rfl,rfl⟩;refine AL.fin (by decide+kernel) (B6 a4 (λa5 a6=>?_) (λa5 a7=>?_))
    ·refine zg 2 rfl (Al (v:= .agg #[nS,nS]) rfl (λρ h=>CK [(0,2)] h HH underlying77 ⟨rfl,AU type25,trivial⟩ rfl rfl) ?_);refine Bv 0 aF DZ λaH=>?_;refine zg 2 rfl ?_;obtain rfl:=oi a6;refine JL.ret (v:= .tuple #[.agg #[nS,nS],iV 8]) rfl rfl (Bd.list func70 rfl (vs:= [.agg #[nS,nS],iV 8]) ⟨⟨_,rfl,Ld.many (vs:= [nS,nS]) FU DZ (Cu (off:=0) 0 aH rfl rfl)⟩,rfl,trivial⟩) (Cq 0 aH rfl λa8=>?_);exact ah ((K.Ac O).Ac aa) rfl ⟨none,0,none,0,rfl,rfl,Am.nil,Am.nil⟩ a8
    ·refine zg 3 rfl (Cw (al.Ag (O.Ac aa)) Bz A2 rfl rfl ?_);refine Al (v:= .agg #[sV a1 p0.1 c2,sV Y p0.2 Z]) rfl (λρ h=>CK [(0,2)] h HH underlying77 ⟨rfl,AU type25,trivial⟩ rfl rfl) (Bv 0 aF DZ λaI=>?_);refine zg 2 rfl ?_;obtain rfl:=oi a7;refine JL.ret (v:= .tuple #[.agg #[sV a1 p0.1 c2,sV Y p0.2 Z],iV 0]) rfl rfl (Bd.list func70 rfl (vs:= [.agg #[sV a1 p0.1 c2,sV Y p0.2 Z],iV 0]) ⟨⟨_,rfl,Ld.many (vs:= [sV a1 p0.1 c2,sV Y p0.2 Z]) FU DZ (Cu (off:=0) 0 aI rfl rfl)⟩,rfl,trivial⟩) (Cq 0 aI rfl λa9=>?_);exact ah ((K.Ac O).Ac aa) rfl ⟨a1,c2,Y,Z,rfl,rfl,(ap.Ag ((K.Ac O).Ac aa)),(aq.Ag ((K.Ac O).Ac aa))⟩ a9
   ·intro aJ;refine EN (q:=(V.length:Int)=2) (i:=33) rfl (λan=>?_) (λan=>?_)
    ·have ba:=ip aG an;refine Bc 4 U rfl rfl ?_;obtain⟨bN,bb,bd⟩:=bs ba;refine DV 5 (aj.Ag ((K.Ac O).Ac aa)) bb U underlying28 AS ?_;rintro bO bP _ rfl be;refine EK 6 U 0 be Bj rfl rfl rfl rfl ?_;refine Bc 7 U rfl rfl ?_;obtain⟨bQ,bf,bg⟩:=bs bd;refine DV 8 (aj.Ag ((K.Ac O).Ac aa)) bf U underlying28 AS ?_;rintro bR bS _ rfl bh;refine EK 9 U 0 bh Bj rfl rfl rfl rfl ?_;refine AZ U rfl [10,11] rfl ?_;obtain rfl:=oi bg;refine B2 ?_ (aJ _ _ ⟨rfl,rfl⟩);exact⟨rfl,rfl,rfl,trivial⟩
    ·have bi:=im aG an;refine AZ U rfl [4,5,6,7,8,9,10,11] rfl ?_;obtain rfl:=oi bi;refine B2 ?_ (aJ _ _ ⟨rfl,rfl⟩);exact⟨rfl,rfl,rfl,trivial⟩
  ·intro bj;refine JL.block (Ds a0 (λao=> [bX ab #[nS,nS] 77]) (λao=> [(1,sV ac V ae),(2,Ai ak 0),(4,Ai ab 0),(15,sV ac V ae),(16,iV (V.length:Int)),(17,iV ao)]) Az aA ?_);rintro ao bl ag aK aL ⟨bT,ai⟩ bm;have aM:=ai;unfold Sn at aM;refine zg 5 rfl (A4 aM (λbn bo=>?_) (λbn bp=>?_))
   ·obtain⟨bU,bq,br⟩:=bs bo;refine zg 5 rfl (Es (aj.Ag ((K.Ac O).Ac ag)) bq underlying28 AS ?_);rintro bV bW _ rfl bu;refine EL 0 bu Bj rfl rfl rfl (zg 5 rfl ?_);refine BJ 0 (al.Ag (O.Ac ag)) underlying25 Ct C7 ?_;refine JL.ln underlying22 rfl rfl rfl ?_;obtain⟨bY,bv,bw⟩:=bs br;refine BF bv rfl rfl rfl ?_;obtain⟨bx,bz,bA⟩:=bs bw;refine Cd (Lu bz) rfl rfl K6 aK λbZ aN aO=>Al (v:= .bool (!bx)) rfl (λρ h=>Yl.not (h _ _ rfl)) (JL.done ?_);refine B6 bA (λbB bC=>?_) (λbB bD=>?_)
    ·refine zg 2 rfl (Al (v:= .agg #[nS,nS]) rfl (λρ h=>CK [(0,2)] h HH underlying77 ⟨rfl,AU type25,trivial⟩ rfl rfl) ?_);refine Bv 0 aO DZ λaP=>?_;refine zg 2 rfl ?_;obtain rfl:=oi bC;obtain rfl:=aL _ ai;have bE:=elim_inl aD;obtain rfl:=oi bE;refine JL.ret (v:= .tuple #[.agg #[nS,nS],iV 3]) rfl rfl (Bd.list func70 rfl (vs:= [.agg #[nS,nS],iV 3]) ⟨⟨_,rfl,Ld.many (vs:= [nS,nS]) FU DZ (Cu (off:=0) 0 aP rfl rfl)⟩,rfl,trivial⟩) (Cq 0 aP rfl λbF=>?_);exact ah (((K.Ac O).Ac ag).Ac aN) rfl ⟨none,0,none,0,rfl,rfl,Am.nil,Am.nil⟩ bF
    ·obtain⟨bG,bH,bI⟩:=bs bD;refine zg 3 rfl (Bs bH rfl rfl rfl ?_);refine zg 2 rfl ?_;obtain rfl:=oi bI;exact bm bG (ag.Ac aN) aO rfl ai
   ·refine JL.exit rfl ?_;obtain rfl:=oi bp;have bJ:aC=(Sum.inr ()):=(aL _ ai).symm;exact AB (bj _ _ ⟨(),bl,bJ,rfl,rfl,ag,aK⟩) rfl
def LB(fu_:Nat)(p0:List Int):Option ((List Int)):= (Cr ([]:List Int) p0).bind λK=> some K
theorem XO{ad:Addr}{c2:Nat}{p0:List Int}(V:Am rI E (some ad) c2 p0){fu_:Nat}{r:(List Int)}(K:LB fu_ p0=some r):AP J 87 [.slice (some ad) p0.length c2] E [] (λw E' B'=>∃(O:Aw) (U:Nat) (g0:Seg),w= sV O r U/\B'=g0/\OL 3 rI E' O U g0 r):=by
 refine Bl func87 λQ al cs H Y Z=>?_;unfold LB at K;refine zg 8 rfl (Al (v:= .bool false) rfl (λρ h=>Mf (a:=(some ad)) underlying28 (h _ _ rfl) (h _ _ rfl)) ?_);refine zg 5 rfl (Mz (pp:=rI) rfl rfl rfl underlying28 AS Y λr1 g2 aa ab=>?_);obtain⟨am,ac,ae⟩:=bs K;refine zg 1 rfl (EO (pp:=rI) 1 ac rfl rfl rfl rfl rfl rfl rfl underlying28 underlying28 AS (B4 type3) CY rfl (by decide) (by decide) aa V ab rfl λag ah ai aj ak=>?_);refine zg 2 rfl ?_;obtain rfl:=oi ae;exact A6 func87 rfl rfl (Z Az rfl ⟨ag,ah,ai,rfl,(by first | rfl | simp | (simp [Value.cells])),aj⟩ ak)
def Tl(fu_:Nat)(p0:List Int):Option ((List Int)):= some ([])
theorem Xh{c2:Nat}{p0:List Int}(Z:Am rI E none c2 p0){fu_:Nat}{r:(List Int)}(K:Tl fu_ p0=some r):AP J 87 [sV none p0 c2] E [] (λw E' B'=>∃(O:Aw) (U:Nat) (g0:Seg),w= sV O r U/\B'=g0/\OL 3 rI E' O U g0 r):=by
 refine Bl func87 λQ aa cs H V Y=>?_;unfold Tl at K;refine zg 8 rfl (Al (v:= .bool true) rfl (λρ h=>Mf (a:=none) underlying28 (h _ _ rfl) (h _ _ rfl)) ?_);refine zg 6 rfl ?_;obtain rfl:=oi K;exact A6 func87 rfl rfl (Y Az rfl ⟨none,0,[],rfl,rfl,OL.nil⟩ V)
def f87(fu_:Nat)(p0:List Int):Option (List Int):=LB fu_ p0
theorem Ps{a1:Aw}{c2:Nat}{p0:List Int}(O:Am rI E a1 c2 p0){fu_:Nat}{r:List Int}(K:f87 fu_ p0=some r):AP J 87 [.slice a1 p0.length c2] E [] (λw E' B'=>∃(U:Aw) (V:Nat) (g0:Seg),w= .slice U r.length V/\B'=g0/\OL 3 rI E' U V g0 r):=by
 cases a1 with
 | some ad=>exact XO O K
 | none=>
  have Y:p0= []:=by
   rcases O.2 with h | ⟨_,_,h,_⟩
   ·exact h.1
   ·cases h
  subst Y;have Z:r= []:=by
   have aa:LB fu_ []=some []:=rfl;unfold f87 at K;rw [aa] at K;exact(Option.some.inj K).symm
  subst Z;exact Xh (fu_:=fu_) O rfl
def Nk(fu_:Nat)(p0:Ay):Option (Ay):= (Cr ([]:Ay) p0).bind λK=> some K
theorem Wx{ad:Addr}{c2:Nat}{p0:Ay}(V:Am Ar E (some ad) c2 p0){fu_:Nat}{r:Ay}(K:Nk fu_ p0=some r):AP J 129 [.slice (some ad) p0.length c2] E [] (λw E' B'=>∃(O:Aw) (U:Nat) (g0:Seg),w= sV O r U/\B'=g0/\OL 27 Ar E' O U g0 r):=by
 refine Bl func129 λQ al cs H Y Z=>?_;unfold Nk at K;refine zg 8 rfl (Al (v:= .bool false) rfl (λρ h=>Mf (a:=(some ad)) underlying80 (h _ _ rfl) (h _ _ rfl)) ?_);refine zg 5 rfl (Mz (pp:=Ar) rfl rfl rfl underlying80 AW Y λr1 g2 aa ab=>?_);obtain⟨am,ac,ae⟩:=bs K;refine zg 1 rfl (EO (pp:=Ar) 1 ac rfl rfl rfl rfl rfl rfl rfl underlying80 underlying80 AW (B4 type27) Bq rfl (by decide) (by decide) aa V ab rfl λag ah ai aj ak=>?_);refine zg 2 rfl ?_;obtain rfl:=oi ae;exact A6 func129 rfl rfl (Z Az rfl ⟨ag,ah,ai,rfl,(by first | rfl | simp | (simp [Value.cells])),aj⟩ ak)
def Ta(fu_:Nat)(p0:Ay):Option (Ay):= some ([])
theorem WO{c2:Nat}{p0:Ay}(Z:Am Ar E none c2 p0){fu_:Nat}{r:Ay}(K:Ta fu_ p0=some r):AP J 129 [sV none p0 c2] E [] (λw E' B'=>∃(O:Aw) (U:Nat) (g0:Seg),w= sV O r U/\B'=g0/\OL 27 Ar E' O U g0 r):=by
 refine Bl func129 λQ aa cs H V Y=>?_;unfold Ta at K;refine zg 8 rfl (Al (v:= .bool true) rfl (λρ h=>Mf (a:=none) underlying80 (h _ _ rfl) (h _ _ rfl)) ?_);refine zg 6 rfl ?_;obtain rfl:=oi K;exact A6 func129 rfl rfl (Y Az rfl ⟨none,0,[],rfl,rfl,OL.nil⟩ V)
def f129(fu_:Nat)(p0:Ay):Option Ay:=Nk fu_ p0
theorem XR{a1:Aw}{c2:Nat}{p0:Ay}(O:Am Ar E a1 c2 p0){fu_:Nat}{r:Ay}(K:f129 fu_ p0=some r):AP J 129 [.slice a1 p0.length c2] E [] (λw E' B'=>∃(U:Aw) (V:Nat) (g0:Seg),w= .slice U r.length V/\B'=g0/\OL 27 Ar E' U V g0 r):=by
 cases a1 with
 | some ad=>exact Wx O K
 | none=>
  have Y:p0= []:=by
   rcases O.2 with h | ⟨_,_,h,_⟩
   ·exact h.1
   ·cases h
  subst Y;have Z:r= []:=by
   have aa:Nk fu_ []=some []:=rfl;unfold f129 at K;rw [aa] at K;exact(Option.some.inj K).symm
  subst Z;exact WO (fu_:=fu_) O rfl
def f43(fu_:Nat)(p0:AX):Option ((List Int)×Int):= (f70 fu_ p0 ([])).bind λK=> if K.2≠0 then(some ([],K.2)) else((f84 fu_ K.1).bind λO=> (H2 O 0 (p0.1.length:Int)).bind λU=> (f87 fu_ U).bind λV=> some (V,0))
theorem YW{a1:Aw}{c2:Nat}{Z:Aw}{aa:Nat}{p0:AX}(an:Am (rL rI) E a1 c2 p0.1)(ao:Am Ar E Z aa p0.2){fu_:Nat}{r:(List Int)×Int}(ab:f43 fu_ p0=some r):AP J 43 [.agg #[sV a1 p0.1 c2,sV Z p0.2 aa]] E [] (λw E' B'=>∃(ac:Aw) (ae:Nat),w= .tuple #[sV ac r.1 ae,iV r.2]/\B'= []/\Am rI E' ac ae r.1):=by
 refine Bl func43 λQ aY cs H ap ag=>?_;unfold f43 at ab;refine zg 2 rfl (Dc ap λaZ a0 U ah aq=>?_);refine zg 5 rfl (Cw ah Bz A2 rfl rfl ?_);obtain⟨a2,ar,au⟩:=bs ab;refine Ck (KV (an.Ag U) (ao.Ag U) Am.nil ar) rfl rfl Kl aq ?_;rintro _ a3 _ V ⟨a4,a5,a6,a7,rfl,rfl,av,aw⟩ ay;refine zg 3 rfl (Cx ay HH λa8 az=>?_);refine Bv 3 az DZ λaA=>?_;refine Cf 3 aA rfl λa9 K aB ai=>zg 8 rfl (A4 au (λaC aD=>?_) (λaC aE=>?_))
 ·refine zg 6 rfl ?_;obtain rfl:=oi aD;exact A6 func43 rfl rfl (ag ((U.Ac V).Ac K) rfl ⟨none,0,rfl,rfl,Am.nil⟩ ai)
 ·refine zg 3 rfl (Cw aB FU DZ rfl rfl ?_);obtain⟨ba,aF,aG⟩:=bs aE;refine Ck (Pd (av.Ag K) (aw.Ag K) aF) rfl rfl NK ai ?_;rintro _ aj _ ak ⟨Y,rfl,rfl,O⟩ aH;refine Cx aH Km λbb aI=>?_;refine Hf (v:= .agg Y.toArray) (l:= []) (ws:=(List.replicate 5 (iV 0):Lv_)) (us:=Y) (o:=0) 5 rfl rfl rfl aI rfl rfl rfl (by rw [Cj (kk:=5) (pp:=rI) O];exact AU type105) ((rA 5 rI).one O) rfl (by rw [Cj (kk:=5) (pp:=rI) O,Cj (kk:=5) (pp:=rI) (GA (E:=aj) (pp:=rI) rfl)];omega) λal=>?_;rw [Jb (by rw [Cj (kk:=5) (pp:=rI) O,Cj (kk:=5) (pp:=rI) (GA (E:=aj) (pp:=rI) rfl)])] at al ⊢;refine zg 3 rfl (BJ 0 (ah.Ag ((V.Ac K).Ac ak)) underlying25 Ct C7 ?_);refine JL.ln underlying22 rfl rfl rfl (Cf 5 al rfl λbd am aJ aK=>?_);obtain⟨be,aL,aM⟩:=bs aG;refine V4 (ws:=Y) (pp:=rI) aJ (Rp.Ag _ am O) aL rfl rfl rfl rfl rfl underlying105 AS λaN=>?_;obtain⟨bf,aO,aP⟩:=bs aM;refine Ck (Ps aN aO) rfl rfl NL aK ?_;rintro _ bg bh aQ ⟨aR,aS,_,rfl,rfl,aT⟩ aU;refine zg 3 rfl (BC 6 aT aU rfl λbi aV aW aX=>?_);obtain rfl:=oi aP;exact A6 func43 rfl rfl (ag ((((((U.Ac V).Ac K).Ac ak).Ac am).Ac aQ).Ac aV) rfl ⟨aR,aS,rfl,rfl,aW⟩ aX)
def Q6(fu_:Nat)(p0:Ay)(O:Ay)(K:Int):Option (Bn Int ((Int)⊕(Unit))):= if K<(p0.length:Int) then((ix p0 K).bind λV=> if(O.length:Int)<=K then(some (.done (Sum.inl 1))) else((ix O K).bind λY=> (f113 fu_ V Y).bind λU=> if U≠0 then(some (.done (Sum.inl U))) else((Au (K+1)).bind λZ=> some (.more Z)))) else(some (.done (Sum.inr ())))
def f112(fu_:Nat)(p0:Ay)(K:Ay):Option Int:= Option.bind (iter (Q6 fu_ p0 K) fu_ 0) λO=> Sum.elim (λr=>some r) (λU=> if(p0.length:Int)<(K.length:Int) then(some (-1)) else(some 0)) O
theorem XH{a1:Aw}{c2:Nat}{V:Aw}{Y:Nat}{p0:Ay}{O:Ay}(aw:Am Ar E a1 c2 p0)(ay:Am Ar E V Y O){fu_:Nat}{r:Int}(aj:f112 fu_ p0 O=some r):AP J 112 [sV a1 p0 c2,sV V O Y,(fV 113)] E [] (λw E' B'=>w=iV r/\B'= []):=by
 refine Bl func112 λQ be cs H az Z=>?_;unfold f112 at aj;refine zg 8 rfl (JL.ln underlying80 rfl rfl rfl ?_);obtain⟨ak,aA,ab⟩:=bs aj;refine zg 2 rfl (Bg (λL s=>∃(al:Unit) (am:LH),ak=Sum.inr al/\Jm E H am [] [(0,sV a1 p0 c2),(1,sV V O Y)] L s) ?_ ?_)
 ·rintro _ _ ⟨al,am,rfl,rfl,rfl,an,ao⟩;have aB:=elim_inr ab;refine zg 4 rfl (JL.ln underlying80 rfl rfl rfl ?_);refine zg 1 rfl (JL.ln underlying80 rfl rfl rfl ?_);refine zg 2 rfl (A4 aB (λaC aD=>?_) (λaC aE=>?_))
  ·refine zg 4 rfl ?_;obtain rfl:=oi aD;exact A6 func112 rfl rfl (Z an rfl ⟨rfl,rfl⟩ ao)
  ·refine zg 5 rfl ?_;obtain rfl:=oi aE;exact A6 func112 rfl rfl (Z an rfl ⟨rfl,rfl⟩ ao)
 ·intro aF;refine JL.block (Ds aA (λac=> []) (λac=> [(0,sV a1 p0 c2),(1,sV V O Y),(2,(fV 113)),(11,sV a1 p0 c2),(12,iV (p0.length:Int)),(13,iV ac)]) Az az ?_);rintro ac aG K ap ae ⟨bf,U⟩ aH;have aq:=U;unfold Q6 at aq;refine zg 5 rfl (A4 aq (λaI aJ=>?_) (λaI aK=>?_))
  ·obtain⟨ag,aL,aM⟩:=bs aJ;refine zg 6 rfl (Es (aw.Ag K) aL underlying80 AW ?_);rintro bg bh _ ⟨_,_,rfl,rfl,⟨_,_,rfl,rfl,rfl⟩⟩ aN;refine Cw aN CO AW rfl rfl (Cx ap Bq λbi aO=>?_);refine zg 1 rfl (Bv 0 aO AW λaP=>?_);refine Cf 0 aP rfl λbj aa aQ ar=>zg 6 rfl (JL.ln underlying80 rfl rfl rfl ?_);refine zg 2 rfl (A4 aM (λaR aS=>?_) (λaR aT=>?_))
   ·refine zg 4 rfl ?_;obtain rfl:=oi aS;obtain rfl:=ae _ U;have aU:=elim_inl ab;obtain rfl:=oi aU;exact A6 func112 rfl rfl (Z (K.Ac aa) rfl ⟨rfl,rfl⟩ ar)
   ·obtain⟨ah,aV,aW⟩:=bs aT;refine zg 5 rfl (Es (ay.Ag (K.Ac aa)) aV underlying80 AW ?_);rintro bl bm _ ⟨_,_,rfl,rfl,⟨_,_,rfl,rfl,rfl⟩⟩ aX;refine Cw aX CO AW rfl rfl (Cx ar Bq λbn aY=>?_);refine Bv 1 aY AW λaZ=>?_;refine Cf 1 aZ rfl λbo ai a0 a2=>zg 4 rfl (Cw (aQ.Ag ai) CO AW rfl rfl ?_);refine Cw a0 CO AW rfl rfl ?_;obtain⟨bp,a3,a4⟩:=bs aW;refine Kt (vs:= [.agg #[iV ag.1,iV ag.2.1,iV ag.2.2],.agg #[iV ah.1,iV ah.2.1,iV ah.2.2]]) (Sl a3) rfl rfl rfl rfl (A5 func113 rfl) rfl a2 ?_;rintro _ bq _ au ⟨rfl,rfl⟩ av;refine zg 7 rfl (A4 a4 (λa5 a6=>?_) (λa5 a7=>?_))
    ·refine zg 5 rfl ?_;obtain rfl:=oi a6;obtain rfl:=ae _ U;have a8:=elim_inl ab;obtain rfl:=oi a8;exact A6 func112 rfl rfl (Z (((K.Ac aa).Ac ai).Ac au) rfl ⟨rfl,rfl⟩ av)
    ·obtain⟨a9,ba,bb⟩:=bs a7;refine zg 3 rfl (Bs ba rfl rfl rfl ?_);refine zg 2 rfl ?_;obtain rfl:=oi bb;exact aH a9 (((K.Ac aa).Ac ai).Ac au) av rfl U
  ·refine JL.exit rfl ?_;obtain rfl:=oi aK;have bd:ak=(Sum.inr ()):=(ae _ U).symm;exact AB (aF _ _ ⟨(),aG,bd,rfl,rfl,K,ap⟩) rfl
def f74(fu_:Nat)(p0:Ay)(K:Ay):Option Int:= (f112 fu_ p0 K).bind λO=> some O
theorem Gg{a1:Aw}{c2:Nat}{O:Aw}{U:Nat}{p0:Ay}{K:Ay}(Y:Am Ar E a1 c2 p0)(Z:Am Ar E O U K){fu_:Nat}{r:Int}(V:f74 fu_ p0 K=some r):AP J 74 [sV a1 p0 c2,sV O K U] E [] (λw E' B'=>w=iV r/\B'= []):=by
 refine Bl func74 λQ ai cs H aa ab=>?_;unfold f74 at V;obtain⟨aj,ac,ae⟩:=bs V;refine zg 8 rfl (Cd (XH Y Z ac) rfl rfl (A5 func112 rfl) aa λak ag ah=>?_);refine zg 2 rfl ?_;obtain rfl:=oi ae;exact A6 func74 rfl rfl (ab ag rfl ⟨rfl,rfl⟩ ah)
def f73(fu_:Nat)(p0:Ay)(K:Ay):Option Bool:= (f74 fu_ p0 K).bind λO=> some (decide (O<0))
theorem YT{a1:Aw}{c2:Nat}{O:Aw}{U:Nat}{p0:Ay}{K:Ay}(Y:Am Ar E a1 c2 p0)(Z:Am Ar E O U K){fu_:Nat}{r:Bool}(V:f73 fu_ p0 K=some r):AP J 73 [sV a1 p0 c2,sV O K U] E [] (λw E' B'=>w= .bool r/\B'= []):=by
 refine Bl func73 λQ ai cs H aa ab=>?_;unfold f73 at V;obtain⟨aj,ac,ae⟩:=bs V;refine zg 8 rfl (Cd (Gg Y Z ac) rfl rfl Ga aa λak ag ah=>?_);refine zg 3 rfl ?_;obtain rfl:=oi ae;exact A6 func73 rfl rfl (ab ag rfl ⟨rfl,rfl⟩ ah)
def f72(fu_:Nat)(p0:Ay×Bool)(K:Ay):Option ((Ay×Bool)):= Option.bind (if(!p0.2)=true then(some true) else((f73 fu_ K p0.1).bind λO=> some O)) λU=> Option.bind (if U=true then(some (K,true)) else(some p0)) λV=> some V
theorem Y0{bk:Nat}{a1:Aw}{c2:Nat}{K:Aw}{O:Nat}{p0:Ay×Bool}{U:Ay}(ag:Am Ar E a1 c2 p0.1)(ah:Am Ar E K O U){fu_:Nat}{r:(Ay×Bool)}(ai:f72 fu_ p0 U=some r):AP J 72 [Ai bk 0,sV K U O,(fV 73)] E [(bk,.cells #[sV a1 p0.1 c2,.bool p0.2] 82 (0,0))] (λw E' B'=>∃(aj:Aw) (ak:Nat),w= .tuple #[]/\B'= [(bk,.cells #[sV aj r.1 ak,.bool r.2] 82 (0,0))]/\Am Ar E' aj ak r.1):=by
 refine Bl func72 λQ aN cs H Y ao=>?_;unfold f72 at ai;refine zg 4 rfl (JL.fd underlying82 K8 rfl rfl rfl ?_);refine Al (v:= .bool p0.2) rfl (λρ h=>Yl.load Nz (h _ _ rfl) (BM (j:=0) (off:=1) Y rfl rfl)) (Al (v:= .bool (!p0.2)) rfl (λρ h=>Yl.not (h _ _ rfl)) ?_);obtain⟨ap,aq,ar⟩:=bs ai;refine zg 1 rfl (GN [] (λL s=>∃(V:LH),Jm E H V [bX bk #[sV a1 p0.1 c2,.bool p0.2] 82] [(0,Ai bk 0),(1,sV K U O),(19,.bool ap)] L s) ?_ ?_)
 ·rintro _ _ ⟨V,rfl,rfl,ab,al⟩;obtain⟨ac,au,av⟩:=bs ar;refine JL.done (Bg (λL s=>∃(ae:LH) (Z:Aw) (aa:Nat),Jn V H ae [bX bk #[sV Z ac.1 aa,.bool ac.2] 82] [] L s (Am Ar ae Z aa ac.1)) ?_ ?_)
  ·rintro _ _ ⟨ae,Z,aa,rfl,rfl,aw,ay,az⟩;obtain rfl:=oi av;exact JL.fin (v:= .tuple #[]) rfl rfl (Bd.list func72 rfl (vs:= []) trivial) (ao (ab.Ac aw) rfl ⟨Z,aa,rfl,rfl,az⟩ ay)
  ·intro am;refine B6 au (λaA aB=>?_) (λaA aC=>?_)
   ·refine zg 5 rfl (JL.fd underlying82 A3 rfl rfl rfl ?_);refine Bv 0 al A3 λaD=>?_;refine zg 1 rfl (JL.fd underlying82 K8 rfl rfl rfl ?_);refine Bv 0 aD K8 λaE=>?_;refine JL.done ?_;obtain rfl:=oi aB;exact AB (am _ _ ⟨V,K,O,rfl,rfl,Az,aE,(ah.Ag ab)⟩) rfl
   ·refine JL.skip ?_;obtain rfl:=oi aC;exact AB (am _ _ ⟨V,a1,c2,rfl,rfl,Az,al,(ag.Ag ab)⟩) rfl
 ·intro an;refine ER 11 aq (λaF aG=>?_) (λaF aH=>?_)
  ·refine zg 8 rfl ?_;obtain rfl:=oi aG;exact AB (an _ _ ⟨E,rfl,rfl,Az,Y⟩) rfl
  ·refine zg 4 rfl (JL.fd underlying82 A3 rfl rfl rfl ?_);refine Al (v:= sV a1 p0.1 c2) rfl (λρ h=>Yl.load Bu (h _ _ rfl) (BM (j:=0) (off:=0) Y rfl rfl)) ?_;obtain⟨aO,aI,aJ⟩:=bs aH;refine Kt (vs:= [sV K U O,sV a1 p0.1 c2]) (YT ah ag aI) rfl rfl rfl rfl (A5 func73 rfl) rfl Y ?_;rintro _ aK _ aL ⟨rfl,rfl⟩ aM;refine zg 1 rfl ?_;obtain rfl:=oi aJ;exact AB (an _ _ ⟨aK,rfl,rfl,aL,aM⟩) rfl
end Pal
namespace Pal
open Go Go.Conc Go.Proofs
open Go.Proofs.Tryz
variable {J:Judge Tryz.prog}{E:LH}
def RF(fu_:Nat)(O:List Int)(K:(Ch)×Int):Option (Bn ((Ch)×Int) ((Ch))):= if K.2<(O.length:Int) then((ix O K.2).bind λU=> (Au (((BA K.1 U).getD 0)+1)).bind λV=> (Au (K.2+1)).bind λY=> some (.more ((Dh K.1 U V),Y))) else(some (.done K.1))
def RN(fu_:Nat)(p0:AX)(K:(List Ch)×Int):Option (Bn ((List Ch)×Int) ((List Ch))):= if K.2<(p0.1.length:Int) then((ix p0.1 K.2).bind λO=> Option.bind (iter (RF fu_ O) fu_ (([]:Ch),0)) λU=> (room K.1 U).bind λV=> (Au (K.2+1)).bind λY=> some (.more (V,Y))) else(some (.done K.1))
def f120(fu_:Nat)(p0:AX):Option ((List Ch)):= Option.bind (iter (RN fu_ p0) fu_ ([],0)) λK=> some K
theorem Xu{a1:Aw}{c2:Nat}{aw:Aw}{ay:Nat}{p0:AX}(aN:Am (rL rI) E a1 c2 p0.1)(bS:Am Ar E aw ay p0.2){fu_:Nat}{r:(List Ch)}(az:f120 fu_ p0=some r):AP J 120 [.agg #[sV a1 p0.1 c2,sV aw p0.2 ay]] E [] (λw E' B'=>∃(aA:Aw) (aB:Nat),w= sV aA r aB/\B'= []/\Am (rM rI false rI false) E' aA aB r):=by
 refine Bl func120 λQ bT cs H aO aP=>?_;unfold f120 at az;refine zg 2 rfl (Dc aO λbU aj aC aQ aR=>?_);refine zg 9 rfl (JL.fd underlying77 A2 rfl rfl rfl ?_);refine BJ 0 aQ underlying25 Ct C7 ?_;refine JL.ln underlying22 rfl rfl rfl ?_;obtain⟨aD,aS,aT⟩:=bs az;refine zg 2 rfl (Bg (λL s=>∃(ak:LH) (ac:Aw) (ae:Nat) (al:Seg),Jn aj H ak [al] [(3,sV ac aD ae)] L s (OL 197 (rM rI false rI false) ak ac ae al aD)) ?_ ?_)
 ·rintro _ _ ⟨ak,ac,ae,al,rfl,rfl,aU,aV,aW⟩;refine zg 5 rfl (BC 0 aW aV rfl λbV aX aY aZ=>?_);obtain rfl:=oi aT;exact A6 func120 rfl rfl (aP ((aC.Ac aU).Ac aX) rfl ⟨ac,ae,rfl,rfl,aY⟩ aZ)
 ·intro a0;refine JL.block (De aS (λL s K=>∃(O:LH) (U:Aw) (V:Nat) (Z:Seg),Jn aj H O [Z] [(3,sV U K.1 V),(11,sV a1 p0.1 c2),(12,iV (p0.1.length:Int)),(13,iV K.2)] L s (OL 197 (rM rI false rI false) O U V Z K.1)) ⟨aj,none,0,[],rfl,rfl,Az,aR,OL.nil⟩ ?_);rintro _ _ K ⟨O,U,V,Z,rfl,rfl,am,aE,aF⟩ a2 ⟨bW,an⟩ a3;have aG:=an;unfold RN at aG;refine zg 5 rfl (A4 aG (λa4 a5=>?_) (λa4 a6=>?_))
  ·obtain⟨aH,a7,a8⟩:=bs a5;refine zg 5 rfl (Es (aN.Ag (aC.Ac am)) a7 underlying22 Dj ?_);rintro bY bZ _ ⟨a9,ba,rfl,bb⟩ bd;refine EL 0 bd F9 rfl rfl rfl (zg 4 rfl ?_);refine JS.makeMap rfl rfl rfl aE λaa be=>zg 6 rfl (JL.ln underlying28 rfl rfl rfl ?_);obtain⟨aI,bf,bg⟩:=bs a8;refine zg 2 rfl (Bg (λL s=>∃(ao:LH) (ag:Obj),Jn O H ao [Z,[(aa,ag)]] [(3,sV U K.1 V),(6,.map (some aa)),(11,sV a1 p0.1 c2),(12,iV (p0.1.length:Int)),(13,iV K.2)] L s (BD rI false rI false ao ag aI)) ?_ ?_)
   ·rintro _ _ ⟨ao,ag,rfl,rfl,aJ,bh,bi⟩;refine zg 3 rfl (N3 1 bh rfl λaK ap bj bl=>?_);have bm:BD rI false rI false aK ag aI:=(bi.Ag ap);obtain⟨bn,bo,bp⟩:=bs bg;refine JS.app (pp:=(rM rI false rI false)) (v:= .map (some aa)) (a:=U) (c:=V) 0 bo rfl rfl rfl rfl (λ_=>rfl) rfl (λ_=>rfl) rfl rfl rfl underlying156 underlying156 underlying156 Hc (B4 type197) (Dw type197) rfl (by decide) (by decide) (by decide) (by decide) (aF.Ag (aJ.Ac ap)) ⟨_,_,rfl,bj,bm⟩ bl rfl λb0 bq br bu bv bw=>?_;obtain⟨bx,bz,bA⟩:=bs bp;refine zg 4 rfl (Bs bz rfl rfl rfl ?_);refine zg 2 rfl ?_;obtain rfl:=oi bA;exact AB (a3 _ _ (bn,bx) ⟨aK,bq,br,bu,rfl,rfl,((am.Ac aJ).Ac ap),bw,bv⟩ an) rfl
   ·intro bB;refine JL.block (De bf (λL s Y=>∃(ab:LH) (ah:Obj),Jn O H ab [Z,[(aa,ah)]] [(3,sV U K.1 V),(6,.map (some aa)),(11,sV a1 p0.1 c2),(12,iV (p0.1.length:Int)),(13,iV K.2),(18,sV a9 aH ba),(19,iV (aH.length:Int)),(20,iV Y.2)] L s (BD rI false rI false ab ah Y.1)) ⟨O,(.map #[] 0),rfl,rfl,Az,be,BD.nil⟩ ?_);rintro _ _ Y ⟨ab,ah,rfl,rfl,aq,ar,au⟩ bC ⟨b1,av⟩ bD;have aL:=av;unfold RF at aL;refine zg 5 rfl (A4 aL (λbE bF=>?_) (λbE bG=>?_))
    ·obtain⟨ai,bH,bI⟩:=bs bF;refine zg 5 rfl (Es (bb.Ag aq) bH underlying28 AS ?_);rintro b2 b3 _ rfl bJ;refine EL 0 bJ Bj rfl rfl rfl (zg 5 rfl ?_);refine Al (v:=iV ((BA Y.1 ai).getD 0)) rfl (λρ h=>Yl.lookup (ok:=false) (xs:=Y.1) (x0:=ai) (z0:=0) Iu underlying197 CY ⟨_,rfl,rfl⟩ au ⟨_,rfl,rfl⟩ (by rintro _ ⟨_,rfl,rfl⟩;rfl) (h _ _ rfl) (h _ _ rfl) (DW (j:=1) (i:=0) ar rfl rfl)) ?_;obtain⟨aM,bK,bL⟩:=bs bI;refine Bs bK rfl rfl rfl (JS.mapUpdate (xs:=Y.1) (x0:=ai) (v0:=aM) 1 Iu underlying197 au ⟨_,rfl,rfl⟩ ⟨_,rfl,rfl⟩ ar rfl rfl rfl rfl rfl rfl rfl λbM bN bO=>?_);obtain⟨bP,bQ,bR⟩:=bs bL;refine zg 3 rfl (Bs bQ rfl rfl rfl ?_);refine zg 2 rfl ?_;obtain rfl:=oi bR;exact AB (bD _ _ ((Dh Y.1 ai aM),bP) ⟨ab,bM,rfl,rfl,aq,bO,bN⟩ av) rfl
    ·refine JL.exit rfl ?_;obtain rfl:=oi bG;obtain rfl:=bC _ av;exact AB (bB _ _ ⟨ab,ah,rfl,rfl,aq,ar,au⟩) rfl
  ·refine JL.exit rfl ?_;obtain rfl:=oi a6;obtain rfl:=a2 _ an;exact AB (a0 _ _ ⟨O,U,V,Z,rfl,rfl,am,aE,aF⟩) rfl
def SG(fu_:Nat)(p0:AX)(O:(List Int))(K:(List Int)×Int):Option (Bn ((List Int)×Int) ((List Int))):= if K.2<5 then((ix O K.2).bind λU=> Option.bind (if K.2<(p0.1.length:Int) then((ix p0.1 K.2).bind λV=> (f85 fu_ V).bind λY=> (Au (-(U))).bind λZ=> some (decide (Y<Z))) else(some false)) λaa=> Option.bind (if aa=true then((room K.1 K.2).bind λab=> some ab) else(some K.1)) λac=> (Au (K.2+1)).bind λae=> some (.more (ac,ae))) else(some (.done K.1))
def f39(fu_:Nat)(p0:AX):Option ((List Int)×Int):= (f70 fu_ p0 ([])).bind λK=> if K.2≠0 then(some ([],K.2)) else((f84 fu_ K.1).bind λO=> Option.bind (iter (SG fu_ p0 O) fu_ ([],0)) λU=> some (U,0))
theorem YZ{a1:Aw}{c2:Nat}{aB:Aw}{aC:Nat}{p0:AX}(aD:Am (rL rI) E a1 c2 p0.1)(aO:Am Ar E aB aC p0.2){fu_:Nat}{r:(List Int)×Int}(aE:f39 fu_ p0=some r):AP J 39 [.agg #[sV a1 p0.1 c2,sV aB p0.2 aC]] E [] (λw E' B'=>∃(aF:Aw) (aG:Nat),w= .tuple #[sV aF r.1 aG,iV r.2]/\B'= []/\Am rI E' aF aG r.1):=by
 refine Bl func39 λQ b3 cs H aP aH=>?_;unfold f39 at aE;refine zg 2 rfl (Dc aP λan b4 ab ao aQ=>?_);refine zg 5 rfl (Cw ao Bz A2 rfl rfl ?_);obtain⟨b5,aR,aS⟩:=bs aE;refine Ck (KV (aD.Ag ab) (aO.Ag ab) Am.nil aR) rfl rfl Kl aQ ?_;rintro _ b6 _ ac ⟨b7,b8,b9,ca,rfl,rfl,aT,aU⟩ aV;refine zg 3 rfl (Cx aV HH λcb aW=>?_);refine Bv 3 aW DZ λaX=>?_;refine Cf 3 aX rfl λcc O aY aI=>zg 8 rfl (A4 aS (λaZ a0=>?_) (λaZ a2=>?_))
 ·refine zg 6 rfl ?_;obtain rfl:=oi a0;exact A6 func39 rfl rfl (aH ((ab.Ac ac).Ac O) rfl ⟨none,0,rfl,rfl,Am.nil⟩ aI)
 ·refine zg 8 rfl (Cw aY FU DZ rfl rfl ?_);obtain⟨cd,a3,a4⟩:=bs a2;refine Ck (Pd (aT.Ag O) (aU.Ag O) a3) rfl rfl NK aI ?_;rintro _ ap _ ag ⟨aq,rfl,rfl,a5⟩ a6;obtain⟨aJ,a7,a8⟩:=bs a4;refine zg 2 rfl (Bg (λL s=>∃(ar:LH) (ah:Aw) (ai:Nat) (au:Seg),Jn ap H ar [au] [(6,sV ah aJ ai)] L s (OL 3 rI ar ah ai au aJ)) ?_ ?_)
  ·rintro _ _ ⟨ar,ah,ai,au,rfl,rfl,a9,ba,bb⟩;refine zg 6 rfl (BC 0 bb ba rfl λce bd be bf=>?_);obtain rfl:=oi a8;exact A6 func39 rfl rfl (aH (((((ab.Ac ac).Ac O).Ac ag).Ac a9).Ac bd) rfl ⟨ah,ai,rfl,rfl,be⟩ bf)
  ·intro bg;refine JL.block (De a7 (λL s K=>∃(Y:LH) (U:Aw) (V:Nat) (Z:Seg),Jn ap H Y [Z] [(1,Ai an 0),(6,sV U K.1 V),(18,.agg aq.toArray),(19,iV K.2)] L s (OL 3 rI Y U V Z K.1)) ⟨ap,none,0,[],rfl,rfl,Az,a6,OL.nil⟩ ?_);rintro _ _ K ⟨Y,U,V,Z,rfl,rfl,aa,av,aw⟩ bh ⟨cf,ay⟩ bi;have aK:=ay;unfold SG at aK;refine zg 5 rfl (A4 aK (λbj bl=>?_) (λbj bm=>?_))
   ·obtain⟨cg,bn,bo⟩:=bs bl;refine zg 6 rfl (SL (Rp.Ag _ aa a5) bn rfl rfl rfl rfl rfl underlying105 AS Bj ?_ (λ_=>rfl));rintro _ rfl;refine zg 6 rfl (BJ 0 (ao.Ag (((ac.Ac O).Ac ag).Ac aa)) underlying25 Ct C7 ?_);refine JL.ln underlying22 rfl rfl rfl ?_;obtain⟨bp,bq,br⟩:=bs bo;refine zg 2 rfl (GN [] (λL s=>∃(ae:LH),Jm Y H ae [Z] [(1,Ai an 0),(6,sV U K.1 V),(7,iV K.2),(18,.agg aq.toArray),(19,iV K.2),(38,.bool bp)] L s) ?_ ?_)
    ·rintro _ _ ⟨ae,rfl,rfl,az,aL⟩;obtain⟨aA,bu,bv⟩:=bs br;refine JL.done (Bg (λL s=>∃(aj:LH) (ak:Aw) (al:Nat) (am:Seg),Jn ae H aj [am] [(1,Ai an 0),(6,sV ak aA al),(18,.agg aq.toArray),(19,iV K.2)] L s (OL 3 rI aj ak al am aA)) ?_ ?_)
     ·rintro _ _ ⟨aj,ak,al,am,rfl,rfl,bw,bx,bz⟩;obtain⟨bA,bB,bC⟩:=bs bv;refine zg 2 rfl (Bs bB rfl rfl rfl ?_);refine zg 2 rfl ?_;obtain rfl:=oi bC;exact AB (bi _ _ (aA,bA) ⟨aj,ak,al,am,rfl,rfl,((aa.Ac az).Ac bw),bx,bz⟩ ay) rfl
     ·intro aM;refine B6 bu (λbD bE=>?_) (λbD bF=>?_)
      ·obtain⟨ci,bG,bH⟩:=bs bE;refine zg 3 rfl (JS.app (pp:=rI) (v:=iV K.2) (a:=U) (c:=V) 0 bG rfl rfl rfl rfl (λ_=>rfl) rfl (λ_=>rfl) rfl rfl rfl underlying28 underlying28 underlying28 AS (B4 type3) CY rfl (by decide) (by decide) (by decide) (by decide) (aw.Ag az) rfl aL rfl λck bI bJ bK bL bM=>?_);refine zg 2 rfl ?_;obtain rfl:=oi bH;exact AB (aM _ _ ⟨ae,bI,bJ,bK,rfl,rfl,Az,bM,bL⟩) rfl
      ·refine JL.skip ?_;obtain rfl:=oi bF;exact AB (aM _ _ ⟨ae,U,V,Z,rfl,rfl,Az,aL,(aw.Ag az)⟩) rfl
    ·intro aN;refine IV 28 bq (λbN bO=>?_) (λbN bP=>?_)
     ·refine BJ 0 (ao.Ag (((ac.Ac O).Ac ag).Ac aa)) underlying25 Ct C7 ?_;obtain⟨cm,bQ,bR⟩:=bs bO;refine zg 1 rfl (Es (aD.Ag ((((ab.Ac ac).Ac O).Ac ag).Ac aa)) bQ underlying22 Dj ?_);rintro cn co _ ⟨cp,cq,rfl,bS⟩ bT;refine EL 0 bT F9 rfl rfl rfl ?_;obtain⟨cr,bU,bV⟩:=bs bR;refine Cd (Ht bS bU) rfl rfl Ha av λbW bY bZ=>?_;obtain⟨b0,b1,b2⟩:=bs bV;refine zg 1 rfl (Al (v:=iV b0) rfl (λρ h=>Hj (h _ _ rfl) b1) ?_);refine zg 2 rfl ?_;obtain rfl:=oi b2;exact AB (aN _ _ ⟨bW,rfl,rfl,bY,bZ⟩) rfl
     ·refine zg 10 rfl ?_;obtain rfl:=oi bP;exact AB (aN _ _ ⟨Y,rfl,rfl,Az,av⟩) rfl
   ·refine JL.exit rfl ?_;obtain rfl:=oi bm;obtain rfl:=bh _ ay;exact AB (bg _ _ ⟨Y,U,V,Z,rfl,rfl,aa,av,aw⟩) rfl
def Rs(fu_:Nat)(p0:List Int)(O:Int)(K:Int):Option (Bn Int ((Int)⊕(Unit))):= if K<(p0.length:Int) then((ix p0 K).bind λU=> if O=U then(some (.done (Sum.inl K))) else((Au (K+1)).bind λV=> some (.more V))) else(some (.done (Sum.inr ())))
def f128(fu_:Nat)(p0:List Int)(K:Int):Option Int:= Option.bind (iter (Rs fu_ p0 K) fu_ 0) λO=> Sum.elim (λr=>some r) (λU=> some (-1)) O
theorem XW{a1:Aw}{c2:Nat}{p0:List Int}{U:Int}(aj:Am rI E a1 c2 p0){fu_:Nat}{r:Int}(Z:f128 fu_ p0 U=some r):AP J 128 [sV a1 p0 c2,iV U] E [] (λw E' B'=>w=iV r/\B'= []):=by
 refine Bl func128 λQ aJ cs H ak aa=>?_;unfold f128 at Z;refine zg 8 rfl (JL.ln underlying28 rfl rfl rfl ?_);obtain⟨ab,al,ac⟩:=bs Z;refine zg 2 rfl (Bg (λL s=>∃(ae:Unit) (ag:LH),ab=Sum.inr ae/\Jm E H ag [] [] L s) ?_ ?_)
 ·rintro _ _ ⟨ae,ag,rfl,rfl,rfl,am,an⟩;have ao:=elim_inr ac;refine zg 4 rfl ?_;obtain rfl:=oi ao;exact A6 func128 rfl rfl (aa am rfl ⟨rfl,rfl⟩ an)
 ·intro ap;refine JL.block (Ds al (λV=> []) (λV=> [(0,sV a1 p0 c2),(1,iV U),(7,iV (p0.length:Int)),(8,iV V)]) Az ak ?_);rintro V aq K Y ah ⟨aK,O⟩ ar;have ai:=O;unfold Rs at ai;refine zg 5 rfl (A4 ai (λau av=>?_) (λau aw=>?_))
  ·obtain⟨aL,ay,az⟩:=bs av;refine zg 13 rfl (Es (aj.Ag K) ay underlying28 AS ?_);rintro aM aN _ rfl aA;refine EL 0 aA Bj rfl rfl rfl (zg 2 rfl ?_);refine A4 az (λaB aC=>?_) (λaB aD=>?_)
   ·refine zg 5 rfl ?_;obtain rfl:=oi aC;obtain rfl:=ah _ O;have aE:=elim_inl ac;obtain rfl:=oi aE;exact A6 func128 rfl rfl (aa K rfl ⟨rfl,rfl⟩ Y)
   ·obtain⟨aF,aG,aH⟩:=bs aD;refine zg 3 rfl (Bs aG rfl rfl rfl ?_);refine zg 2 rfl ?_;obtain rfl:=oi aH;exact ar aF K Y rfl O
  ·refine JL.exit rfl ?_;obtain rfl:=oi aw;have aI:ab=(Sum.inr ()):=(ah _ O).symm;exact AB (ap _ _ ⟨(),aq,aI,rfl,rfl,K,Y⟩) rfl
def f82(fu_:Nat)(p0:List Int)(K:Int):Option Bool:= (f128 fu_ p0 K).bind λO=> some (decide (0<=O))
theorem Yj{a1:Aw}{c2:Nat}{p0:List Int}{K:Int}(U:Am rI E a1 c2 p0){fu_:Nat}{r:Bool}(O:f82 fu_ p0 K=some r):AP J 82 [sV a1 p0 c2,iV K] E [] (λw E' B'=>w= .bool r/\B'= []):=by
 refine Bl func82 λQ ae cs H V Y=>?_;unfold f82 at O;obtain⟨ag,Z,aa⟩:=bs O;refine zg 8 rfl (Cd (XW U Z) rfl rfl (A5 func128 rfl) V λah ab ac=>?_);refine zg 3 rfl ?_;obtain rfl:=oi aa;exact A6 func82 rfl rfl (Y ab rfl ⟨rfl,rfl⟩ ac)
def Sv(fu_:Nat)(O:AX×Int)(K:(List ((Int×Int)×Bool))×Int):Option (Bn ((List ((Int×Int)×Bool))×Int) ((List ((Int×Int)×Bool)))):= if K.2<(O.1.2.length:Int) then((ix O.1.2 K.2).bind λU=> (Au (K.2+1)).bind λV=> some (.more ((Dh K.1 (U.1,U.2.1) true),V))) else(some (.done K.1))
def Se(fu_:Nat)(U:AX×Int)(V:(List ((Int×Int)×Bool)))(O:List Int)(K:A9×Int):Option (Bn (A9×Int) (A9)):= if K.2<(U.1.1.length:Int) then(Option.bind ((f82 fu_ O K.2).bind λY=> Option.bind (if Y=true then(some true) else(if 0<(O.length:Int) then((Au ((O.length:Int) - 1)).bind λZ=> (ix O Z).bind λaa=> some (!((BA V (aa,K.2)).getD false))) else(some false))) λab=> if ab=true then(some K.1) else((Cr O ([K.2]:List Int)).bind λac=> (room K.1 ac).bind λae=> some ae)) λag=> (Au (K.2+1)).bind λah=> some (.more (ag,ah))) else(some (.done K.1))
def Sr(fu_:Nat)(Y:AX×Int)(U:(List ((Int×Int)×Bool)))(V:A9)(O:A9×Int):Option (Bn (A9×Int) (((List Int)×Int)⊕(A9))):= if O.2<(V.length:Int) then((ix V O.2).bind λK=> Option.bind (if 1<(K.length:Int) then((Au ((K.length:Int) - 1)).bind λZ=> (ix K Z).bind λaa=> (ix K (0)).bind λab=> some ((BA U (aa,ab)).getD false)) else(some false)) λac=> if ac=true then(some (.done (Sum.inl (K,0)))) else(Option.bind (iter (Se fu_ Y U K) fu_ (O.1,0)) λae=> (Au (O.2+1)).bind λag=> some (.more (ae,ag)))) else(some (.done (Sum.inr O.1)))
def Sy(fu_:Nat)(U:AX×Int)(V:(List ((Int×Int)×Bool)))(K:A9):Option (Bn (A9) (((List Int)×Int)⊕(Unit))):= if 0<(K.length:Int) then(Option.bind (iter (Sr fu_ U V K) fu_ ([],0)) λY=> Sum.elim (λr=>some (.done (Sum.inl r))) (λO=> if(O.length:Int)=0 then(some (.done (Sum.inr ()))) else(some (.more O))) Y) else(some (.done (Sum.inr ())))
def f33(fu_:Nat)(p0:AX):Option ((List Int)×Int):= (f70 fu_ p0 ([])).bind λK=> if K.2≠0 then(some ([],K.2)) else(Option.bind (iter (Sv fu_ K) fu_ (([]:List ((Int×Int)×Bool)),0)) λO=> Option.bind (iter (Sy fu_ K O) fu_ ([[]]:A9)) λU=> Sum.elim (λr=>some r) (λV=> some ([],11)) U)
theorem Yo{a1:Aw}{c2:Nat}{bp:Aw}{bq:Nat}{p0:AX}(b0:Am (rL rI) E a1 c2 p0.1)(b1:Am Ar E bp bq p0.2){fu_:Nat}{r:(List Int)×Int}(br:f33 fu_ p0=some r):AP J 33 [.agg #[sV a1 p0.1 c2,sV bp p0.2 bq]] E [] (λw E' B'=>∃(bu:Aw) (bv:Nat),w= .tuple #[sV bu r.1 bv,iV r.2]/\B'= []/\Am rI E' bu bv r.1):=by
 refine Bl func33 λQ eU cs H b2 a7=>?_;unfold f33 at br;refine zg 2 rfl (Dc b2 λeV eW aE b3 b4=>?_);refine zg 6 rfl (Cw b3 Bz A2 rfl rfl ?_);obtain⟨aF,b5,b6⟩:=bs br;refine Ck (KV (b0.Ag aE) (b1.Ag aE) Am.nil b5) rfl rfl Kl b4 ?_;rintro _ eX _ a8 ⟨eY,eZ,b7,b8,rfl,rfl,e0,b9⟩ ca;refine zg 3 rfl (Cx ca HH λaa cb=>?_);refine Bv 3 cb DZ λcc=>?_;refine Cf 3 cc rfl λa9 aM bw bx=>zg 8 rfl (A4 b6 (λcd ce=>?_) (λcd cf=>?_))
 ·refine zg 6 rfl ?_;obtain rfl:=oi ce;exact A6 func33 rfl rfl (a7 ((aE.Ac a8).Ac aM) rfl ⟨none,0,rfl,rfl,Am.nil⟩ bx)
 ·refine zg 3 rfl (JS.makeMap rfl rfl rfl bx λK cg=>?_);refine zg 5 rfl (JL.fd underlying77 A2 rfl rfl rfl ?_);refine BJ 1 bw underlying25 Cm Eo ?_;refine JL.ln underlying23 rfl rfl rfl ?_;obtain⟨av,ci,ck⟩:=bs cf;refine zg 2 rfl (Bg (λL s=>∃(aw:LH) (Z:Obj),Jn a9 H aw [[(K,Z)]] [(4,Ai aa 0),(6,.map (some K))] L s (BD Fc true rB false aw Z av)) ?_ ?_)
  ·rintro _ _ ⟨aw,Z,rfl,rfl,ba,cm,bz⟩;refine zg 2 rfl (Fg (pp:=(rL rI)) [nS] [[]] rfl rfl rfl underlying22 Dj Hb (by decide) rfl rfl rfl ⟨⟨_,_,rfl,Am.nil⟩,trivial⟩ cm λcn co cp cq=>?_);refine zg 3 rfl (JL.label ?_);obtain⟨bb,cr,bA⟩:=bs ck;refine JL.seq (Bg (λL s=>∃(bB:Unit) (bC:LH),bb=Sum.inr bB/\Jm aw H bC [] [] L s) ?_ ?_)
   ·rintro _ _ ⟨bB,bC,rfl,rfl,rfl,ct,cu⟩;have cv:=elim_inr bA;refine zg 5 rfl ?_;obtain rfl:=oi cv;exact A6 func33 rfl rfl (a7 ((((aE.Ac a8).Ac aM).Ac ba).Ac ct) rfl ⟨none,0,rfl,rfl,Am.nil⟩ cu)
   ·intro bD;refine JL.block (De cr (λL s O=>∃(al:LH) (ab:Aw) (ac:Nat) (ae:Seg),Jn aw H al [[(K,Z)],ae] [(4,Ai aa 0),(6,.map (some K)),(9,sV ab O ac)] L s (OL 28 (rL rI) al ab ac ae O)) ⟨aw,(AJ cn),1,co,rfl,rfl,Az,cq,cp⟩ ?_);rintro _ _ O ⟨al,ab,ac,ae,rfl,rfl,am,bE,cw⟩ bd ⟨e1,aG⟩ cy;have bF:=aG;unfold Sy at bF;refine zg 4 rfl (JL.ln underlying22 rfl rfl rfl ?_);refine zg 2 rfl (A4 bF (λcz cA=>?_) (λcz cB=>?_))
    ·refine zg 10 rfl (JL.ln underlying22 rfl rfl rfl ?_);obtain⟨bG,cC,bH⟩:=bs cA;refine zg 2 rfl (Bg (λL s=>∃(aH:A9) (aI:LH) (aN:Aw) (aO:Nat) (aP:Seg),bG=Sum.inr aH/\Jn al H aI [[(K,Z)],aP] [(4,Ai aa 0),(6,.map (some K)),(10,sV aN aH aO)] L s (OL 28 (rL rI) aI aN aO aP aH)) ?_ ?_)
     ·rintro _ _ ⟨aH,aI,aN,aO,aP,rfl,rfl,rfl,bI,bJ,cD⟩;have cE:=elim_inr bH;refine zg 8 rfl (JL.ln underlying22 rfl rfl rfl ?_);refine zg 2 rfl (A4 cE (λcF cG=>?_) (λcF cH=>?_))
      ·refine JL.exit rfl (JS.drop 0 bJ rfl λcI=>?_);refine JS.drop 1 cI rfl λcJ=>?_;obtain rfl:=oi cG;have cK:bb=(Sum.inr ()):=(bd _ aG).symm;exact AB (bD _ _ ⟨(),aI,cK,rfl,rfl,(am.Ac bI),cJ⟩) rfl
      ·refine zg 2 rfl ?_;obtain rfl:=oi cH;exact AB (cy _ _ aH ⟨aI,aN,aO,aP,rfl,rfl,(am.Ac bI),bJ,cD⟩ aG) rfl
     ·intro cM;refine JL.block (De cC (λL s V=>∃(ah:LH) (ay:Aw) (az:Nat) (aA:Seg),Jn al H ah [[(K,Z)],ae,aA] [(4,Ai aa 0),(6,.map (some K)),(10,sV ay V.1 az),(43,sV ab O ac),(44,iV (O.length:Int)),(45,iV V.2)] L s (OL 28 (rL rI) ah ay az aA V.1)) ⟨al,none,0,[],rfl,rfl,Az,bE,OL.nil⟩ ?_);rintro _ _ V ⟨ah,ay,az,aA,rfl,rfl,an,aJ,bK⟩ bL ⟨e3,aQ⟩ cN;have bM:=aQ;unfold Sr at bM;refine zg 5 rfl (A4 bM (λcO cP=>?_) (λcO cQ=>?_))
      ·obtain⟨ai,cR,cT⟩:=bs cP;refine zg 5 rfl (Ms 1 (cw.Ag an) cR rfl rfl rfl rfl rfl rfl underlying22 Dj ?_);rintro e4 e5 f155 _ cV ⟨ao,aB,rfl,aj⟩ cW e6 e7 e8 e9;refine Al (v:= sV ao ai aB) rfl (λρ h=>Yl.load F9 (h _ _ rfl) (BM (j:=1) aJ cV (cW 0 _ rfl))) (zg 6 rfl ?_);refine JL.ln underlying28 rfl rfl rfl (zg 3 rfl ?_);refine Pp 15 λY=>AZ Y rfl [0,1,2] rfl ?_;obtain⟨cX,bN,cY⟩:=bs cT;refine DO 0 #[true,true,true,true,true,true,true,true,true,true,true,true,true,true,true] (λL s=>L= [(4,Ai aa 0),(6,.map (some K)),(10,sV ay V.1 az),(12,sV ao ai aB),(43,sV ab O ac),(44,iV (O.length:Int)),(45,iV V.2),(65,.bool cX)]/\s=Ak ah H [[(K,Z)],ae,aA]) ?_ ?_
       ·rintro _ _ ⟨rfl,rfl⟩;refine AL.fin (by decide+kernel) (B6 cY (λcZ c0=>?_) (λcZ c1=>?_))
        ·refine zg 6 rfl (JS.drop 0 aJ rfl λc3=>?_);refine JS.drop 1 c3 rfl λc4=>JS.drop 2 c4 rfl λc5=>?_;obtain rfl:=oi c0;obtain rfl:=bL _ aQ;have c6:=elim_inl bH;obtain rfl:=oi c6;obtain rfl:=bd _ aG;have c7:=elim_inl bA;obtain rfl:=oi c7;exact A6 func33 rfl rfl (a7 (((((aE.Ac a8).Ac aM).Ac ba).Ac am).Ac an) rfl ⟨ao,aB,rfl,rfl,aj⟩ c5)
        ·refine zg 3 rfl (JL.fd underlying77 A2 rfl rfl rfl ?_);refine BJ 0 (bw.Ag ((ba.Ac am).Ac an)) underlying25 Ct C7 ?_;refine JL.ln underlying22 rfl rfl rfl ?_;obtain⟨be,c8,c9⟩:=bs c1;refine zg 2 rfl (Bg (λL s=>∃(aR:LH) (aS:Aw) (aT:Nat) (aU:Seg),Jn ah H aR [[(K,Z)],ae,aU] [(4,Ai aa 0),(6,.map (some K)),(10,sV aS be aT),(43,sV ab O ac),(44,iV (O.length:Int)),(45,iV V.2)] L s (OL 28 (rL rI) aR aS aT aU be)) ?_ ?_)
         ·rintro _ _ ⟨aR,aS,aT,aU,rfl,rfl,da,db,dc⟩;obtain⟨dd,de,df⟩:=bs c9;refine zg 2 rfl (Bs de rfl rfl rfl ?_);refine zg 2 rfl ?_;obtain rfl:=oi df;exact AB (cN _ _ (be,dd) ⟨aR,aS,aT,aU,rfl,rfl,(an.Ac da),db,dc⟩ aQ) rfl
         ·intro dg;refine JL.block (De c8 (λL s U=>∃(aK:LH) (ap:Aw) (aq:Nat) (aC:Seg),Jn ah H aK [[(K,Z)],ae,aC] [(4,Ai aa 0),(6,.map (some K)),(10,sV ap U.1 aq),(12,sV ao ai aB),(43,sV ab O ac),(44,iV (O.length:Int)),(45,iV V.2),(70,iV (aF.1.1.length:Int)),(71,iV U.2)] L s (OL 28 (rL rI) aK ap aq aC U.1)) ⟨ah,ay,az,aA,rfl,rfl,Az,aJ,bK⟩ ?_);rintro _ _ U ⟨aK,ap,aq,aC,rfl,rfl,ak,bO,bf⟩ dh ⟨fa,bg⟩ di;have bP:=bg;unfold Se at bP;refine zg 5 rfl (A4 bP (λdj dk=>?_) (λdj dm=>?_))
          ·obtain⟨bh,dn,dp⟩:=bs dk;refine zg 2 rfl (Bg (λL s=>∃(aV:LH) (aW:Aw) (aX:Nat) (aY:Seg),Jn aK H aV [[(K,Z)],ae,aY] [(4,Ai aa 0),(6,.map (some K)),(10,sV aW bh aX),(12,sV ao ai aB),(43,sV ab O ac),(44,iV (O.length:Int)),(45,iV V.2),(70,iV (aF.1.1.length:Int)),(71,iV U.2)] L s (OL 28 (rL rI) aV aW aX aY bh)) ?_ ?_)
           ·rintro _ _ ⟨aV,aW,aX,aY,rfl,rfl,dq,dr,dt⟩;obtain⟨du,dv,dw⟩:=bs dp;refine JL.region (Bs dv rfl rfl rfl ?_);refine zg 2 rfl ?_;obtain rfl:=oi dw;exact AB (di _ _ (bh,du) ⟨aV,aW,aX,aY,rfl,rfl,(ak.Ac dq),dr,dt⟩ bg) rfl
           ·intro bQ;obtain⟨fb,dx,dy⟩:=bs dn;refine zg 11 rfl (Cd (Yj (aj.Ag ak) dx) rfl rfl (A5 func82 rfl) bO λaZ ag a0=>?_);obtain⟨dz,dA,dB⟩:=bs dy;refine zg 1 rfl (GN [] (λL s=>∃(bi:LH),Jm aZ H bi [[(K,Z)],ae,aC] [(4,Ai aa 0),(6,.map (some K)),(10,sV ap U.1 aq),(12,sV ao ai aB),(14,iV U.2),(43,sV ab O ac),(44,iV (O.length:Int)),(45,iV V.2),(70,iV (aF.1.1.length:Int)),(71,iV U.2),(94,.bool dz)] L s) ?_ ?_)
            ·rintro _ _ ⟨bi,rfl,rfl,ar,bR⟩;refine JL.done (B6 dB (λdC dD=>?_) (λdC dE=>?_))
             ·refine JL.exit rfl ?_;obtain rfl:=oi dD;exact AB (bQ _ _ ⟨bi,ap,aq,aC,rfl,rfl,(ag.Ac ar),bR,(bf.Ag (ag.Ac ar))⟩) rfl
             ·refine zg 5 rfl (JL.ln underlying28 rfl rfl rfl ?_);refine zg 1 rfl (JL.ln underlying28 rfl rfl rfl ?_);refine Al (v:= .slice ao ai.length ai.length) rfl (λρ h=>NZ (Am.spot (aj.Ag ((ak.Ac ag).Ac ar))) (And.left (aj.Ag ((ak.Ac ag).Ac ar))) underlying28 AS (h _ _ rfl) (h _ _ rfl) (h _ _ rfl)) (zg 1 rfl ?_);refine Fg (pp:=rI) [iV U.2] [U.2] rfl rfl rfl underlying28 AS CY (by decide) rfl rfl rfl ⟨rfl,trivial⟩ bR λfc fe dF dG=>BC 3 dF dG rfl λff bj dH dI=>?_;obtain⟨dJ,dK,dL⟩:=bs dE;refine P8 (pp:=rI) dK rfl rfl rfl rfl rfl rfl rfl underlying28 underlying28 AS (B4 type3) CY rfl (by decide) (by decide) (aj.Ag (((ak.Ac ag).Ac ar).Ac bj)) dH dI λdM dN dO bS dP dQ=>?_;obtain⟨fg,dR,dS⟩:=bs dL;refine JS.app (pp:=(rL rI)) (v:= sV dN dJ dO) (a:=ap) (c:=aq) 2 dR rfl rfl rfl rfl (λ_=>rfl) rfl (λ_=>rfl) rfl rfl rfl underlying22 underlying22 underlying22 Dj (B4 type28) Hb rfl (by decide) (by decide) (by decide) (by decide) (bf.Ag (((ag.Ac ar).Ac bj).Ac bS)) ⟨_,_,rfl,dP⟩ dQ rfl λfh dT dU dV dW dX=>zg 3 rfl ?_;obtain rfl:=oi dS;exact AB (bQ _ _ ⟨dM,dT,dU,dV,rfl,rfl,(((ag.Ac ar).Ac bj).Ac bS),dX,dW⟩) rfl
            ·intro bl;refine ER 77 dA (λdY dZ=>?_) (λdY ea=>?_)
             ·refine zg 17 rfl ?_;obtain rfl:=oi dZ;exact AB (bl _ _ ⟨aZ,rfl,rfl,Az,a0⟩) rfl
             ·refine zg 1 rfl (JL.ln underlying28 rfl rfl rfl ?_);refine zg 2 rfl (IV 81 ea (λeb ec=>?_) (λeb ed=>?_))
              ·refine zg 3 rfl (JL.ln underlying28 rfl rfl rfl ?_);obtain⟨fj,ee,ef⟩:=bs ec;refine BF ee rfl rfl rfl ?_;obtain⟨a2,eg,eh⟩:=bs ef;refine Es (aj.Ag (ak.Ac ag)) eg underlying28 AS ?_;rintro fk fl _ rfl ei;refine EL 0 ei Bj rfl rfl rfl (zg 1 rfl ?_);refine Al (v:= .agg #[iV a2,iV U.2]) rfl (λρ h=>CK [(0,1),(1,1)] h ID underlying101 ⟨rfl,AU type3,rfl,AU type3,trivial⟩ rfl rfl) (Al (v:= .bool (((BA av (a2,U.2)).getD false))) rfl (λρ h=>Yl.lookup (ok:=false) (xs:=av) (x0:=(a2,U.2)) (z0:=false) OH underlying99 K7 ⟨_,rfl,rfl⟩ (bz.Ag (((am.Ac an).Ac ak).Ac ag)) ⟨_,⟨_,_,rfl,rfl,rfl⟩,rfl⟩ (by rintro _ ⟨_,rfl,rfl⟩;rfl) (h _ _ rfl) (h _ _ rfl) (DW (j:=0) (i:=0) a0 rfl rfl)) ?_);refine Al (v:= .bool ((!((BA av (a2,U.2)).getD false)))) rfl (λρ h=>Yl.not (h _ _ rfl)) (zg 2 rfl ?_);obtain rfl:=oi eh;exact AB (bl _ _ ⟨aZ,rfl,rfl,Az,a0⟩) rfl
              ·refine zg 13 rfl ?_;obtain rfl:=oi ed;exact AB (bl _ _ ⟨aZ,rfl,rfl,Az,a0⟩) rfl
          ·refine JL.exit rfl ?_;obtain rfl:=oi dm;obtain rfl:=dh _ bg;exact AB (dg _ _ ⟨aK,ap,aq,aC,rfl,rfl,ak,bO,bf⟩) rfl
       ·intro bT;refine EN (q:=1<(ai.length:Int)) (i:=53) rfl (λbm=>?_) (λbm=>?_)
        ·have ej:=ip bN bm;refine AZ Y rfl [3,4,5] rfl ?_;obtain⟨fm,ek,el⟩:=bs ej;refine AH 6 Y rfl rfl (λρ h s' au=>DG (h _ _ rfl) (h _ _ rfl) ek) ?_;obtain⟨a3,em,en⟩:=bs el;refine DV 7 aj em Y underlying28 AS ?_;rintro fo fp _ rfl eo;refine AH (v:=iV a3) 8 Y rfl rfl (λρ h s' au=>Yl.load Bj (h _ _ rfl) (Lt au (At.Dd (j:=0) eo rfl))) ?_;refine Bc 9 Y rfl rfl ?_;obtain⟨a4,ep,er⟩:=bs en;refine DV 10 aj ep Y underlying28 AS ?_;rintro fq fs _ rfl et;refine AH (v:=iV a4) 11 Y rfl rfl (λρ h s' au=>Yl.load Bj (h _ _ rfl) (Lt au (At.Dd (j:=0) et rfl))) ?_;refine AH (v:= .agg #[iV a3,iV a4]) 12 Y rfl rfl (λρ h s' au=>CK [(0,1),(1,1)] h ID underlying101 ⟨rfl,AU type3,rfl,AU type3,trivial⟩ rfl rfl) ?_;refine AH (v:= .bool (((BA av (a3,a4)).getD false))) 13 Y rfl rfl (λρ h s' au=>Yl.lookup (ok:=false) (xs:=av) (x0:=(a3,a4)) (z0:=false) OH underlying99 K7 ⟨_,rfl,rfl⟩ (bz.Ag (am.Ac an)) ⟨_,⟨_,_,rfl,rfl,rfl⟩,rfl⟩ (by rintro _ ⟨_,rfl,rfl⟩;rfl) (h _ _ rfl) (h _ _ rfl) (Py au (DW (j:=0) (i:=0) aJ rfl rfl))) ?_;refine Bc 14 Y rfl rfl ?_;obtain rfl:=oi er;refine B2 ?_ (bT _ _ ⟨rfl,rfl⟩);exact⟨rfl,rfl,rfl,rfl,rfl,rfl,rfl,rfl,trivial⟩
        ·have eu:=im bN bm;refine AZ Y rfl [3,4,5,6,7,8,9,10,11,12,13,14] rfl ?_;obtain rfl:=oi eu;refine B2 ?_ (bT _ _ ⟨rfl,rfl⟩);exact⟨rfl,rfl,rfl,rfl,rfl,rfl,rfl,rfl,trivial⟩
      ·refine JL.exit rfl (JS.drop 1 aJ rfl λew=>?_);obtain rfl:=oi cQ;have ex:bG=(Sum.inr V.1):=(bL _ aQ).symm;exact AB (cM _ _ ⟨V.1,ah,ay,az,aA,ex,rfl,rfl,an,ew,bK⟩) rfl
    ·refine JL.exit rfl (JS.drop 0 bE rfl λey=>?_);refine JS.drop 1 ey rfl λez=>?_;obtain rfl:=oi cB;have eA:bb=(Sum.inr ()):=(bd _ aG).symm;exact AB (bD _ _ ⟨(),al,eA,rfl,rfl,am,ez⟩) rfl
  ·intro eB;refine JL.block (De ci (λL s aL=>∃(a5:LH) (a6:Obj),Jn a9 H a5 [[(K,a6)]] [(4,Ai aa 0),(6,.map (some K)),(26,sV b7 aF.1.2 b8),(27,iV (aF.1.2.length:Int)),(28,iV aL.2)] L s (BD Fc true rB false a5 a6 aL.1)) ⟨a9,(.map #[] 0),rfl,rfl,Az,cg,BD.nil⟩ ?_);rintro _ _ aL ⟨a5,a6,rfl,rfl,bn,bU,bV⟩ eC ⟨fu,bo⟩ eD;have bW:=bo;unfold Sv at bW;refine zg 5 rfl (A4 bW (λeE eF=>?_) (λeE eG=>?_))
   ·obtain⟨aD,eH,eI⟩:=bs eF;refine zg 5 rfl (Es (b9.Ag (aM.Ac bn)) eH underlying23 AW ?_);rintro fv fw _ ⟨_,_,rfl,rfl,⟨_,_,rfl,rfl,rfl⟩⟩ eJ;refine Cw eJ CO AW rfl rfl (Cx bU Bq λfx eK=>?_);refine Bv 1 eK AW λeL=>?_;refine Cf 1 eL rfl λeM bY bZ eN=>zg 3 rfl (BJ 0 bZ underlying27 AS Bj ?_);refine BJ 1 bZ underlying27 AS Bj ?_;refine Al (v:= .agg #[iV aD.1,iV aD.2.1]) rfl (λρ h=>CK [(0,1),(1,1)] h ID underlying101 ⟨rfl,AU type3,rfl,AU type3,trivial⟩ rfl rfl) (JS.mapUpdate (xs:=aL.1) (x0:=(aD.1,aD.2.1)) (v0:=true) 0 OH underlying99 (bV.Ag bY) ⟨_,⟨_,_,rfl,rfl,rfl⟩,rfl⟩ ⟨_,rfl,rfl⟩ eN rfl rfl rfl rfl rfl rfl rfl λeO eP eQ=>?_);obtain⟨eR,eS,eT⟩:=bs eI;refine zg 3 rfl (Bs eS rfl rfl rfl ?_);refine zg 2 rfl ?_;obtain rfl:=oi eT;exact AB (eD _ _ ((Dh aL.1 (aD.1,aD.2.1) true),eR) ⟨eM,eO,rfl,rfl,(bn.Ac bY),eQ,eP⟩ bo) rfl
   ·refine JL.exit rfl ?_;obtain rfl:=oi eG;obtain rfl:=eC _ bo;exact AB (eB _ _ ⟨a5,a6,rfl,rfl,bn,bU,bV⟩) rfl
end Pal
namespace Pal
open Go Go.Conc Go.Proofs
open Go.Proofs.Tryz
variable {J:Judge Tryz.prog}{E:LH}
def Sx:List Nat:= [0,1,2,2,3,3,3,3,4,4,4,4,4,4,4,4,5,5,5,5,5,5,5,5,5,5,5,5,5,5,5,5,6,6,6,6,6,6,6,6,6,6,6,6,6,6,6,6,6,6,6,6,6,6,6,6,6,6,6,6,6,6,6,6,7,7,7,7,7,7,7,7,7,7,7,7,7,7,7,7,7,7,7,7,7,7,7,7,7,7,7,7,7,7,7,7,7,7,7,7,7,7,7,7,7,7,7,7,7,7,7,7,7,7,7,7,7,7,7,7,7,7,7,7,7,7,7,7,8,8,8,8,8,8,8,8,8,8,8,8,8,8,8,8,8,8,8,8,8,8,8,8,8,8,8,8,8,8,8,8,8,8,8,8,8,8,8,8,8,8,8,8,8,8,8,8,8,8,8,8,8,8,8,8,8,8,8,8,8,8,8,8,8,8,8,8,8,8,8,8,8,8,8,8,8,8,8,8,8,8,8,8,8,8,8,8,8,8,8,8,8,8,8,8,8,8,8,8,8,8,8,8,8,8,8,8,8,8,8,8,8,8,8,8,8,8,8,8,8,8,8,8,8,8,8,8]
def f146(fu_:Nat)(p0:Nat):Option Int:= Option.bind (if(((4294967296):Nat):Int)<=(((p0):Nat):Int) then(some (p0>>>32,32)) else(some (p0,0))) λK=> Option.bind (if(((65536):Nat):Int)<=(((K.1):Nat):Int) then((Au (K.2+16)).bind λV=> some (K.1>>>16,V)) else(some K)) λO=> Option.bind (if(((256):Nat):Int)<=(((O.1):Nat):Int) then((Au (O.2+8)).bind λY=> some (O.1>>>8,Y)) else(some O)) λU=> (PE Sx (((((U.1) % 256):Nat):Int))).bind λZ=> (Au (((Z):Nat):Int)).bind λaa=> (Au (U.2+aa)).bind λab=> some ab
theorem Xp{p0:Nat}{fu_:Nat}{r:Int}(V:f146 fu_ p0=some r):AP J 146 [.int .u64 ((p0:Nat):Int)] E [] (λw E' B'=>w=iV r/\B'= []):=by
 refine Bl func146 λQ aP cs H Y ag=>?_;unfold f146 at V;obtain⟨K,ah,ai⟩:=bs V;refine zg 10 rfl (Fa [] [(0,.int .u64 ((K.1:Nat):Int)),(2,iV K.2)] (λaQ aj Z=>?_) (λaa=>?_))
 ·obtain⟨O,ak,al⟩:=bs ai;refine zg 6 rfl (Fa [] [(0,.int .u64 ((O.1:Nat):Int)),(2,iV O.2)] (λaR am ab=>?_) (λac=>?_))
  ·obtain⟨U,an,ao⟩:=bs al;refine zg 6 rfl (Fa [] [(0,.int .u64 ((U.1:Nat):Int)),(2,iV U.2)] (λaS ap aq=>?_) (λae=>?_))
   ·refine zg 4 rfl (Al (v:= .int .u8 (((U.1) % 256:Nat):Int)) rfl (λρ h=>Wd underlying72 underlying5 (h _ _ rfl)) ?_);obtain⟨ar,au,av⟩:=bs ao;refine Al (v:= .int .u8 ((ar:Nat):Int)) rfl (λρ h=>UR (l:=Sx) (by decide+kernel) underlying9 (h _ _ rfl) (h _ _ rfl) au) ?_;obtain⟨aw,ay,az⟩:=bs av;refine Al (v:=iV aw) rfl (λρ h=>Wb underlying5 underlying3 (h _ _ rfl) ay) ?_;obtain⟨aT,aA,aB⟩:=bs az;refine Bs aA rfl rfl rfl (zg 2 rfl ?_);obtain rfl:=oi aB;exact A6 func146 rfl rfl (ag ((aj.Ac am).Ac ap) rfl ⟨rfl,rfl⟩ aq)
   ·refine A4 an (λaC aD=>?_) (λaC aE=>?_)
    ·refine zg 3 rfl (Al (v:= .int .u64 ((O.1>>>8:Nat):Int)) rfl (λρ h=>KH 8 (h _ _ rfl) (h _ _ rfl) (by decide)) ?_);obtain⟨aU,aF,aG⟩:=bs aD;refine zg 4 rfl (Bs aF rfl rfl rfl ?_);refine zg 2 rfl ?_;obtain rfl:=oi aG;exact ae Az ab rfl
    ·refine JL.skip ?_;obtain rfl:=oi aE;exact ae Az ab rfl
  ·refine A4 ak (λaH aI=>?_) (λaH aJ=>?_)
   ·refine zg 3 rfl (Al (v:= .int .u64 ((K.1>>>16:Nat):Int)) rfl (λρ h=>KH 16 (h _ _ rfl) (h _ _ rfl) (by decide)) ?_);obtain⟨aV,aK,aL⟩:=bs aI;refine zg 4 rfl (Bs aK rfl rfl rfl ?_);refine zg 2 rfl ?_;obtain rfl:=oi aL;exact ac Az Z rfl
   ·refine JL.skip ?_;obtain rfl:=oi aJ;exact ac Az Z rfl
 ·refine A4 ah (λaM aN=>?_) (λaM aO=>?_)
  ·refine zg 3 rfl (Al (v:= .int .u64 ((p0>>>32:Nat):Int)) rfl (λρ h=>KH 32 (h _ _ rfl) (h _ _ rfl) (by decide)) ?_);refine zg 5 rfl ?_;obtain rfl:=oi aN;exact aa Az Y rfl
  ·refine JL.skip ?_;obtain rfl:=oi aO;exact aa Az Y rfl
def f115(fu_:Nat)(p0:Nat):Option Int:= (f146 fu_ p0).bind λK=> some K
theorem MS{p0:Nat}{fu_:Nat}{r:Int}(K:f115 fu_ p0=some r):AP J 115 [.int .u64 ((p0:Nat):Int)] E [] (λw E' B'=>w=iV r/\B'= []):=by
 refine Bl func115 λQ ab cs H O U=>?_;unfold f115 at K;obtain⟨ac,V,Y⟩:=bs K;refine zg 10 rfl (Cd (Xp V) rfl rfl (A5 func146 rfl) O λae Z aa=>?_);refine zg 2 rfl ?_;obtain rfl:=oi Y;exact A6 func115 rfl rfl (U Z rfl ⟨rfl,rfl⟩ aa)
def Rx(fu_:Nat)(V:Int)(K:Int×Ay):Option (Bn (Int×Ay) (Ay)):= Option.bind (if V<K.1 then((ix K.2 K.1).bind λY=> (Au (K.1 - 1)).bind λZ=> (ix K.2 Z).bind λaa=> (f113 fu_ Y aa).bind λab=> some (decide (ab<0))) else(some false)) λac=> if ac=true then((Au (K.1 - 1)).bind λO=> (Au (K.1 - 1)).bind λae=> (ix K.2 ae).bind λU=> (ix K.2 K.1).bind λag=> (ix (K.2.set (Int.toNat K.1) U) O).bind λai=> (Au (K.1 - 1)).bind λah=> some (.more (ah,((K.2.set (Int.toNat K.1) U).set (Int.toNat O) ag)))) else(some (.done K.2))
def RI(fu_:Nat)(O:Int)(p2:Int)(K:Int×Ay):Option (Bn (Int×Ay) (Ay)):= if K.1<p2 then(Option.bind (iter (Rx fu_ O) fu_ K) λU=> (Au (K.1+1)).bind λV=> some (.more (V,U))) else(some (.done K.2))
def f193(fu_:Nat)(p0:Ay)(K:Int)(p2:Int):Option (Ay):= (Au (K+1)).bind λO=> Option.bind (iter (RI fu_ K p2) fu_ (O,p0)) λU=> some U
theorem Xq{K:Nat}{U:Nat}{nw:Nat}{aq:Av_}{p0:Ay}{ab:Int}{p2:Int}(hW:WL 27 Ar E K U nw aq p0){fu_:Nat}{r:Ay}(az:f193 fu_ p0 ab p2=some r):AP J 193 [.slice (AJ K) nw U,iV ab,iV p2,(fV 113)] E [(K,.cells aq 27 (0,0))] (λw E' B'=>∃(aA:Av_),w= .tuple #[]/\B'= [(K,.cells aA 27 (0,0))]/\WL 27 Ar E' K U nw aA r):=by
 refine Bl func193 λQ bS cs H aQ aR=>?_;unfold f193 at az;obtain⟨bT,aS,aT⟩:=bs az;refine zg 3 rfl (Bs aS rfl rfl rfl ?_);obtain⟨aU,aV,aW⟩:=bs aT;refine zg 2 rfl (Bg (λL s=>∃(ar:LH) (f17:Av_),Jn E H ar [bX K f17 27] [] L s (WL 27 Ar ar K U nw f17 aU)) ?_ ?_)
 ·rintro _ _ ⟨ar,f17,rfl,rfl,aX,aY,aZ⟩;obtain rfl:=oi aW;exact JL.fin (v:= .tuple #[]) rfl rfl (Bd.list func193 rfl (vs:= []) trivial) (aR aX rfl ⟨f17,rfl,(by first | rfl | simp | (simp [Value.cells])),aZ⟩ aY)
 ·intro a0;refine JL.block (De aV (λL s ae=>∃(ac:LH) (f25:Av_),Jn E H ac [bX K f25 27] [(0,.slice (AJ K) nw U),(1,iV ab),(2,iV p2),(3,(fV 113)),(8,iV ae.1)] L s (WL 27 Ar ac K U nw f25 ae.2)) ⟨E,aq,rfl,rfl,Az,aQ,hW⟩ ?_);rintro _ _ ae ⟨ac,f25,rfl,rfl,aB,aC,aD⟩ a1 ⟨bU,au⟩ a2;have aE:=au;unfold RI at aE;refine zg 7 rfl (A4 aE (λa3 a4=>?_) (λa3 a5=>?_))
  ·obtain⟨aF,a6,a7⟩:=bs a4;refine zg 8 rfl (Bg (λL s=>∃(am:LH) (f48:Av_),Jn ac H am [bX K f48 27] [(0,.slice (AJ K) nw U),(1,iV ab),(2,iV p2),(3,(fV 113)),(8,iV ae.1)] L s (WL 27 Ar am K U nw f48 aF)) ?_ ?_)
   ·rintro _ _ ⟨am,f48,rfl,rfl,a8,a9,ba⟩;obtain⟨bb,bd,be⟩:=bs a7;refine zg 3 rfl (Bs bd rfl rfl rfl ?_);refine zg 2 rfl ?_;obtain rfl:=oi be;exact AB (a2 _ _ (bb,aF) ⟨am,f48,rfl,rfl,(aB.Ac a8),a9,ba⟩ au) rfl
   ·intro bf;refine JL.block (De a6 (λL s aa=>∃(aj:LH) (f58:Av_),Jn ac H aj [bX K f58 27] [(0,.slice (AJ K) nw U),(1,iV ab),(2,iV p2),(3,(fV 113)),(8,iV ae.1),(9,iV aa.1)] L s (WL 27 Ar aj K U nw f58 aa.2)) ⟨ac,f25,rfl,rfl,Az,aC,aD⟩ ?_);rintro _ _ aa ⟨aj,f58,rfl,rfl,aG,ak,O⟩ bg ⟨bV,av⟩ bh;have aH:=av;unfold Rx at aH;refine zg 2 rfl (EC 17 [K] ⟨⟨0,_,rfl⟩,trivial⟩ ak λZ=>?_);refine AZ Z rfl [0,1,2,3] rfl ?_;obtain⟨bi,aI,bj⟩:=bs aH;refine DO 0 #[true,true,true,true,true,true,true,true,true,true,true,true,true,true,true,true,true] (λL s=>∃(an:LH),Jm aj H an [bX K f58 27] [(0,.slice (AJ K) nw U),(1,iV ab),(2,iV p2),(3,(fV 113)),(8,iV ae.1),(9,iV aa.1),(34,.bool bi)] L s) ?_ ?_
    ·rintro _ _ ⟨an,rfl,rfl,ag,ao⟩;refine AL.fin (by decide+kernel) (B6 bj (λbl bm=>?_) (λbl bn=>?_))
     ·refine zg 3 rfl (GV [15,17] [K] mixed rfl ?_);refine A8 0 rfl rfl (A8 1 rfl rfl ?_);refine A8 2 rfl rfl (A8 3 rfl rfl ?_);obtain⟨aJ,bo,bp⟩:=bs bm;refine Hx 4 true rfl rfl (λρ h s' aK=>DG (h _ _ rfl) (h _ _ rfl) bo) (A8 5 rfl rfl ?_);refine A8 6 rfl rfl ?_;obtain⟨bW,bq,br⟩:=bs bp;refine Hx 7 true rfl rfl (λρ h s' aK=>DG (h _ _ rfl) (h _ _ rfl) bq) ?_;obtain⟨V,aL,bu⟩:=bs br;obtain⟨_,⟨_,_,rfl,rfl,⟨_,_,rfl,rfl,rfl⟩⟩,bv⟩:=WL.at (O.Ag ag) aL;refine BR 8 O.2 aL underlying23 AW ?_;refine S2 9 [iV V.1,iV V.2.1,iV V.2.2] 0 ao bv CO AW ?_;refine A8 10 rfl rfl (A8 11 rfl rfl ?_);obtain⟨Y,ap,bw⟩:=bs bu;obtain⟨_,⟨_,_,rfl,rfl,⟨_,_,rfl,rfl,rfl⟩⟩,bx⟩:=WL.at (O.Ag ag) ap;refine BR 12 O.2 ap underlying23 AW ?_;refine S2 13 [iV Y.1,iV Y.2.1,iV Y.2.2] 0 ao bx CO AW ?_;refine BR 14 O.2 ap underlying23 AW ?_;have al:=WL.put (x':=V) (ws':= [iV V.1,iV V.2.1,iV V.2.2]) (O.Ag ag) O.2 ap ⟨_,_,rfl,rfl,⟨_,_,rfl,rfl,rfl⟩⟩;refine Ee 15 0 ao AW al.2 λbz=>?_;obtain⟨bY,aw,bA⟩:=bs bw;obtain⟨_,⟨_,_,rfl,rfl,⟨_,_,rfl,rfl,rfl⟩⟩,bZ⟩:=WL.at al.1 aw;refine BR 16 (al.1).2 aw underlying23 AW ?_;have aM:=WL.put (x':=Y) (ws':= [iV Y.1,iV Y.2.1,iV Y.2.2]) al.1 (al.1).2 aw ⟨_,_,rfl,rfl,⟨_,_,rfl,rfl,rfl⟩⟩;refine Ee 17 0 bz AW aM.2 λbB=>?_;refine JB.fin (by decide+kernel) ?_;obtain⟨bC,bD,bE⟩:=bs bA;refine zg 3 rfl (BF bD rfl rfl rfl ?_);refine zg 2 rfl ?_;obtain rfl:=oi bE;exact AB (bh _ _ (bC,((aa.2.set (Int.toNat aa.1) V).set (Int.toNat aJ) Y)) ⟨an,(Bb (Bb f58 (Int.toNat (aa.1)*3) [iV V.1,iV V.2.1,iV V.2.2]) (Int.toNat (aJ)*3) [iV Y.1,iV Y.2.1,iV Y.2.2]),rfl,rfl,(aG.Ac ag),bB,aM.1⟩ av) rfl
     ·refine JL.exit rfl ?_;obtain rfl:=oi bn;obtain rfl:=bg _ av;exact AB (bf _ _ ⟨an,f58,rfl,rfl,(aG.Ac ag),ao,(O.Ag ag)⟩) rfl
    ·intro aN;refine EN (q:=ab<aa.1) (i:=21) rfl (λay=>?_) (λay=>?_)
     ·have bF:=ip aI ay;refine AZ Z rfl [4,5,6] rfl ?_;obtain⟨ah,aO,bG⟩:=bs bF;obtain⟨_,⟨_,_,rfl,rfl,⟨_,_,rfl,rfl,rfl⟩⟩,bH⟩:=WL.at O aO;refine FX 7 Z (O).2 aO underlying23 AW ?_;refine Tg 8 Z [iV ah.1,iV ah.2.1,iV ah.2.2] 0 ak bH CO AW ?_;refine AZ Z rfl [9,10] rfl ?_;obtain⟨b0,bI,bJ⟩:=bs bG;refine AH 11 Z rfl rfl (λρ h s' aK=>DG (h _ _ rfl) (h _ _ rfl) bI) ?_;obtain⟨ai,aP,bK⟩:=bs bJ;obtain⟨_,⟨_,_,rfl,rfl,⟨_,_,rfl,rfl,rfl⟩⟩,bL⟩:=WL.at O aP;refine FX 12 Z (O).2 aP underlying23 AW ?_;refine Tg 13 Z [iV ai.1,iV ai.2.1,iV ai.2.2] 0 ak bL CO AW ?_;obtain⟨b1,bM,bN⟩:=bs bK;refine He (i:=14) ⟨⟨0,_,rfl⟩,trivial⟩ (vs:= [.agg #[iV ah.1,iV ah.2.1,iV ah.2.2],.agg #[iV ai.1,iV ai.2.1,iV ai.2.2]]) (Sl bM) (by decide+kernel) rfl rfl rfl rfl (A5 func113 rfl) rfl ak ?_;rintro _ bO _ bP ⟨rfl,rfl⟩ bQ;refine AZ Z rfl [15,16] rfl ?_;obtain rfl:=oi bN;refine B2 ?_ (aN _ _ ⟨bO,rfl,rfl,bP,bQ⟩);exact⟨rfl,rfl,rfl,rfl,rfl,rfl,rfl,trivial⟩
     ·have bR:=im aI ay;refine AZ Z rfl [4,5,6,7,8,9,10,11,12,13,14,15,16] rfl ?_;obtain rfl:=oi bR;refine B2 ?_ (aN _ _ ⟨aj,rfl,rfl,Az,ak⟩);exact⟨rfl,rfl,rfl,rfl,rfl,rfl,rfl,trivial⟩
  ·refine JL.exit rfl ?_;obtain rfl:=oi a5;obtain rfl:=a1 _ au;exact AB (a0 _ _ ⟨ac,f25,rfl,rfl,aB,aC,aD⟩) rfl
def Ru(fu_:Nat)(p0:Ay)(K:Int)(p2:Int)(p3:Int)(V:Unit):Option (Bn Unit ((Ay)⊕(Unit))):= (Au (p2 - K)).bind λO=> if O<=12 then((f193 fu_ p0 K p2).bind λU=> some (.done (Sum.inl U))) else(if p3=0 then(none) else(none))
def f169(fu_:Nat)(p0:Ay)(K:Int)(p2:Int)(p3:Int):Option (Ay):= Option.bind (iter (Ru fu_ p0 K p2 p3) fu_ ()) λO=> Sum.elim (λr=>some r) (λU=> none) O
theorem Xx{K:Nat}{O:Nat}{nw:Nat}{U:Av_}{p0:Ay}{V:Int}{p2:Int}{p3:Int}(hW:WL 27 Ar E K O nw U p0){fu_:Nat}{r:Ay}(Y:f169 fu_ p0 V p2 p3=some r):AP J 169 [.slice (AJ K) nw O,iV V,iV p2,iV p3,(fV 113)] E [(K,.cells U 27 (0,0))] (λw E' B'=>∃(Z:Av_),w= .tuple #[]/\B'= [(K,.cells Z 27 (0,0))]/\WL 27 Ar E' K O nw Z r):=by
 refine Bl func169 λQ aE cs H ag ah=>?_;unfold f169 at Y;obtain⟨aF,ai,aj⟩:=bs Y;refine zg 8 rfl (Bg (λL s=>False) ?_ ?_)
 ·intro _ _ ak;exact ak.elim
 ·intro aG;refine JL.block (Ds ai (λaa=> [bX K U 27]) (λaa=> [(0,.slice (AJ K) nw O),(1,iV V),(2,iV p2),(3,iV p3),(4,(fV 113)),(10,.bool true),(11,.bool true)]) Az ag ?_);rintro aa aH ab al am ⟨aI,ac⟩ aJ;have ae:=ac;unfold Ru at ae;obtain⟨aK,an,ao⟩:=bs ae;refine zg 5 rfl (BF an rfl rfl rfl ?_);refine zg 8 rfl (A4 ao (λap aq=>?_) (λap ar=>?_))
  ·obtain⟨aL,au,av⟩:=bs aq;refine zg 6 rfl (BV 0 (Xq (hW.Ag ab) au) rfl rfl (A5 func193 rfl) al rfl ?_);rintro _ aM _ aw ⟨f32,rfl,rfl,ay⟩ az;refine JL.done ?_;obtain rfl:=oi av;obtain rfl:=am _ ac;have aA:=elim_inl aj;obtain rfl:=oi aA;exact A6 func169 rfl rfl (ah (ab.Ac aw) rfl ⟨f32,rfl,(by first | rfl | simp | (simp [Value.cells])),ay⟩ az)
  ·refine zg 7 rfl (A4 ar (λaB aC=>?_) (λaB aD=>?_))
   ·refine zg 6 rfl ?_;cases aC
   ·refine zg 5 rfl (Al (v:= .bool false) rfl (λρ h=>Yl.not (c:=true) (h _ _ rfl)) ?_);refine zg 9 rfl ?_;cases aD
def f130(fu_:Nat)(p0:Ay):Option (Ay):= (f115 fu_ (C6 (p0.length:Int))).bind λK=> (f169 fu_ p0 0 (p0.length:Int) K).bind λO=> some O
theorem X1{K:Nat}{O:Nat}{nw:Nat}{U:Av_}{p0:Ay}(hW:WL 27 Ar E K O nw U p0){fu_:Nat}{r:Ay}(V:f130 fu_ p0=some r):AP J 130 [.slice (AJ K) nw O,(fV 113)] E [(K,.cells U 27 (0,0))] (λw E' B'=>∃(Y:Av_),w= .tuple #[]/\B'= [(K,.cells Y 27 (0,0))]/\WL 27 Ar E' K O nw Y r):=by
 refine Bl func130 λQ am cs H aa ab=>?_;unfold f130 at V;refine zg 3 rfl (Al (v:=iV (p0.length:Int)) rfl (λρ h=>RA (hW).2 rfl underlying80 (h _ _ rfl)) ?_);refine zg 6 rfl (Al (v:= .int .u64 ((C6 (p0.length:Int):Nat):Int)) rfl (λρ h=>Yl.C6 underlying3 underlying136 (h _ _ rfl)) ?_);obtain⟨an,ac,ae⟩:=bs V;refine Cd (MS ac) rfl rfl LV aa λao Z ag=>?_;obtain⟨ap,ah,ai⟩:=bs ae;refine zg 1 rfl (BV 0 (Xx (hW.Ag Z) ah) rfl rfl (A5 func169 rfl) ag rfl ?_);rintro _ aq _ aj ⟨f12,rfl,rfl,ak⟩ al;refine JL.done ?_;obtain rfl:=oi ai;exact JL.fin (v:= .tuple #[]) rfl rfl (Bd.list func130 rfl (vs:= []) trivial) (ab (Z.Ac aj) rfl ⟨f12,rfl,(by first | rfl | simp | (simp [Value.cells])),ak⟩ al)
def QT(fu_:Nat)(O:Int)(K:Int)(V:Unit):Option (Bn Unit Unit):= Option.bind (if O<K then(none) else(some false)) λU=> if U=true then((Au (K - 1)).bind λY=> (Au (K - 1)).bind λZ=> none) else(some (.done ()))
def QM(fu_:Nat)(O:Int)(p2:Int)(K:Int):Option (Bn Int Unit):= if K<p2 then(Option.bind (iter (QT fu_ O K) fu_ ()) λV=> (Au (K+1)).bind λU=> some (.more U)) else(some (.done ()))
def Pl(fu_:Nat)(K:Int)(p2:Int):Option Unit:= (Au (K+1)).bind λO=> Option.bind (iter (QM fu_ K p2) fu_ O) λU=> some ()
theorem Wq{U:Int}{p2:Int}{fu_:Nat}{r:Unit}(Z:Pl fu_ U p2=some r):AP J 193 [nS,iV U,iV p2,(fV 113)] E [] (λw E' B'=>w= .tuple #[]/\B'= []):=by
 refine Bl func193 λQ a2 cs H al am=>?_;unfold Pl at Z;obtain⟨a3,an,ao⟩:=bs Z;refine zg 3 rfl (Bs an rfl rfl rfl ?_);obtain⟨a4,ap,aq⟩:=bs ao;refine zg 2 rfl (Fa [] [] (λa5 ar au=>?_) (λav=>?_))
 ·obtain rfl:=oi aq;exact JL.fin (v:= .tuple #[]) rfl rfl (Bd.list func193 rfl (vs:= []) trivial) (am ar rfl ⟨rfl,rfl⟩ au)
 ·refine JL.block (Ds ap (λK=> []) (λK=> [(0,.slice none 0 0),(1,iV U),(2,iV p2),(3,(fV 113)),(8,iV K)]) Az al ?_);rintro K a6 aa ab aw ⟨a7,V⟩ ay;have ac:=V;unfold QM at ac;refine zg 7 rfl (A4 ac (λaz aA=>?_) (λaz aB=>?_))
  ·obtain⟨a8,aC,aD⟩:=bs aA;refine zg 8 rfl (Fa [] [(0,.slice none 0 0),(1,iV U),(2,iV p2),(3,(fV 113)),(8,iV K)] (λa9 aE aF=>?_) (λaG=>?_))
   ·obtain⟨aH,aI,aJ⟩:=bs aD;refine zg 3 rfl (Bs aI rfl rfl rfl ?_);refine zg 2 rfl ?_;obtain rfl:=oi aJ;exact ay aH (aa.Ac aE) aF rfl V
   ·refine JL.block (Ds aC (λae=> []) (λae=> [(0,.slice none 0 0),(1,iV U),(2,iV p2),(3,(fV 113)),(8,iV K),(9,iV K)]) Az ab ?_);rintro ae ag aK aL aM ⟨ba,ah⟩ bb;have ai:=ah;unfold QT at ai;refine zg 2 rfl (Et 17 λO=>?_);refine AZ O rfl [0,1,2,3] rfl ?_;obtain⟨aN,aj,aO⟩:=bs ai;refine DO 0 #[true,true,true,true,true,true,true,true,true,true,true,true,true,true,true,true,true] (λL s=>∃(ak:LH),Jm ag H ak [] [(0,.slice none 0 0),(1,iV U),(2,iV p2),(3,(fV 113)),(8,iV K),(9,iV K),(34,.bool aN)] L s) ?_ ?_
    ·rintro _ _ ⟨ak,rfl,rfl,aP,aQ⟩;refine AL.fin (by decide+kernel) (B6 aO (λaR aS=>?_) (λaR aT=>?_))
     ·refine zg 3 rfl (Et 16 λO=>?_);refine AZ O rfl [0,1,2,3] rfl ?_;obtain⟨bd,aU,aV⟩:=bs aS;refine AH 4 O rfl rfl (λρ h s' aW=>DG (h _ _ rfl) (h _ _ rfl) aU) (AZ O rfl [5,6] rfl ?_);obtain⟨be,aX,aY⟩:=bs aV;refine AH 7 O rfl rfl (λρ h s' aW=>DG (h _ _ rfl) (h _ _ rfl) aX) ?_;cases aY
     ·refine JL.exit rfl ?_;obtain rfl:=oi aT;obtain rfl:=aM _ ah;exact aG (aK.Ac aP) aQ rfl
    ·intro aZ;refine EN (q:=U<K) (i:=21) rfl (λY=>?_) (λY=>?_)
     ·have a0:=ip aj Y;refine AZ O rfl [4,5,6] rfl ?_;cases a0
     ·have a1:=im aj Y;refine AZ O rfl [4,5,6,7,8,9,10,11,12,13,14,15,16] rfl ?_;obtain rfl:=oi a1;refine B2 ?_ (aZ _ _ ⟨ag,rfl,rfl,Az,aL⟩);exact⟨rfl,rfl,rfl,rfl,rfl,rfl,rfl,trivial⟩
  ·refine JL.exit rfl ?_;obtain rfl:=oi aB;obtain rfl:=aw _ V;exact av aa ab rfl
def QP(fu_:Nat)(K:Int)(p2:Int)(p3:Int)(U:Unit):Option (Bn Unit ((Unit)⊕(Unit))):= (Au (p2 - K)).bind λO=> if O<=12 then((Pl fu_ K p2).bind λV=> some (.done (Sum.inl ()))) else(if p3=0 then(none) else(none))
def Pb(fu_:Nat)(K:Int)(p2:Int)(p3:Int):Option Unit:= Option.bind (iter (QP fu_ K p2 p3) fu_ ()) λO=> Sum.elim (λr=>some r) (λU=> none) O
theorem WB{K:Int}{p2:Int}{p3:Int}{fu_:Nat}{r:Unit}(O:Pb fu_ K p2 p3=some r):AP J 169 [nS,iV K,iV p2,iV p3,(fV 113)] E [] (λw E' B'=>w= .tuple #[]/\B'= []):=by
 refine Bl func169 λQ az cs H Z aa=>?_;unfold Pb at O;obtain⟨aA,ab,ac⟩:=bs O;refine zg 8 rfl (Bg (λL s=>False) ?_ ?_)
 ·intro _ _ ae;exact ae.elim
 ·intro aB;refine JL.block (Ds ab (λU=> []) (λU=> [(0,.slice none 0 0),(1,iV K),(2,iV p2),(3,iV p3),(4,(fV 113)),(10,.bool true),(11,.bool true)]) Az Z ?_);rintro U aC ag ah ai ⟨aD,V⟩ aE;have Y:=V;unfold QP at Y;obtain⟨aF,aj,ak⟩:=bs Y;refine zg 5 rfl (BF aj rfl rfl rfl ?_);refine zg 8 rfl (A4 ak (λal am=>?_) (λal an=>?_))
  ·obtain⟨aG,ao,ap⟩:=bs am;refine zg 6 rfl (Cd (Wq ao) rfl rfl (A5 func193 rfl) ah λaH aq ar=>?_);refine JL.done ?_;obtain rfl:=oi ap;obtain rfl:=ai _ V;have au:=elim_inl ac;obtain rfl:=oi au;exact A6 func169 rfl rfl (aa (ag.Ac aq) rfl ⟨rfl,rfl⟩ ar)
  ·refine zg 7 rfl (A4 an (λav aw=>?_) (λav ay=>?_))
   ·refine zg 6 rfl ?_;cases aw
   ·refine zg 5 rfl (Al (v:= .bool false) rfl (λρ h=>Yl.not (c:=true) (h _ _ rfl)) ?_);refine zg 9 rfl ?_;cases ay
def Tf(fu_:Nat):Option Unit:= (f115 fu_ (C6 ((0:Nat):Int))).bind λK=> (Pb fu_ 0 ((0:Nat):Int) K).bind λO=> some ()
theorem Wv{fu_:Nat}{r:Unit}(K:Tf fu_=some r):AP J 130 [nS,(fV 113)] E [] (λw E' B'=>w= .tuple #[]/\B'= []):=by
 refine Bl func130 λQ ah cs H O U=>?_;unfold Tf at K;refine zg 3 rfl (JL.ln underlying80 rfl rfl rfl ?_);refine zg 6 rfl (Al (v:= .int .u64 ((C6 ((0:Nat):Int):Nat):Int)) rfl (λρ h=>Yl.C6 underlying3 underlying136 (h _ _ rfl)) ?_);obtain⟨ai,V,Y⟩:=bs K;refine Cd (MS V) rfl rfl LV O λaj Z aa=>?_;obtain⟨ak,ab,ac⟩:=bs Y;refine zg 1 rfl (Cd (WB ab) rfl rfl (A5 func169 rfl) aa λal ae ag=>?_);refine JL.done ?_;obtain rfl:=oi ac;exact JL.fin (v:= .tuple #[]) rfl rfl (Bd.list func130 rfl (vs:= []) trivial) (U (Z.Ac ae) rfl ⟨rfl,rfl⟩ ag)
theorem Wz{J:Judge Tryz.prog}{E:LH}{a:Aw}{c:Nat}{g:Seg}{p0:Ay}(V:OL 27 Ar E a c g p0){fu_:Nat}{r:Ay}(K:f130 fu_ p0=some r):
  AP J 130 [.slice a p0.length c,.func (.func 113) #[] #[]] E g (λw E' B'=>w= .tuple #[]/\OL 27 Ar E' a c B' r/\r.length=p0.length):=by
 rcases V.cases with⟨rfl,rfl,rfl,rfl⟩ | ⟨bk,f,rfl,rfl,hW⟩
 ·have Y:r= []:=by
   cases fu_ with
   | zero=>exact absurd K (by simp [f130,f169,f193,iter])
   | succ fu_=>
    cases fu_ with
    | zero=>exact(Option.some.inj (K.symm.trans (by rfl:f130 1 []=some []))).trans rfl
    | succ fu_=>exact(Option.some.inj (K.symm.trans (by rfl:f130 (fu_+2) []=some []))).trans rfl
  subst Y;refine(Wv (fu_:=10) (r:=()) rfl).Ag ?_;rintro w E' B' hle ⟨O,rfl⟩;exact⟨O,OL.nil,rfl⟩
 ·refine(X1 hW K).Ag ?_;rintro w E' B' hle ⟨Z,O,rfl,U⟩;exact⟨O,U.1,U.2⟩
def f90(fu_:Nat)(p0:Ay):Option (Ay):= (f129 fu_ p0).bind λK=> (f130 fu_ K).bind λO=> some O
theorem Yq{a1:Aw}{c2:Nat}{p0:Ay}(ab:Am Ar E a1 c2 p0){fu_:Nat}{r:Ay}(Y:f90 fu_ p0=some r):AP J 90 [sV a1 p0 c2] E [] (λw E' B'=>∃(Z:Aw) (aa:Nat),w= sV Z r aa/\B'= []/\Am Ar E' Z aa r):=by
 refine Bl func90 λQ av cs H ac ae=>?_;unfold f90 at Y;obtain⟨aw,ag,ah⟩:=bs Y;refine zg 7 rfl (Ck (XR ab ag) rfl rfl (A5 func129 rfl) ac ?_);rintro _ ay az ai ⟨K,O,_,rfl,rfl,aj⟩ ak;obtain⟨U,al,am⟩:=bs ah;refine zg 5 rfl (BV 1 (Wz aj al) rfl rfl (A5 func130 rfl) ak rfl ?_);rintro _ aA aB an ⟨rfl,ao,V⟩ ap;refine C3 (L':= [(6,.tuple #[]),(0,.slice K U.length O),(2,.slice none 0 0),(3,.slice a1 p0.length c2),(4,.slice K U.length O),(5,.slice K U.length O)]) ⟨rfl,by rw [V];rfl,rfl,rfl,by rw [V];rfl,by rw [V];rfl,trivial⟩ ?_;refine zg 6 rfl (BC 1 ao ap rfl λaC aq ar au=>?_);obtain rfl:=oi am;exact A6 func90 rfl rfl (ae ((ai.Ac an).Ac aq) rfl ⟨K,O,rfl,rfl,ar⟩ au)
end Pal
namespace Pal
open Go Go.Conc
section
variable {P:Program}{J:Judge P}{Q:Gs_}{b:Frame}{n:Nat}{ds:Ld_}{ops:Ao_}{k:Li_}{cs:Lf_}{m fuel:Nat}{listed:Array Bool}{L:Env}{s:St}{E H:LH}{S:List Seg}
variable {d:Option Tmp}{x y:Operand}{t ty e:TypeId}{p:String}{af:Ae_}{g:On_}{v:Value}{i:Nat}
theorem Take.y0{oi:Oper}(hi:ops[i]? =some oi)(K:(!DK oi.op&&Bh n oi.dst)=true)(hw:AT L ops oi=some true)(O:∀ρ,EP L ρ->Yl P oi ρ s v)
  (h:AL J Q b n ds ops k cs m CL fuel (Ba listed i) (Ax L oi.dst v) s):Take J Q b n ds ops k cs m CL fuel listed L s i:=
 Take.Jy hi K hw λρ U=>by
  have:=O ρ U
  unfold Yl at this
  refine Ej _ this ?_ (λ_ _ h=>h)
  rintro V s' ⟨rfl,rfl⟩
  exact h
end
end Pal
namespace Pal
open Go Go.Conc
def Gp{P:Program}(J:Judge P)(f:FuncId)(args:Lv_)(E:LH)(B:Seg)(p:Bool)(pv:Value)(R:Value->LH->Seg->Prop):Prop:=
 ∀(Q:Gs_) (bc:Frame) (Tc:Av_) (dsc:Ld_) (K:Li_) (cs:Lf_) (H:LH),Nd E H B->
  (p=false->∀v E' B',Le E E'->R v E' B'->Nd E' H B'->J.ok Q (G ((fr bc Tc dsc K).finish v) cs) (mk E' H B'))->
  (p=true->∀E' B',Le E E'->Nd E' H B'->J.ok Q (G (GJ bc Tc dsc K (raised pv)) cs) (mk E' H B'))->
  J.ok Q (G (Frame.enter P f args.toArray .normal) (fr bc Tc dsc K::cs)) (mk E H B)
section
variable {P:Program}{J:Judge P}{Q:Gs_}{b bc:Frame}{n:Nat}{L:Env}{ds dsc:Ld_}{k:Li_}{cs:Lf_}{E H:LH}{S:List Seg}{i:Nat}{rest:List Nat}{d:Option Tmp}{ty e t:TypeId}{pp:String}{af:Ae_}{g:On_}{ops:Ao_}{pv:Value}
theorem Gp.enter{f:FuncId}{fn:Func}{c:Code}{vs:Lv_}{B:Seg}{R:Value->LH->Seg->Prop}{p:Bool}(Z:P.funcs[f]? =some fn)(hb:fn.body=some c)(aj:vs.length<=fn.ntmps)
  (h:∀(Q:Gs_) (bc:Frame) (Tc:Av_) (dsc:Ld_) (O:Li_) (cs:Lf_) (H:LH),An E H [B]->
   (p=false->∀v E' S' B',Le E E'->S'.flatten=B'->R v E' B'->An E' H S'->J.ok Q (G ((fr bc Tc dsc O).finish v) cs) (Ak E' H S'))->
   (p=true->∀E' S',Le E E'->An E' H S'->J.ok Q (G (GJ bc Tc dsc O (raised pv)) cs) (Ak E' H S'))->
   JL J Q (base f) fn.ntmps (FY 0 vs) [] [.code c] (fr bc Tc dsc O::cs) (Ak E H [B])):Gp J f vs E B p pv R:=λQ bc Tc dsc O cs H aa ab K=>by
 have he:Frame.enter P f vs.toArray .normal=fr (base f) (vs.toArray++Array.replicate (fn.ntmps - vs.length) undef) [] [.code c]:=by
  simp [Frame.enter,fr,Z,hb,base];rfl
 have ac:mk E H B=Ak E H [B]:=by unfold Ak;simp
 rw [he,ac];refine h Q bc Tc dsc O cs H (by unfold An;simpa using aa) (λU v E' S' B' hle ae ag V=>?_) (λU E' S' hle V=>?_) _ ⟨by simp;omega,λt v ah=>?_⟩
 ·subst ae;exact ab U v E' S'.flatten hle ag V
 ·exact K U E' S'.flatten hle V
 ·obtain⟨_,K⟩:=I6 ah;have ai:t<vs.length:=by
   rcases Nat.lt_or_ge t vs.length with Y | Y
   ·exact Y
   ·simp at K;have:=(List.getElem?_eq_some_iff.1 K).1;omega
  rw [Array.getD_eq_getD_getElem?,Array.getElem?_append_left (by simpa using ai)];simp at K;simp [K]
theorem UL{x:Operand}{f:FuncId}{caps:Lv_}{args:Array Operand}{ats:Array TypeId}{s:St}{vs:Lv_}(hb:DI P f=true)
  (U:ops[i]? =some ⟨d,.call ⟨.value x,args,ats⟩,ty,pp,af,g⟩) (hw:AT L ops ⟨d,.call ⟨.value x,args,ats⟩,ty,pp,af,g⟩=some true) (O:((b.kind != .early)&&Bh n d)=true)
  (V:ev L x=some (.func (.func f) #[] caps.toArray)) (Y:evs L args.toList=some vs)
  (h:∀T,Has n L T->J.ok Q (G (Frame.enter P f (vs++caps).toArray .normal) (fr b T ds (.inRegion ops (i::rest)::k)::cs)) s):
  JL J Q b n L ds (.inRegion ops (i::rest)::k) cs s:=λT K=>by
 simp only [Bool.and_eq_true] at O
 have Z:args.map (By T)=vs.toArray:=by
  rw [← Gd K.FW Y];apply Array.ext';simp
 refine Judge.oper U (Cb K hw) (by simpa using O.1) (.inr λc aa=>by cases aa) ?_;have hd:lp P (execOp (By T) ⟨d,.call ⟨.value x,args,ats⟩,ty,pp,af,g⟩) s (upon J Q b T ds ops i rest k cs d) (KW J Q b T ds ops i rest k cs):=by
  have ab:execOp (By T) ⟨d,.call ⟨.value x,args,ats⟩,ty,pp,af,g⟩=(do let d ← Deferred.ofValue (.func (.func f) #[] caps.toArray) vs.toArray;invoke d.target d.args):=by
   simp only [execOp,resolve,Z,K.FW _ _ V]
  rw [ab];simp only [Deferred.ofValue,bind,Sem.bind,pure,invoke];have e: #[]++vs.toArray++caps.toArray=(vs++caps).toArray:=by simp
  rw [e];exact IF hb (h T K)
 exact hd
theorem UU{f:FuncId}{args:Array Operand}{ats:Array TypeId}{s:St}{vs:Lv_}(hb:DI P f=true)
  (U:ops[i]? =some ⟨d,.call ⟨.value (.func f),args,ats⟩,ty,pp,af,g⟩) (hw:AT L ops ⟨d,.call ⟨.value (.func f),args,ats⟩,ty,pp,af,g⟩=some true) (O:((b.kind != .early)&&Bh n d)=true)
  (V:evs L args.toList=some vs)
  (h:∀T,Has n L T->J.ok Q (G (Frame.enter P f vs.toArray .normal) (fr b T ds (.inRegion ops (i::rest)::k)::cs)) s):
  JL J Q b n L ds (.inRegion ops (i::rest)::k) cs s:=λT K=>by
 simp only [Bool.and_eq_true] at O
 have Y:args.map (By T)=vs.toArray:=by
  rw [← Gd K.FW V];apply Array.ext';simp
 refine Judge.oper U (Cb K hw) (by simpa using O.1) (.inr λc Z=>by cases Z) ?_;have hd:lp P (execOp (By T) ⟨d,.call ⟨.value (.func f),args,ats⟩,ty,pp,af,g⟩) s (upon J Q b T ds ops i rest k cs d) (KW J Q b T ds ops i rest k cs):=by
  simp only [execOp,resolve,bind,Sem.bind,Deferred.ofValue,By,pure,invoke];have e: #[]++args.map (By T)++ #[]=vs.toArray:=by rw [Y];simp
  rw [e];exact IF hb (h T K)
 exact hd
theorem WC{g:Frame}{s:St}(O:s.q=false)(h:(∃w,Fits s w)->J.ok Q (G g cs) s):J.ok Q (G g cs) s:=by
 by_cases K:∃w,Fits s w
 ·exact h K
 ·exact J.step ⟨rfl,λw f=>absurd ⟨w,f⟩ K,λe=>by subst e;cases O⟩
theorem Gp.use{f:FuncId}{vs:Lv_}{B:Seg}{R:Value->LH->Seg->Prop}{p:Bool}{Tc:Av_}{V:Li_}(j:Nat)(ae:Gp J f vs E B p pv R)(Z:An E H S)(aa:S[j]? =some B)
  (Y:p=false->∀v E' B',Le E E'->R v E' B'->An E' H (S.set j B')->J.ok Q (G ((fr bc Tc dsc V).finish v) cs) (Ak E' H (S.set j B')))
  (ag:p=true->∀E' B',Le E E'->An E' H (S.set j B')->J.ok Q (G (GJ bc Tc dsc V (raised pv)) cs) (Ak E' H (S.set j B'))):
  J.ok Q (G (Frame.enter P f vs.toArray .normal) (fr bc Tc dsc V::cs)) (Ak E H S):=by
 have K:S.flatten.Perm (B++(S.set j []).flatten):=(Ei (seg':=B) aa).1.trans List.perm_append_comm;have ab:Nd E H (B++(S.set j []).flatten):=Nd.perm Z K;have ah:Ak E H S=mk E (Bi (S.set j []).flatten H) B:=by
  rw [show Ak E H S=mk E H S.flatten from rfl,EZ Z K];unfold mk;rw [FM]
 have ai:Nd E H (S.set j []).flatten:=by
  have:=ab;rw [Nd.iff] at this ⊢;rw [List.map_append,List.nodup_append] at this;exact⟨this.1.2.1,λq aj=>this.2 q (List.mem_append_right _ aj)⟩
 have back:∀(g:Frame) (E':LH) (B':Seg),Le E E'->Nd E' (Bi (S.set j []).flatten H) B'->(An E' H (S.set j B')->J.ok Q (G g cs) (Ak E' H (S.set j B')))->J.ok Q (G g cs) (mk E' (Bi (S.set j []).flatten H) B'):=λg E' B' hle U ak=>by
  have e2:mk E' (Bi (S.set j []).flatten H) B'=mk E' H (B'++(S.set j []).flatten):=by unfold mk;rw [FM]
  refine WC rfl λ⟨w,al⟩=>?_;have am:Nd E' H (S.set j []).flatten:=ai.grow λx an=>by
   have ao:=al.d x an;have Y:Bi B' (Bi (S.set j []).flatten H) x=none:=ao;exact(HI Y).1
  have O:Nd E' H (B'++(S.set j []).flatten):=Nd.glue U am;rw [e2];have ac:(B'++(S.set j []).flatten).Perm (S.set j B').flatten:=List.perm_append_comm.trans (Ei aa).2.symm;rw [EZ O ac];exact ak (Nd.perm O ac)
 rw [ah];refine ae Q bc Tc dsc V cs _ (Nd.front ab) (λK v E' B' hle ap U=>back _ E' B' hle U λO=>Y K v E' B' hle ap O) (λK E' B' hle U=>back _ E' B' hle U λO=>ag K E' B' hle O)
theorem Qz{x:Operand}{f:FuncId}{caps:Lv_}{args:Array Operand}{ats:Array TypeId}{vs:Lv_}{seg:Seg}{R:Value->LH->Seg->Prop}{p:Bool}(j:Nat)(hb:DI P f=true)
  (Z:Gp J f (vs++caps) E seg p pv R) (V:ops[i]? =some ⟨d,.call ⟨.value x,args,ats⟩,ty,pp,af,g⟩) (hw:AT L ops ⟨d,.call ⟨.value x,args,ats⟩,ty,pp,af,g⟩=some true) (K:((b.kind != .early)&&Bh n d)=true)
  (aa:ev L x=some (.func (.func f) #[] caps.toArray)) (ab:evs L args.toList=some vs) (ac:An E H S) (ae:S[j]? =some seg)
  (ag:p=true->∀E' seg',Le E E'->An E' H (S.set j seg')->JP J Q b n L ds cs (raised pv) (Ak E' H (S.set j seg')))
  (ah:p=false->∀v E' seg',Le E E'->R v E' seg'->An E' H (S.set j seg')->JL J Q b n (Ax L d v) ds (.inRegion ops rest::k) cs (Ak E' H (S.set j seg'))):
  JL J Q b n L ds (.inRegion ops (i::rest)::k) cs (Ak E H S):=
 UL hb V hw K aa ab λT Y=>Gp.use j Z ac ae
  (λO v E' B' hle ai U=>by
   rw [Gc (o:=⟨d,.call ⟨.value x,args,ats⟩,ty,pp,af,g⟩) _ _ _ _ _ V]
   simp only [Bool.and_eq_true] at K
   exact ah O v E' B' hle ai U _ (Y.put K.2 v))
  (λO E' B' hle U=>ag O E' B' hle U T Y _)
theorem Ur{f:FuncId}{args:Array Operand}{ats:Array TypeId}{vs:Lv_}{seg:Seg}{R:Value->LH->Seg->Prop}{p:Bool}(j:Nat)(hb:DI P f=true)
  (Z:Gp J f vs E seg p pv R) (V:ops[i]? =some ⟨d,.call ⟨.value (.func f),args,ats⟩,ty,pp,af,g⟩) (hw:AT L ops ⟨d,.call ⟨.value (.func f),args,ats⟩,ty,pp,af,g⟩=some true) (K:((b.kind != .early)&&Bh n d)=true)
  (aa:evs L args.toList=some vs) (ab:An E H S) (ac:S[j]? =some seg)
  (ae:p=true->∀E' seg',Le E E'->An E' H (S.set j seg')->JP J Q b n L ds cs (raised pv) (Ak E' H (S.set j seg')))
  (ag:p=false->∀v E' seg',Le E E'->R v E' seg'->An E' H (S.set j seg')->JL J Q b n (Ax L d v) ds (.inRegion ops rest::k) cs (Ak E' H (S.set j seg'))):
  JL J Q b n L ds (.inRegion ops (i::rest)::k) cs (Ak E H S):=
 UU hb V hw K aa λT Y=>Gp.use j Z ab ac
  (λO v E' B' hle ah U=>by
   rw [Gc (o:=⟨d,.call ⟨.value (.func f),args,ats⟩,ty,pp,af,g⟩) _ _ _ _ _ V]
   simp only [Bool.and_eq_true] at K
   exact ag O v E' B' hle ah U _ (Y.put K.2 v))
  (λO E' B' hle U=>ae O E' B' hle U T Y _)
theorem VC{ρ:Operand->Value}{x y z1:Operand}{s:St}{p:String}{a:Option Addr}{l c K m:Nat}{hi:Int}(O:∀ad,a=some ad->ad.spot=none∨c=0)(U:m<=c)(he:hi=(m:Int))(V:P.underlying t=some (.slice e))(Y:Bm P e=some K)(Z:ρ x= .slice a l c)(aa:ρ y=iV hi)(ab:ρ z1=iV hi):
  Yl P ⟨d,.slice t x none (some y) (some z1),ty,p,af,g⟩ ρ s (.slice a m m):=by
 subst he;have h:=Yl.slice (P:=P) (s:=s) (d:=d) (ty:=ty) (p:=p) (af:=af) (g:=g) (olo:=none) (ohi:=some y) (omx:=some z1) (lo:=0) (hi:=m) (mx:=m) V Y Z ab aa rfl U (Nat.le_refl _) (Nat.zero_le _);have ac:(if m=0 then a else a.map (·.add (0*K)))=a:=by
  split
  ·rfl
  ·cases a with
   | none=>rfl
   | some ad=>
    have:=(O ad rfl).resolve_right (by omega);simp only [Option.map_some,Nat.zero_mul];rw [DR this];obtain⟨b,o,sp⟩:=ad;simp only at this;subst this;simp
 rw [ac] at h;simpa using h
theorem Am.Yx{α:Type}{q:Rp α}{a:Option Addr}{c:Nat}{xs ys:List α}{hi:Int}(U:Am q E a c xs)(hC:H2 xs 0 hi=some ys):Am q E a c ys/\ys.length<=c/\hi=(ys.length:Int):=by
 unfold H2 at hC;split at hC
 rotate_left
 ·cases hC
 rename_i hb;obtain⟨Y,Z,aa⟩:=hb;cases hC;have ab:=U.1;have hlen:(((xs.take hi.toNat).drop (0:Int).toNat)).length=hi.toNat:=by simp;omega
 refine⟨⟨by rw [hlen];omega,?_⟩,by rw [hlen];omega,by rw [hlen];omega⟩;rcases U.2 with⟨h,O⟩ | ⟨bk,off,V,O⟩
 ·exact .inl ⟨by rw [h];simp,O⟩
 ·refine .inr ⟨bk,off,V,λi x K=>O i x ?_⟩;simp only [Int.toNat_zero,List.drop_zero] at K;rw [List.getElem?_take] at K;split at K
  ·exact K
  ·cases K
theorem Take.QE{m fuel:Nat}{listed:Array Bool}{x y:Operand}{p:String}{α:Type}{q:Rp α}{t1:TypeId}{V c cx:Nat}{a ax:Option Addr}{xs ys Y:List α}{ats:Array TypeId}{z:Value}(U:Cr xs ys=some Y)
  (ai:ops[i]? =some ⟨d,.call ⟨.builtin .append,#[x,y],ats⟩,ty,p,af,g⟩) (hw:AT L ops ⟨d,.call ⟨.builtin .append,#[x,y],ats⟩,ty,p,af,g⟩=some true) (aj:Bh n d=true)
  (ak:ev L x=some (.slice a xs.length xs.length)) (al:ev L y=some (.slice ax ys.length cx)) (am:ats[0]? =some t) (an:ats[1]? =some t1) (ao:P.underlying t=some (.slice e)) (ap:P.underlying t1=some (.slice e)) (aq:Bm P e=some q.n) (hb:Fp P e=some V) (ar:zeroOf P e=some z) (au:z.cells.size=q.n)
  (av:0<V) (aw:V<=64) (Z:Am q E a c xs) (ay:Am q E ax cx ys) (aa:An E H S)
  (h:∀E' ab K,Le E E'->Am q E' ab K Y->An E' H (S++ [[]])->AL J Q b n ds ops k cs m CL fuel (Ba listed i) (Ax L d (.slice ab Y.length K)) (Ak E' H (S++ [[]]))):
  Take J Q b n ds ops k cs m CL fuel listed L (Ak E H S) i:=by
 unfold Cr at U;split at U
 rotate_left
 ·cases U
 rename_i az;cases U;obtain⟨wss,ac,aA,aB,aR⟩:=Am.KF (H:=H) (B:=S.flatten) Z.full;obtain⟨aC,aD,aE,aF,aG⟩:=Am.KF (H:=H) (B:=S.flatten) ay;have hlen:(xs++ys).length=xs.length+ys.length:=by simp
 show Take J Q b n ds ops k cs m CL fuel listed L (mk E H S.flatten) i;refine Take.Jy ai (by simp [DK,aj]) hw λρ ae=>?_;rw [K9,ae x _ ak,ae y _ al];refine Av _ _ (PN am an ap ao aq hb ar au aa aB aF aG av az aw ?_ ?_)
 ·intro hm;have aH:ys= []:=List.eq_nil_of_length_eq_zero hm;subst aH;have aI:An E H (S++ [[]]):=by unfold An at*;rw [GO,List.append_nil];exact aa
  have aJ:mk E H S.flatten=Ak E H (S++ [[]]):=by unfold Ak;rw [GO,List.append_nil]
  rw [aJ];have:=h E a xs.length (Le.refl _) (by rw [List.append_nil];exact Z.full) aI;rw [hlen] at this;exact this
 ·intro r O K aK aL aM aN;have aO:OL e q E (some ⟨r,0,none⟩) K [(r,.cells O e (0,0))] (xs++ys):=
   ⟨wss++aC,.inr ⟨r,O,rfl,rfl,aL,by rw [hlen];exact aK,by rw [hlen,List.flatten_append];exact aM.symm⟩,by simp [ac,aD],Mb ac aA aE⟩
  have ag:=EX (S:=S) (seg:= [(r,.cells O e (0,0))]) aN;show AL J Q b n ds ops k cs m CL fuel _ _ (mk E H (S.flatten++ [(r,.cells O e (0,0))]));rw [ag.1];refine Fv S.length aO ag.2 (by simp) λE' hle aP ah=>?_;have aQ:(S++ [[(r,Obj.cells O e (0,0))]]).set S.length []=S++ [[]]:=Im _ _ _ _;rw [aQ] at ah ⊢;have:=h E' (some ⟨r,0,none⟩) K hle aP ah;rw [hlen] at this;exact this
theorem TK{ρ:Operand->Value}{x:Operand}{s:St}{p:String}{v:Value}{xt t1:TypeId}{f1:Array Field}(K:P.underlying t1=some (.struct f1))(O:ρ x= .iface t1 v):Yl P ⟨d,.typeAssert x xt t1 true,ty,p,af,g⟩ ρ s (.tuple #[v,.bool true]):=by
 refine FL (sm:=Instr.typeAssert (ρ x) xt t1 true) rfl ?_;rw [O];unfold Instr.typeAssert;refine Av _ _ (Cp K ?_);simp [lp,pure]
theorem TH{ρ:Operand->Value}{x:Operand}{s:St}{p:String}{z:Value}{xt t1:TypeId}{f1:Array Field}(K:P.underlying t1=some (.struct f1))(O:zeroOf P t1=some z)(U:ρ x= .nilIface):Yl P ⟨d,.typeAssert x xt t1 true,ty,p,af,g⟩ ρ s (.tuple #[z,.bool false]):=by
 refine FL (sm:=Instr.typeAssert (ρ x) xt t1 true) rfl ?_;rw [U];unfold Instr.typeAssert;refine Av _ _ (Cp K ?_);exact Av (x:=zeroValue t1) _ (Hd O ⟨rfl,rfl⟩)
end
end Pal
