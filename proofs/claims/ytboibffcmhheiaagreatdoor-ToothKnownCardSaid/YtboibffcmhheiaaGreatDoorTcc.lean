/- ToothKnown: the examples of the chapter have the results given there Part 3 of 8. -/
import Derived.Test.YtboibffcmhheiaaGreatDoorTca
import Derived.Test.YtboibffcmhheiaaGreatDoorTcb
import Derived.Test.YtboibffcmhheiaaGreatDoorRows
import Derived.Test.YtboibffcmhheiaaGreatDoorChecked
import Derived.Conc.LeavingOf
import Derived.Conc.Holds
import Derived.Carry
import Derived.ChangeSame
import Derived.ChangeVars
import Derived.JoinedOf
import Derived.RowKit
import Derived.LaidLaws
import Derived.LaidHandle
import Derived.Stop.Joined
import Derived.Test.YtboibffcmhheiaaGreatDoorProg
import Derived.ProofKit
import Derived.Conc.WgGenN3
set_option linter.all false
set_option maxRecDepth 100000
namespace Pal
open Go Go.Conc
theorem Rq{E H:LH}{S:List Seg}{bks:List Nat}{bk o:Nat}{l ws:Lv_}{e:TypeId}{f:Nat×Nat}{s':St}{w:Value}(j:Nat)(K:Ar E H S)(O:S[j]? =some [(bk,.cells (l++ws).toArray e f)])(U:AX bks bk=true)(hs:∀x o,(Bu (AX bks) (Am E H S)).E x=some o→s'.E x=some o)(V:ws[o]? =some w):s'.cell? ⟨bk,l.length+o,none⟩=some w:=by
 have:=LX j K O U hs o w V
 rwa [Dq rfl] at this
section
variable {P:Program}{E H:LH}{B:List (Nat×Obj)}{t e ty:TypeId}
theorem Qy{ats:Array TypeId}{a:Option Addr}{l K O m cx:Nat}{ax:Option Addr}{xs ys:Lv_}{z:Value}{Q:Value→St→Prop}{X:Halt→St→Prop}
  (al:ats[0]? =some t) {t1 am:TypeId} (an:ats[1]? =some t1) (ao:P.underlying t1=some (.slice am)) (ht:P.underlying t=some (.slice e)) (ap:Br P e=some K) (hb:D6 P e=some O) (aq:zeroOf P e=some z) (ar:z.cells.size=K)
  (au:Nd E H B) (ab:FP (mk E H B) (.slice a l l) K xs)
  (Y:FP (mk E H B) (.slice ax m cx) K ys) (aE:∀w∈ys,AL w=true) (aF:0<O) (aG:l+m≤2 ^ 40) (av:O≤64)
  (aj:m=0→Q (.slice a (l+m) l) (mk E H B))
  (aw:∀r Z ac,l+m≤ac→Z.size=ac*K→Z.toList.take ((l+m)*K)=xs++ys→Nd E H (B++ [(r,.cells Z e (0,0))])→Q (.slice (some ⟨r,0,none⟩) (l+m) ac) (mk E H (B++ [(r,.cells Z e (0,0))]))):
  lp P (Builtin.append_ ats ty #[.slice a l l,.slice ax m cx]) (mk E H B) Q X:=by
 unfold Builtin.append_;simp only [al,an,List.getElem?_toArray,List.getElem?_cons_zero,List.getElem?_cons_succ];refine Ay _ _ (CY ht ?_);refine Ay _ _ (En ap ?_);refine Ay _ _ (CY ao ?_);simp only [GI,Bool.false_eq_true,if_false,Builtin.lenOf,Bool.not_false,if_true];have aa:ys.length=m*K:=by
  cases ax with
  | none=>obtain⟨U,V⟩:=Y;subst U V;simp
  | some ad=>exact Y.2.1
 have ae:xs.length=l*K:=by
  cases a with
  | none=>obtain⟨U,V⟩:=ab;subst U V;simp
  | some ad=>exact ab.2.1
 obtain⟨c,aH⟩:∃c,c=l:=⟨_,rfl⟩;split
 ·rename_i aI;have hm:m=0:=by omega
  have ay:ys= []:=List.eq_nil_of_length_eq_zero (by rw [aa,hm];simp);refine Ay _ _ (H0 ⟨ax,cx,rfl⟩ Y ?_);subst ay;cases a with
  | none=>exact aj hm
  | some ad=>exact aj hm
 ·rename_i aJ;have U:¬(((l+m:Nat):Int)>IntKind.i64.max∧(False∨O=0)):=by rintro⟨_,h | h⟩ <;> omega
  have V:¬(Builtin.nextslicecap (l+m) l*O>2 ^ 48):=by
   have:=Ni (need:=l+m) (old:=l) (by omega);have aK:Builtin.nextslicecap (l+m) l*O≤(2*(l+m)+768)*64:=Nat.mul_le_mul this av;omega
  obtain⟨inf,ag,ah⟩:=LQ hb;refine Ay _ _ (HA ag ?_);rw [ah,if_neg U];refine Ay _ _ (HA ag ?_);rw [ah,if_neg V];refine Ay _ _ ?_;simp only [choose,lp,Question.forced,Bool.false_eq_true,if_false];refine⟨rfl,fun az=>?_⟩;generalize aA:(Question.appendCap (l+m) l e).cut az=ai;have aB:l+m≤ai:=by rw [← aA];simp [Question.cut]
  refine Ay _ _ (HA ag ?_);rw [ah];have aC:∀{α:Type} {f:Unit→Sem α} {Q:α→St→Prop},lp P (f ()) (mk E H B) Q X→lp P (askRoom (ai*O)>>=f) (mk E H B) Q X:=by
   intro α f Q ak;refine Ay _ _ ?_;unfold askRoom;split
   ·exact⟨.inl ⟨rfl,rfl⟩,ak⟩
   ·exact ak
  refine aC (Ay _ _ (H0 ⟨a,l,rfl⟩ ab ?_));refine Ay _ _ (H0 ⟨ax,cx,rfl⟩ Y ?_);refine Ay _ _ (FG aq ?_);refine Ay _ _ (GL au fun r aD=>?_);refine aw r _ ai aB ?_ ?_ aD
  ·simp only [Array.size_append,List.size_toArray,MU,ar,ae,aa];rw [← Nat.add_mul,← Nat.add_mul];congr 1;omega
  ·simp only [Array.toList_append];rw [List.take_append_of_le_length (by simp [ae,aa,Nat.add_mul])];rw [List.take_of_length_le (by simp [ae,aa,Nat.add_mul])]
end
theorem Aq.spot{α:Type}{pp:Rp α}{E:LH}{a:Option Addr}{c:Nat}{xs:List α}(h:Aq pp E a c xs):∀ad,a=some ad→ad.spot=none∨c=0:=fun ad K=>by
 rcases h.2 with⟨_,h⟩ | ⟨bk,off,h,_⟩
 ·exact h ad K
 ·rw [h] at K;cases K;exact .inl rfl
theorem Aq.full{α:Type}{pp:Rp α}{E:LH}{a:Option Addr}{c:Nat}{xs:List α}(h:Aq pp E a c xs):Aq pp E a xs.length xs:=⟨Nat.le_refl _,h.2.imp (fun⟨h,_⟩=>⟨h,fun _ _=> .inr (by rw [h];rfl)⟩) id⟩
theorem Aq.Ol{α:Type}{pp:Rp α}{E H:LH}{B:List (Nat×Obj)}{a:Option Addr}{c:Nat}{ys:List α}(Z:Aq pp E a c ys):
  ∃K:List (Lv_),K.length=ys.length∧(∀(i:Nat) x ws,ys[i]? =some x→K[i]? =some ws→pp.r E ws x)∧FP (mk E H B) (.slice a ys.length c) pp.n K.flatten∧∀w∈K.flatten,AL w=true:=by
 obtain⟨K,U,Y,V⟩:=Z.rows;have aa:=GM U Y;refine⟨K,U,Y,?_,fun w hw=>?_⟩
 ·rcases V with⟨V,ah⟩ | ⟨bk,off,rfl,V⟩
  ·subst V;have:K= []:=List.eq_nil_of_length_eq_zero U;subst this;cases a with
   | none=>exact⟨rfl,rfl⟩
   | some ad=>exact⟨.inr rfl,by simp,Nat.zero_le _,fun q w O=>by simp at O⟩
  ·refine⟨.inl rfl,by rw [Kc aa,U],Z.1,fun q w O=>?_⟩;obtain⟨q1,m,ws,ab,e2,ac⟩:=LL aa O;have:=(V q1 ws ab).cell (H:=H) (B:=B) e2;subst ac;rw [← Nat.add_assoc];exact this
 ·obtain⟨us,ae,hw⟩:=List.mem_flatten.1 hw;obtain⟨q,O⟩:=List.mem_iff_getElem?.1 ae;have ag:q<ys.length:=by rw [← U];exact(List.getElem?_eq_some_iff.1 O).1
  exact pp.one (Y q _ us (List.getElem?_eq_getElem ag) O) w hw
section
variable {P:Program}{J:Judge P}{Q:Gs_}{b:Frame}{n:Nat}{ds:Ld_}{ops:Ao_}{k:Li_}{cs:Lf_}{L:Env}{s:St}{E E' H:LH}{S:List Seg}
variable {d:Option Tmp}{x y z1:Operand}{t u ty e:TypeId}{p:String}{af:Ae_}{g:On_}{v:Value}{i:Nat}{rest:List Nat}{kd:IntKind}{ρ:Operand→Value}
theorem QQ{a:Option Addr}{l c K:Nat}(O:∀ad,a=some ad→ad.spot=none∨c=0)(U:l≤c)(ht:P.underlying t=some (.slice e))(V:Br P e=some K)(Y:ρ x= .slice a l c)(Z:ρ y=iV (l:Int))(aa:ρ z1=iV (l:Int)):
  Yl P ⟨d,.slice t x none (some y) (some z1),ty,p,af,g⟩ ρ s (.slice a l l):=by
 have h:=Yl.slice (P:=P) (s:=s) (d:=d) (ty:=ty) (p:=p) (af:=af) (g:=g) (olo:=none) (ohi:=some y) (omx:=some z1) (lo:=0) (hi:=l) (mx:=l) ht V Y aa Z rfl U (Nat.le_refl _) (Nat.zero_le _);have ab:(if l=0 then a else a.map (·.add (0*K)))=a:=by
  split
  ·rfl
  ·cases a with
   | none=>rfl
   | some ad=>
    have:=(O ad rfl).resolve_right (by omega);simp only [Option.map_some,Nat.zero_mul];rw [Dq this];obtain⟨b,o,sp⟩:=ad;simp only at this;subst this;simp
 rw [ab] at h;simpa using h
theorem Q6{α:Type}{pp:Rp α}{t1:TypeId}{V c cx:Nat}{a ax:Option Addr}{xs ys Y:List α}{ats:Array TypeId}{z:Value}(U:Ff xs ys=some Y)
  (ai:ops[i]? =some ⟨d,.call ⟨.builtin .append,#[x,y],ats⟩,ty,p,af,g⟩) (hw:A5 L ops ⟨d,.call ⟨.builtin .append,#[x,y],ats⟩,ty,p,af,g⟩=some true) (aj:Ct b n ⟨d,.call ⟨.builtin .append,#[x,y],ats⟩,ty,p,af,g⟩=true)
  (ak:ev L x=some (.slice a xs.length xs.length)) (al:ev L y=some (.slice ax ys.length cx)) (am:ats[0]? =some t) (an:ats[1]? =some t1) (ht:P.underlying t=some (.slice e)) (ao:P.underlying t1=some (.slice e)) (ap:Br P e=some pp.n) (hb:D6 P e=some V) (aq:zeroOf P e=some z) (ar:z.cells.size=pp.n)
  (au:0<V) (av:V≤64) (Z:Aq pp E a c xs) (aw:Aq pp E ax cx ys) (aa:Ar E H S)
  (h:∀E' ab K,Le E E'→Aq pp E' ab K Y→Ar E' H (S++ [[]])→JL J Q b n (Ax L d (.slice ab Y.length K)) ds (.inRegion ops rest::k) cs (Am E' H (S++ [[]]))):
  JL J Q b n L ds (.inRegion ops (i::rest)::k) cs (Am E H S):=by
 unfold Ff at U;split at U
 rotate_left
 ·cases U
 rename_i ay;cases U;obtain⟨az,ac,aA,aB,aR⟩:=Aq.Ol (H:=H) (B:=S.flatten) Z.full;obtain⟨aC,aD,aE,aF,aG⟩:=Aq.Ol (H:=H) (B:=S.flatten) aw;have hlen:(xs++ys).length=xs.length+ys.length:=by simp
 show JL J Q b n L ds (.inRegion ops (i::rest)::k) cs (mk E H S.flatten);refine JL.op ai hw aj fun ρ ae=>?_;rw [Ka,ae x _ ak,ae y _ al];refine Ay _ _ (Qy am an ao ht ap hb aq ar aa aB aF aG au ay av ?_ ?_)
 ·intro hm;have aH:ys= []:=List.eq_nil_of_length_eq_zero hm;subst aH;have aI:Ar E H (S++ [[]]):=by unfold Ar at*;rw [F4,List.append_nil];exact aa
  have aJ:mk E H S.flatten=Am E H (S++ [[]]):=by unfold Am;rw [F4,List.append_nil]
  rw [aJ];have:=h E a xs.length (Le.refl _) (by rw [List.append_nil];exact Z.full) aI;rw [hlen] at this;exact this
 ·intro r O K aK aL aM aN;have aO:OL e pp E (some ⟨r,0,none⟩) K [(r,.cells O e (0,0))] (xs++ys):=
   ⟨az++aC,.inr ⟨r,O,rfl,rfl,aL,by rw [hlen];exact aK,by rw [hlen,List.flatten_append];exact aM.symm⟩,by simp [ac,aD],LO ac aA aE⟩
  have ag:=Ee (S:=S) (seg:= [(r,.cells O e (0,0))]) aN;show JL J Q b n _ ds _ cs (mk E H (S.flatten++ [(r,.cells O e (0,0))]));rw [ag.1];refine BA S.length aO ag.2 (by simp) fun E' hle aP ah=>?_;have aQ:(S++ [[(r,Obj.cells O e (0,0))]]).set S.length []=S++ [[]]:=Gq _ _ _ _;rw [aQ] at ah ⊢;have:=h E' (some ⟨r,0,none⟩) K hle aP ah;rw [hlen] at this;exact this
end
end Pal
namespace Pal
open Go Go.Conc
open Go.ConcN (sumTo upd sumTo_upd upd_ne upd_same)
def Jd(P:Program)(R:Value→St→Prop):GP:=fun g s=>
 g.status= .running∧∃v,R v s∧∀w,stepG P true g w= .ended (.done v) w #[]
section
variable {P:Program}{R:Value→St→Prop}{J:Judge P}{n:Nat}{L:Env}{s:St}{b:Frame}
theorem JO.end{fn:Func}{t:Tmp}{v:Value}(K:b.kind= .normal)(hi:P.inits.idxOf? b.fn=none)(O:P.funcs[b.fn]? =some fn)(U:fn.results= #[.tmp t])(V:look L t=some v)(Y:R v s):JO J (Jd P R) b n L [] [] s:=fun T Z todo=>by
 refine J.stop ⟨rfl,v,Y,fun w=>?_⟩
 have e:results fn T=Sem.pure v:=by
  have:=Z.at_ t v V;simp only [results,U,Array.mapM_eq_mapM_toList];show Sem.pure (T.getD t undef)=_;rw [this]
 have aa:(results fn T).run P w= .ok v w:=by rw [e];rfl
 have e2:(results fn T).events P w #[]= #[]:=by rw [e];simp [Sem.events_pure']
 simp [G,stepG,unwind,DI,O,aa,e2,doReturn,K,GStep.after,hi,seen_none]
end
section
variable {P:Program}{R:Value→St→Prop}
def Jp(P:Program)(R:Value→St→Prop)(K:World)(s₀:St)(v:Value)(w':World):Prop:=
 ∃s,R v s∧Fits s w'∧(∀b o,s₀.E b=some o→s.E b=some o)∧w'.tape=K.tape∧w'.os=K.os∧w'.output=K.output
def MG(P:Program)(R:Value→St→Prop)(K:World)(s₀:St)(O:Nat)(m:Machine)(t:Trace):Prop:=
 ∃gs w sl q Sh g s,m=crowd gs w sl∧FC P gs w t q Sh g s∧Jd P R g s∧O=sumTo gs.size q∧(∀b o,s₀.E b=some o→s.E b=some o)∧w.tape=K.tape∧w.os=K.os∧w.output=K.output
theorem Su{ae:World}{s₀:St}(aj:Nat)(m:Machine)(t:Trace)(h:MG P R ae s₀ aj m t):
  (∃o w ops,stepT P m=(.ended o w,ops)∧Good P (Jp P R ae s₀) m o w (t++ops))∨(∃m' ops ak,stepT P m=(.next m',ops)∧ak<aj∧MG P R ae s₀ ak m' (t++ops)):=by
 obtain⟨gs,w,sl,q,Sh,g,s,rfl,hC,aA,rfl,al,am,an,ao⟩:=h;obtain⟨Z,v,ap,aq⟩:=aA;have aB:∀x∈gs,awake x:=by
  intro x V;obtain⟨i,hi,rfl⟩:=Array.mem_iff_getElem.1 V;rcases Nat.eq_zero_or_pos i with rfl | ag
  ·have:gs[0]=g:=by simpa [Array.getElem?_eq_getElem hi] using hC.main
   rw [this];exact awake_of (.inl Z)
  ·exact awake_of ((hC.lv.old i _ ag (Array.getElem?_eq_getElem hi)).status.elim .inl fun x=> .inr (.inr x))
 obtain⟨i,x,d,ar,hi,V,au⟩:=crowd_pick (P:=P) (w:=w) (sl:=sl) aB ⟨0,g,hC.main,Z⟩;have av:=hC.at_ d;have aC:0<gs.size:=(Array.getElem?_eq_some_iff.1 hC.main).1;have aD:∀(a:Nat) (fn:FuncId) (pos:String),MemOp.ofEvents a fn pos #[]= #[]:=fun a fn pos=>by rw [ofEvents_eq];simp
 rcases Nat.eq_zero_or_pos i with rfl | ag
 ·obtain rfl:x=g:=by rw [hC.main] at hi;exact(Option.some.inj hi).symm
  have aa:=runT_many_ended (P:=P) (sl:=ar) (i:=0) hi (show stepG P (0==0) x (w.at d)=_ from aq (w.at d));rw [aD] at aa;refine .inl ⟨_,_,_,au.trans aa,v,rfl,⟨s,ap,av.Cx.fits 0 aC,al,am,an,ao⟩,?_,?_,⟨fun y K=>?_,rfl⟩,fun j y K O=>?_⟩
  ·simpa using hC.Cx.clean
  ·simpa using hC.over
  ·obtain⟨j,O⟩:=List.mem_iff_getElem?.1 K;rw [List.getElem?_drop] at O;exact⟨_,(hC.lv.old (1+j) y (by omega) (by simpa [crowd] using O)).leaves⟩
  ·have Y:=hC.lv.old j y (by omega) K;exact⟨q j,by simp only [Array.append_empty];exact Y.hears w⟩
 ·have Y:=hC.lv.old i x ag hi;have aE:(i==0)=false:=by simp;omega
  have aw:i<gs.size:=(Array.getElem?_eq_some_iff.1 hi).1;cases ah:q i with
  | zero=>rw [ah] at Y;rw [Y.1] at V;cases V
  | succ k=>
   rw [ah] at Y;rcases Y with⟨aF,_⟩ | ⟨_,x',es,hm,aG,aH⟩
   ·rw [aF] at V;cases V
   have aL:sumTo gs.size (upd q i k)+(k+1)=sumTo gs.size q+k:=by
    have:=sumTo_upd q k id aw;simpa [ah] using this
   have aa:=runT_crowd_go (P:=P) (sl:=ar) (i:=i) hi (by rw [aE];exact aG (w.at d));have ai:((gs.map (woken P x x' (w.at d))).setIfInBounds i x').size=gs.size:=by simp
   have ab:∀op∈MemOp.ofEvents i x.frame.fn x.frame.place es,op.g=i:=fun op U=>by obtain⟨e,_,rfl⟩:=mem_ofEvents U;rfl
   have ay:∀op∈MemOp.ofEvents i x.frame.fn x.frame.place es,op.act.touch? =none:=fun op U=>by obtain⟨e,he,rfl⟩:=mem_ofEvents U;exact touch_mute (hm e he)
   have aI:FC P ((gs.map (woken P x x' (w.at d))).setIfInBounds i x') (w.at d) (t++MemOp.ofEvents i x.frame.fn x.frame.place es) (upd q i k) Sh g s:=by
    refine⟨?_,⟨fun j y O K=>?_,fun j O=>?_⟩,?_,?_,?_⟩
    ·have aJ:i≠0:=by omega
     rw [Array.getElem?_setIfInBounds_ne aJ,Array.getElem?_map,hC.main];simp [woken_run Z]
    ·by_cases ac:i=j
     ·subst ac;rw [Array.getElem?_setIfInBounds_self_of_lt (by simpa using aw)] at K;obtain rfl:=Option.some.inj K;rw [upd_same,Deaf_own];exact aH
     ·rw [Array.getElem?_setIfInBounds_ne ac,Array.getElem?_map] at K;obtain⟨z,aK,rfl⟩:=Option.map_eq_some_iff.1 K;have az:=hC.lv.old j z O aK;rw [woken_quitsD az,upd_ne q k (Ne.symm ac),Deaf_other t ac _ ab];exact az
    ·rw [Deaf_other t (g':=i) (by simp at O;omega) _ ab];exact hC.lv.above j (by simpa using O)
    ·rw [ai];exact av.Cx.mute ab ay (fun op U=>by obtain⟨e,he,rfl⟩:=mem_ofEvents U;exact low_mute (hm e he) _) rfl
    ·exact handedOver_app hC.over fun op U=> .inr (ay op U)
    ·rw [Deaf_other t (by omega) _ ab];exact hC.hears
   exact .inr ⟨_,_,_,au.trans aa,by rw [← ai];rw [ai];omega,_,_,_,_,_,_,_,rfl,aI,⟨Z,v,ap,aq⟩,rfl,al,am,an,ao⟩
theorem ends{gs:Array Goroutine}{w:World}{sl:Option (Nat×Nat)}{t:Trace}{q:Nat→Nat}{Sh:Nat→Prop}{g:Goroutine}{s:St}(hC:FC P gs w t q Sh g s)(O:Jd P R g s):
  ∃N last o w' K,runNT P (N+1) (crowd gs w sl) t=(.ended o w',K)∧runN P N (crowd gs w sl)= .next last∧step P last= .ended o w'∧Good P (Jp P R w s) last o w' K:=
 run_of_inv Nat.lt_wfRel.wf (MG P R w s) (Good P (Jp P R w s)) Su _ _ _ ⟨gs,w,sl,q,Sh,g,s,rfl,hC,O,rfl,fun _ _ h=>h,rfl,rfl,rfl⟩
theorem QS{m m':Machine}{t K:Trace}{n:Nat}(h:runNT P n m t=(.next m',K)):runN P n m= .next m':=by rw [← runNT_fst P n m t,h]
def Hz(W:World):St:=⟨fun b=>W.heap[b]?,fun _=>none,false⟩
theorem Sm{W:World}{g:Goroutine}(h:(C5 P).ok (Jd P R) g (Hz W)):
  ∃M last o w' K,runNT P (M+1) (solo g W) #[]=(.ended o w',K)∧runN P M (solo g W)= .next last∧step P last= .ended o w'∧Good P (Jp P R W (Hz W)) last o w' K:=by
 have hC:FC P #[g] W #[] (fun _=>0) (fun _=>False) g (Hz W):=by
  have V:∀{i:Nat} {a:Touch},touchAt #[] i=some a→False:=fun {i a} h=>by simp [touchAt,Trace.act?] at h
  refine⟨rfl,leavers_one P g,⟨fun i hi=>?_,fun i j hi Z az=>by simp at hi Z;omega,fun i hi b hb=>hb.elim,fun b hb=>hb.elim,fun said=>?_,by simp,fun i _ b _ x a O=>(V O).elim,fun i _ b _ x a O=>(V O).elim⟩,fun i g hg=>by simp [Trace.g?] at hg,rfl⟩
  ·have:i=0:=by simp at hi;exact hi
   subst this;exact⟨fun b o U=>U,fun b o U=>(by cases U),fun b _=>rfl⟩
  ·rintro⟨i,j,_,⟨a,b,aa,_⟩,_⟩;simp [Trace.act?] at aa
 obtain⟨n,gs',w',ab,K,aA,aB,g',s',Y,ac,ae,ag,ah,ai,aj⟩:=h #[g] W none #[] _ _ hC;obtain⟨N,last,o,ak,al,k1,am,an,ao⟩:=ends (sl:=ab) ac ae;refine⟨n+N,last,o,ak,al,?_,?_,an,?_⟩
 ·rw [solo_eq_crowd,Nat.add_assoc,runNT_add,Y];exact k1
 ·have ap:=QS Y;rw [solo_eq_crowd,runN_add,ap];exact am
 ·obtain⟨v,e,⟨s2,aq,ar,au,av,aw,ay⟩,r⟩:=ao;exact⟨v,e,⟨s2,aq,ar,fun b o hb=>au b o (ag b o hb),av.trans ah,aw.trans ai,ay.trans aj⟩,r⟩
end
end Pal
namespace Pal
open Go Go.Conc
theorem RI{P:Program}{Q:Gs_}{E H:LH}{f:FuncId}{fn:Func}{c:Code}{vs:Lv_}(U:P.funcs[f]? =some fn)(hb:fn.body=some c)(Z:fn.ntmps=fn.ntmps)(aa:vs.length≤fn.ntmps)
  (h:JL (C5 P) Q (base f) fn.ntmps (EO 0 vs) [] [.code c] [] (Am E H [[]])):(C5 P).ok Q (G (Frame.enter P f vs.toArray .normal) []) (mk E H []):=by
 have he:Frame.enter P f vs.toArray .normal=fr (base f) (vs.toArray++Array.replicate (fn.ntmps - vs.length) undef) [] [.code c]:=by
  simp [Frame.enter,fr,U,hb,base];rfl
 rw [he];have V:mk E H []=Am E H [[]]:=by unfold Am;simp
 rw [V];refine h _ ⟨by simp;omega,fun t v ht=>?_⟩;obtain⟨_,K⟩:=H4 ht;have Y:t<vs.length:=by
  rcases Nat.lt_or_ge t vs.length with O | O
  ·exact O
  ·simp at K;have:=(List.getElem?_eq_some_iff.1 K).1;omega
 rw [Array.getD_eq_getD_getElem?,Array.getElem?_append_left (by simpa using Y)];simp at K;simp [K]
end Pal
namespace Pal
open Go Go.Conc Go.Proofs Go.ChangeShapes Go.WideShapes Go.ChangeAt Go.RowKit
open Go.Proofs.YtboibffcmhheiaaGreatDoor (Rows.laid_errors_errorType)
theorem Tryz.own:ownKnob Tryz.prog.godebug=none:=by kernel_rfl
theorem QI{R:Value→St→Prop}{W w':World}{v:Value}(h:Jp Tryz.prog R W (Hz W) v w'):(∃s,R v s)∧Below W.heap.size W w':=by
 obtain⟨s,V,Y,Z,ht,aa,ab⟩:=h;have hb:∀k,k<W.heap.size→w'.heap[k]? =W.heap[k]? :=fun k O=>by
  have K:(Hz W).E k=some W.heap[k]:=Array.getElem?_eq_getElem O;have U:=Y.e k _ (Z k _ K);rw [U,Array.getElem?_eq_getElem O]
 refine⟨⟨s,V⟩,⟨aa,ht,ab,?_,hb⟩⟩;rcases Nat.eq_zero_or_pos W.heap.size with ac | ac
 ·omega
 ·have K:=hb (W.heap.size - 1) (by omega);have ae:W.heap[W.heap.size - 1]? =some W.heap[W.heap.size - 1]:=Array.getElem?_eq_getElem (by omega);rw [ae] at K;have U:=(Array.getElem?_eq_some_iff.1 K).1;omega
noncomputable def Nw(os:Os):World:=
 let w0:=World.holding Tryz.prog os ⟨#[],#[],[]⟩
 {w0 with heap:=w0.heap.modify 0 fun
   | .cells _ t frozen=> .cells #[.iface 240 (.agg #[.pointer (some ⟨1,149,none⟩)])] t frozen
   | o=>o}
theorem Qt(os:Os)(args:Aw):laidMetH Tryz.prog [("errors.errorType",Go.Proofs.YtboibffcmhheiaaGreatDoor.Rows.laid_errors_errorType)] ((Nw os).forCall (fun _ _=>0) ⟨#[],args,[]⟩).memory:=
 laidMetH_of_parts (laidMet_nil _ _) (by kernel_rfl)
end Pal
namespace Pal
open Go Go.Conc
theorem oi{α:Type}{a b:α}(h:some a=some b):a=b:=Option.some.inj h
theorem bs{α β:Type}{o:Option α}{f:α→Option β}{r:β}(h:o.bind f=some r):∃x,o=some x∧f x=some r:=bind_some h
def F7(L:Env):Env→List (Option Value)
 | []=> []
 | (t,_)::L'=>look L t::F7 L L'
def Gb:Env→List (Option Value)
 | []=> []
 | (_,v)::L'=>some v::Gb L'
theorem KD{L:Env}:∀{L':Env},F7 L L'=Gb L'→Sub L' L
 | [],_=>trivial
 | (t,v)::L',h=>by
  simp only [F7,Gb,List.cons.injEq] at h
  exact⟨h.1,KD h.2⟩
section
variable {P:Program}{J:Judge P}{Q:Gs_}{b:Frame}{n:Nat}{L L':Env}{ds:Ld_}{k k':Li_}{cs:Lf_}{s:St}{ops:Ao_}{i:Nat}{rest:List Nat}{v:Value}
variable {d:Option Tmp}{op:Op}{ty:TypeId}{p:String}{af:Ae_}{g:On_}
theorem Hr(L':Env)(h:F7 L L'=Gb L')(k':JL J Q b n L' ds k cs s):JL J Q b n L ds k cs s:=Ie (KD h) k'
theorem AU(k':JL J Q b n L' ds k cs s)(h:F7 L L'=Gb L'):JL J Q b n L ds k cs s:=Ie (KD h) k'
def D1(b:Frame)(n:Nat)(L:Env)(ops:Ao_)(i:Nat):Option Oper:=
 match G2 ops.toList i with
 | some ⟨d,op,ty,p,af,g⟩=>match A5 L ops ⟨d,op,ty,p,af,g⟩ with
  | some true=>match Ct b n ⟨d,op,ty,p,af,g⟩ with
   | true=>some ⟨d,op,ty,p,af,g⟩
   | false=>none
  | _=>none
 | none=>none
theorem HF{o:Oper}(h:D1 b n L ops i=some o):ops[i]? =some o∧A5 L ops o=some true∧Ct b n o=true:=by
 unfold D1 at h;split at h
 ·rename_i K;rw [Ik,Array.getElem?_toList] at K;split at h
  ·rename_i hw;split at h
   ·rename_i O;cases h;exact⟨K,hw,O⟩
   ·cases h
  ·cases h
 ·cases h
theorem Av(K:D1 b n L ops i=some ⟨d,op,ty,p,af,g⟩)(h:∀ρ,DJ L ρ→Yl P ⟨d,op,ty,p,af,g⟩ ρ s v)(O:JL J Q b n (Ax L d v) ds (.inRegion ops rest::k) cs s):
  JL J Q b n L ds (.inRegion ops (i::rest)::k) cs s:=
 let ⟨U,V,Y⟩:=HF K
 AY U V Y h O
theorem Im{f:FuncId}{fn:Func}{c:Code}{E:LH}{vs:Lv_}{B:Seg}{R:Value→LH→Seg→Prop}(O:P.funcs[f]? =some fn)(hb:fn.body=some c)(U:Nat.ble vs.length fn.ntmps=true)
  (h:∀(Q:Gs_) (K:Frame) (cs:Lf_) (H:LH),Ar E H [B]→(∀v E' S' B',Le E E'→S'.flatten=B'→R v E' B'→Ar E' H S'→J.ok Q (G (K.finish v) cs) (Am E' H S'))→JL J Q (base f) fn.ntmps (EO 0 vs) [] [.code c] (K::cs) (Am E H [B])):AT J f vs E B R:=
 AT.enter O hb (Nat.le_of_ble_eq_true U) h
def Lt(n:Nat)(L:Env)(ops:Ao_)(i:Nat):Option Env:=
 match G2 ops.toList i with
 | some ⟨d,op,ty,p,af,g⟩=>match A5 L ops ⟨d,op,ty,p,af,g⟩ with
  | some true=>match Bs n d with
   | true=>match HT L op with
    | some v=>match d with
     | some d=>some ((d,v)::L)
     | none=>some L
    | none=>none
   | false=>none
  | some false=>match Bs n d with
   | true=>match d with
    | some d=>some ((d,undef)::L)
    | none=>some L
   | false=>none
  | none=>none
 | none=>none
def Fh(n:Nat)(L:Env)(ops:Ao_)(i:Nat):Option Oper:=
 match G2 ops.toList i with
 | some ⟨d,op,ty,p,af,g⟩=>match A5 L ops ⟨d,op,ty,p,af,g⟩ with
  | some true=>match Bs n d with
   | true=>some ⟨d,op,ty,p,af,g⟩
   | false=>none
  | _=>none
 | none=>none
theorem LP{o:Oper}(h:Fh n L ops i=some o):ops[i]? =some o∧A5 L ops o=some true∧Bs n o.dst=true:=by
 unfold Fh at h;split at h
 ·rename_i K;rw [Ik,Array.getElem?_toList] at K;split at h
  ·rename_i hw;split at h
   ·rename_i O;cases h;exact⟨K,hw,O⟩
   ·cases h
  ·cases h
 ·cases h
theorem Sl(h:Lt n L ops i=some L'):∃o,ops[i]? =some o∧Bs n o.dst=true∧((∃v,A5 L ops o=some true∧HT L o.op=some v∧L'=Ax L o.dst v)∨(A5 L ops o=some false∧L'=Ax L o.dst undef)):=by
 unfold Lt at h;split at h
 ·rename_i d op ty p af g O;rw [Ik,Array.getElem?_toList] at O;refine⟨_,O,?_⟩;split at h
  ·rename_i hw;split at h
   ·rename_i K;refine⟨K,.inl ?_⟩;split at h
    ·rename_i v U;refine⟨v,hw,U,?_⟩;cases d with
     | none=>cases h;rfl
     | some d=>cases h;rfl
    ·cases h
   ·cases h
  ·rename_i hw;split at h
   ·rename_i K;refine⟨K,.inr ⟨hw,?_⟩⟩;cases d with
    | none=>cases h;rfl
    | some d=>cases h;rfl
   ·cases h
  ·cases h
 ·cases h
variable {m:Nat}{D:Nat→Bool}{fuel:Nat}{listed:Array Bool}
theorem CG(i:Nat)(K:De ops m=true)(O:s.q=false)(h:Lt n L ops i=some L')
  (U:AQ J Q b n ds ops k cs m D fuel (A4 listed i) L' s) (V:Et ops listed m i=true:=by decide+kernel):AQ J Q b n ds ops k cs m D (fuel+1) listed L s:=by
 obtain⟨o,Y,Z,⟨v,hw,aa,rfl⟩ | ⟨hw,rfl⟩⟩:=Sl h
 ·exact DR i Y K V O hw Z (fun ρ ab s' _=>Kx ab aa) U
 ·exact UO i Y K V O hw Z U
theorem Bd(i:Nat)(K:De ops m=true)(O:s.q=false)(U:Fh n L ops i=some ⟨d,op,ty,p,af,g⟩)
  (V:∀ρ,DJ L ρ→∀s':St,(∀x o,(Bu D s).E x=some o→s'.E x=some o)→Yl P ⟨d,op,ty,p,af,g⟩ ρ s' v)
  (Y:AQ J Q b n ds ops k cs m D fuel (A4 listed i) (Ax L d v) s) (Z:Et ops listed m i=true:=by decide+kernel):AQ J Q b n ds ops k cs m D (fuel+1) listed L s:=by
 obtain⟨aa,ab,ac⟩:=LP U;exact DR i aa K Z O ab ac V Y
end
end Pal
namespace Pal
open Go Go.Conc
abbrev Jn(E H E':LH)(S:List Seg)(K L:Env)(s:St)(R:Prop):Prop:=L=K∧s=Am E' H S∧Le E E'∧Ar E' H S∧R
abbrev Jm(E H E':LH)(S:List Seg)(K L:Env)(s:St):Prop:=L=K∧s=Am E' H S∧Le E E'∧Ar E' H S
def Lr(L:Env):List ResultVar→Option (Lv_)
 | []=>some []
 | .tmp t::rs=>match look L t with
  | some v=>match Lr L rs with
   | some vs=>some (v::vs)
   | none=>none
  | none=>none
 | _=>none
theorem OO{P:Program}{L:Env}{s:St}:∀{rs:List ResultVar} {vs:Lv_},Lr L rs=some vs→RV P L s rs vs
 | [],vs,h=>by cases h;trivial
 | .tmp t::rs,vs,h=>by
  unfold Lr at h
  split at h
  ·rename_i v K
   split at h
   ·rename_i ws hw;cases h;exact⟨K,OO hw⟩
   ·cases h
  ·cases h
 | .cell _ _::_,_,h=>by cases h
section
variable {P:Program}{J:Judge P}{Q:Gs_}{b:Frame}{n:Nat}{L L':Env}{ds:Ld_}{k k':Li_}{cs:Lf_}{s:St}{ops:Ao_}{i:Nat}{rest:List Nat}{v:Value}{E H:LH}{S:List Seg}
variable {d:Option Tmp}{op:Op}{x y:Operand}{t ft ty e:TypeId}{p:String}{af:Ae_}{g:On_}
theorem AS{c:Frame}{fn:Func}{vs:Lv_}(O:P.funcs[b.fn]? =some fn)(K:(b.kind== .normal&&b.roundOf.isNone)=true)(U:Lr L fn.results.toList=some vs)(h:J.ok Q (G (c.finish (Kw vs)) cs) s):JL J Q b n L [] (.code .ret::k) (c::cs) s:=by
 simp only [Bool.and_eq_true,beq_iff_eq,Option.isNone_iff_eq_none] at K;exact JL.ret K.1 K.2 (BP.list O rfl (OO U)) h
theorem AJ{f:FuncId}{args:Array Operand}{ats:Array TypeId}{vs:Lv_}{R:Value→LH→Seg→Prop}
  (O:AT J f vs E [] R) (U:D1 b n L ops i=some ⟨d,.call ⟨.value (.func f),args,ats⟩,ty,p,af,g⟩) (V:evs L args.toList=some vs) (hb:Dj P f=true)
  (Y:Ar E H S) (Z:∀v E' seg',Le E E'→R v E' seg'→Ar E' H (S++ [seg'])→JL J Q b n (Ax L d v) ds (.inRegion ops rest::k) cs (Am E' H (S++ [seg']))):
  JL J Q b n L ds (.inRegion ops (i::rest)::k) cs (Am E H S):=by
 obtain⟨aa,ab,K⟩:=HF U;refine JS.call O aa ab ?_ hb V Y Z;simp only [Ct,Bool.and_eq_true] at K ⊢;exact⟨K.1,K.2.1⟩
theorem Ba{f:FuncId}{args:Array Operand}{ats:Array TypeId}{vs:Lv_}{v:Value}
  (O:AT J f vs E [] (fun w E' B'=>w=v∧B'= [])) (U:D1 b n L ops i=some ⟨d,.call ⟨.value (.func f),args,ats⟩,ty,p,af,g⟩) (V:evs L args.toList=some vs) (hb:Dj P f=true)
  (K:Ar E H S) (Y:∀E',Le E E'→Ar E' H (S++ [[]])→JL J Q b n (Ax L d v) ds (.inRegion ops rest::k) cs (Am E' H (S++ [[]]))):
  JL J Q b n L ds (.inRegion ops (i::rest)::k) cs (Am E H S):=AJ O U V hb K (by rintro _ E' _ hle ⟨rfl,rfl⟩ K;exact Y E' hle K)
theorem CZ{f:FuncId}{args:Array Operand}{ats:Array TypeId}{vs:Lv_}{seg:Seg}{R:Value→LH→Seg→Prop}(j:Nat)
  (O:AT J f vs E seg R) (U:D1 b n L ops i=some ⟨d,.call ⟨.value (.func f),args,ats⟩,ty,p,af,g⟩) (V:evs L args.toList=some vs) (hb:Dj P f=true)
  (Y:Ar E H S) (Z:S[j]? =some seg) (aa:∀v E' seg',Le E E'→R v E' seg'→Ar E' H (S.set j seg')→JL J Q b n (Ax L d v) ds (.inRegion ops rest::k) cs (Am E' H (S.set j seg'))):
  JL J Q b n L ds (.inRegion ops (i::rest)::k) cs (Am E H S):=by
 obtain⟨ab,ac,K⟩:=HF U;refine L4 j O ab ac ?_ hb V Y Z aa;simp only [Ct,Bool.and_eq_true] at K ⊢;exact⟨K.1,K.2.1⟩
def Jj(K:Array Field)(i:Nat):Option (Nat×TypeId):=match K[i]? with
 | some f=>some (f.offset,f.type)
 | none=>none
theorem Bv{r m m':Int}{u:TypeId}(h:AA (m+m')=some r)(K:D1 b n L ops i=some ⟨d,.binOp .add t x y u,ty,p,af,g⟩)(O:ev L x=some (iV m))(U:ev L y=some (iV m'))
  (V:JL J Q b n (Ax L d (iV r)) ds (.inRegion ops rest::k) cs s):JL J Q b n L ds (.inRegion ops (i::rest)::k) cs s:=Av K (fun _ q=>SP (q _ _ O) (q _ _ U) h) V
theorem Cq{r m m':Int}{u:TypeId}(h:AA (m - m')=some r)(K:D1 b n L ops i=some ⟨d,.binOp .sub t x y u,ty,p,af,g⟩)(O:ev L x=some (iV m))(U:ev L y=some (iV m'))
  (V:JL J Q b n (Ax L d (iV r)) ds (.inRegion ops rest::k) cs s):JL J Q b n L ds (.inRegion ops (i::rest)::k) cs s:=Av K (fun _ q=>Db (q _ _ O) (q _ _ U) h) V
theorem BR{a:Option Addr}{e:TypeId}{l c:Nat}{ats:Array TypeId}(ht:P.underlying t=some (.slice e))(K:D1 b n L ops i=some ⟨d,.call ⟨.builtin .len,#[x],ats⟩,ty,p,af,g⟩)(O:ats[0]? =some t)(U:ev L x=some (.slice a l c))
  (V:JL J Q b n (Ax L d (.int .i64 l)) ds (.inRegion ops rest::k) cs s):JL J Q b n L ds (.inRegion ops (i::rest)::k) cs s:=Av K (fun _ q=>Yl.len O ht (q _ _ U)) V
theorem BJ{bk o O off:Nat}{U:Array Field}{V:Nat}(ht:P.underlying t=some (.struct U))(Y:Br P ft=some (O+1))(Z:D1 b n L ops i=some ⟨d,.fieldAddr t x V,ty,p,af,g⟩)(aa:ev L x=some (.pointer (some ⟨bk,o,none⟩)))(K:Jj U V=some (off,ft))
  (ab:JL J Q b n (Ax L d (.pointer (some ⟨bk,o+off,none⟩))) ds (.inRegion ops rest::k) cs s):
  JL J Q b n L ds (.inRegion ops (i::rest)::k) cs s:=by
 unfold Jj at K;split at K
 ·rename_i f ac;cases K;refine Av Z (fun ρ h=>Pj (a:=⟨bk,o,none⟩) O f.offset ht Y ac rfl rfl (h _ _ aa)) ?_;rw [Dq rfl];exact ab
 ·cases K
theorem Cv{bk o:Nat}{ws:Lv_}(j:Nat)(K:At E bk o ws)(ht:CM P t=some false)(O:D1 b n L ops i=some ⟨d,.load t x,ty,p,af,g⟩)(U:ev L x=some (.pointer (some ⟨bk,o+j,none⟩)))(V:ws[j]? =some v)
  (Y:JL J Q b n (Ax L d v) ds (.inRegion ops rest::k) cs (Am E H S)):
  JL J Q b n L ds (.inRegion ops (i::rest)::k) cs (Am E H S):=
 Av O (fun _ h=>Yl.load ht (h _ _ U) (At.Iu K V)) Y
theorem PW{bk off:Nat}{c:Aw}(j:Nat)(K:Ar E H S)(O:Br P t=some v.cells.size)(U:D1 b n L ops i=some ⟨d,.store t x y,ty,p,af,g⟩)
  (V:ev L x=some (.pointer (some ⟨bk,off,none⟩))) (Y:ev L y=some v) (Z:S[j]? =some [(bk,.cells c e (0,0))])
  (h:Ar E H (S.set j [(bk,.cells (AI c off v.cells.toList) e (0,0))])→JL J Q b n (Ax L d undef) ds (.inRegion ops rest::k) cs (Am E H (S.set j [(bk,.cells (AI c off v.cells.toList) e (0,0))])))
  (hle:off+v.cells.size≤c.size:=by exact Nat.le_of_ble_eq_true rfl) (aa:∀u∈v.cells.toList,AL u=true:=by simp [Value.cells,AL]):
  JL J Q b n L ds (.inRegion ops (i::rest)::k) cs (Am E H S):=by
 obtain⟨ab,ac,ae⟩:=HF U;exact JS.store j ab ac ae K V Y O aa Z hle h
theorem BZ{bk o:Nat}{ws:Lv_}(K:At E bk o ws)(ht:CM P t=some true)(O:Br P t=some ws.length)(U:D1 b n L ops i=some ⟨d,.load t x,ty,p,af,g⟩)(V:ev L x=some (.pointer (some ⟨bk,o,none⟩)))
  (Y:JL J Q b n (Ax L d (.agg ws.toArray)) ds (.inRegion ops rest::k) cs (Am E H S)):
  JL J Q b n L ds (.inRegion ops (i::rest)::k) cs (Am E H S):=
 Av U (fun _ h=>EZ ht O (h _ _ V) (At.Pb K)) Y
variable {m:Nat}{D:Nat→Bool}{fuel:Nat}{listed:Array Bool}
theorem BN{bk o O off:Nat}{U:Array Field}{V:Nat}(i:Nat)(Y:De ops m=true)(ht:P.underlying t=some (.struct U))(Z:Br P ft=some (O+1))(aa:s.q=false)(ab:Fh n L ops i=some ⟨d,.fieldAddr t x V,ty,p,af,g⟩)(ac:ev L x=some (.pointer (some ⟨bk,o,none⟩)))(K:Jj U V=some (off,ft))
  (ae:AQ J Q b n ds ops k cs m D fuel (A4 listed i) (Ax L d (.pointer (some ⟨bk,o+off,none⟩))) s) (ag:Et ops listed m i=true:=by decide+kernel):AQ J Q b n ds ops k cs m D (fuel+1) listed L s:=by
 unfold Jj at K;split at K
 ·rename_i f ah;cases K;refine Bd i Y aa ab (fun ρ h _ _=>Pj (a:=⟨bk,o,none⟩) O f.offset ht Z ah rfl rfl (h _ _ ac)) ?_ ag;rw [Dq rfl];exact ae
 ·cases K
theorem DV{bk o:Nat}{ws:Lv_}(i:Nat)(K:De ops m=true)(j:Nat)(O:At (Bu D s).E bk o ws)(ht:CM P t=some false)(U:s.q=false)(V:Fh n L ops i=some ⟨d,.load t x,ty,p,af,g⟩)(Y:ev L x=some (.pointer (some ⟨bk,o+j,none⟩)))(Z:ws[j]? =some v)
  (aa:AQ J Q b n ds ops k cs m D fuel (A4 listed i) (Ax L d v) s) (ab:Et ops listed m i=true:=by decide+kernel):AQ J Q b n ds ops k cs m D (fuel+1) listed L s:=
 Bd i K U V (fun _ h _ hs=>Yl.load ht (h _ _ Y) (At.MB O hs Z)) aa ab
theorem Jl{bk o:Nat}{ws:Lv_}(i:Nat)(K:De ops m=true)(O:At (Bu D s).E bk o ws)(ht:CM P t=some true)(U:Br P t=some ws.length)(V:s.q=false)(Y:Fh n L ops i=some ⟨d,.load t x,ty,p,af,g⟩)(Z:ev L x=some (.pointer (some ⟨bk,o,none⟩)))
  (aa:AQ J Q b n ds ops k cs m D fuel (A4 listed i) (Ax L d (.agg ws.toArray)) s) (ab:Et ops listed m i=true:=by decide+kernel):AQ J Q b n ds ops k cs m D (fuel+1) listed L s:=
 Bd i K V Y (fun _ h _ hs=>EZ ht U (h _ _ Z) (At.Mk O hs)) aa ab
end
end Pal
namespace Pal
open Go Go.Conc
abbrev Ca:=List (List Int)×List (List Int)
abbrev BG:=List (List Int)×List (List Int)×List Nat
abbrev BS:=Int×List Int×Nat
abbrev Bi:=Int×Int×List BS
abbrev AZ:=List (Int×Int)
abbrev Az:=Option Addr
abbrev CW:Rp BS:=rP rI (rP (rL rI) (rN .u16))
abbrev Ce:Rp Bi:=rP rI (rP rI (rL CW))
abbrev BE:Rp (Int×Int):=rP rI rI
theorem ip{α:Type}{p:Prop} [Decidable p] {A B:Option α}{r:α}(h:(if p then A else B)=some r)(c:p):A=some r:=by rwa [if_pos c] at h
theorem im{α:Type}{p:Prop} [Decidable p] {A B:Option α}{r:α}(h:(if p then A else B)=some r)(c:¬p):B=some r:=by rwa [if_neg c] at h
theorem ib{α:Type}{c:Bool}{A B:Option α}{r:α}(h:(if c=true then A else B)=some r)(K:c=false):B=some r:=by subst K;simpa using h
def MM(n:Nat)(ops:Ao_):List Nat→Nat→Env→Option (Nat×Env)
 | [],f,L=>some (f,L)
 | i::l,f+1,L=>match Lt n L ops i with
  | some L'=>MM n ops l f L'
  | none=>none
 | _::_,0,_=>none
def Mz(ops:Ao_)(m:Nat):Array Bool→List Nat→Bool
 | _,[]=>true
 | listed,i::l=>Et ops listed m i&&Mz ops m (A4 listed i) l
def PY:Array Bool→List Nat→Array Bool
 | listed,[]=>listed
 | listed,i::l=>PY (A4 listed i) l
theorem Bt{P:Program}{J:Judge P}{Q:Gs_}{b:Frame}{n:Nat}{ds:Ld_}{k:Li_}{cs:Lf_}{s:St}{ops:Ao_}{m:Nat}{D:Nat→Bool}{L':Env}{U:Nat}(V:De ops m=true)(Y:s.q=false):
  ∀(l:List Nat) {fuel:Nat} {listed:Array Bool} {L:Env},MM n ops l fuel L=some (U,L')→AQ J Q b n ds ops k cs m D U (PY listed l) L' s→(K:Mz ops m listed l=true:=by decide+kernel)→AQ J Q b n ds ops k cs m D fuel listed L s
 | [],fuel,listed,L,h,O,_=>by cases h;exact O
 | i::l,fuel,listed,L,h,O,K=>by
  cases fuel with
  | zero=>cases h
  | succ fuel=>
   unfold Mz at K;rw [Bool.and_eq_true] at K;unfold MM at h;split at h
   ·rename_i Z e;exact CG i V Y e (Bt V Y l h O K.2) K.1
   ·cases h
theorem zg{P:Program}{J:Judge P}{Q:Gs_}{b:Frame}{n:Nat}{L L':Env}{ds:Ld_}{k k':Li_}{cs:Lf_}{s:St}(m:Nat)(h:KH b n m k L=some (k',L'))(K:JL J Q b n L' ds k' cs s):JL J Q b n L ds k cs s:=JL.go m h K
abbrev bX(r:Nat)(c:Aw)(t:TypeId):Seg:= [(r,.cells c t (0,0))]
end Pal
namespace Pal
open Go Go.Conc
section
variable {P:Program}{J:Judge P}{Q:Gs_}{b:Frame}{n:Nat}{L L':Env}{ds:Ld_}{k:Li_}{cs:Lf_}{s:St}{ops:Ao_}{E H:LH}{S:List Seg}
variable {α:Type}{A B:Option α}{r:α}
theorem A7{c:Operand}{x y:Code}{p:Prop} [Decidable p] (K:(if p then A else B)=some r)(O:p→A=some r→JL J Q b n L ds (.code x::k) cs s)(U:¬p→B=some r→JL J Q b n L ds (.code y::k) cs s)
  (V:ev L c=some (.bool (decide p)):=by exact rfl):JL J Q b n L ds (.code (.cond c x y)::k) cs s:=Mp V (fun h=>O h (ip K h)) fun h=>U h (im K h)
theorem BO{c:Operand}{x y:Code}{t:Bool}(K:(if t=true then A else B)=some r)(O:t=true→A=some r→JL J Q b n L ds (.code x::k) cs s)(U:t=false→B=some r→JL J Q b n L ds (.code y::k) cs s)
  (V:ev L c=some (.bool t):=by exact rfl):JL J Q b n L ds (.code (.cond c x y)::k) cs s:=Ob V (fun h=>O h (ip K h)) fun h=>U h (ib K h)
theorem DU{q:Prop} [Decidable q] (i:Nat)(K:(if q then A else B)=some r)(O:q→A=some r→JL J Q b n (Ax L (some i) (.bool true)) ds k cs s)(U:¬q→B=some r→JL J Q b n (Ax L (some i) (.bool false)) ds k cs s)
  (V:look L i=some (.bool (decide q)):=by exact rfl):JL J Q b n L ds k cs s:=RP V (fun h=>O h (ip K h)) fun h=>U h (im K h)
theorem Bn{t:Bool}(i:Nat)(K:(if t=true then A else B)=some r)(O:t=true→A=some r→JL J Q b n (Ax L (some i) (.bool true)) ds k cs s)(U:t=false→B=some r→JL J Q b n (Ax L (some i) (.bool false)) ds k cs s)
  (V:look L i=some (.bool t):=by exact rfl):JL J Q b n L ds k cs s:=RR V (fun h=>O h (ip K h)) fun h=>U h (ib K h)
theorem DT{K O:Type}{c:Code}{body:K→Option (Bz K O)}{f:Nat}{U:K}{a:O}(Y:iter body f U=some a)(I:Env→St→K→Prop)(Z:I L' s U)
  (round:∀L s x,I L s x→(∀V,body x=some (.done V)→V=a)→(∃st,body x=some st)→(∀L' s' x',I L' s' x'→body x=some (.more x')→JL J Q b n L' ds (.inLoop c::k) cs s')→JL J Q b n L ds (.code c:: .inLoop c::k) cs s)
  (aa:F7 L L'=Gb L':=by exact rfl):JL J Q b n L ds (.code (.loop c)::k) cs s:=Hr L' aa (Oh Y I Z round)
variable {m:Nat}{D:Nat→Bool}{fuel:Nat}{listed:Array Bool}
def K1(ops:Ao_):Array Bool→List Nat→Bool
 | _,[]=>true
 | l,i::t=>Region.ready .any ops l== [i]&&K1 ops (A4 l i) t
theorem OK:∀{t:List Nat} {l:Array Bool},K1 ops l t=true→∀u,Region.linearise.go .any ops t.length u l []=t
 | [],_,_,_=>rfl
 | i::t,l,h,u=>by
  unfold K1 at h
  rw [Bool.and_eq_true,beq_iff_eq] at h
  exact TM h.1 (OK h.2) u
theorem CU(t:List Nat)(O:JL J Q b n L ds (.inRegion ops t::k) cs s)(K:(MA m listed&&K1 ops listed t&&(fuel+1==t.length))=true:=by decide+kernel):AQ J Q b n ds ops k cs m D (fuel+1) listed L s:=by
 rw [Bool.and_eq_true,Bool.and_eq_true,beq_iff_eq] at K;exact AQ.leaf K.1.1 (by rw [K.2];exact OK K.1.2) O
theorem Er(m:Nat){id:Nat}(h:De ops m=true→AQ J Q b n ds ops k cs m CQ ops.size (Array.replicate ops.size false) L (Am E H S))(hm:P.follows .mixedOrders=true:=by exact rfl)(K:(b.kind != .early)=true:=by exact rfl)(ht:De ops m=true:=by decide+kernel):
  JL J Q b n L ds (.code (.region id ops true)::k) cs (Am E H S):=R3 m hm K ht h
theorem Dr(m:Nat)(bks:List Nat){id:Nat}(K:Fw S bks)(O:Ar E H S)(h:De ops m=true→AQ J Q b n ds ops k cs m (AX bks) ops.size (Array.replicate ops.size false) L (Am E H S))(hm:P.follows .mixedOrders=true:=by exact rfl)(U:(b.kind != .early)=true:=by exact rfl)(ht:De ops m=true:=by decide+kernel):
  JL J Q b n L ds (.code (.region id ops true)::k) cs (Am E H S):=Ss m bks K O hm U ht h
theorem G0{α:Type}{pp:Rp α}{a:Option Addr}{c:Nat}{xs:List α}{xv:α}{K:Int}{d:Option Tmp}{x y:Operand}{t ty e:TypeId}{p:String}{af:Ae_}{g:On_}{kd:IntKind}(i:Nat)(O:Aq pp E a c xs)(U:ix xs K=some xv)(V:De ops m=true)(ht:P.underlying t=some (.slice e))(Y:Br P e=some pp.n)
  (h:∀bk o ws,pp.r E ws xv→At E bk o ws→AQ J Q b n ds ops k cs m D fuel (A4 listed i) (Ax L d (.pointer (some ⟨bk,o,none⟩))) s)
  (Z:ops[i]? =some ⟨d,.indexAddr t x y,ty,p,af,g⟩:=by exact rfl) (aa:Et ops listed m i=true:=by decide+kernel) (ab:s.q=false:=by exact rfl)
  (hw:A5 L ops ⟨d,.indexAddr t x y,ty,p,af,g⟩=some true:=by exact rfl) (ac:Bs n d=true:=by exact rfl)
  (ae:ev L x=some (.slice a xs.length c):=by exact rfl) (ag:ev L y=some (.int kd K):=by exact rfl):
  AQ J Q b n ds ops k cs m D (fuel+1) listed L s:=Ue i O U Z V aa ab hw ac ae ag ht Y h
end
end Pal
namespace Pal
open Go Go.Conc
section
variable {P:Program}{J:Judge P}{Q:Gs_}{b:Frame}{n:Nat}{ds:Ld_}{ops:Ao_}{k:Li_}{cs:Lf_}{fuel:Nat}{D:Nat→Bool}{listed:Array Bool}{L L':Env}{s:St}{xl:List Nat}
variable {d:Option Tmp}{op:Op}{ty:TypeId}{p:String}{af:Ae_}{g:On_}{v:Value}
theorem FR(i:Nat)(pure:Bool)(K:s.q=false)(O:Fh n L ops i=some ⟨d,op,ty,p,af,g⟩)
  (U:∀ρ,DJ L ρ→∀s':St,(pure=false→∀x o,(Bu D s).E x=some o→s'.E x=some o)→Yl P ⟨d,op,ty,p,af,g⟩ ρ s' v)
  (V:Ex J Q b n ds ops k cs (AX xl) D fuel (A4 listed i) (Ax L d v) s) (Y:ID ops listed xl pure i=true:=by decide+kernel):Ex J Q b n ds ops k cs (AX xl) D (fuel+1) listed L s:=by
 obtain⟨Z,aa,ab⟩:=LP O;exact Pn i pure Z Y K aa ab U V
def MS(n:Nat)(L:Env)(ops:Ao_)(i:Nat):Option Env:=
 match G2 ops.toList i with
 | some ⟨d,op,ty,p,af,g⟩=>match A5 L ops ⟨d,op,ty,p,af,g⟩ with
  | some true=>match Bs n d with
   | true=>match HT L op with
    | some v=>match d with
     | some d=>some ((d,v)::L)
     | none=>some L
    | none=>none
   | false=>none
  | _=>none
 | none=>none
theorem RY{i:Nat}(h:MS n L ops i=some L'):∃o v,ops[i]? =some o∧Bs n o.dst=true∧A5 L ops o=some true∧HT L o.op=some v∧L'=Ax L o.dst v:=by
 unfold MS at h;split at h
 ·rename_i d op ty p af g K;rw [Ik,Array.getElem?_toList] at K;split at h
  ·rename_i hw;split at h
   ·rename_i O;split at h
    ·rename_i v U;refine⟨_,v,K,O,hw,U,?_⟩;cases d with
     | none=>cases h;rfl
     | some d=>cases h;rfl
    ·cases h
   ·cases h
  ·cases h
 ·cases h
theorem Bh(i:Nat)(K:s.q=false)(h:MS n L ops i=some L')
  (O:Ex J Q b n ds ops k cs (AX xl) D fuel (A4 listed i) L' s) (U:ID ops listed xl true i=true:=by decide+kernel):Ex J Q b n ds ops k cs (AX xl) D (fuel+1) listed L s:=by
 obtain⟨o,v,V,Y,hw,Z,rfl⟩:=RY h;exact Pn i true V U K hw Y (fun ρ aa s' _=>Kx aa Z) O
end
end Pal
namespace Pal
open Go Go.Conc
section
variable {P:Program}{J:Judge P}{Q:Gs_}{b:Frame}{n:Nat}{L L':Env}{ds:Ld_}{k:Li_}{cs:Lf_}{s:St}{ops:Ao_}{E H:LH}{S:List Seg}{i i2:Nat}{rest:List Nat}
variable {d d2:Option Tmp}{x y x2:Operand}{t t2 ft u ty ty2 e:TypeId}{p p2:String}{af af2:Ae_}{g g2:On_}{v w:Value}
theorem CB(O:Ar E H S)(h:∀r E',Le E E'→At E' r 0 v.cells.toList→Ar E' H (S++ [[]])→JL J Q b n (Ax L d (.pointer (some ⟨r,0,none⟩))) ds (.inRegion ops rest::k) cs (Am E' H (S++ [[]])))
  (U:D1 b n L ops i=some ⟨d,.box e x,ty,p,af,g⟩:=by exact rfl) (V:ev L x=some v:=by exact rfl):JL J Q b n L ds (.inRegion ops (i::rest)::k) cs (Am E H S):=by
 obtain⟨Y,Z,aa⟩:=HF U;refine JS.box Y Z aa O V fun r ab=>Cn (bk:=r) (c:=v.cells) (e:=e) (f:=(0,0)) S.length ab (by simp) fun E' hle ac K=>?_;have ae:(S++ [[(r,Obj.cells v.cells e (0,0))]]).set S.length []=S++ [[]]:=by simp
 rw [ae] at K ⊢;exact h r E' hle ac K
theorem Ci{z:Value}(K:Ar E H S)(O:zeroOf P e=some z)(h:∀r,Ar E H (S++ [[(r,.cells z.cells e (0,0))]])→JL J Q b n (Ax L d (.pointer (some ⟨r,0,none⟩))) ds (.inRegion ops rest::k) cs (Am E H (S++ [[(r,.cells z.cells e (0,0))]])))
  (U:D1 b n L ops i=some ⟨d,.alloc e,ty,p,af,g⟩:=by exact rfl):JL J Q b n L ds (.inRegion ops (i::rest)::k) cs (Am E H S):=by
 obtain⟨V,Y,Z⟩:=HF U;exact JS.alloc V Y Z K O h
theorem BI{bk off K:Nat}{c:Aw}(j:Nat)(O:Ar E H S)(U:Br P t=some K)
  (h:Ar E H (S.set j [(bk,.cells (AI c off v.cells.toList) e (0,0))])→JL J Q b n (Ax L d undef) ds (.inRegion ops rest::k) cs (Am E H (S.set j [(bk,.cells (AI c off v.cells.toList) e (0,0))])))
  (V:D1 b n L ops i=some ⟨d,.store t x y,ty,p,af,g⟩:=by exact rfl) (Y:ev L x=some (.pointer (some ⟨bk,off,none⟩)):=by exact rfl) (Z:ev L y=some v:=by exact rfl) (aa:S[j]? =some [(bk,.cells c e (0,0))]:=by exact rfl)
  (ab:K=v.cells.size:=by exact rfl) (hle:off+v.cells.size≤c.size:=by exact Nat.le_of_ble_eq_true rfl) (ac:v.cells.toList.all AL=true:=by first | exact rfl | simp [Value.cells,AL]):
  JL J Q b n L ds (.inRegion ops (i::rest)::k) cs (Am E H S):=PW j O (by rw [← ab];exact U) V Y Z aa h hle (List.all_eq_true.1 ac)
theorem Cd{bk o o1 U off:Nat}{K:Array Field}{O:Nat}{ws:Lv_}(j:Nat)(V:At E bk o ws)(ht:P.underlying t=some (.struct K))(Y:Br P ft=some (U+1))(Z:CM P t2=some false)
  (aa:JL J Q b n (Ax (Ax L d (.pointer (some ⟨bk,o1+off,none⟩))) d2 v) ds (.inRegion ops rest::k) cs (Am E H S))
  (ab:D1 b n L ops i=some ⟨d,.fieldAddr t x O,ty,p,af,g⟩:=by exact rfl) (ac:ev L x=some (.pointer (some ⟨bk,o1,none⟩)):=by exact rfl) (ae:Jj K O=some (off,ft):=by exact rfl)
  (ag:D1 b n (Ax L d (.pointer (some ⟨bk,o1+off,none⟩))) ops i2=some ⟨d2,.load t2 x2,ty2,p2,af2,g2⟩:=by exact rfl) (ah:ev (Ax L d (.pointer (some ⟨bk,o1+off,none⟩))) x2=some (.pointer (some ⟨bk,o+j,none⟩)):=by exact rfl) (ai:ws[j]? =some v:=by exact rfl):
  JL J Q b n L ds (.inRegion ops (i::i2::rest)::k) cs (Am E H S):=BJ ht Y ab ac ae (Cv j V Z ag ah ai aa)
theorem C3{α:Type}{pp:Rp α}{a:Option Addr}{c:Nat}{xs:List α}{xv:α}{m:Int}{kd:IntKind}(K:Aq pp E a c xs)(hm:ix xs m=some xv)(ht:P.underlying t=some (.slice e))(O:Br P e=some pp.n)
  (h:∀bk o ws,pp.r E ws xv→At E bk o ws→JL J Q b n (Ax L d (.pointer (some ⟨bk,o,none⟩))) ds (.inRegion ops rest::k) cs (Am E H S))
  (U:D1 b n L ops i=some ⟨d,.indexAddr t x y,ty,p,af,g⟩:=by exact rfl) (V:ev L x=some (.slice a xs.length c):=by exact rfl) (Y:ev L y=some (.int kd m):=by exact rfl):
  JL J Q b n L ds (.inRegion ops (i::rest)::k) cs (Am E H S):=by
 obtain⟨Z,aa,ab⟩:=HF U;exact To K hm Z aa ab V Y ht O h
theorem Cw(K:List Seg)(O:Env){todo:Li_}{c:Code}(U:∀E',Le E E'→Ar E' H K→JL J Q b n O ds todo cs (Am E' H K))
  (h:(∀{E':LH} {L:Env},Le E E'→Ar E' H K→F7 L O=Gb O→JL J Q b n L ds todo cs (Am E' H K))→JL J Q b n L ds (.code c::todo) cs (Am E H S)):JL J Q b n L ds (.code c::todo) cs (Am E H S):=
 h fun V Y Z=>AU (U _ V Y) Z
theorem Bj{U:List Nat}(V Y:Nat)(K:List Seg)(O:Env){todo:Li_}(Z:∀E',Le E E'→Ar E' H K→JL J Q b n O ds (.inRegion ops (List.range' V Y)::todo) cs (Am E' H K))
  (h:(∀{E':LH} {L:Env},Le E E'→Ar E' H K→F7 L O=Gb O→JL J Q b n L ds (.inRegion ops (List.range' V Y)::todo) cs (Am E' H K))→JL J Q b n L ds (.inRegion ops U::todo) cs (Am E H S)):JL J Q b n L ds (.inRegion ops U::todo) cs (Am E H S):=
 h fun aa ab ac=>AU (Z _ aa ab) ac
theorem CC{O aa:Type}{c:Code}{body:O→Option (Bz O aa)}{f:Nat}{V:O}{a:aa}{Y:LH}{k:Li_}(ac:iter body f V=some a)(K:O→List Seg)(U:O→Env)(hle:Le Y E)(ae:Ar E H (K V))
  (round:∀x E',Le Y E'→Ar E' H (K x)→(∀ab,body x=some (.done ab)→ab=a)→(∃st,body x=some st)→(∀{L':Env} {Z:LH} (x':O),Le Y Z→Ar Z H (K x')→F7 L' (U x')=Gb (U x')→body x=some (.more x')→JL J Q b n L' ds (.inLoop c::k) cs (Am Z H (K x')))→JL J Q b n (U x) ds (.code c:: .inLoop c::k) cs (Am E' H (K x)))
  (ag:F7 L (U V)=Gb (U V):=by exact rfl) (ah:Am E H S=Am E H (K V):=by exact rfl):JL J Q b n L ds (.code (.loop c)::k) cs (Am E H S):=by
 rw [ah];refine Hr _ ag (Oh ac (fun L s x=>∃E',Jm Y H E' (K x) (U x) L s) ⟨E,rfl,rfl,hle,ae⟩ ?_);rintro _ _ x ⟨E',rfl,rfl,ai,aj⟩ ak hb al;exact round x E' ai aj ak hb fun x' am g2 an ao=>AU (al _ _ x' ⟨_,rfl,rfl,am,g2⟩ ao) an
theorem Bm{f:FuncId}{fn:Func}{c:Code}{E:LH}{vs:Lv_}{B:Seg}{R:Value→LH→Seg→Prop}(O:P.funcs[f]? =some fn)
  (h:∀(Q:Gs_) (K:Frame) (cs:Lf_) (H:LH),Ar E H [B]→(∀{v:Value} {E':LH} {S':List Seg} {B':Seg},Le E E'→S'.flatten=B'→R v E' B'→Ar E' H S'→J.ok Q (G (K.finish v) cs) (Am E' H S'))→JL J Q (base f) fn.ntmps (EO 0 vs) [] [.code c] (K::cs) (Am E H [B]))
  (hb:fn.body=some c:=by exact rfl) (U:Nat.ble vs.length fn.ntmps=true:=by exact rfl):AT J f vs E B R:=
 Im O hb U fun Q K cs H V Y=>h Q K cs H V fun Z aa ab ac=>Y _ _ _ _ Z aa ab ac
variable {m:Nat}{fuel:Nat}{listed:Array Bool}{bks xl:List Nat}
theorem G1{bk:Nat}{c:Aw}{f:Nat×Nat}(i:Nat)(K:De ops m=true)(o:Nat)(j:Nat)(O:Ar E H S)(U:CM P t=some false)
  (V:AQ J Q b n ds ops k cs m (AX bks) fuel (A4 listed i) (Ax L d w) (Am E H S)) (Y:Fh n L ops i=some ⟨d,.load t x,ty,p,af,g⟩:=by exact rfl) (Z:ev L x=some (.pointer (some ⟨bk,o,none⟩)):=by exact rfl)
  (aa:S[j]? =some [(bk,.cells c e f)]:=by exact rfl) (hw:c[o]? =some w:=by exact rfl) (ab:AX bks bk=true:=by simp [AX]) (ac:Et ops listed m i=true:=by decide+kernel):AQ J Q b n ds ops k cs m (AX bks) (fuel+1) listed L (Am E H S):=
 Bd i K rfl Y (fun ρ h s' hs=>Yl.load U (h _ _ Z) (Jc (o:=o) j O aa ab hs hw)) V ac
theorem JG.lp{bk o:Nat}{ws:Lv_}(i:Nat)(K:De ops m=true)(j:Nat)(O:At E bk o ws)(U:Ar E H S)(V:Fw S bks)(Y:CM P t=some false)
  (Z:AQ J Q b n ds ops k cs m (AX bks) fuel (A4 listed i) (Ax L d w) (Am E H S)) (aa:Fh n L ops i=some ⟨d,.load t x,ty,p,af,g⟩:=by exact rfl) (ab:ev L x=some (.pointer (some ⟨bk,o+j,none⟩)):=by exact rfl)
  (hw:ws[j]? =some w:=by exact rfl) (ac:Et ops listed m i=true:=by decide+kernel):AQ J Q b n ds ops k cs m (AX bks) (fuel+1) listed L (Am E H S):=
 Bd i K rfl aa (fun ρ h s' hs=>Yl.load Y (h _ _ ab) (At.MB (j:=j) O (Mr U hs V) hw)) Z ac
theorem Dl{bk o K:Nat}{c:Aw}{f:Nat×Nat}(i:Nat)(O:De ops m=true)(vs:Lv_)(j:Nat)(U:Ar E H S)(hw:∀(q:Nat) w,vs[q]? =some w→c[o+q]? =some w)(V:CM P t=some true)(Y:Br P t=some K)
  (Z:AQ J Q b n ds ops k cs m (AX bks) fuel (A4 listed i) (Ax L d (.agg vs.toArray)) (Am E H S)) (aa:Fh n L ops i=some ⟨d,.load t x,ty,p,af,g⟩:=by exact rfl) (ab:ev L x=some (.pointer (some ⟨bk,o,none⟩)):=by exact rfl)
  (ac:S[j]? =some [(bk,.cells c e f)]:=by exact rfl) (ae:K=vs.length:=by exact rfl) (ag:AX bks bk=true:=by simp [AX]) (ah:Et ops listed m i=true:=by decide+kernel):AQ J Q b n ds ops k cs m (AX bks) (fuel+1) listed L (Am E H S):=
 Bd i O rfl aa (fun ρ h s' hs=>EZ (vs:=vs) V (by rw [← ae];exact Y) (h _ _ ab) (fun q w ai=>by rw [Dq rfl];exact Jc j U ac ag hs (hw q w ai))) Z ah
theorem Fe{D:Nat→Bool}{α:Type}{xs:List α}{xv:α}{K:Int}{bk c O U:Nat}{kd:IntKind}(i:Nat)(V:De ops m=true)(Y:xs.length=U)(hm:ix xs K=some xv)(ht:P.underlying t=some (.slice e))(Z:Br P e=some O)
  (aa:AQ J Q b n ds ops k cs m D fuel (A4 listed i) (Ax L d (.pointer (some ⟨bk,K.toNat*O,none⟩))) s) (ab:s.q=false:=by exact rfl) (ac:Fh n L ops i=some ⟨d,.indexAddr t x y,ty,p,af,g⟩:=by exact rfl)
  (ae:ev L x=some (.slice (some ⟨bk,0,none⟩) U c):=by exact rfl) (ag:ev L y=some (.int kd K):=by exact rfl) (ah:Et ops listed m i=true:=by decide+kernel):AQ J Q b n ds ops k cs m D (fuel+1) listed L s:=
 Bd i V ab ac (fun ρ h s' hs=>FM Y hm ht Z (h _ _ ae) (h _ _ ag)) aa ah
theorem Cg{D:Nat→Bool}{α:Type}{xs:List α}{xv:α}{K:Int}{bk c O U:Nat}{kd:IntKind}(i:Nat)(V:xs.length=U)(hm:ix xs K=some xv)(ht:P.underlying t=some (.slice e))(Y:Br P e=some O)
  (Z:Ex J Q b n ds ops k cs (AX xl) D fuel (A4 listed i) (Ax L d (.pointer (some ⟨bk,K.toNat*O,none⟩))) s) (aa:s.q=false:=by exact rfl) (ab:Fh n L ops i=some ⟨d,.indexAddr t x y,ty,p,af,g⟩:=by exact rfl)
  (ac:ev L x=some (.slice (some ⟨bk,0,none⟩) U c):=by exact rfl) (ae:ev L y=some (.int kd K):=by exact rfl) (ag:ID ops listed xl true i=true:=by decide+kernel):Ex J Q b n ds ops k cs (AX xl) D (fuel+1) listed L s:=
 FR i true aa ab (fun ρ h s' hs=>FM V hm ht Y (h _ _ ac) (h _ _ ae)) Z ag
theorem Dy{bk o K:Nat}{c:Aw}{f:Nat×Nat}(i:Nat)(vs:Lv_)(j:Nat)(O:Ar E H S)(hw:∀(q:Nat) w,vs[q]? =some w→c[o+q]? =some w)(U:CM P t=some true)(V:Br P t=some K)
  (Y:Ex J Q b n ds ops k cs (AX xl) (AX bks) fuel (A4 listed i) (Ax L d (.agg vs.toArray)) (Am E H S)) (Z:Fh n L ops i=some ⟨d,.load t x,ty,p,af,g⟩:=by exact rfl) (aa:ev L x=some (.pointer (some ⟨bk,o,none⟩)):=by exact rfl)
  (ab:S[j]? =some [(bk,.cells c e f)]:=by exact rfl) (ac:K=vs.length:=by exact rfl) (ae:AX bks bk=true:=by simp [AX]) (ag:ID ops listed xl false i=true:=by decide+kernel):Ex J Q b n ds ops k cs (AX xl) (AX bks) (fuel+1) listed L (Am E H S):=
 FR i false rfl Z (fun ρ h s' hs=>EZ (vs:=vs) U (by rw [← ac];exact V) (h _ _ aa) (fun q w ah=>by rw [Dq rfl];exact Jc j O ab ae (hs rfl) (hw q w ah))) Y ag
theorem Dz{bk off K:Nat}{c:Aw}{D:Nat→Bool}(i j:Nat)(O:Ar E H S)(U:Br P t=some K)(hle:off+K≤c.size)
  (h:Ar E H (S.set j [(bk,.cells (AI c off v.cells.toList) e (0,0))])→Ex J Q b n ds ops k cs (AX xl) D fuel (A4 listed i) (Ax L d undef) (Am E H (S.set j [(bk,.cells (AI c off v.cells.toList) e (0,0))])))
  (V:Fh n L ops i=some ⟨d,.store t x y,ty,p,af,g⟩:=by exact rfl) (Y:ev L x=some (.pointer (some ⟨bk,off,none⟩)):=by exact rfl) (Z:ev L y=some v:=by exact rfl) (aa:S[j]? =some [(bk,.cells c e (0,0))]:=by exact rfl)
  (ab:K=v.cells.size:=by exact rfl) (ac:v.cells.toList.all AL=true:=by first | exact rfl | simp [Value.cells,AL]) (ae:Region.ready .any ops listed= [i]:=by decide+kernel) (ag:AX xl i=true:=by decide+kernel):
  Ex J Q b n ds ops k cs (AX xl) D (fuel+1) listed L (Am E H S):=by
 obtain⟨ah,ai,aj⟩:=LP V;subst ab;exact JB.store i j ae ag ah ai aj O Y Z U (List.all_eq_true.1 ac) aa hle h
end
end Pal
namespace Pal
open Go Go.Conc Go.Proofs
end Pal
namespace Pal
open Go Go.Conc Go.Proofs
end Pal
namespace Pal
open Go Go.Conc Go.Proofs
open Go.Proofs.Tryz
variable {J:Judge Tryz.prog}{E:LH}
def AD:=A3 Tryz.type3
def BV:=Dc Tryz.underlying3
def Hf:=Dw Tryz.type24
def A1:=Dw Tryz.type3
def AN:=A3 Tryz.type28
def J7:=Dw Tryz.type28
def Ch:=A3 Tryz.type24
def CE:=Dc Tryz.underlying24
def Du:=Dw Tryz.type27
def CJ:=A3 Tryz.type27
def JU:=Bc Tryz.func103 rfl
def J6:=Bc Tryz.func90 rfl
def Be:=A3 Tryz.type22
def CI:=Dc Tryz.underlying22
def Hb:=Bc Tryz.func101 rfl
def EG:=Dw Tryz.type183
def EF:=Dc Tryz.underlying28
def HW:=Dc Tryz.underlying27
def JM:=Dc Tryz.underlying210
def IX:=A3 Tryz.type210
def Hd:=Bc Tryz.func89 rfl
def HX:=Bc Tryz.func120 rfl
def Dv:=A3 Tryz.type102
def FE:=Dc Tryz.underlying102
def Cb:=A3 Tryz.type104
def EV:=Dc Tryz.underlying104
def F1:=Dw Tryz.type104
def EI:=A3 Tryz.type139
def Gm:=A3 Tryz.type138
def IT:=Dc Tryz.underlying139
def Lx:=Bc Tryz.func112 rfl
def HY:=Bc Tryz.func67 rfl
def J5:=Bc Tryz.func92 rfl
def JR:=Bc Tryz.func106 rfl
def J9:=A3 Tryz.type25
def IU:=Dc Tryz.underlying25
def LD:=A3 Tryz.type94
def JP:=Dc Tryz.underlying94
def CX:=A3 Tryz.type95
def DN:=Dc Tryz.underlying95
def EE:=Dc Tryz.underlying173
def CN:=A3 Tryz.type97
def He:=Dw Tryz.type133
def AK:=A3 Tryz.type133
def JN:=Dc Tryz.underlying162
def B8:=Dc Tryz.underlying133
def F0:=Bc Tryz.func134 rfl
def Lw:=Bc Tryz.func200 rfl
def Ly:=Bc Tryz.func178 rfl
def JV:=Bc Tryz.func162 rfl
def EH:=Dw Tryz.type97
def Ha:=Dc Tryz.underlying97
def GH:=Bc Tryz.func69 rfl
def J0:=Bc Tryz.func93 rfl
def HZ:=Bc Tryz.func78 rfl
def Gl:=Dw Tryz.type81
def FF:=A3 Tryz.type81
def HV:=Dc Tryz.underlying81
def JW:=Bc Tryz.func168 rfl
def BM:=Bc Tryz.func71 rfl
def IV:=Bc Tryz.func51 rfl
def LB:=Bc Tryz.func57 rfl
def EW:=Bc Tryz.func72 rfl
def J1:=Bc Tryz.func43 rfl
def JZ:=Bc Tryz.func28 rfl
def Hc:=Bc Tryz.func73 rfl
def J3:=Bc Tryz.func49 rfl
def Lz:=Bc Tryz.func35 rfl
def J4:=Bc Tryz.func37 rfl
def LC:=Bc Tryz.func30 rfl
def Fo:=Bc Tryz.func32 rfl
def JY:=Bc Tryz.func65 rfl
def LA:=Bc Tryz.func59 rfl
def J2:=Bc Tryz.func47 rfl
def JX:=Bc Tryz.func61 rfl
def IW:=Bc Tryz.func75 rfl
theorem mixed:Tryz.prog.follows .mixedOrders=true:=rfl
def f101(fuel:Nat)(p0:Int)(p1:Int)(p2:Int):Option Bool:= Option.bind (if p0<p1 then(some true) else(some (decide (p2<p0)))) fun K=> some K
theorem Ho{p0:Int}{p1:Int}{p2:Int}{fuel:Nat}{r:Bool}(K:f101 fuel p0 p1 p2=some r):AT J 101 [iV p0,iV p1,iV p2] E [] (fun w E' B'=>w= .bool r∧B'= []):=by
 refine Bm func101 fun Q ai cs H O V=>?_;unfold f101 at K;obtain⟨Y,Z,aa⟩:=bs K;refine zg 10 rfl (Bj 8 1 [] [(14,.bool Y)] (fun aj ab ac=>?_) (fun U=>?_))
 ·refine zg 2 rfl ?_;obtain rfl:=oi aa;exact AS func101 rfl rfl (V ab rfl ⟨rfl,rfl⟩ ac)
 ·refine DU 10 Z (fun ae ag=>?_) (fun ae ah=>?_)
  ·refine zg 4 rfl ?_;obtain rfl:=oi ag;exact U Ak O rfl
  ·refine zg 4 rfl ?_;obtain rfl:=oi ah;exact U Ak O rfl
def PD(fuel:Nat)(p0:List Int)(p1:List Int)(K:Int):Option (Bz Int ((Bool)⊕(Unit))):= Option.bind (if K<(p0.length:Int) then(some (decide (K<(p1.length:Int)))) else(some false)) fun O=> if O=true then((ix p0 K).bind fun U=> (ix p1 K).bind fun V=> if U≠V then(some (.done (Sum.inl false))) else((AA (K+1)).bind fun Y=> some (.more Y))) else(some (.done (Sum.inr ())))
def f32(fuel:Nat)(p0:List Int)(p1:List Int):Option Bool:= Option.bind (iter (PD fuel p0 p1) fuel 0) fun K=> Sum.elim (fun r=>some r) (fun O=> some (decide ((p0.length:Int)=(p1.length:Int)))) K
theorem Fy{K:Az}{c2:Nat}{O:Az}{U:Nat}{p0:List Int}{p1:List Int}(aq:Aq rI E K c2 p0)(ar:Aq rI E O U p1){fuel:Nat}{r:Bool}(ag:f32 fuel p0 p1=some r):AT J 32 [sV K p0 c2,sV O p1 U] E [] (fun w E' B'=>w= .bool r∧B'= []):=by
 refine Bm func32 fun Q aZ cs H au ah=>?_;unfold f32 at ag;obtain⟨ai,av,aj⟩:=bs ag;refine zg 9 rfl (Cc (fun L s=>∃(ak:Unit) (al:LH),ai=Sum.inr ak∧Jm E H al [] [(0,sV K p0 c2),(1,sV O p1 U)] L s) ?_ ?_)
 ·rintro _ _ ⟨ak,al,rfl,rfl,rfl,aw,ay⟩;have az:=elim_inr aj;refine zg 3 rfl (BR underlying28 rfl rfl rfl ?_);refine zg 1 rfl (BR underlying28 rfl rfl rfl ?_);refine zg 3 rfl ?_;obtain rfl:=oi az;exact AS func32 rfl rfl (ah aw rfl ⟨rfl,rfl⟩ ay)
 ·intro aA;refine JL.block (CC av (fun Z=> []) (fun Z=> [(0,sV K p0 c2),(1,sV O p1 U),(5,iV Z)]) Ak au ?_);rintro Z ab V am an ⟨a0,aa⟩ aB;have ao:=aa;unfold PD at ao;refine zg 5 rfl (BR underlying28 rfl rfl rfl ?_);obtain⟨aC,aD,aE⟩:=bs ao;refine zg 2 rfl (EK [] (fun L s=>∃(ac:LH),Jm ab H ac [] [(0,sV K p0 c2),(1,sV O p1 U),(5,iV Z),(15,.bool aC)] L s) ?_ ?_)
  ·rintro _ _ ⟨ac,rfl,rfl,Y,ae⟩;refine JL.done (BO aE (fun aF aG=>?_) (fun aF aH=>?_))
   ·refine zg 4 rfl (Er 8 fun ht=>?_);refine Bt ht rfl [0,1] rfl ?_;obtain⟨a1,aI,aJ⟩:=bs aG;refine G0 2 (aq.Ad (V.Aa Y)) aI ht underlying28 AD ?_;rintro a2 a3 _ rfl aK;refine DV 3 ht 0 aK BV rfl rfl rfl rfl (Bt ht rfl [4,5] rfl ?_);obtain⟨a4,aL,aM⟩:=bs aJ;refine G0 6 (ar.Ad (V.Aa Y)) aL ht underlying28 AD ?_;rintro a5 a6 _ rfl aN;refine DV 7 ht 0 aN BV rfl rfl rfl rfl (CU [8] ?_);refine zg 2 rfl (A7 aM (fun aO aP=>?_) (fun aO aQ=>?_))
    ·refine zg 4 rfl ?_;obtain rfl:=oi aP;obtain rfl:=an _ aa;have aR:=elim_inl aj;obtain rfl:=oi aR;exact AS func32 rfl rfl (ah (V.Aa Y) rfl ⟨rfl,rfl⟩ ae)
    ·obtain⟨aS,aT,aU⟩:=bs aQ;refine zg 4 rfl (Bv aT rfl rfl rfl ?_);refine zg 2 rfl ?_;obtain rfl:=oi aU;exact aB aS (V.Aa Y) ae rfl aa
   ·refine JL.exit rfl ?_;obtain rfl:=oi aH;have aV:ai=(Sum.inr ()):=(an _ aa).symm;exact AU (aA _ _ ⟨(),ac,aV,rfl,rfl,(V.Aa Y),ae⟩) rfl
  ·intro ap;refine DU 10 aD (fun aW aX=>?_) (fun aW aY=>?_)
   ·refine zg 2 rfl (BR underlying28 rfl rfl rfl ?_);refine zg 2 rfl ?_;obtain rfl:=oi aX;exact AU (ap _ _ ⟨ab,rfl,rfl,Ak,am⟩) rfl
   ·refine zg 5 rfl ?_;obtain rfl:=oi aY;exact AU (ap _ _ ⟨ab,rfl,rfl,Ak,am⟩) rfl
def f71(fuel:Nat):Option ((Ca)):= some (([([1]:List Int),([2]:List Int),([3,4]:List Int),([4]:List Int),([5]:List Int),([5]:List Int)]:List (List Int)),([[],[],[],([2]:List Int),([2,3]:List Int),([3,4]:List Int)]:List (List Int)))
theorem BW{fuel:Nat}{r:(Ca)}(aj:f71 fuel=some r):AT J 71 [] E [] (fun w E' B'=>∃(ak:Az) (al:Nat) (am:Az) (an:Nat),w= .agg #[sV ak r.1 al,sV am r.2 an]∧B'= []∧Aq (rL rI) E' ak al r.1∧Aq (rL rI) E' am an r.2):=by
 refine Bm func71 fun Q bL cs H aA aB=>?_;unfold f71 at aj;refine zg 2 rfl (Ci aA Hf fun K aC=>?_);refine zg 3 rfl (B9 (pp:=rI) [iV 1] [1] rfl rfl rfl underlying28 AD A1 (by decide) rfl rfl rfl ⟨rfl,trivial⟩ aC fun aD ao aE aF=>?_);refine B9 (pp:=rI) [iV 2] [2] rfl rfl rfl underlying28 AD A1 (by decide) rfl rfl rfl ⟨rfl,trivial⟩ aF fun aG ap aH aI=>Bl (S':= [[],[(K,.cells #[nS,nS] 24 (0,0))],ao,ap]) rfl aI fun aJ=>B9 (pp:=rI) [iV 3,iV 4] [3,4] rfl rfl rfl underlying28 AD A1 (by decide) rfl rfl rfl ⟨rfl,rfl,trivial⟩ aJ fun aK aq aL aM=>B9 (pp:=rI) [iV 4] [4] rfl rfl rfl underlying28 AD A1 (by decide) rfl rfl rfl ⟨rfl,trivial⟩ aM fun aN ar aO aP=>B9 (pp:=rI) [iV 5] [5] rfl rfl rfl underlying28 AD A1 (by decide) rfl rfl rfl ⟨rfl,trivial⟩ aP fun aQ au aR aS=>Bl (S':= [[],[(K,.cells #[nS,nS] 24 (0,0))],ao,ap,aq,ar,au]) rfl aS fun aT=>B9 (pp:=rI) [iV 5] [5] rfl rfl rfl underlying28 AD A1 (by decide) rfl rfl rfl ⟨rfl,trivial⟩ aT fun aU av aV aW=>BA 2 aE aW rfl fun bM O aX aY=>BA 3 (aH.Ad O) aY rfl fun bN U aZ a0=>Bl (S':= [[],[(K,.cells #[nS,nS] 24 (0,0))],[],[],aq,ar,au,av]) rfl a0 fun a1=>BA 4 (aL.Ad (O.Aa U)) a1 rfl fun bO V a2 a3=>BA 5 (aO.Ad ((O.Aa U).Aa V)) a3 rfl fun bP Y a4 a5=>BA 6 (aR.Ad (((O.Aa U).Aa V).Aa Y)) a5 rfl fun bQ Z a6 a7=>Bl (S':= [[],[(K,.cells #[nS,nS] 24 (0,0))],[],[],[],[],[],av]) rfl a7 fun a8=>BA 7 (aV.Ad ((((O.Aa U).Aa V).Aa Y).Aa Z)) a8 rfl fun bR aa a9 ba=>B9 (pp:=(rL rI)) [.slice (Aj aD) (([1]:List Int)).length 1,.slice (Aj aG) (([2]:List Int)).length 1,.slice (Aj aK) (([3,4]:List Int)).length 2,.slice (Aj aN) (([4]:List Int)).length 1,.slice (Aj aQ) (([5]:List Int)).length 1,.slice (Aj aU) (([5]:List Int)).length 1] [([1]:List Int),([2]:List Int),([3,4]:List Int),([4]:List Int),([5]:List Int),([5]:List Int)] rfl rfl rfl underlying22 AN J7 (by decide) rfl rfl rfl ⟨⟨_,_,rfl,(aX.Ad ((((U.Aa V).Aa Y).Aa Z).Aa aa))⟩,⟨_,_,rfl,(aZ.Ad (((V.Aa Y).Aa Z).Aa aa))⟩,⟨_,_,rfl,(a2.Ad ((Y.Aa Z).Aa aa))⟩,⟨_,_,rfl,(a4.Ad (Z.Aa aa))⟩,⟨_,_,rfl,(a6.Ad aa)⟩,⟨_,_,rfl,a9⟩,trivial⟩ ba fun ab ai bb bc=>B9 (pp:=rI) [iV 2] [2] rfl rfl rfl underlying28 AD A1 (by decide) rfl rfl rfl ⟨rfl,trivial⟩ bc fun bd be bf bg=>Bl (S':= [[],[(K,.cells #[nS,nS] 24 (0,0))],[],[],[],[],[],[],ai,be]) rfl bg fun bh=>B9 (pp:=rI) [iV 2,iV 3] [2,3] rfl rfl rfl underlying28 AD A1 (by decide) rfl rfl rfl ⟨rfl,rfl,trivial⟩ bh fun bi bj bl bm=>B9 (pp:=rI) [iV 3,iV 4] [3,4] rfl rfl rfl underlying28 AD A1 (by decide) rfl rfl rfl ⟨rfl,rfl,trivial⟩ bm fun bn bo bp bq=>BA 9 bf bq rfl fun bS ae br bu=>?_;refine Bl (S':= [[],[(K,.cells #[nS,nS] 24 (0,0))],[],[],[],[],[],[],ai,[],bj,bo]) rfl bu fun bv=>BA 10 (bl.Ad ae) bv rfl fun bT ag bw bx=>BA 11 (bp.Ad (ae.Aa ag)) bx rfl fun bU ah bz bA=>B9 (pp:=(rL rI)) [nS,nS,nS,.slice (Aj bd) (([2]:List Int)).length 1,.slice (Aj bi) (([2,3]:List Int)).length 2,.slice (Aj bn) (([3,4]:List Int)).length 2] [[],[],[],([2]:List Int),([2,3]:List Int),([3,4]:List Int)] rfl rfl rfl underlying22 AN J7 (by decide) rfl rfl rfl ⟨⟨_,_,rfl,Aq.nil⟩,⟨_,_,rfl,Aq.nil⟩,⟨_,_,rfl,Aq.nil⟩,⟨_,_,rfl,(br.Ad (ag.Aa ah))⟩,⟨_,_,rfl,(bw.Ad ah)⟩,⟨_,_,rfl,bz⟩,trivial⟩ bA fun ac bB bC bD=>Bl (S':= [[],[(K,.cells #[nS,nS] 24 (0,0))],[],[],[],[],[],[],ai,[],[],[],bB]) rfl bD fun bE=>Av (v:= .agg #[.slice (Aj ab) (([([1]:List Int),([2]:List Int),([3,4]:List Int),([4]:List Int),([5]:List Int),([5]:List Int)]:List (List Int))).length 6,.slice (Aj ac) (([[],[],[],([2]:List Int),([2,3]:List Int),([3,4]:List Int)]:List (List Int))).length 6]) rfl (fun ρ h=>Cl [(0,1),(1,1)] h Hf underlying24 ⟨rfl,A3 type22,rfl,A3 type22,trivial⟩ rfl rfl) (BI 1 bE Ch fun bF=>?_);refine JL.done (BA 8 (bb.Ad ((ae.Aa ag).Aa ah)) bF rfl fun bV aw bG bH=>?_);refine BA 12 (bC.Ad aw) bH rfl fun bW ay bI bJ=>Bl (S':= [[],[(K,.cells #[.slice (Aj ab) (([([1]:List Int),([2]:List Int),([3,4]:List Int),([4]:List Int),([5]:List Int),([5]:List Int)]:List (List Int))).length 6,.slice (Aj ac) (([[],[],[],([2]:List Int),([2,3]:List Int),([3,4]:List Int)]:List (List Int))).length 6] 24 (0,0))],[],[],[],[],[],[],[],[],[],[],[]]) rfl bJ fun az=>?_;obtain rfl:=oi aj;refine JL.ret (v:= .agg #[.slice (Aj ab) (([([1]:List Int),([2]:List Int),([3,4]:List Int),([4]:List Int),([5]:List Int),([5]:List Int)]:List (List Int))).length 6,.slice (Aj ac) (([[],[],[],([2]:List Int),([2,3]:List Int),([3,4]:List Int)]:List (List Int))).length 6]) rfl rfl (BP.list func71 rfl (vs:= [.agg #[.slice (Aj ab) (([([1]:List Int),([2]:List Int),([3,4]:List Int),([4]:List Int),([5]:List Int),([5]:List Int)]:List (List Int))).length 6,.slice (Aj ac) (([[],[],[],([2]:List Int),([2,3]:List Int),([3,4]:List Int)]:List (List Int))).length 6]]) ⟨⟨_,rfl,Ld.many (vs:= [.slice (Aj ab) (([([1]:List Int),([2]:List Int),([3,4]:List Int),([4]:List Int),([5]:List Int),([5]:List Int)]:List (List Int))).length 6,.slice (Aj ac) (([[],[],[],([2]:List Int),([2,3]:List Int),([3,4]:List Int)]:List (List Int))).length 6]) CE Ch (EJ (off:=0) 1 az rfl rfl)⟩,trivial⟩) (GQ 1 az rfl fun bK=>?_);exact aB ((((((((((O.Aa U).Aa V).Aa Y).Aa Z).Aa aa).Aa ae).Aa ag).Aa ah).Aa aw).Aa ay) rfl ⟨(Aj ab),6,(Aj ac),6,rfl,rfl,(bG.Ad ay),bI⟩ bK
def f72(fuel:Nat):Option ((AZ)):= some ([(0,2),(1,4)]:AZ)
theorem Fc{fuel:Nat}{r:(AZ)}(K:f72 fuel=some r):AT J 72 [] E [] (fun w E' B'=>∃(O:Az) (U:Nat),w= sV O r U∧B'= []∧Aq BE E' O U r):=by
 refine Bm func72 fun Q ah cs H V Y=>?_;unfold f72 at K;refine zg 6 rfl (Av (v:= .agg #[iV 0,iV 2]) rfl (fun ρ h=>Cl [(0,1),(1,1)] h Du underlying27 ⟨rfl,A3 type3,rfl,A3 type3,trivial⟩ rfl rfl) ?_);refine Av (v:= .agg #[iV 1,iV 4]) rfl (fun ρ h=>Cl [(0,1),(1,1)] h Du underlying27 ⟨rfl,A3 type3,rfl,A3 type3,trivial⟩ rfl rfl) (B9 (pp:=BE) [.agg #[iV 0,iV 2],.agg #[iV 1,iV 4]] [(0,2),(1,4)] rfl rfl rfl underlying25 CJ Du (by decide) rfl rfl rfl ⟨⟨_,_,rfl,rfl,rfl⟩,⟨_,_,rfl,rfl,rfl⟩,trivial⟩ V fun Z g2 aa ab=>?_);refine zg 2 rfl (BA 1 aa ab rfl fun ai ac ae ag=>?_);obtain rfl:=oi K;exact AS func72 rfl rfl (Y ac rfl ⟨(Aj Z),2,rfl,rfl,ae⟩ ag)
def f73(fuel:Nat):Option ((AZ)):= some ([(0,3),(1,3)]:AZ)
theorem Hp{fuel:Nat}{r:(AZ)}(K:f73 fuel=some r):AT J 73 [] E [] (fun w E' B'=>∃(O:Az) (U:Nat),w= sV O r U∧B'= []∧Aq BE E' O U r):=by
 refine Bm func73 fun Q ah cs H V Y=>?_;unfold f73 at K;refine zg 6 rfl (Av (v:= .agg #[iV 0,iV 3]) rfl (fun ρ h=>Cl [(0,1),(1,1)] h Du underlying27 ⟨rfl,A3 type3,rfl,A3 type3,trivial⟩ rfl rfl) ?_);refine Av (v:= .agg #[iV 1,iV 3]) rfl (fun ρ h=>Cl [(0,1),(1,1)] h Du underlying27 ⟨rfl,A3 type3,rfl,A3 type3,trivial⟩ rfl rfl) (B9 (pp:=BE) [.agg #[iV 0,iV 3],.agg #[iV 1,iV 3]] [(0,3),(1,3)] rfl rfl rfl underlying25 CJ Du (by decide) rfl rfl rfl ⟨⟨_,_,rfl,rfl,rfl⟩,⟨_,_,rfl,rfl,rfl⟩,trivial⟩ V fun Z g2 aa ab=>?_);refine zg 2 rfl (BA 1 aa ab rfl fun ai ac ae ag=>?_);obtain rfl:=oi K;exact AS func73 rfl rfl (Y ac rfl ⟨(Aj Z),2,rfl,rfl,ae⟩ ag)
def f74(fuel:Nat):Option ((AZ)):= some ([(0,1),(1,5)]:AZ)
theorem PZ{fuel:Nat}{r:(AZ)}(K:f74 fuel=some r):AT J 74 [] E [] (fun w E' B'=>∃(O:Az) (U:Nat),w= sV O r U∧B'= []∧Aq BE E' O U r):=by
 refine Bm func74 fun Q ah cs H V Y=>?_;unfold f74 at K;refine zg 6 rfl (Av (v:= .agg #[iV 0,iV 1]) rfl (fun ρ h=>Cl [(0,1),(1,1)] h Du underlying27 ⟨rfl,A3 type3,rfl,A3 type3,trivial⟩ rfl rfl) ?_);refine Av (v:= .agg #[iV 1,iV 5]) rfl (fun ρ h=>Cl [(0,1),(1,1)] h Du underlying27 ⟨rfl,A3 type3,rfl,A3 type3,trivial⟩ rfl rfl) (B9 (pp:=BE) [.agg #[iV 0,iV 1],.agg #[iV 1,iV 5]] [(0,1),(1,5)] rfl rfl rfl underlying25 CJ Du (by decide) rfl rfl rfl ⟨⟨_,_,rfl,rfl,rfl⟩,⟨_,_,rfl,rfl,rfl⟩,trivial⟩ V fun Z g2 aa ab=>?_);refine zg 2 rfl (BA 1 aa ab rfl fun ai ac ae ag=>?_);obtain rfl:=oi K;exact AS func74 rfl rfl (Y ac rfl ⟨(Aj Z),2,rfl,rfl,ae⟩ ag)
def f75(fuel:Nat):Option ((AZ)):= some ([(0,4)]:AZ)
theorem Jo{fuel:Nat}{r:(AZ)}(K:f75 fuel=some r):AT J 75 [] E [] (fun w E' B'=>∃(O:Az) (U:Nat),w= sV O r U∧B'= []∧Aq BE E' O U r):=by
 refine Bm func75 fun Q ah cs H V Y=>?_;unfold f75 at K;refine zg 6 rfl (Av (v:= .agg #[iV 0,iV 4]) rfl (fun ρ h=>Cl [(0,1),(1,1)] h Du underlying27 ⟨rfl,A3 type3,rfl,A3 type3,trivial⟩ rfl rfl) ?_);refine B9 (pp:=BE) [.agg #[iV 0,iV 4]] [(0,4)] rfl rfl rfl underlying25 CJ Du (by decide) rfl rfl rfl ⟨⟨_,_,rfl,rfl,rfl⟩,trivial⟩ V fun Z g2 aa ab=>zg 2 rfl (BA 1 aa ab rfl fun ai ac ae ag=>?_);obtain rfl:=oi K;exact AS func75 rfl rfl (Y ac rfl ⟨(Aj Z),1,rfl,rfl,ae⟩ ag)
end Pal
namespace Pal
open Go Go.Conc Go.Proofs
open Go.Proofs.Tryz
variable {J:Judge Tryz.prog}{E:LH}
def f103(fuel:Nat)(p0:Nat)(p1:Int):Option Bool:= (MN p0 p1).bind fun K=> (Js K (1)).bind fun O=> some (decide ((((O):Nat):Int)=(((1):Nat):Int)))
theorem KF{p0:Nat}{p1:Int}{fuel:Nat}{r:Bool}(K:f103 fuel p0 p1=some r):AT J 103 [uV p0,iV p1] E [] (fun w E' B'=>w= .bool r∧B'= []):=by
 refine Bm func103 fun Q ae cs H O U=>?_;unfold f103 at K;obtain⟨V,Y,Z⟩:=bs K;refine zg 8 rfl (Av (v:= uV V) rfl (fun ρ h=>Tq (h _ _ rfl) (h _ _ rfl) Y) ?_);obtain⟨aa,ab,ac⟩:=bs Z;refine Av (v:= uV aa) rfl (fun ρ h=>LS (h _ _ rfl) (h _ _ rfl) ab) (zg 3 rfl ?_);obtain rfl:=oi ac;exact AS func103 rfl rfl (U Ak rfl ⟨rfl,rfl⟩ O)
def f90(fuel:Nat)(p0:Nat)(p1:Int):Option Nat:= (MD p1).bind fun K=> (IK p0 K).bind fun O=> some O
theorem Lf{p0:Nat}{p1:Int}{fuel:Nat}{r:Nat}(K:f90 fuel p0 p1=some r):AT J 90 [uV p0,iV p1] E [] (fun w E' B'=>w= uV r∧B'= []):=by
 refine Bm func90 fun Q ae cs H O U=>?_;unfold f90 at K;obtain⟨V,Y,Z⟩:=bs K;refine zg 8 rfl (Av (v:= uV V) rfl (fun ρ h=>S9 (h _ _ rfl) (h _ _ rfl) Y) ?_);obtain⟨aa,ab,ac⟩:=bs Z;refine Av (v:= uV aa) rfl (fun ρ h=>Jb (h _ _ rfl) (h _ _ rfl) ab) (zg 2 rfl ?_);obtain rfl:=oi ac;exact AS func90 rfl rfl (U Ak rfl ⟨rfl,rfl⟩ O)
def Pt(fuel:Nat)(p0:Nat)(K:(List Int)×Int):Option (Bz ((List Int)×Int) ((List Int))):= if K.2<16 then((f103 fuel p0 K.2).bind fun O=> Option.bind (if O=true then((room K.1 K.2).bind fun U=> some U) else(some K.1)) fun V=> (AA (K.2+1)).bind fun Y=> some (.more (V,Y))) else(some (.done K.1))
def f89(fuel:Nat)(p0:Nat):Option ((List Int)):= Option.bind (iter (Pt fuel p0) fuel ([],0)) fun K=> some K
theorem Hs{p0:Nat}{fuel:Nat}{r:(List Int)}(ao:f89 fuel p0=some r):AT J 89 [uV p0] E [] (fun w E' B'=>∃(ap:Az) (aq:Nat),w= sV ap r aq∧B'= []∧Aq rI E' ap aq r):=by
 refine Bm func89 fun Q ba cs H aA aB=>?_;unfold f89 at ao;obtain⟨ar,aC,aD⟩:=bs ao;refine zg 13 rfl (Cc (fun L s=>∃(ah:LH) (Y:Az) (Z:Nat) (ai:Seg),Jn E H ah [ai] [(3,sV Y ar Z)] L s (OL 3 rI ah Y Z ai ar)) ?_ ?_)
 ·rintro _ _ ⟨ah,Y,Z,ai,rfl,rfl,aE,aF,aG⟩;refine zg 5 rfl (BA 0 aG aF rfl fun bb aH aI aJ=>?_);obtain rfl:=oi aD;exact AS func89 rfl rfl (aB (aE.Aa aH) rfl ⟨Y,Z,rfl,rfl,aI⟩ aJ)
 ·intro aK;refine JL.block (DT aC (fun L s K=>∃(aa:LH) (O:Az) (U:Nat) (V:Seg),Jn E H aa [V] [(0,uV p0),(3,sV O K.1 U),(5,iV K.2)] L s (OL 3 rI aa O U V K.1)) ⟨E,none,0,[],rfl,rfl,Ak,aA,OL.nil⟩ ?_);rintro _ _ K ⟨aa,O,U,V,rfl,rfl,au,av,aj⟩ aL ⟨bc,ak⟩ aM;have aw:=ak;unfold Pt at aw;refine zg 5 rfl (A7 aw (fun aN aO=>?_) (fun aN aP=>?_))
  ·obtain⟨bd,aQ,aR⟩:=bs aO;refine zg 12 rfl (Ba (KF aQ) rfl rfl JU av fun al am ay=>?_);obtain⟨an,aS,aT⟩:=bs aR;refine JL.done (Cc (fun L s=>∃(ab:LH) (ac:Az) (ae:Nat) (ag:Seg),Jn al H ab [ag] [(0,uV p0),(3,sV ac an ae),(5,iV K.2)] L s (OL 3 rI ab ac ae ag an)) ?_ ?_)
   ·rintro _ _ ⟨ab,ac,ae,ag,rfl,rfl,aU,aV,aW⟩;obtain⟨aX,aY,aZ⟩:=bs aT;refine zg 2 rfl (Bv aY rfl rfl rfl ?_);refine zg 2 rfl ?_;obtain rfl:=oi aZ;exact AU (aM _ _ (an,aX) ⟨ab,ac,ae,ag,rfl,rfl,((au.Aa am).Aa aU),aV,aW⟩ ak) rfl
   ·intro az;refine BO aS (fun a0 a1=>?_) (fun a0 a2=>?_)
    ·obtain⟨be,a3,a4⟩:=bs a1;refine zg 3 rfl (JS.app (pp:=rI) (v:=iV K.2) (a:=O) (c:=U) 0 a3 rfl rfl rfl rfl (fun _=>rfl) rfl (fun _=>rfl) rfl rfl rfl underlying28 underlying28 underlying28 AD (FJ type3) A1 rfl (by decide) (by decide) (by decide) (by decide) (aj.Ad am) rfl ay rfl fun bf a5 a6 a7 a8 a9=>?_);refine zg 2 rfl ?_;obtain rfl:=oi a4;exact AU (az _ _ ⟨al,a5,a6,a7,rfl,rfl,Ak,a9,a8⟩) rfl
    ·refine JL.skip ?_;obtain rfl:=oi a2;exact AU (az _ _ ⟨al,O,U,V,rfl,rfl,Ak,ay,(aj.Ad am)⟩) rfl
  ·refine JL.exit rfl ?_;obtain rfl:=oi aP;obtain rfl:=aL _ ak;exact AU (aK _ _ ⟨aa,O,U,V,rfl,rfl,au,av,aj⟩) rfl
def O2(fuel:Nat)(p0:List Int)(K:Nat×Int):Option (Bz (Nat×Int) Nat):= if K.2<(p0.length:Int) then((ix p0 K.2).bind fun O=> (f90 fuel K.1 O).bind fun U=> (AA (K.2+1)).bind fun V=> some (.more (U,V))) else(some (.done K.1))
def f120(fuel:Nat)(p0:List Int):Option Nat:= Option.bind (iter (O2 fuel p0) fuel (0,0)) fun K=> some K
theorem Iq{O:Az}{c2:Nat}{p0:List Int}(ab:Aq rI E O c2 p0){fuel:Nat}{r:Nat}(Y:f120 fuel p0=some r):AT J 120 [sV O p0 c2] E [] (fun w E' B'=>w= uV r∧B'= []):=by
 refine Bm func120 fun Q aF cs H ac ae=>?_;unfold f120 at Y;refine zg 12 rfl (BR underlying28 rfl rfl rfl ?_);obtain⟨ag,ah,ai⟩:=bs Y;refine zg 2 rfl (Cw [] [(3,uV ag)] (fun aG aj ak=>?_) (fun al=>?_))
 ·refine zg 5 rfl ?_;obtain rfl:=oi ai;exact AS func120 rfl rfl (ae aj rfl ⟨rfl,rfl⟩ ak)
 ·refine JL.block (CC ah (fun K=> []) (fun K=> [(3,uV K.1),(6,sV O p0 c2),(7,iV (p0.length:Int)),(8,iV K.2)]) Ak ac ?_);rintro K aH U Z am ⟨aI,V⟩ an;have aa:=V;unfold O2 at aa;refine zg 5 rfl (A7 aa (fun ao ap=>?_) (fun ao aq=>?_))
  ·obtain⟨aJ,ar,au⟩:=bs ap;refine zg 5 rfl (C3 (ab.Ad U) ar underlying28 AD ?_);rintro aK aL _ rfl av;refine Cv 0 av BV rfl rfl rfl ?_;obtain⟨aw,ay,az⟩:=bs au;refine zg 5 rfl (Ba (Lf ay) rfl rfl J6 Z fun aM aA aB=>?_);obtain⟨aC,aD,aE⟩:=bs az;refine zg 4 rfl (Bv aD rfl rfl rfl ?_);refine zg 2 rfl ?_;obtain rfl:=oi aE;exact an (aw,aC) (U.Aa aA) aB rfl V
  ·refine JL.exit rfl ?_;obtain rfl:=oi aq;obtain rfl:=am _ V;exact al U Z rfl
def ON(fuel:Nat)(p0:Ca)(p1:Int)(p2:List Int)(p3:Bool)(K:Int):Option (Bz Int (((Option (Int×Int)))⊕(Unit))):= if K<(p2.length:Int) then((ix p2 K).bind fun O=> (AA ((p0.1.length:Int) - 1)).bind fun U=> (f101 fuel O 0 U).bind fun V=> if V=true then(some (.done (Sum.inl (some (3,p1))))) else(Option.bind (if O=p1 then(some (!p3)) else(some false)) fun Y=> if Y=true then(some (.done (Sum.inl (some (8,p1))))) else(Option.bind (if 0<K then((AA (K - 1)).bind fun Z=> (ix p2 Z).bind fun aa=> some (decide (O≤aa))) else(some false)) fun ab=> if ab=true then(some (.done (Sum.inl (some (5,p1))))) else((AA (K+1)).bind fun ac=> some (.more ac))))) else(some (.done (Sum.inr ())))
def f136(fuel:Nat)(p0:Ca)(p1:Int)(p2:List Int)(p3:Bool):Option ((Option (Int×Int))):= Option.bind (iter (ON fuel p0 p1 p2 p3) fuel 0) fun K=> Sum.elim (fun r=>some r) (fun O=> some none) K
theorem PM{ak:Az}{c2:Nat}{al:Az}{am:Nat}{K:Az}{O:Nat}{p0:Ca}{p1:Int}{p2:List Int}{p3:Bool}(bz:Aq (rL rI) E ak c2 p0.1)(bA:Aq (rL rI) E al am p0.2)(an:Aq rI E K O p2){fuel:Nat}{r:(Option (Int×Int))}(ao:f136 fuel p0 p1 p2 p3=some r):AT J 136 [.agg #[sV ak p0.1 c2,sV al p0.2 am],iV p1,sV K p2 O,.bool p3] E [] (fun w E' B'=>∃(ap:Value),w=ap∧B'= []∧G8 183 ap r):=by
 refine Bm func136 fun Q bB cs H aC ab=>?_;unfold f136 at ao;refine zg 2 rfl (CB aC fun ah aD V aE aF=>?_);refine zg 6 rfl (BR underlying28 rfl rfl rfl ?_);obtain⟨aq,aG,ac⟩:=bs ao;refine zg 2 rfl (Cc (fun L s=>∃(ar:Unit) (au:LH),aq=Sum.inr ar∧Jm aD H au [] [] L s) ?_ ?_)
 ·rintro _ _ ⟨ar,au,rfl,rfl,rfl,aH,aI⟩;have aJ:=elim_inr ac;refine zg 4 rfl ?_;obtain rfl:=oi aJ;exact AS func136 rfl rfl (ab (V.Aa aH) rfl ⟨.nilIface,rfl,rfl,rfl⟩ aI)
 ·intro aK;refine JL.block (CC aG (fun Y=> []) (fun Y=> [(1,iV p1),(2,sV K p2 O),(3,.bool p3),(4,pV ah 0),(11,sV K p2 O),(12,iV (p2.length:Int)),(13,iV Y)]) Ak aF ?_);rintro Y aL U av ae ⟨bC,Z⟩ aM;have aw:=Z;unfold ON at aw;refine zg 5 rfl (A7 aw (fun aN aO=>?_) (fun aN aP=>?_))
  ·obtain⟨aQ,aR,aS⟩:=bs aO;refine zg 6 rfl (C3 (an.Ad (V.Aa U)) aR underlying28 AD ?_);rintro bD bE _ rfl aT;refine Cv 0 aT BV rfl rfl rfl (zg 7 rfl ?_);refine Cd 0 (aE.Ad U) underlying24 Be CI ?_;refine BR underlying22 rfl rfl rfl ?_;obtain⟨bF,aU,aV⟩:=bs aS;refine Cq aU rfl rfl rfl ?_;obtain⟨bG,aW,aX⟩:=bs aV;refine Ba (Ho aW) rfl rfl Hb av fun bH aa ai=>zg 2 rfl (BO aX (fun aY aZ=>?_) (fun aY a0=>?_))
   ·refine zg 3 rfl (Av (v:= .agg #[iV 3,iV p1]) rfl (fun ρ h=>Cl [(0,1),(1,1)] h EG underlying183 ⟨rfl,A3 type39,rfl,A3 type3,trivial⟩ rfl rfl) ?_);refine Av (v:= .iface 183 (.agg #[iV 3,iV p1])) rfl (fun ρ h=>Ed underlying183 (fun _ h=>by cases h) (h _ _ rfl)) (zg 2 rfl ?_);obtain rfl:=oi aZ;obtain rfl:=ae _ Z;have a1:=elim_inl ac;obtain rfl:=oi a1;exact AS func136 rfl rfl (ab ((V.Aa U).Aa aa) rfl ⟨.iface 183 (.agg #[iV 3,iV p1]),rfl,rfl,rfl⟩ ai)
   ·obtain⟨a2,a3,a4⟩:=bs a0;refine zg 6 rfl (Bj 7 1 [] [(1,iV p1),(2,sV K p2 O),(3,.bool p3),(4,pV ah 0),(9,iV Y),(10,iV aQ),(11,sV K p2 O),(12,iV (p2.length:Int)),(13,iV Y),(35,.bool a2)] (fun bI ag aj=>?_) (fun ay=>?_))
    ·refine zg 2 rfl (BO a4 (fun a5 a6=>?_) (fun a5 a7=>?_))
     ·refine zg 3 rfl (Av (v:= .agg #[iV 8,iV p1]) rfl (fun ρ h=>Cl [(0,1),(1,1)] h EG underlying183 ⟨rfl,A3 type39,rfl,A3 type3,trivial⟩ rfl rfl) ?_);refine Av (v:= .iface 183 (.agg #[iV 8,iV p1])) rfl (fun ρ h=>Ed underlying183 (fun _ h=>by cases h) (h _ _ rfl)) (zg 2 rfl ?_);obtain rfl:=oi a6;obtain rfl:=ae _ Z;have a8:=elim_inl ac;obtain rfl:=oi a8;exact AS func136 rfl rfl (ab (((V.Aa U).Aa aa).Aa ag) rfl ⟨.iface 183 (.agg #[iV 8,iV p1]),rfl,rfl,rfl⟩ aj)
     ·obtain⟨a9,ba,bb⟩:=bs a7;refine zg 5 rfl (Bj 11 1 [] [(1,iV p1),(2,sV K p2 O),(3,.bool p3),(4,pV ah 0),(11,sV K p2 O),(12,iV (p2.length:Int)),(13,iV Y),(50,.bool a9)] (fun bJ az aA=>?_) (fun aB=>?_))
      ·refine zg 2 rfl (BO bb (fun bc bd=>?_) (fun bc be=>?_))
       ·refine zg 3 rfl (Av (v:= .agg #[iV 5,iV p1]) rfl (fun ρ h=>Cl [(0,1),(1,1)] h EG underlying183 ⟨rfl,A3 type39,rfl,A3 type3,trivial⟩ rfl rfl) ?_);refine Av (v:= .iface 183 (.agg #[iV 5,iV p1])) rfl (fun ρ h=>Ed underlying183 (fun _ h=>by cases h) (h _ _ rfl)) (zg 2 rfl ?_);obtain rfl:=oi bd;obtain rfl:=ae _ Z;have bf:=elim_inl ac;obtain rfl:=oi bf;exact AS func136 rfl rfl (ab ((((V.Aa U).Aa aa).Aa ag).Aa az) rfl ⟨.iface 183 (.agg #[iV 5,iV p1]),rfl,rfl,rfl⟩ aA)
       ·obtain⟨bg,bh,bi⟩:=bs be;refine zg 4 rfl (Bv bh rfl rfl rfl ?_);refine zg 2 rfl ?_;obtain rfl:=oi bi;exact aM bg (((U.Aa aa).Aa ag).Aa az) aA rfl Z
      ·refine DU 42 ba (fun bj bl=>?_) (fun bj bm=>?_)
       ·obtain⟨bK,bn,bo⟩:=bs bl;refine zg 3 rfl (Cq bn rfl rfl rfl ?_);obtain⟨bL,bp,bq⟩:=bs bo;refine C3 (an.Ad (((V.Aa U).Aa aa).Aa ag)) bp underlying28 AD ?_;rintro bM bN _ rfl br;refine Cv 0 br BV rfl rfl rfl (zg 2 rfl ?_);obtain rfl:=oi bq;exact aB Ak aj rfl
       ·refine zg 8 rfl ?_;obtain rfl:=oi bm;exact aB Ak aj rfl
    ·refine DU 32 a3 (fun bu bv=>?_) (fun bu bw=>?_)
     ·refine zg 1 rfl (Av (v:= .bool (!p3)) rfl (fun ρ h=>Yl.not (h _ _ rfl)) ?_);refine zg 1 rfl ?_;obtain rfl:=oi bv;exact ay Ak ai rfl
     ·refine zg 3 rfl ?_;obtain rfl:=oi bw;exact ay Ak ai rfl
  ·refine JL.exit rfl ?_;obtain rfl:=oi aP;have bx:aq=(Sum.inr ()):=(ae _ Z).symm;exact AU (aK _ _ ⟨(),aL,bx,rfl,rfl,U,av⟩) rfl
def Oy(fuel:Nat)(p0:Ca)(K:Int):Option (Bz Int (((Option (Int×Int)))⊕(Unit))):= if K<(p0.1.length:Int) then((ix p0.1 K).bind fun O=> if(O.length:Int)=0 then(some (.done (Sum.inl (some (7,K))))) else(if 3<(O.length:Int) then(some (.done (Sum.inl (some (6,K))))) else((f136 fuel p0 K O true).bind fun U=> if U.isSome=true then(some (.done (Sum.inl U))) else((ix p0.2 K).bind fun Y=> if 3<(Y.length:Int) then(some (.done (Sum.inl (some (6,K))))) else((ix p0.2 K).bind fun Z=> (f136 fuel p0 K Z false).bind fun V=> if V.isSome=true then(some (.done (Sum.inl V))) else((AA (K+1)).bind fun aa=> some (.more aa))))))) else(some (.done (Sum.inr ())))
def f113(fuel:Nat)(p0:Ca):Option ((Option (Int×Int))):= if(p0.1.length:Int)=0 then(some (some (7,0))) else(if 8<(p0.1.length:Int) then(some (some (6,0))) else(if(p0.2.length:Int)≠(p0.1.length:Int) then(some (some (9,0))) else(Option.bind (iter (Oy fuel p0) fuel 0) fun K=> Sum.elim (fun r=>some r) (fun O=> some none) K)))
theorem PI{ai:Az}{c2:Nat}{al:Az}{am:Nat}{p0:Ca}(aj:Aq (rL rI) E ai c2 p0.1)(ae:Aq (rL rI) E al am p0.2){fuel:Nat}{r:(Option (Int×Int))}(an:f113 fuel p0=some r):AT J 113 [.agg #[sV ai p0.1 c2,sV al p0.2 am]] E [] (fun w E' B'=>∃(ao:Value),w=ao∧B'= []∧G8 183 ao r):=by
 refine Bm func113 fun Q bH cs H aA Y=>?_;unfold f113 at an;refine zg 2 rfl (CB aA fun aB aC O aa ag=>?_);refine zg 5 rfl (Cd 0 aa underlying24 Be CI ?_);refine BR underlying22 rfl rfl rfl (zg 9 rfl ?_);refine A7 an (fun aD aE=>?_) (fun aD aF=>?_)
 ·refine zg 2 rfl (Av (v:= .agg #[iV 7,iV 0]) rfl (fun ρ h=>Cl [(0,1),(1,1)] h EG underlying183 ⟨rfl,A3 type39,rfl,A3 type3,trivial⟩ rfl rfl) ?_);refine Av (v:= .iface 183 (.agg #[iV 7,iV 0])) rfl (fun ρ h=>Ed underlying183 (fun _ h=>by cases h) (h _ _ rfl)) (zg 2 rfl ?_);obtain rfl:=oi aE;exact AS func113 rfl rfl (Y O rfl ⟨.iface 183 (.agg #[iV 7,iV 0]),rfl,rfl,rfl⟩ ag)
 ·refine zg 6 rfl (A7 aF (fun aG aH=>?_) (fun aG aI=>?_))
  ·refine zg 2 rfl (Av (v:= .agg #[iV 6,iV 0]) rfl (fun ρ h=>Cl [(0,1),(1,1)] h EG underlying183 ⟨rfl,A3 type39,rfl,A3 type3,trivial⟩ rfl rfl) ?_);refine Av (v:= .iface 183 (.agg #[iV 6,iV 0])) rfl (fun ρ h=>Ed underlying183 (fun _ h=>by cases h) (h _ _ rfl)) (zg 2 rfl ?_);obtain rfl:=oi aH;exact AS func113 rfl rfl (Y O rfl ⟨.iface 183 (.agg #[iV 6,iV 0]),rfl,rfl,rfl⟩ ag)
  ·refine zg 2 rfl (Cd 1 aa underlying24 Be CI ?_);refine BR underlying22 rfl rfl rfl (zg 4 rfl ?_);refine A7 aI (fun aJ aK=>?_) (fun aJ aL=>?_)
   ·refine zg 2 rfl (Av (v:= .agg #[iV 9,iV 0]) rfl (fun ρ h=>Cl [(0,1),(1,1)] h EG underlying183 ⟨rfl,A3 type39,rfl,A3 type3,trivial⟩ rfl rfl) ?_);refine Av (v:= .iface 183 (.agg #[iV 9,iV 0])) rfl (fun ρ h=>Ed underlying183 (fun _ h=>by cases h) (h _ _ rfl)) (zg 2 rfl ?_);obtain rfl:=oi aK;exact AS func113 rfl rfl (Y O rfl ⟨.iface 183 (.agg #[iV 9,iV 0]),rfl,rfl,rfl⟩ ag)
   ·refine zg 5 rfl (Cd 0 aa underlying24 Be CI ?_);refine BR underlying22 rfl rfl rfl ?_;obtain⟨ap,aM,ab⟩:=bs aL;refine zg 2 rfl (Cc (fun L s=>∃(aq:Unit) (ar:LH),ap=Sum.inr aq∧Jm aC H ar [] [] L s) ?_ ?_)
    ·rintro _ _ ⟨aq,ar,rfl,rfl,rfl,aN,aO⟩;have aP:=elim_inr ab;refine zg 4 rfl ?_;obtain rfl:=oi aP;exact AS func113 rfl rfl (Y (O.Aa aN) rfl ⟨.nilIface,rfl,rfl,rfl⟩ aO)
    ·intro aQ;refine JL.block (CC aM (fun U=> []) (fun U=> [(1,pV aB 0),(30,sV ai p0.1 c2),(31,iV (p0.1.length:Int)),(32,iV U)]) Ak ag ?_);rintro U aR K ah ac ⟨bI,Z⟩ aS;have au:=Z;unfold Oy at au;refine zg 5 rfl (A7 au (fun aT aU=>?_) (fun aT aV=>?_))
     ·obtain⟨bJ,aW,aX⟩:=bs aU;refine zg 6 rfl (C3 (aj.Ad (O.Aa K)) aW underlying22 AN ?_);rintro bK bL _ ⟨bM,bN,rfl,aY⟩ aZ;refine Cv 0 aZ EF rfl rfl rfl (zg 7 rfl ?_);refine BR underlying28 rfl rfl rfl (zg 2 rfl ?_);refine A7 aX (fun a0 a1=>?_) (fun a0 a2=>?_)
      ·refine zg 3 rfl (Av (v:= .agg #[iV 7,iV U]) rfl (fun ρ h=>Cl [(0,1),(1,1)] h EG underlying183 ⟨rfl,A3 type39,rfl,A3 type3,trivial⟩ rfl rfl) ?_);refine Av (v:= .iface 183 (.agg #[iV 7,iV U])) rfl (fun ρ h=>Ed underlying183 (fun _ h=>by cases h) (h _ _ rfl)) (zg 2 rfl ?_);obtain rfl:=oi a1;obtain rfl:=ac _ Z;have a3:=elim_inl ab;obtain rfl:=oi a3;exact AS func113 rfl rfl (Y (O.Aa K) rfl ⟨.iface 183 (.agg #[iV 7,iV U]),rfl,rfl,rfl⟩ ah)
      ·refine zg 5 rfl (BR underlying28 rfl rfl rfl ?_);refine zg 2 rfl (A7 a2 (fun a4 a5=>?_) (fun a4 a6=>?_))
       ·refine zg 3 rfl (Av (v:= .agg #[iV 6,iV U]) rfl (fun ρ h=>Cl [(0,1),(1,1)] h EG underlying183 ⟨rfl,A3 type39,rfl,A3 type3,trivial⟩ rfl rfl) ?_);refine Av (v:= .iface 183 (.agg #[iV 6,iV U])) rfl (fun ρ h=>Ed underlying183 (fun _ h=>by cases h) (h _ _ rfl)) (zg 2 rfl ?_);obtain rfl:=oi a5;obtain rfl:=ac _ Z;have a7:=elim_inl ab;obtain rfl:=oi a7;exact AS func113 rfl rfl (Y (O.Aa K) rfl ⟨.iface 183 (.agg #[iV 6,iV U]),rfl,rfl,rfl⟩ ah)
       ·refine zg 4 rfl (BZ (aa.Ad K) CE Ch rfl rfl ?_);obtain⟨a8,a9,ba⟩:=bs a6;refine zg 2 rfl (AJ (PM (aj.Ad (O.Aa K)) (ae.Ad (O.Aa K)) aY a9) rfl rfl (Bc func136 rfl) ah ?_);rintro bb bO _ V ⟨_,rfl,rfl,av⟩ ak;refine zg 5 rfl (Av (v:= .bool a8.isSome) rfl (fun ρ h=>LY underlying149 av (h _ _ rfl) (h _ _ rfl)) ?_);refine JL.done (BO ba (fun bc bd=>?_) (fun bc be=>?_))
        ·refine zg 5 rfl ?_;obtain rfl:=oi bd;obtain rfl:=ac _ Z;have bf:=elim_inl ab;obtain rfl:=oi bf;exact AS func113 rfl rfl (Y ((O.Aa K).Aa V) rfl ⟨bb,rfl,rfl,av⟩ ak)
        ·refine zg 4 rfl (Cd 1 (aa.Ad (K.Aa V)) underlying24 Be CI ?_);obtain⟨bP,bg,bh⟩:=bs be;refine zg 1 rfl (C3 (ae.Ad ((O.Aa K).Aa V)) bg underlying22 AN ?_);rintro bQ bR _ ⟨bS,bT,rfl,bU⟩ bi;refine Cv 0 bi EF rfl rfl rfl (BR underlying28 rfl rfl rfl ?_);refine zg 2 rfl (A7 bh (fun bj bl=>?_) (fun bj bm=>?_))
         ·refine zg 3 rfl (Av (v:= .agg #[iV 6,iV U]) rfl (fun ρ h=>Cl [(0,1),(1,1)] h EG underlying183 ⟨rfl,A3 type39,rfl,A3 type3,trivial⟩ rfl rfl) ?_);refine Av (v:= .iface 183 (.agg #[iV 6,iV U])) rfl (fun ρ h=>Ed underlying183 (fun _ h=>by cases h) (h _ _ rfl)) (zg 2 rfl ?_);obtain rfl:=oi bl;obtain rfl:=ac _ Z;have bn:=elim_inl ab;obtain rfl:=oi bn;exact AS func113 rfl rfl (Y ((O.Aa K).Aa V) rfl ⟨.iface 183 (.agg #[iV 6,iV U]),rfl,rfl,rfl⟩ ak)
         ·refine zg 2 rfl (Er 7 fun ht=>?_);refine Jl 0 ht (aa.Ad (K.Aa V)) CE Ch rfl rfl rfl (CG 1 ht rfl rfl ?_);refine BN 2 ht underlying24 Be rfl rfl rfl rfl (DV 3 ht 1 (aa.Ad (K.Aa V)) CI rfl rfl rfl rfl ?_);refine CG 4 ht rfl rfl ?_;obtain⟨bV,bo,bp⟩:=bs bm;refine G0 5 (ae.Ad ((O.Aa K).Aa V)) bo ht underlying22 AN ?_;rintro bW bY _ ⟨bZ,b0,rfl,bq⟩ br;refine DV 6 ht 0 br EF rfl rfl rfl rfl (CU [7,8] ?_);obtain⟨bu,bv,bw⟩:=bs bp;refine AJ (PM (aj.Ad ((O.Aa K).Aa V)) (ae.Ad ((O.Aa K).Aa V)) bq bv) rfl rfl (Bc func136 rfl) ak ?_;rintro bx b1 _ aw ⟨_,rfl,rfl,ay⟩ az;refine zg 5 rfl (Av (v:= .bool bu.isSome) rfl (fun ρ h=>LY underlying149 ay (h _ _ rfl) (h _ _ rfl)) ?_);refine JL.done (BO bw (fun bz bA=>?_) (fun bz bB=>?_))
          ·refine zg 5 rfl ?_;obtain rfl:=oi bA;obtain rfl:=ac _ Z;have bC:=elim_inl ab;obtain rfl:=oi bC;exact AS func113 rfl rfl (Y (((O.Aa K).Aa V).Aa aw) rfl ⟨bx,rfl,rfl,ay⟩ az)
          ·obtain⟨bD,bE,bF⟩:=bs bB;refine zg 3 rfl (Bv bE rfl rfl rfl ?_);refine zg 2 rfl ?_;obtain rfl:=oi bF;exact aS bD ((K.Aa V).Aa aw) az rfl Z
     ·refine JL.exit rfl ?_;obtain rfl:=oi aV;have bG:ap=(Sum.inr ()):=(ac _ Z).symm;exact AU (aQ _ _ ⟨(),aR,bG,rfl,rfl,K,ah⟩) rfl
def OW(fuel:Nat)(p0:Ca)(p1:AZ)(K:Int):Option (Bz Int (((Option (Int×Int)))⊕(Unit))):= if K<(p1.length:Int) then((ix p1 K).bind fun O=> (f101 fuel O.1 0 6).bind fun U=> if U=true then(some (.done (Sum.inl (some (1,K))))) else(Option.bind (if 0<K then((AA (K - 1)).bind fun V=> (ix p1 V).bind fun Y=> some (decide (O.1<Y.1))) else(some false)) fun Z=> if Z=true then(some (.done (Sum.inl (some (5,K))))) else((AA ((p0.1.length:Int) - 1)).bind fun aa=> (f101 fuel O.2 0 aa).bind fun ab=> if ab=true then(some (.done (Sum.inl (some (3,K))))) else((AA (K+1)).bind fun ac=> some (.more ac))))) else(some (.done (Sum.inr ())))
def f116(fuel:Nat)(p0:Ca)(p1:AZ):Option ((Option (Int×Int))):= if 4<(p1.length:Int) then(some (some (6,0))) else(Option.bind (iter (OW fuel p0 p1) fuel 0) fun K=> Sum.elim (fun r=>some r) (fun O=> some none) K)
theorem Uq{ak:Az}{c2:Nat}{al:Az}{am:Nat}{Y:Az}{Z:Nat}{p0:Ca}{p1:AZ}(bB:Aq (rL rI) E ak c2 p0.1)(bC:Aq (rL rI) E al am p0.2)(an:Aq BE E Y Z p1){fuel:Nat}{r:(Option (Int×Int))}(ao:f116 fuel p0 p1=some r):AT J 116 [.agg #[sV ak p0.1 c2,sV al p0.2 am],sV Y p1 Z] E [] (fun w E' B'=>∃(ap:Value),w=ap∧B'= []∧G8 183 ap r):=by
 refine Bm func116 fun Q bD cs H aE ac=>?_;unfold f116 at ao;refine zg 2 rfl (CB aE fun aq aF V aG ar=>?_);refine zg 6 rfl (BR underlying25 rfl rfl rfl ?_);refine zg 2 rfl (A7 ao (fun aH aI=>?_) (fun aH aJ=>?_))
 ·refine zg 2 rfl (Av (v:= .agg #[iV 6,iV 0]) rfl (fun ρ h=>Cl [(0,1),(1,1)] h EG underlying183 ⟨rfl,A3 type39,rfl,A3 type3,trivial⟩ rfl rfl) ?_);refine Av (v:= .iface 183 (.agg #[iV 6,iV 0])) rfl (fun ρ h=>Ed underlying183 (fun _ h=>by cases h) (h _ _ rfl)) (zg 2 rfl ?_);obtain rfl:=oi aI;exact AS func116 rfl rfl (ac V rfl ⟨.iface 183 (.agg #[iV 6,iV 0]),rfl,rfl,rfl⟩ ar)
 ·refine zg 5 rfl (BR underlying25 rfl rfl rfl ?_);obtain⟨au,aK,ae⟩:=bs aJ;refine zg 2 rfl (Cc (fun L s=>∃(av:Unit) (aw:LH),au=Sum.inr av∧Jm aF H aw [] [] L s) ?_ ?_)
  ·rintro _ _ ⟨av,aw,rfl,rfl,rfl,aL,aM⟩;have aN:=elim_inr ae;refine zg 4 rfl ?_;obtain rfl:=oi aN;exact AS func116 rfl rfl (ac (V.Aa aL) rfl ⟨.nilIface,rfl,rfl,rfl⟩ aM)
  ·intro aO;refine JL.block (CC aK (fun K=> []) (fun K=> [(1,sV Y p1 Z),(2,pV aq 0),(12,sV Y p1 Z),(13,iV (p1.length:Int)),(14,iV K)]) Ak ar ?_);rintro K aP O ay ag ⟨bE,aa⟩ aQ;have az:=aa;unfold OW at az;refine zg 5 rfl (A7 az (fun aR aS=>?_) (fun aR aT=>?_))
   ·obtain⟨bF,aU,aV⟩:=bs aS;refine zg 6 rfl (C3 (an.Ad (V.Aa O)) aU underlying25 CJ ?_);rintro bG bH _ ⟨_,_,rfl,rfl,rfl⟩ aW;refine BZ aW HW CJ rfl rfl (Ci ay Du fun aX aY=>?_);refine zg 1 rfl (BI 0 aY CJ fun aZ=>?_);refine Cn 0 aZ rfl fun bI ab ah a0=>zg 4 rfl (Cd 0 ah underlying27 AD BV ?_);obtain⟨bJ,a1,a2⟩:=bs aV;refine Ba (Ho a1) rfl rfl Hb a0 fun a3 U ai=>zg 2 rfl (BO a2 (fun a4 a5=>?_) (fun a4 a6=>?_))
    ·refine zg 3 rfl (Av (v:= .agg #[iV 1,iV K]) rfl (fun ρ h=>Cl [(0,1),(1,1)] h EG underlying183 ⟨rfl,A3 type39,rfl,A3 type3,trivial⟩ rfl rfl) ?_);refine Av (v:= .iface 183 (.agg #[iV 1,iV K])) rfl (fun ρ h=>Ed underlying183 (fun _ h=>by cases h) (h _ _ rfl)) (zg 2 rfl ?_);obtain rfl:=oi a5;obtain rfl:=ag _ aa;have a7:=elim_inl ae;obtain rfl:=oi a7;exact AS func116 rfl rfl (ac (((V.Aa O).Aa ab).Aa U) rfl ⟨.iface 183 (.agg #[iV 1,iV K]),rfl,rfl,rfl⟩ ai)
    ·refine JL.seq (Er 13 fun ht=>?_);refine Bt ht rfl [0,1,2] rfl ?_;obtain⟨a8,aA,a9⟩:=bs a6;refine Fq 1 #[true,true,true,true,true,true,true,true,true,true,true,true,true,false] (fun L s=>L= [(1,sV Y p1 Z),(2,pV aq 0),(5,iV K),(6,pV aX 0),(12,sV Y p1 Z),(13,iV (p1.length:Int)),(14,iV K),(39,.bool a8)]∧s=Am a3 H [[],[]]) ?_ ?_
     ·rintro _ _ ⟨rfl,rfl⟩;refine CU [13] (zg 2 rfl ?_);refine BO a9 (fun ba bb=>?_) (fun ba bc=>?_)
      ·refine zg 3 rfl (Av (v:= .agg #[iV 5,iV K]) rfl (fun ρ h=>Cl [(0,1),(1,1)] h EG underlying183 ⟨rfl,A3 type39,rfl,A3 type3,trivial⟩ rfl rfl) ?_);refine Av (v:= .iface 183 (.agg #[iV 5,iV K])) rfl (fun ρ h=>Ed underlying183 (fun _ h=>by cases h) (h _ _ rfl)) (zg 2 rfl ?_);obtain rfl:=oi bb;obtain rfl:=ag _ aa;have bd:=elim_inl ae;obtain rfl:=oi bd;exact AS func116 rfl rfl (ac (((V.Aa O).Aa ab).Aa U) rfl ⟨.iface 183 (.agg #[iV 5,iV K]),rfl,rfl,rfl⟩ ai)
      ·refine zg 2 rfl (Cd 1 (ah.Ad U) underlying27 AD BV ?_);refine Cd 0 (aG.Ad ((O.Aa ab).Aa U)) underlying24 Be CI ?_;refine BR underlying22 rfl rfl rfl ?_;obtain⟨bK,be,bf⟩:=bs bc;refine Cq be rfl rfl rfl ?_;obtain⟨bL,bg,bh⟩:=bs bf;refine Ba (Ho bg) rfl rfl Hb ai fun bM aB aC=>zg 2 rfl (BO bh (fun bi bj=>?_) (fun bi bl=>?_))
       ·refine zg 3 rfl (Av (v:= .agg #[iV 3,iV K]) rfl (fun ρ h=>Cl [(0,1),(1,1)] h EG underlying183 ⟨rfl,A3 type39,rfl,A3 type3,trivial⟩ rfl rfl) ?_);refine Av (v:= .iface 183 (.agg #[iV 3,iV K])) rfl (fun ρ h=>Ed underlying183 (fun _ h=>by cases h) (h _ _ rfl)) (zg 2 rfl ?_);obtain rfl:=oi bj;obtain rfl:=ag _ aa;have bm:=elim_inl ae;obtain rfl:=oi bm;exact AS func116 rfl rfl (ac ((((V.Aa O).Aa ab).Aa U).Aa aB) rfl ⟨.iface 183 (.agg #[iV 3,iV K]),rfl,rfl,rfl⟩ aC)
       ·obtain⟨bn,bo,bp⟩:=bs bl;refine zg 4 rfl (Bv bo rfl rfl rfl ?_);refine zg 2 rfl ?_;obtain rfl:=oi bp;exact aQ bn (((O.Aa ab).Aa U).Aa aB) aC rfl aa
     ·intro aD;refine FH (q:=0<K) (i:=29) rfl (fun aj=>?_) (fun aj=>?_)
      ·have bq:=ip aA aj;refine BN 3 ht underlying27 AD rfl rfl rfl rfl ?_;refine DV 4 ht 0 (ah.Ad U) BV rfl rfl rfl rfl ?_;refine Bt ht rfl [5,6] rfl ?_;obtain⟨bN,br,bu⟩:=bs bq;refine Bd 7 ht rfl rfl (fun ρ h s' hs=>Db (h _ _ rfl) (h _ _ rfl) br) ?_;obtain⟨bO,bv,bw⟩:=bs bu;refine G0 8 (an.Ad (((V.Aa O).Aa ab).Aa U)) bv ht underlying25 CJ ?_;rintro bP bQ _ ⟨_,_,rfl,rfl,rfl⟩ bx;refine BN 9 ht underlying27 AD rfl rfl rfl rfl ?_;refine DV 10 ht 0 bx BV rfl rfl rfl rfl ?_;refine Bt ht rfl [11,12] rfl ?_;obtain rfl:=oi bw;refine Dp ?_ (aD _ _ ⟨rfl,rfl⟩);exact⟨rfl,rfl,rfl,rfl,rfl,rfl,rfl,rfl,trivial⟩
      ·have bz:=im aA aj;refine Bt ht rfl [3,4,5,6,7,8,9,10,11,12] rfl ?_;obtain rfl:=oi bz;refine Dp ?_ (aD _ _ ⟨rfl,rfl⟩);exact⟨rfl,rfl,rfl,rfl,rfl,rfl,rfl,rfl,trivial⟩
   ·refine JL.exit rfl ?_;obtain rfl:=oi aT;have bA:au=(Sum.inr ()):=(ag _ aa).symm;exact AU (aO _ _ ⟨(),aP,bA,rfl,rfl,O,ay⟩) rfl
end Pal
namespace Pal
open Go Go.Conc Go.Proofs Go.Extern
abbrev DD(t:Nat):Value:= .pointer (some ⟨1,t,none⟩)
abbrev G6(t:Nat):Value:= .iface 240 (.agg #[DD t])
section
variable {s:St}{X:Halt→St→Prop}
theorem QC{Q:Value→St→Prop}(t:Addr):lp Tryz.prog (ReflectliteValue.unpack (.iface 185 (.pointer (some t)))) s Q X=(s.q=false∧∀r,s.E r=none→s.H r=none→Q (.agg #[DD 185,.pointer (some ⟨r,0,none⟩),.int .u64 150]) (s.upd r (.cells #[.pointer (some t)] 185 (0,0)))):=by kernel_rfl
theorem QG{Q:Value→St→Prop}(c a:Int):lp Tryz.prog (ReflectliteValue.unpack (.iface 183 (.agg #[iV c,iV a]))) s Q X=(s.q=false∧∀r,s.E r=none→s.H r=none→Q (.agg #[DD 183,.pointer (some ⟨r,0,none⟩),.int .u64 153]) (s.upd r (.cells #[iV c,iV a] 183 (0,0)))):=by kernel_rfl
theorem Sn{Q:Value→St→Prop}(a:Addr):lp Tryz.prog (ReflectliteValue.methodAny (ReflectliteValue.valueError "reflectlite.Value.Type" 0) (fun t _ _ _=>ReflectliteType.toType t) #[.agg #[DD 185,.pointer (some a),.int .u64 150]]) s Q X=Q (G6 185) s:=by kernel_rfl
theorem QY{Q:Value→St→Prop}(v:Value):lp Tryz.prog (ReflectliteType.typeOf #[.iface 183 v]) s Q X=Q (G6 183) s:=by kernel_rfl
theorem PO{Q:FuncId×Value→St→Prop}(h:Value):lp Tryz.prog (Go.method (Tryz.prog.types.size+Made.depth) 240 (.agg #[h]) "Kind") s Q X=Q (216,h) s:=by kernel_rfl
theorem UE{Q:FuncId×Value→St→Prop}(h:Value):lp Tryz.prog (Go.method (Tryz.prog.types.size+Made.depth) 240 (.agg #[h]) "Elem") s Q X=Q (227,.agg #[h]) s:=by kernel_rfl
theorem UB{Q:FuncId×Value→St→Prop}(h:Value):lp Tryz.prog (Go.method (Tryz.prog.types.size+Made.depth) 240 (.agg #[h]) "Implements") s Q X=Q (228,.agg #[h]) s:=by kernel_rfl
theorem UN{Q:FuncId×Value→St→Prop}(h:Value):lp Tryz.prog (Go.method (Tryz.prog.types.size+Made.depth) 240 (.agg #[h]) "AssignableTo") s Q X=Q (225,.agg #[h]) s:=by kernel_rfl
theorem Sg{Q:Value→St→Prop}:lp Tryz.prog ((ReflectliteType.abiMethod fun t=>(fun a:Nat=>Value.int IntKind.u8 (a:Int))<$>Rtype.kind t) #[DD 185]) s Q X=Q (.int .u8 22) s:=by kernel_rfl
theorem RX{Q:Value→St→Prop}:lp Tryz.prog ((ReflectliteType.abiMethod fun t=>(fun a:Nat=>Value.int IntKind.u8 (a:Int))<$>Rtype.kind t) #[DD 183]) s Q X=Q (.int .u8 25) s:=by kernel_rfl
theorem Sf{Q:Value→St→Prop}:lp Tryz.prog (ReflectliteType.method ReflectliteType.elem #[.agg #[DD 185]]) s Q X=Q (G6 183) s:=by kernel_rfl
theorem Sa{Q:Value→St→Prop}:lp Tryz.prog (ReflectliteType.relation "Implements" ReflectliteType.implements_ #[.agg #[DD 183],G6 149]) s Q X=Q (.bool true) s:=by kernel_rfl
theorem SU{Q:Value→St→Prop}:lp Tryz.prog (ReflectliteType.relation "AssignableTo" ReflectliteType.assignableTo #[.agg #[DD 183],G6 183]) s Q X=Q (.bool true) s:=by kernel_rfl
theorem Nu{Q:Option (TypeId×Addr×Nat)→St→Prop}(a:Addr):lp Tryz.prog (ReflectliteValue.parts (.agg #[DD 185,.pointer (some a),.int .u64 150])) s Q X=Q (some (185,a,150)) s:=by kernel_rfl
theorem Rj{Q:Option (TypeId×Addr×Nat)→St→Prop}(a:Addr):lp Tryz.prog (ReflectliteValue.parts (.agg #[DD 183,.pointer (some a),.int .u64 153])) s Q X=Q (some (183,a,153)) s:=by kernel_rfl
theorem Q1{Q:Option (TypeId×Addr×Nat)→St→Prop}(a:Addr):lp Tryz.prog (ReflectliteValue.parts (.agg #[DD 183,.pointer (some a),.int .u64 409])) s Q X=Q (some (183,a,409)) s:=by kernel_rfl
theorem Tb{Q:Option TypeId→St→Prop}:lp Tryz.prog (Rtype.elem? 185) s Q X=Q (some 183) s:=by kernel_rfl
theorem Ul{Q:Value→St→Prop}(p:Addr):lp Tryz.prog (ReflectliteValue.mk 183 p ReflectliteValue.flagAddr) s Q X=Q (.agg #[DD 183,.pointer (some p),.int .u64 409]) s:=by kernel_rfl
theorem Tz{Q:Bool→St→Prop}:lp Tryz.prog (Rtype.directlyAssignable 183 183) s Q X=Q true s:=by kernel_rfl
theorem N9{Q:Value→St→Prop}(a:Addr):lp Tryz.prog (loadVar 185 a) s Q X=(Mode.plain= .plain∧∃v,s.cell? a=some v∧Q v s):=by kernel_rfl
theorem SB{Q:Value→St→Prop}(a:Addr):lp Tryz.prog (loadVar 183 a) s Q X=(Mode.plain= .plain∧∃v,s.cell? (a.add 0)=some v∧Mode.plain= .plain∧∃w,s.cell? (a.add 1)=some w∧Q (.agg #[v,w]) s):=by kernel_rfl
end
theorem PC:Cm Tryz.prog 164 (fun args=>ReflectliteValue.unpack (args.getD 0 (.tuple #[]))):=⟨⟨_,Tryz.func164,by kernel_rfl,by kernel_rfl,by kernel_rfl,by kernel_rfl⟩⟩
theorem Uo:Cm Tryz.prog 165 (ReflectliteValue.methodAny (ReflectliteValue.valueError "reflectlite.Value.Type" 0) (fun t _ _ _=>ReflectliteType.toType t)):=⟨⟨_,Tryz.func165,by kernel_rfl,by kernel_rfl,by kernel_rfl,by kernel_rfl⟩⟩
theorem T3:Cm Tryz.prog 166 (ReflectliteValue.method (ReflectliteValue.valueError "reflectlite.Value.IsNil" 0) ReflectliteValue.isNil):=⟨⟨_,Tryz.func166,by kernel_rfl,by kernel_rfl,by kernel_rfl,by kernel_rfl⟩⟩
theorem T0:Cm Tryz.prog 188 ReflectliteType.typeOf:=⟨⟨_,Tryz.func188,by kernel_rfl,by kernel_rfl,by kernel_rfl,by kernel_rfl⟩⟩
theorem Uf:Cm Tryz.prog 189 (ReflectliteValue.method (ReflectliteValue.valueError "reflectlite.Value.Elem" 0) ReflectliteValue.elem):=⟨⟨_,Tryz.func189,by kernel_rfl,by kernel_rfl,by kernel_rfl,by kernel_rfl⟩⟩
theorem Uw:Cm Tryz.prog 190 ReflectliteValue.set:=⟨⟨_,Tryz.func190,by kernel_rfl,by kernel_rfl,by kernel_rfl,by kernel_rfl⟩⟩
theorem PK:Cm Tryz.prog 216 (ReflectliteType.abiMethod fun t=>(fun a:Nat=>Value.int IntKind.u8 (a:Int))<$>Rtype.kind t):=⟨⟨_,Tryz.func216,by kernel_rfl,by kernel_rfl,by kernel_rfl,by kernel_rfl⟩⟩
theorem TZ:Cm Tryz.prog 225 (ReflectliteType.relation "AssignableTo" ReflectliteType.assignableTo):=⟨⟨_,Tryz.func225,by kernel_rfl,by kernel_rfl,by kernel_rfl,by kernel_rfl⟩⟩
theorem TX:Cm Tryz.prog 227 (ReflectliteType.method ReflectliteType.elem):=⟨⟨_,Tryz.func227,by kernel_rfl,by kernel_rfl,by kernel_rfl,by kernel_rfl⟩⟩
theorem Us:Cm Tryz.prog 228 (ReflectliteType.relation "Implements" ReflectliteType.implements_):=⟨⟨_,Tryz.func228,by kernel_rfl,by kernel_rfl,by kernel_rfl,by kernel_rfl⟩⟩
end Pal
namespace Pal
open Go Go.Conc
theorem Qz{E H:LH}{B:List (Nat×Obj)}(i:Nat){bk:Nat}{o:Obj}(K:Nd E H B)(h:B[i]? =some (bk,o)):∃E',Le E E'∧E' bk=some o∧Nd E' H (B.eraseIdx i)∧Cf (mk E H B) (mk E' H (B.eraseIdx i)):=by
 have ae:=List.mem_of_getElem? h;have ag:E bk=none∧H bk=none:=by
  have:∀{B:List (Nat×Obj)},Nd E H B→(bk,o)∈B→E bk=none∧H bk=none:=by
   intro B K O
   induction B with
   | nil=>simp at O
   | cons q B V=>
    rcases List.mem_cons.1 O with rfl | O
    ·exact⟨K.1,K.2.1⟩
    ·exact V K.2.2.2 O
  exact this K ae
 let E':LH:=fun x=>if x=bk then some o else E x
 have aa:E' bk=some o:=by simp [E']
 have hle:Le E E':=fun x u U=>by
  have:x≠bk:=fun e=>by subst e;rw [ag.1] at U;cases U
  simp [E',this,U]
 have ah:Nd E' H (B.eraseIdx i):=by
  have:∀{B:List (Nat×Obj)} {i:Nat},Nd E H B→B[i]? =some (bk,o)→Nd E' H (B.eraseIdx i)∧∀p∈B.eraseIdx i,p.1≠bk:=by
   intro B
   induction B with
   | nil=>intro i _ h;simp at h
   | cons q B V=>
    obtain⟨c,v⟩:=q;intro i K h;have up:∀{B:List (Nat×Obj)},Nd E H B→(∀p∈B,p.1≠bk)→Nd E' H B:=by
     intro B K ab
     induction B with
     | nil=>trivial
     | cons q B ai=>exact⟨by simpa [E',ab q (by simp)] using K.1,K.2.1,K.2.2.1,ai K.2.2.2 fun p O=>ab p (List.mem_cons_of_mem _ O)⟩
    cases i with
    | zero=>
     simp at h;obtain⟨rfl,rfl⟩:=h;exact⟨up K.2.2.2 K.2.2.1,K.2.2.1⟩
    | succ i=>
     simp at h;obtain⟨Y,Z⟩:=V K.2.2.2 h;have ac:c≠bk:=fun e=>K.2.2.1 (bk,o) (List.mem_of_getElem? h) e.symm;refine⟨⟨by simpa [E',ac] using K.1,K.2.1,fun p O=>K.2.2.1 p (List.mem_of_mem_eraseIdx O),Y⟩,fun p O=>?_⟩;rcases List.mem_cons.1 O with rfl | O
     ·exact ac
     ·exact Z p O
  exact(this K h).1
 refine⟨E',hle,aa,ah,⟨fun x u U=>hle x u U,fun x u U=>(IY K h U).2,fun x u U=>?_,rfl⟩⟩;by_cases e:x=bk
 ·subst e;right;have:u=o:=by have:E' x=some u:=U;rw [aa] at this;exact(Option.some.inj this).symm
  subst this;refine⟨GO K h,?_⟩;cases aj:(mk E' H (B.eraseIdx i)).H x with
  | none=>rfl
  | some y=>exact absurd rfl (IY K h aj).1
 ·left;have Y:E' x=some u:=U;have Z:E' x=E x:=by simp [E',e]
  show E x=some u;rw [← Z];exact Y
theorem Qs{E H:LH}{B0:List (Nat×Obj)}{e:TypeId}{K l c:Nat}{a:Option Addr}{blk:List (Nat×Obj)}{xs:Lv_}(hg:GS e K a l c blk xs)(U:Nd E H (B0++blk)):∃E',Le E E'∧Lu E' K (.slice a l c) l xs∧Nd E' H B0∧Cf (mk E H (B0++blk)) (mk E' H B0):=by
 rcases hg with⟨rfl,rfl,rfl,rfl,rfl⟩ | ⟨bk,f,rfl,rfl,aa,V,rfl⟩
 ·simp only [List.append_nil] at U ⊢;exact⟨E,Le.refl _,.nil,U,.refl _⟩
 ·have ab:(B0++ [(bk,Obj.cells f e (0,0))])[B0.length]? =some (bk,Obj.cells f e (0,0)):=by simp
  obtain⟨E',hle,ac,Y,Z⟩:=Qz B0.length U ab;have ae:(B0++ [(bk,Obj.cells f e (0,0))]).eraseIdx B0.length=B0:=by rw [List.eraseIdx_append_of_length_le (Nat.le_refl _)];simp
  rw [ae] at Y Z;refine⟨E',hle,⟨_,c,rfl,V,?_,.inr ⟨bk,0,f,e,(0,0),rfl,ac,fun j w O=>?_⟩⟩,Y,Z⟩
  ·have:l*K≤c*K:=Nat.mul_le_mul_right _ V;simp [aa,Nat.min_eq_left this]
  ·rw [List.getElem?_take] at O;split at O
   ·simpa using O
   ·cases O
theorem Qx{α:Type}{pp:Rp α}{E H:LH}{S:List Seg}{e:TypeId}{a:Option Addr}{c:Nat}{seg:Seg}{xs:List α}(j:Nat)(hg:OL e pp E a c seg xs)(ae:Ar E H S)(ag:S[j]? =some seg):∃E',Le E E'∧Aq pp E' a c xs∧Ar E' H (S.set j [])∧Cf (Am E H S) (Am E' H (S.set j [])):=by
 obtain⟨Y,hg,Z,aa⟩:=hg;have ah:∀ad:Addr,a=some ad→ad.spot=none:=fun ad K=>by
  rcases hg with⟨O,_⟩ | ⟨bk,f,O,_⟩
  ·rw [O] at K;cases K
  ·rw [O] at K;cases K;rfl
 obtain⟨O,ai⟩:=EL ae ag;obtain⟨E',hle,aj,ak,ab⟩:=Qs hg ai;rw [← O] at ab;refine⟨E',hle,?_,ak,ab⟩;obtain⟨al,am,U,an,au,V⟩:=aj;obtain⟨rfl,-,rfl⟩:a=al∧xs.length=xs.length∧c=am:=by
  simp only [Value.slice.injEq] at U;exact⟨U.1,rfl,U.2.2⟩
 refine⟨an,?_⟩;rcases V with V | ⟨bk,off,f,ao,fr,ap,g2,aq⟩
 ·exact .inl ⟨List.eq_nil_of_length_eq_zero V,fun ad K=> .inl (ah ad K)⟩
 ·refine .inr ⟨bk,off,ap,fun i x ac=>?_⟩;have ar:i<Y.length:=by rw [Z];exact(List.getElem?_eq_some_iff.1 ac).1
  have hw:=List.getElem?_eq_getElem ar;refine⟨Y[i],pp.Ad hle (aa i x _ ac hw),f,ao,fr,g2,fun m w hm=>?_⟩;rw [Nat.add_assoc];exact aq _ w (H3 (GM Z aa) hw m w hm)
theorem Cf.get{s s₀:St}(h:Cf s s₀){b:Nat}{o:Obj}(hg:s₀.get b=some o):s.get b=some o:=by
 unfold St.get at hg ⊢;cases K:s₀.E b with
 | some o'=>
  rw [K] at hg;simp only at hg;cases hg;rcases h.Ds _ _ K with O | ⟨O,_⟩
  ·rw [O]
  ·cases he:s.E b with
   | none=>exact O
   | some U=>
    have:=h.ext _ _ he;rw [K] at this;cases this;rfl
 | none=>
  rw [K] at hg;simp only at hg;cases he:s.E b with
  | none=>exact h.own _ _ hg
  | some U=>
   have:=h.ext _ _ he;rw [K] at this;cases this
theorem Cf.upd{s s₀:St}(h:Cf s s₀){b:Nat}(o:Obj)(hb:(∃u,s₀.H b=some u)∨s₀.E b=none):Cf (s.upd b o) (s₀.upd b o):=by
 refine⟨h.ext,fun x u K=>?_,fun x u K=>?_,h.q⟩
 ·simp only [St.upd] at K ⊢;by_cases e:x=b
  ·rw [if_pos e] at K ⊢;exact K
  ·rw [if_neg e] at K ⊢;exact h.own _ _ K
 ·have O:s₀.E x=some u:=K;rcases h.Ds _ _ O with U | ⟨U,V⟩
  ·exact .inl U
  ·refine .inr ?_;have e:x≠b:=fun e=>by
    subst e;rcases hb with⟨w,hw⟩ | hb
    ·rw [hw] at V;cases V
    ·rw [hb] at O;cases O
   simp only [St.upd,if_neg e];exact⟨U,V⟩
theorem Cf.none{s s₀:St}(h:Cf s s₀){b:Nat}(U:s.E b=none)(O:s.H b=none):s₀.E b=none∧s₀.H b=none:=by
 constructor
 ·cases he:s₀.E b with
  | none=>rfl
  | some o=>
   rcases h.Ds _ _ he with K | ⟨K,_⟩
   ·rw [U] at K;cases K
   ·rw [O] at K;cases K
 ·cases he:s₀.H b with
  | none=>rfl
  | some o=>have:=h.own _ _ he;rw [O] at this;cases this
theorem R0{P:Program}{α:Type}(x:Sem α):∀{s s₀:St} {Q:α→St→Prop} {X:Halt→St→Prop},Cf s s₀→lp P x s₀ Q X→lp P x s (fun a s'=>∃Y,Cf s' Y∧Q a Y) (fun h s'=>∃Y,Cf s' Y∧X h Y):=by
 induction x with
 | pure a=>intro s s₀ Q X g h;exact⟨s₀,g,h⟩
 | load m a k K=>
  intro s s₀ Q X g h;obtain⟨O,v,U,V⟩:=h;obtain⟨o,ab,ac⟩:=Option.bind_eq_some_iff.1 U;exact⟨O,v,by unfold St.cell?;rw [g.get ab];exact ac,K v g V⟩
 | store m a v k K=>
  intro s s₀ Q X g h;obtain⟨O,U,o,V,ae,ag,ah⟩:=h;exact⟨O,U,o,g.own _ _ V,ae,ag,K (g.upd _ (.inl ⟨o,V⟩)) ah⟩
 | new o k K=>
  intro s s₀ Q X g h;refine⟨by rw [← g.q];exact h.1,fun r O U=>?_⟩;obtain⟨aa,e2⟩:=g.none O U;exact K r (g.upd _ (.inr aa)) (h.2 r aa e2)
 | shape r k K=>intro s s₀ Q X g h;obtain⟨o,O,U⟩:=h;exact⟨o,g.get O,K _ g U⟩
 | freeze a n k K=>intro s s₀ Q X g h;exact h.elim
 | frozen a k K=>intro s s₀ Q X g h;obtain⟨o,O,U⟩:=h;exact⟨o,g.get O,K _ g U⟩
 | getObj r k K=>intro s s₀ Q X g h;obtain⟨o,O,U,V⟩:=h;exact⟨o,g.get O,U,K _ g V⟩
 | setObj r o k K=>
  intro s s₀ Q X g h;obtain⟨⟨o',O,ai⟩,U,V⟩:=h;exact⟨⟨o',g.own _ _ O,ai⟩,U,K (g.upd _ (.inl ⟨o',O⟩)) V⟩
 | choose q k K=>
  intro s s₀ Q X g h;simp only [lp] at h ⊢;split
  ·rename_i Z;rw [if_pos Z] at h;exact K _ g h
  ·rename_i Z;rw [if_neg Z] at h;exact⟨by rw [← g.q];exact h.1,fun t=>K _ g (h.2 t)⟩
 | sys c k K=>intro s s₀ Q X g h;exact h.elim
 | program k K=>intro s s₀ Q X g h;exact K _ g h
 | mark m k K=>
  intro s s₀ Q X g h;refine⟨?_,K g h.2⟩;rcases h.1 with⟨O,U⟩ | O
  ·exact .inl ⟨by rw [← g.q];exact O,U⟩
  ·exact .inr O
 | halt h=>intro s s₀ Q X g aj;exact⟨s₀,g,aj⟩
section
variable {P:Program}{J:Judge P}{Q:Gs_}{b:Frame}{n:Nat}{ds:Ld_}{ops:Ao_}{k:Li_}{cs:Lf_}{m fuel:Nat}{D:Nat→Bool}{listed:Array Bool}{L:Env}{s:St}{E E' H:LH}{S:List Seg}
variable {d:Option Tmp}{x y:Operand}{t u ty e:TypeId}{p:String}{af:Ae_}{g:On_}{v:Value}{i:Nat}{kd:IntKind}
theorem JA.ghost:∀(fuel:Nat) {listed:Array Bool} {T:Aw} {s s₀:St},Cf s s₀→JA J Q b ds ops k cs m CQ fuel listed T s₀→JA J Q b ds ops k cs m CQ fuel listed T s
 | 0,listed,T,s,s₀,g,h=>⟨h.1,J.ghost g h.2⟩
 | fuel+1,listed,T,s,s₀,g,h=>by
  rcases h with⟨O,U⟩ | ⟨O,U,Z⟩
  ·exact .inl ⟨O,fun t=>J.ghost g (U t)⟩
  ·refine .inr ⟨O,by rw [← g.q];exact U,fun i hi o aa=>?_⟩;obtain⟨ab,ac,ae⟩:=Z i hi o aa;refine⟨ab,fun e=>JA.ghost fuel g (ac e),fun e=>?_⟩;have ag:=R0 _ (s:=Bu CQ s) (s₀:=Bu CQ s₀) g (ae e);refine CO _ ag ?_ (fun _ s' ⟨_,_,h⟩=>h);intro ah s' K;obtain⟨V,Y,K⟩:=K;cases ah with
   | value v=>exact JA.ghost fuel (s:=s') (s₀:=V) Y K
   | skip=>exact JA.ghost fuel (s:=s') (s₀:=V) Y K
   | enter f args=>
    obtain⟨R,ai,aj⟩:=K;refine⟨R,fun Q c cs ak=>J.ghost (s:=s') (s₀:=V) Y (ai Q c cs ak),fun v al am=>?_⟩;obtain⟨an,ao,ap⟩:=aj v al am;exact⟨an,fun x o K=>ao x o (g.ext x o K),ap⟩
   | _=>exact K.elim
theorem BF{α:Type}{pp:Rp α}{a:Option Addr}{c:Nat}{seg:Seg}{xs:List α}(j:Nat)(hg:OL e pp E a c seg xs)(K:Ar E H S)(O:S[j]? =some seg)
  (h:∀E',Le E E'→Aq pp E' a c xs→Ar E' H (S.set j [])→AQ J Q b n ds ops k cs m CQ fuel listed L (Am E' H (S.set j []))):AQ J Q b n ds ops k cs m CQ fuel listed L (Am E H S):=fun T U=>by
 obtain⟨E',V,Y,Z,aa⟩:=Qx j hg K O
 exact JA.ghost _ aa (h E' V Y Z T U)
end
end Pal
namespace Pal
open Go Go.Conc
section
variable {P:Program}{J:Judge P}{Q:Gs_}{b:Frame}{n:Nat}{L:Env}{ds:Ld_}{k:Li_}{cs:Lf_}{s:St}{ops:Ao_}{i:Nat}{rest:List Nat}{v:Value}
variable {d:Option Tmp}{x:Operand}{ty:TypeId}{p:String}{af:Ae_}{g:On_}
theorem NI{f:FuncId}{e:Aw→Sem Value}{args:Aw}{Q:Next→St→Prop}{X:Halt→St→Prop}(he:Cm P f e)(h:lp P (e args) s (fun v s'=>Q (.value v) s') X):lp P (callFunc f args) s Q X:=by
 obtain⟨fn,K,O,U,V,Y⟩:=he.h;unfold callFunc;simp only [bind,Sem.bind,program,lp,K,O,U,Bool.false_eq_true,if_false,if_true,mark,V,Y];refine⟨.inr ⟨f,rfl⟩,?_⟩;exact Ay _ _ (CO _ h (fun v s' Z=>Z) (fun _ _ aa=>aa))
theorem HQ{f:FuncId}{e:Aw→Sem Value}{args:Array Operand}{ats:Array TypeId}{vs:Lv_}(he:Cm P f e)(O:ops[i]? =some ⟨d,.call ⟨.value (.func f),args,ats⟩,ty,p,af,g⟩)(hw:A5 L ops ⟨d,.call ⟨.value (.func f),args,ats⟩,ty,p,af,g⟩=some true)(U:Ct b n ⟨d,.call ⟨.value (.func f),args,ats⟩,ty,p,af,g⟩=true)(V:evs L args.toList=some vs)
  (h:lp P (e vs.toArray) s (fun v s'=>JL J Q b n (Ax L d v) ds (.inRegion ops rest::k) cs s') (fun _ _=>False)):JL J Q b n L ds (.inRegion ops (i::rest)::k) cs s:=by
 refine JL.op O hw U fun ρ K=>?_;have Y:args.map ρ=vs.toArray:=by
  rw [← EX K V];apply Array.ext';simp
 have Z:ρ (.func f)= .func (.func f) #[] #[]:=K _ _ rfl;simp only [execOp,resolve,bind,Sem.bind,Deferred.ofValue,Z,pure,invoke];have aa: #[]++args.map ρ++ #[]=vs.toArray:=by rw [Y];simp
 rw [aa];exact NI he h
theorem Jq{t:TypeId}{K O:Value}{name:String}{f:FuncId}{e:Aw→Sem Value}{args:Array Operand}{ats:Array TypeId}{vs:Lv_}(he:Cm P f e)(hm:∀{s:St} {X:Halt→St→Prop} {Q:FuncId×Value→St→Prop},lp P (Go.method (P.types.size+Made.depth) t K name) s Q X=Q (f,O) s)
  (V:ops[i]? =some ⟨d,.call ⟨.invoke x name,args,ats⟩,ty,p,af,g⟩) (hw:A5 L ops ⟨d,.call ⟨.invoke x name,args,ats⟩,ty,p,af,g⟩=some true) (Y:Ct b n ⟨d,.call ⟨.invoke x name,args,ats⟩,ty,p,af,g⟩=true) (Z:ev L x=some (.iface t K)) (aa:evs L args.toList=some vs)
  (h:lp P (e (O::vs).toArray) s (fun v s'=>JL J Q b n (Ax L d v) ds (.inRegion ops rest::k) cs s') (fun _ _=>False)):JL J Q b n L ds (.inRegion ops (i::rest)::k) cs s:=by
 refine JL.op V hw Y fun ρ U=>?_;have ab:args.map ρ=vs.toArray:=by
  rw [← EX U aa];apply Array.ext';simp
 have ac:ρ x= .iface t K:=U _ _ Z;simp only [execOp,resolve,bind,Sem.bind,pure,invoke,ac,ab];have ae:(#[Value.iface t K]++vs.toArray)[0]? =some (.iface t K):=by simp
 have ag:(#[Value.iface t K]++vs.toArray).extract 1 (#[Value.iface t K]++vs.toArray).size=vs.toArray:=by
  apply Array.ext';simp
 simp only [ae,ag,callMethod,bind,Sem.bind,program,lp];refine Ay _ _ ?_;rw [hm];have e2: #[O]++vs.toArray=(O::vs).toArray:=by apply Array.ext';simp
 rw [e2];exact NI he h
end
end Pal
namespace Pal
open Go Go.Conc Go.Proofs
open Go.Proofs.Tryz
variable {J:Judge Tryz.prog}{E:LH}
def f135(fuel:Nat):Option Bool:= some false
theorem T6{O:Value}{fuel:Nat}{r:Bool}(K:f135 fuel=some r):AT J 135 [.nilIface,O] E [] (fun w E' B'=>w= .bool r∧B'= []):=by
 refine Bm func135 fun Q Y cs H U V=>?_;unfold f135 at K;refine zg 8 rfl ?_;refine Av (v:= .bool true) rfl (fun ρ h=>NY underlying149 (show G8 0 .nilIface none from rfl) (h _ _ rfl) (h _ _ rfl)) (zg 6 rfl ?_);obtain rfl:=oi K;exact AS func135 rfl rfl (V Ak rfl ⟨rfl,rfl⟩ U)
def f112(fuel:Nat):Option Int:= (f135 fuel).bind fun K=> if K=true then(some 0) else(some 0)
theorem T8{fuel:Nat}{r:Int}(O:f112 fuel=some r):AT J 112 [.nilIface] E [] (fun w E' B'=>w=iV r∧B'= []):=by
 refine Bm func112 fun Q ak cs H Y U=>?_;unfold f112 at O;refine zg 6 rfl (Ci Y EG fun Z aa=>?_);refine zg 5 rfl (Av (v:=(.iface 185 (pV Z 0))) rfl (fun ρ h=>Ed underlying185 (fun _ h=>by cases h) (h _ _ rfl)) ?_);obtain⟨al,ab,ac⟩:=bs O;refine Ba (T6 ab) rfl rfl (Bc func135 rfl) aa fun am V K=>JL.done (BO ac (fun ae ag=>?_) (fun ae ah=>?_))
 ·refine zg 2 rfl (BJ underlying183 (A3 type39) rfl rfl rfl ?_);refine Av (v:=iV 0) rfl (fun ρ h=>Yl.load (Dc underlying39) (h _ _ rfl) (Cu (j:=1) (off:=0) K rfl rfl)) (zg 2 rfl ?_);refine JS.drop 1 K rfl fun ai=>?_;obtain rfl:=oi ag;exact AS func112 rfl rfl (U V rfl ⟨rfl,rfl⟩ ai)
 ·refine zg 5 rfl (JS.drop 1 K rfl fun aj=>?_);obtain rfl:=oi ah;exact AS func112 rfl rfl (U V rfl ⟨rfl,rfl⟩ aj)
end Pal
namespace Pal
open Go Go.Conc Go.Proofs Go.Extern
def Mh(b:Frame)(n:Nat):Nat→Li_→Env→Li_×Env
 | 0,k,L=>(k,L)
 | m+1,k,L=>match KZ b n L k with
  | some (k',L')=>Mh b n m k' L'
  | none=>(k,L)
theorem zm{P:Program}{J:Judge P}{Q:Gs_}{b:Frame}{n:Nat}{ds:Ld_}{cs:Lf_}{s:St}:∀(m:Nat) {L L':Env} {k k':Li_},Mh b n m k L=(k',L')→JL J Q b n L' ds k' cs s→JL J Q b n L ds k cs s
 | 0,L,L',k,k',h,K=>by cases h;exact K
 | m+1,L,L',k,k',h,K=>by
  unfold Mh at h
  split at h
  ·rename_i e;exact Pu e (zm m h K)
  ·cases h;exact K
theorem NW{E H:LH}{S:List Seg}{r:Nat}{o:Obj}(K:Ar E H S)(O:(Am E H S).E r=none)(U:(Am E H S).H r=none):Ar E H (S++ [[(r,o)]])∧(Am E H S).upd r o=Am E H (S++ [[(r,o)]]):=by
 obtain⟨a,b⟩:=HG O U o K;obtain⟨c,d⟩:=Ee a;exact⟨d,b.trans c⟩
theorem TW{s:St}{X:Halt→St→Prop}{Q:Value→St→Prop}{o:Operand}(p:Addr):lp Tryz.prog (do eqGuard .eql 20 o (.const .nilIface) (.iface 185 (.pointer (some p))) .nilIface;binOp .eql 20 (.iface 185 (.pointer (some p))) .nilIface) s Q X=Q (.bool false) s:=by kernel_rfl
theorem SL{s:St}{ρ:Operand→Value}{d:Option Tmp}{x:Operand}{u ty:TypeId}{p:String}{af:Ae_}{g:On_}{a:Addr}(K:ρ x= .iface 185 (.pointer (some a)))(O:ρ (.const .nilIface)= .nilIface):Yl Tryz.prog ⟨d,.binOp .eql 20 x (.const .nilIface) u,ty,p,af,g⟩ ρ s (.bool false):=by
 refine El (sm:=do eqGuard .eql 20 x (.const .nilIface) (ρ x) (ρ (.const .nilIface));binOp .eql 20 (ρ x) (ρ (.const .nilIface))) rfl ?_
 rw [K,O];exact(TW a).mpr ⟨rfl,rfl⟩
theorem Qe(z:Sem Value)(f:TypeId→Addr→Nat→Nat→Sem Value)(v:Value):ReflectliteValue.method z f #[v]=Sem.bind (ReflectliteValue.parts v) (fun x=>match x with | none=>z | some (t,a,K)=>f t a K (K % 32)):=rfl
theorem RO{s:St}{X:Halt→St→Prop}{Q:Value→St→Prop}(a p:Addr)(K:s.cell? a=some (.pointer (some p)))(h:Q (.bool false) s):lp Tryz.prog (ReflectliteValue.method (ReflectliteValue.valueError "reflectlite.Value.IsNil" 0) ReflectliteValue.isNil #[.agg #[DD 185,.pointer (some a),.int .u64 150]]) s Q X:=by
 rw [Qe];refine Ay (x:=ReflectliteValue.parts _) _ ((Nu a).mpr ?_);show lp Tryz.prog (Sem.bind (loadVar 185 a) _) s Q X;exact Ay (x:=loadVar 185 a) _ ((N9 a).mpr ⟨rfl,_,K,h⟩)
theorem Ru{s:St}{X:Halt→St→Prop}{Q:Value→St→Prop}(a p:Addr)(K:s.cell? a=some (.pointer (some p)))(h:Q (.agg #[DD 183,.pointer (some p),.int .u64 409]) s):lp Tryz.prog (ReflectliteValue.method (ReflectliteValue.valueError "reflectlite.Value.Elem" 0) ReflectliteValue.elem #[.agg #[DD 185,.pointer (some a),.int .u64 150]]) s Q X:=by
 rw [Qe];refine Ay (x:=ReflectliteValue.parts _) _ ((Nu a).mpr ?_);show lp Tryz.prog (Sem.bind (loadVar 185 a) _) s Q X;refine Ay (x:=loadVar 185 a) _ ((N9 a).mpr ⟨rfl,_,K,?_⟩);refine Ay (x:=Rtype.elem? 185) _ (Tb.mpr ?_);exact(Ul p).mpr h
theorem U1(v x:Value):ReflectliteValue.set #[v,x]=(do
  let (some (dst,a,K),some (src,b,_)):=(← ReflectliteValue.parts v,← ReflectliteValue.parts x)
   | unsupported (.noEntry "extern/(internal/reflectlite.Value).Set.zeroValue")
  if K / ReflectliteValue.flagAddr % 2==0 then unsupported (.noEntry "extern/(internal/reflectlite.Value).Set.unaddressable")
  let val ← loadVar src b
  if ← Rtype.directlyAssignable dst src then storeVar dst a val
  else if ← Rtype.implements dst src then
   if(← Rtype.kind src)==20 then
    match val with
    | .nilIface=>unsupported (.noEntry "extern/reflectlite: a nil value of one interface type handed on as a value of another")
    | _=>storeVar dst a val
   else storeVar dst a (.iface src val)
  else panicString ("reflectlite.Set: value of type " ++(← Rtype.spelt src)++ " is not assignable to type " ++(← Rtype.spelt dst))
  pure (.tuple #[])):=rfl
theorem Tn{E H:LH}{S:List Seg}{X:Halt→St→Prop}{Q:Value→St→Prop}{bk r:Nat}{u w:Value}{c a:Int}(j:Nat)(V:Ar E H S)(K:S[j]? =some [(bk,.cells #[u,w] 183 (0,0))])(O:At E r 0 [iV c,iV a])(h:Ar E H (S.set j [(bk,.cells #[iV c,iV a] 183 (0,0))])→Q (.tuple #[]) (Am E H (S.set j [(bk,.cells #[iV c,iV a] 183 (0,0))]))):
  lp Tryz.prog (ReflectliteValue.set #[.agg #[DD 183,.pointer (some ⟨bk,0,none⟩),.int .u64 409],.agg #[DD 183,.pointer (some ⟨r,0,none⟩),.int .u64 153]]) (Am E H S) Q X:=by
 rw [U1];refine Ay (x:=ReflectliteValue.parts _) _ ((Q1 _).mpr ?_);refine Ay (x:=ReflectliteValue.parts _) _ ((Rj _).mpr ?_);refine Ay (x:=loadVar 183 _) _ ((SB _).mpr ⟨rfl,_,At.Iu (j:=0) O rfl,rfl,_,At.Iu (j:=1) O rfl,?_⟩);refine Ay (x:=Rtype.directlyAssignable 183 183) _ (Tz.mpr ?_);refine Ay (x:=storeVar 183 _ _) _ ?_;obtain⟨Y,Z⟩:=EL V K;rw [Y];refine Kd (pl:=(S.set j []).flatten.length) (A3 Tryz.type183) (by simp [Value.cells,AL]) Z (c:= #[u,w]) (e:=183) (by simp) (by simp [Value.cells]) fun U=>?_;have aa:((S.set j []).flatten++ [(bk,Obj.cells #[u,w] 183 (0,0))]).set (S.set j []).flatten.length (bk,.cells (AI #[u,w] 0 (Value.agg #[iV c,iV a]).cells.toList) 183 (0,0))=(S.set j []).flatten++ [(bk,.cells #[iV c,iV a] 183 (0,0))]:=Gq _ _ _ _;rw [aa] at U ⊢;obtain⟨ab,ac⟩:=F9 (seg':= [(bk,.cells #[iV c,iV a] 183 (0,0))]) K U;rw [ab];exact h ac
variable {J:Judge Tryz.prog}{E:LH}
theorem UP{c a:Int}{bk r:Nat}{u w:Value}(O:At E r 0 [.pointer (some ⟨bk,0,none⟩)]):AT J 167 [.iface 183 (.agg #[iV c,iV a]),.iface 185 (.pointer (some ⟨bk,0,none⟩)),.agg #[DD 185,.pointer (some ⟨r,0,none⟩),.int .u64 150],G6 183] E [(bk,.cells #[u,w] 183 (0,0))] (fun v E' B'=>v= .bool true∧B'= [(bk,.cells #[iV c,iV a] 183 (0,0))]):=by
 refine Im Tryz.func167 rfl rfl fun Q al cs H U V=>zm 60 rfl (JS.box (v:= .agg #[DD 185,.pointer (some ⟨r,0,none⟩),.int .u64 150]) rfl rfl rfl U rfl fun am Y=>?_);refine Cn 1 Y rfl fun an K Z aa=>zm 60 rfl (HB ?_);refine zm 60 rfl (HQ T0 rfl rfl rfl rfl ?_);refine(QY _).mpr ?_;refine zm 60 rfl (Jq TZ (UN _) rfl rfl rfl rfl rfl ?_);refine SU.mpr (zm 60 rfl ?_);refine BZ Z JM IX rfl rfl (HQ Uf rfl rfl rfl rfl ?_);refine Ru ⟨r,0,none⟩ ⟨bk,0,none⟩ (At.Iu (j:=0) (O.Ad K) rfl) (zm 60 rfl ?_);refine HQ PC rfl rfl rfl rfl ?_;refine(QG c a).mpr ⟨rfl,fun ao ab ac=>?_⟩;obtain⟨ae,ag⟩:=NW (o:= .cells #[iV c,iV a] 183 (0,0)) aa ab ac;rw [ag];refine Cn 2 ae rfl fun ap ah ai aj=>HQ Uw rfl rfl rfl rfl (Tn 0 aj rfl ai fun ak=>?_);refine zm 60 rfl (AS Tryz.func167 rfl rfl ?_);exact V _ _ _ _ (K.trans ah) rfl ⟨rfl,rfl⟩ ak
theorem UH{c a:Int}{bk:Nat}{u w:Value}(Y:At E 0 0 [G6 149]):AT J 135 [.iface 183 (.agg #[iV c,iV a]),.iface 185 (.pointer (some ⟨bk,0,none⟩))] E [(bk,.cells #[u,w] 183 (0,0))] (fun v E' B'=>v= .bool true∧B'= [(bk,.cells #[iV c,iV a] 183 (0,0))]):=by
 refine Im Tryz.func135 rfl rfl fun Q an cs H Z aa=>zm 60 rfl ?_;refine Av (v:= .bool false) rfl (fun ρ h=>NY Tryz.underlying149 (show G8 183 (.iface 183 (.agg #[iV c,iV a])) (some (c,a)) from rfl) (h _ _ rfl) (h _ _ rfl)) (zm 60 rfl ?_);refine Av rfl (fun ρ h=>SL (h _ _ rfl) (h _ _ rfl)) (zm 60 rfl ?_);refine HQ PC rfl rfl rfl rfl ?_;refine(QC _).mpr ⟨rfl,fun r ab ac=>?_⟩;obtain⟨ae,ag⟩:=NW (o:= .cells #[.pointer (some ⟨bk,0,none⟩)] 185 (0,0)) Z ab ac;rw [ag];refine JS.alloc rfl rfl rfl ae (Dw Tryz.type210) fun ao ah=>PW (v:= .agg #[DD 185,.pointer (some ⟨r,0,none⟩),.int .u64 150]) (off:=0) 2 ah IX rfl rfl rfl rfl fun ai=>zm 60 rfl (Cn 1 ai rfl fun ap U V aj=>?_);refine Cn 2 aj rfl fun aq K O ak=>BZ O JM IX rfl rfl (HQ Uo rfl rfl rfl rfl ?_);refine(Sn _).mpr ?_;refine zm 60 rfl (Jq PK (PO _) rfl rfl rfl rfl rfl ?_);refine Sg.mpr (zm 60 rfl ?_);refine BZ (O) JM IX rfl rfl (HQ T3 rfl rfl rfl rfl ?_);refine RO ⟨r,0,none⟩ ⟨bk,0,none⟩ (At.Iu (j:=0) (V.Ad K) rfl) (zm 60 rfl ?_);refine Jq TX (UE _) rfl rfl rfl rfl rfl (Sf.mpr ?_);refine zm 60 rfl (Jq PK (PO _) rfl rfl rfl rfl rfl ?_);refine RX.mpr (zm 60 rfl ?_);refine Cv 0 (Y.Ad (U.trans K)) (Dc Tryz.underlying213) rfl rfl rfl (Jq Us (UB _) rfl rfl rfl rfl rfl ?_);refine Sa.mpr (zm 60 rfl ?_);refine Av (v:= .bool (!true)) rfl (fun ρ h=>Yl.not (h _ _ rfl)) (zm 60 rfl ?_);refine BZ (O) JM IX rfl rfl (zm 60 rfl ?_);refine CZ 0 (UP (V.Ad K)) rfl rfl (Bc Tryz.func167 rfl) ak rfl ?_;rintro _ ar _ al ⟨rfl,rfl⟩ am;refine zm 60 rfl (AS Tryz.func135 rfl rfl ?_);exact aa _ _ _ _ ((U.trans K).trans al) rfl ⟨rfl,rfl⟩ am
theorem Sj{c a:Int}(K:At E 0 0 [G6 149]):AT J 112 [.iface 183 (.agg #[iV c,iV a])] E [] (fun v E' B'=>v=iV c∧B'= []):=by
 refine Im Tryz.func112 rfl rfl fun Q ae cs H O U=>zm 60 rfl (JS.alloc rfl rfl rfl O EG fun ag V=>?_);refine zm 60 rfl (Av rfl (fun ρ h=>Ed Tryz.underlying185 (fun ms e=>by cases e) (h _ _ rfl)) ?_);refine CZ 1 (UH (u:=iV 0) (w:=iV 0) K) rfl rfl (Bc Tryz.func135 rfl) V rfl ?_;rintro _ ah _ Y ⟨rfl,rfl⟩ Z;refine Cn 1 Z rfl fun ai aa ab ac=>zm 60 rfl (BJ Tryz.underlying183 (A3 Tryz.type39) rfl rfl rfl ?_);refine Cv 0 ab (Dc Tryz.underlying39) rfl rfl rfl (zm 60 rfl ?_);exact AS Tryz.func112 rfl rfl (U _ _ _ _ (Y.trans aa) rfl ⟨rfl,rfl⟩ ac)
abbrev GE(E:LH):Prop:=At E 0 0 [G6 149]
def Lc(fuel:Nat)(p0:Option (Int×Int)):Option Int:=match p0 with
 | none=>f112 fuel
 | some q=>some q.1
theorem Ma{v:Value}{p0:Option (Int×Int)}(O:GE E)(h:G8 183 v p0){fuel:Nat}{r:Int}(K:Lc fuel p0=some r):AT J 112 [v] E [] (fun w E' B'=>w=iV r∧B'= []):=by
 match p0,h with
 | none,h=>obtain rfl:v= .nilIface:=h;exact T8 K
 | some (c,a),h=>
  obtain rfl:v= .iface 183 (.agg #[iV c,iV a]):=h;cases K;exact Sj O
end Pal
namespace Pal
open Go Go.Conc Go.Proofs Go.ChangeShapes Go.WideShapes Go.ChangeAt Go.RowKit
open Go.Proofs.YtboibffcmhheiaaGreatDoor
section
variable {H:Type}{enc:TypeId×Value→H}{W:World}{fuel:Nat}{cs:Lv_}{x:DataW H×List MemPlace}
end
theorem Tryz.Tx:Tryz.prog.globalNamed "errors.errorType" =some 0:=by kernel_rfl
theorem Tryz.TU:(Tryz.prog.cutTypes.find? (·.1== "internal/reflectlite.rtype")).map (·.2)=some 240:=by kernel_rfl
theorem Tryz.Tg:Tryz.prog.globals.size=1:=by kernel_rfl
theorem Tryz.UF:(List.range Tryz.prog.types.size).all (fun t=> !Tryz.prog.rowNamed t [101,114,114,111,114] || t==149)=true:=by kernel_rfl
theorem TA{W:World}(h:laidMetH Tryz.prog [("errors.errorType",Rows.laid_errors_errorType)] W.memory):GE (Hz W).E:=by
 have U:=h.2 _ (List.mem_cons_self ..);obtain⟨name,u,ty,V,Y,Z,aa,K⟩:=U;have ab:name= [101,114,114,111,114]:=(Option.some.inj V).symm;have e2:u=240:=Option.some.inj (Y.symm.trans Tryz.TU);subst ab;subst e2;have ac:ty=149:=by
  have:=List.all_eq_true.1 Tryz.UF ty (List.mem_range.2 Z);rw [aa] at this;simpa using this
 subst ac;unfold World.var? at K;rw [Tryz.Tx] at K;simp only [Option.bind_some] at K;split at K
 ·rename_i c e f hW;simp only [Option.some.injEq] at K;subst K;refine⟨_,e,f,hW,fun j w O=>?_⟩;have ae:typeHandle Tryz.prog 149= .pointer (some ⟨1,149,none⟩):=by unfold typeHandle;rw [Tryz.Tg]
  rw [ae]
  match j,O with
  | 0,O=>simp at O;subst O;rfl
  | j+1,O=>simp at O
 ·cases K
end Pal
namespace Pal
open Go Go.Conc Go.Proofs Go.ChangeShapes Go.WideShapes Go.ChangeAt Go.RowKit
open Go.Proofs.YtboibffcmhheiaaGreatDoor
section
variable {H:Type}{enc:TypeId×Value→H}{W:World}{fuel:Nat}{cs:Lv_}{x:DataW H×List MemPlace}
end
end Pal
namespace Pal
open Go Go.Conc Go.Proofs
open Go.Proofs.Tryz
variable {J:Judge Tryz.prog}{E:LH}
def Oq(fuel:Nat)(p0:BG)(O:(List Int))(K:Nat×Int):Option (Bz (Nat×Int) Nat):= if K.2<(O.length:Int) then((ix O K.2).bind fun U=> (ix p0.1 U).bind fun V=> (f120 fuel V).bind fun Y=> (IK K.1 Y).bind fun Z=> (AA (K.2+1)).bind fun aa=> some (.more (Z,aa))) else(some (.done K.1))
def f121(fuel:Nat)(p0:BG)(p1:Nat):Option Nat:= (f89 fuel p1).bind fun K=> Option.bind (iter (Oq fuel p0 K) fuel (0,0)) fun O=> some O
theorem Uv{k1:Nat}{o2:Nat}{Y:Az}{Z:Nat}{aa:Az}{ab:Nat}{ac:Lv_}{p0:BG}{p1:Nat}(ak:At E k1 o2 (([sV Y p0.1 Z,sV aa p0.2.1 ab]:Lv_)++ac))(al:Aq (rL rI) E Y Z p0.1)(aY:Aq (rL rI) E aa ab p0.2.1)(aZ:(rA 13 (rN .u16)).r E ac p0.2.2){fuel:Nat}{r:Nat}(ae:f121 fuel p0 p1=some r):AT J 121 [pV k1 o2,uV p1] E [] (fun w E' B'=>w= uV r∧B'= []):=by
 refine Bm func121 fun Q a0 cs H am an=>?_;unfold f121 at ae;obtain⟨ag,ao,ap⟩:=bs ae;refine zg 12 rfl (AJ (Hs ao) rfl rfl Hd am ?_);rintro _ a1 _ U ⟨aq,ar,rfl,rfl,au⟩ av;refine BR underlying28 rfl rfl rfl ?_;obtain⟨aw,ay,az⟩:=bs ap;refine zg 2 rfl (Cw [] [(5,uV aw)] (fun a2 aA aB=>?_) (fun aC=>?_))
 ·refine zg 5 rfl ?_;obtain rfl:=oi az;exact AS func121 rfl rfl (an (U.Aa aA) rfl ⟨rfl,rfl⟩ aB)
 ·refine JL.block (CC ay (fun O=> []) (fun O=> [(0,pV k1 o2),(5,uV O.1),(9,sV aq ag ar),(10,iV (ag.length:Int)),(11,iV O.2)]) Ak av ?_);rintro O a3 K ah aD ⟨a4,V⟩ aE;have ai:=V;unfold Oq at ai;refine zg 5 rfl (A7 ai (fun aF aG=>?_) (fun aF aH=>?_))
  ·obtain⟨a5,aI,aJ⟩:=bs aG;refine zg 5 rfl (C3 (au.Ad K) aI underlying28 AD ?_);rintro a6 a7 _ rfl aK;refine Cv 0 aK BV rfl rfl rfl (zg 6 rfl ?_);refine BJ underlying141 Ch rfl rfl rfl (Cd 0 (ak.Ad (U.Aa K)) underlying24 Be CI ?_);obtain⟨a8,aL,aM⟩:=bs aJ;refine zg 1 rfl (C3 (al.Ad (U.Aa K)) aL underlying22 AN ?_);rintro a9 ba _ ⟨bb,bc,rfl,aN⟩ aO;refine Cv 0 aO EF rfl rfl rfl ?_;obtain⟨bd,aP,aQ⟩:=bs aM;refine Ba (Iq aN aP) rfl rfl HX ah fun be aR aS=>?_;obtain⟨aj,aT,aU⟩:=bs aQ;refine Av (v:= uV aj) rfl (fun ρ h=>Jb (h _ _ rfl) (h _ _ rfl) aT) ?_;obtain⟨aV,aW,aX⟩:=bs aU;refine zg 4 rfl (Bv aW rfl rfl rfl ?_);refine zg 2 rfl ?_;obtain rfl:=oi aX;exact aE (aj,aV) (K.Aa aR) aS rfl V
  ·refine JL.exit rfl ?_;obtain rfl:=oi aH;obtain rfl:=aD _ V;exact aC K ah rfl
def f130(fuel:Nat)(p0:BS):Option Int:= (f89 fuel p0.2.2).bind fun K=> some (K.length:Int)
theorem Uy{K:Az}{c2:Nat}{p0:BS}(ah:Aq rI E K c2 p0.2.1){fuel:Nat}{r:Int}(O:f130 fuel p0=some r):AT J 130 [.agg #[iV p0.1,sV K p0.2.1 c2,uV p0.2.2]] E [] (fun w E' B'=>w=iV r∧B'= []):=by
 refine Bm func130 fun Q ai cs H U V=>?_;unfold f130 at O;refine zg 2 rfl (CB U fun aj ak Y Z aa=>?_);refine zg 4 rfl (Cd 2 Z underlying104 Dv FE ?_);obtain⟨al,ab,ac⟩:=bs O;refine AJ (Hs ab) rfl rfl Hd aa ?_;rintro _ am _ ae ⟨an,ao,rfl,rfl,ap⟩ ag;refine BR underlying28 rfl rfl rfl (zg 2 rfl ?_);obtain rfl:=oi ac;exact AS func130 rfl rfl (V (Y.Aa ae) rfl ⟨rfl,rfl⟩ ag)
def Pz(fuel:Nat)(p0:List BS)(K:Nat×Int):Option (Bz (Nat×Int) Nat):= if K.2<(p0.length:Int) then((ix p0 K.2).bind fun O=> (f90 fuel K.1 O.1).bind fun U=> (AA (K.2+1)).bind fun V=> some (.more (U,V))) else(some (.done K.1))
def f87(fuel:Nat)(p0:List BS):Option Nat:= Option.bind (iter (Pz fuel p0) fuel (0,0)) fun K=> some K
theorem P3{O:Az}{c2:Nat}{p0:List (BS)}(ab:Aq CW E O c2 p0){fuel:Nat}{r:Nat}(Y:f87 fuel p0=some r):AT J 87 [sV O p0 c2] E [] (fun w E' B'=>w= uV r∧B'= []):=by
 refine Bm func87 fun Q aK cs H ac ae=>?_;unfold f87 at Y;refine zg 12 rfl (BR underlying95 rfl rfl rfl ?_);obtain⟨ag,ah,ai⟩:=bs Y;refine zg 2 rfl (Cw [] [(3,uV ag)] (fun aL aj ak=>?_) (fun al=>?_))
 ·refine zg 5 rfl ?_;obtain rfl:=oi ai;exact AS func87 rfl rfl (ae aj rfl ⟨rfl,rfl⟩ ak)
 ·refine JL.block (CC ah (fun K=> []) (fun K=> [(3,uV K.1),(6,sV O p0 c2),(7,iV (p0.length:Int)),(8,iV K.2)]) Ak ac ?_);rintro K aM U Z am ⟨aN,V⟩ an;have aa:=V;unfold Pz at aa;refine zg 5 rfl (A7 aa (fun ao ap=>?_) (fun ao aq=>?_))
  ·obtain⟨aO,ar,au⟩:=bs ap;refine zg 5 rfl (C3 (ab.Ad U) ar underlying95 Cb ?_);rintro aP aQ _ ⟨_,_,rfl,rfl,⟨_,_,rfl,⟨aR,aS,rfl,aT⟩,rfl⟩⟩ av;refine BZ av EV Cb rfl rfl (Ci Z F1 fun aU aw=>?_);refine BI 0 aw Cb fun ay=>?_;refine Cn 0 ay rfl fun aV az aA aB=>zg 3 rfl (Cd 0 aA underlying104 AD BV ?_);obtain⟨aC,aD,aE⟩:=bs au;refine Ba (Lf aD) rfl rfl J6 aB fun aW aF aG=>?_;obtain⟨aH,aI,aJ⟩:=bs aE;refine zg 4 rfl (Bv aI rfl rfl rfl ?_);refine zg 2 rfl ?_;obtain rfl:=oi aJ;exact an (aC,aH) ((U.Aa az).Aa aF) aG rfl V
  ·refine JL.exit rfl ?_;obtain rfl:=oi aq;obtain rfl:=am _ V;exact al U Z rfl
def Py(fuel:Nat)(p0:BG)(O:Int)(K:Nat×Int):Option (Bz (Nat×Int) Nat):= if K.2<O then((f121 fuel p0 K.1).bind fun U=> (AA (K.2+1)).bind fun V=> some (.more (U,V))) else(some (.done K.1))
def f88(fuel:Nat)(p0:BG)(p1:BS)(p2:Int):Option Nat:= (AA ((p1.2.1.length:Int) - 1)).bind fun K=> if p2≤K then((ix p1.2.1 p2).bind fun O=> (f120 fuel ([O]:List Int)).bind fun U=> some U) else((ix p1.2.1 K).bind fun V=> (f120 fuel ([V]:List Int)).bind fun Y=> (AA (p2 - K)).bind fun Z=> Option.bind (iter (Py fuel p0 Z) fuel (Y,0)) fun aa=> some aa)
theorem UQ{k1:Nat}{o2:Nat}{ab:Az}{ac:Nat}{ae:Az}{ag:Nat}{ah:Lv_}{ai:Az}{aj:Nat}{p0:BG}{p1:BS}{p2:Int}(au:At E k1 o2 (([sV ab p0.1 ac,sV ae p0.2.1 ag]:Lv_)++ah))(av:Aq (rL rI) E ab ac p0.1)(aw:Aq (rL rI) E ae ag p0.2.1)(ay:(rA 13 (rN .u16)).r E ah p0.2.2)(ak:Aq rI E ai aj p1.2.1){fuel:Nat}{r:Nat}(al:f88 fuel p0 p1 p2=some r):AT J 88 [pV k1 o2,.agg #[iV p1.1,sV ai p1.2.1 aj,uV p1.2.2],iV p2] E [] (fun w E' B'=>w= uV r∧B'= []):=by
 refine Bm func88 fun Q bo cs H az am=>?_;unfold f88 at al;refine zg 2 rfl (CB az fun bp bq K Z an=>?_);refine zg 4 rfl (Cd 1 Z underlying104 AN EF ?_);refine BR underlying28 rfl rfl rfl ?_;obtain⟨br,aA,aB⟩:=bs al;refine Cq aA rfl rfl rfl (zg 9 rfl ?_);refine A7 aB (fun aC aD=>?_) (fun aC aE=>?_)
 ·refine zg 2 rfl (Cd 1 Z underlying104 AN EF ?_);obtain⟨ao,aF,aG⟩:=bs aD;refine zg 1 rfl (C3 (ak.Ad K) aF underlying28 AD ?_);rintro bu bv _ rfl aH;refine Cv 0 aH BV rfl rfl rfl (B9 (pp:=rI) [iV ao] [ao] rfl rfl rfl underlying28 AD A1 (by decide) rfl rfl rfl ⟨rfl,trivial⟩ an fun bw bx aI aJ=>?_);refine BA 2 aI aJ rfl fun bz aK aL aM=>?_;obtain⟨bA,aN,aO⟩:=bs aG;refine Ba (Iq aL aN) rfl rfl HX aM fun bB aP aQ=>zg 2 rfl ?_;obtain rfl:=oi aO;exact AS func88 rfl rfl (am ((K.Aa aK).Aa aP) rfl ⟨rfl,rfl⟩ aQ)
 ·refine zg 3 rfl (Cd 1 Z underlying104 AN EF ?_);obtain⟨ap,aR,aS⟩:=bs aE;refine zg 1 rfl (C3 (ak.Ad K) aR underlying28 AD ?_);rintro bC bD _ rfl aT;refine Cv 0 aT BV rfl rfl rfl (B9 (pp:=rI) [iV ap] [ap] rfl rfl rfl underlying28 AD A1 (by decide) rfl rfl rfl ⟨rfl,trivial⟩ an fun bE bF aU aV=>?_);refine BA 2 aU aV rfl fun bG U aW aX=>?_;obtain⟨bH,aY,aZ⟩:=bs aS;refine Ba (Iq aW aY) rfl rfl HX aX fun bI V a0=>?_;obtain⟨a1,a2,a3⟩:=bs aZ;refine zg 7 rfl (Cq a2 rfl rfl rfl ?_);obtain⟨a4,a5,a6⟩:=bs a3;refine zg 2 rfl (Cw [] [(8,uV a4)] (fun bJ a7 a8=>?_) (fun a9=>?_))
  ·refine zg 5 rfl ?_;obtain rfl:=oi a6;exact AS func88 rfl rfl (am (((K.Aa U).Aa V).Aa a7) rfl ⟨rfl,rfl⟩ a8)
  ·refine JL.block (CC a5 (fun Y=> []) (fun Y=> [(0,pV k1 o2),(8,uV Y.1),(32,iV a1),(33,iV Y.2)]) Ak a0 ?_);rintro Y bK O aq ba ⟨bL,aa⟩ bb;have ar:=aa;unfold Py at ar;refine zg 5 rfl (A7 ar (fun bc bd=>?_) (fun bc be=>?_))
   ·obtain⟨bf,bg,bh⟩:=bs bd;refine zg 6 rfl (Ba (Uv (au.Ad (((K.Aa U).Aa V).Aa O)) (av.Ad (((K.Aa U).Aa V).Aa O)) (aw.Ad (((K.Aa U).Aa V).Aa O)) (Rp.Ad _ (((K.Aa U).Aa V).Aa O) ay) bg) rfl rfl (Bc func121 rfl) aq fun bM bi bj=>?_);obtain⟨bl,bm,bn⟩:=bs bh;refine zg 4 rfl (Bv bm rfl rfl rfl ?_);refine zg 2 rfl ?_;obtain rfl:=oi bn;exact bb (bf,bl) (O.Aa bi) bj rfl aa
   ·refine JL.exit rfl ?_;obtain rfl:=oi be;obtain rfl:=ba _ aa;exact a9 O aq rfl
end Pal
namespace Pal
open Go Go.Conc Go.Proofs
open Go.Proofs.Tryz
variable {J:Judge Tryz.prog}{E:LH}
def N7(fuel:Nat)(p0:BG)(O:(List Int))(K:Nat×Int):Option (Bz (Nat×Int) Nat):= if K.2<(O.length:Int) then((ix O K.2).bind fun U=> (ix p0.1 U).bind fun V=> (f120 fuel V).bind fun Y=> (IK K.1 Y).bind fun Z=> (AA (K.2+1)).bind fun aa=> some (.more (Z,aa))) else(some (.done K.1))
def Ms(fuel:Nat)(p0:BG)(p1:Nat):Option (Nat×(BG)):= (f89 fuel p1).bind fun K=> Option.bind (iter (N7 fuel p0 K) fuel (0,0)) fun O=> some (O,p0)
theorem SN{bk:Nat}{K:Az}{c2:Nat}{O:Az}{U:Nat}{V:Lv_}{p0:BG}{p1:Nat}(ag:Aq (rL rI) E K c2 p0.1)(aq:Aq (rL rI) E O U p0.2.1)(ar:(rA 13 (rN .u16)).r E V p0.2.2){fuel:Nat}{r:Nat×(BG)}(ah:Ms fuel p0 p1=some r):AT J 121 [pV bk 0,uV p1] E [(bk,.cells (([sV K p0.1 c2,sV O p0.2.1 U]:Lv_)++V).toArray 141 (0,0))] (fun w E' B'=>∃(ai:Az) (aj:Nat) (ak:Az) (al:Nat) (am:Lv_),w= uV r.1∧B'= [(bk,.cells (([sV ai r.2.1 aj,sV ak r.2.2.1 al]:Lv_)++am).toArray 141 (0,0))]∧Aq (rL rI) E' ai aj r.2.1∧Aq (rL rI) E' ak al r.2.2.1∧(rA 13 (rN .u16)).r E' am r.2.2.2):=by
 refine Bm func121 fun Q a3 cs H au av=>?_;unfold Ms at ah;obtain⟨an,aw,ay⟩:=bs ah;refine zg 12 rfl (AJ (Hs aw) rfl rfl Hd au ?_);rintro _ a4 _ Y ⟨az,aA,rfl,rfl,aB⟩ aC;refine BR underlying28 rfl rfl rfl ?_;obtain⟨aD,aE,aF⟩:=bs ay;refine zg 2 rfl (Cw [bX bk (([sV K p0.1 c2,sV O p0.2.1 U]:Lv_)++V).toArray 141] [(5,uV aD)] (fun a5 Z aG=>?_) (fun aH=>?_))
 ·refine zg 5 rfl ?_;obtain rfl:=oi aF;exact AS func121 rfl rfl (av (Y.Aa Z) rfl ⟨K,c2,O,U,V,rfl,rfl,(ag.Ad (Y.Aa Z)),(aq.Ad (Y.Aa Z)),(Rp.Ad _ (Y.Aa Z) ar)⟩ aG)
 ·refine JL.block (CC aE (fun aa=> [bX bk (([sV K p0.1 c2,sV O p0.2.1 U]:Lv_)++V).toArray 141]) (fun aa=> [(0,pV bk 0),(5,uV aa.1),(9,sV az an aA),(10,iV (an.length:Int)),(11,iV aa.2)]) Ak aC ?_);rintro aa a6 ab ac aI ⟨a7,ae⟩ aJ;have ao:=ae;unfold N7 at ao;refine zg 5 rfl (A7 ao (fun aK aL=>?_) (fun aK aM=>?_))
  ·obtain⟨a8,aN,aO⟩:=bs aL;refine zg 5 rfl (C3 (aB.Ad ab) aN underlying28 AD ?_);rintro a9 ba _ rfl aP;refine Cv 0 aP BV rfl rfl rfl (zg 6 rfl ?_);refine BJ underlying141 Ch rfl rfl rfl (BJ underlying24 Be rfl rfl rfl ?_);refine Av (v:= sV K p0.1 c2) rfl (fun ρ h=>Yl.load CI (h _ _ rfl) (Se (o:=0) (l:= [sV K p0.1 c2,sV O p0.2.1 U]) 0 ac rfl rfl)) ?_;obtain⟨bb,aQ,aR⟩:=bs aO;refine zg 1 rfl (C3 (ag.Ad (Y.Aa ab)) aQ underlying22 AN ?_);rintro bc bd _ ⟨be,bf,rfl,aS⟩ aT;refine Cv 0 aT EF rfl rfl rfl ?_;obtain⟨bg,aU,aV⟩:=bs aR;refine Ba (Iq aS aU) rfl rfl HX ac fun bh aW aX=>?_;obtain⟨ap,aY,aZ⟩:=bs aV;refine Av (v:= uV ap) rfl (fun ρ h=>Jb (h _ _ rfl) (h _ _ rfl) aY) ?_;obtain⟨a0,a1,a2⟩:=bs aZ;refine zg 4 rfl (Bv a1 rfl rfl rfl ?_);refine zg 2 rfl ?_;obtain rfl:=oi a2;exact aJ (ap,a0) (ab.Aa aW) aX rfl ae
  ·refine JL.exit rfl ?_;obtain rfl:=oi aM;obtain rfl:=aI _ ae;exact aH ab ac rfl
end Pal
namespace Pal
open Go Go.Conc Go.Proofs
open Go.Proofs.Tryz
variable {J:Judge Tryz.prog}{E:LH}
theorem Uh:P7 Tryz.prog 138 .u16:=⟨_,underlying138,by decide+kernel,by decide,underlying102,rfl⟩
def Ps(fuel:Nat)(K:(List (List Int))×(List (List Int))×(List Nat)×(List Nat)×Int):Option (Bz ((List (List Int))×(List (List Int))×(List Nat)×(List Nat)×Int) ((List (List Int))×(List (List Int))×(List Nat)×(List Nat))):= if K.2.2.2.2<12 then((AA (K.2.2.2.2+1)).bind fun U=> (ix K.2.2.1 K.2.2.2.2).bind fun V=> (Ms fuel (K.1,K.2.1,K.2.2.1) V).bind fun O=> (ix K.2.2.2.1 U).bind fun Z=> (AA (K.2.2.2.2+1)).bind fun Y=> some (.more (O.2.1,O.2.2.1,O.2.2.2,(K.2.2.2.1.set (Int.toNat U) O.1),Y))) else(some (.done (K.1,K.2.1,K.2.2.1,K.2.2.2.1)))
def Pp(fuel:Nat)(O:BG):Option (Bz BG (((Option BG))⊕Unit)):= Option.bind (iter (Ps fuel) fuel (O.1,O.2.1,O.2.2,O.2.2,0)) fun K=> if K.2.2.2≠K.2.2.1 then(some (.more (K.1,K.2.1,K.2.2.2))) else(some (.done (Sum.inl (some (K.1,K.2.1,K.2.2.1)))))
def f92(fuel:Nat)(p0:Ca):Option ((Option BG)):= (ix (List.replicate 13 (0:Nat)) (0)).bind fun O=> Option.bind (iter (Pp fuel) fuel (p0.1,p0.2,((List.replicate 13 (0:Nat)).set (Int.toNat 0) 1))) fun K=> Sum.elim (fun r=>some r) (fun U=>none) K
theorem Lb{an:Az}{c2:Nat}{ao:Az}{ap:Nat}{p0:Ca}(be:Aq (rL rI) E an c2 p0.1)(bf:Aq (rL rI) E ao ap p0.2){fuel:Nat}{r:(Option BG)}(aU:f92 fuel p0=some r):AT J 92 [.agg #[sV an p0.1 c2,sV ao p0.2 ap]] E [] (fun w E' B'=>∃(aV:Value),w=aV∧B'= []∧IN (rP (rL (rL rI)) (rP (rL (rL rI)) (rA 13 (rN .u16)))) E' aV r):=by
 refine Bm func92 fun Q cb cs H bg bh=>?_;unfold f92 at aU;refine zg 2 rfl (CB bg fun cc aq aO bi bj=>?_);refine zg 5 rfl (BZ bi CE Ch rfl rfl ?_);refine Av (v:= .agg (([sV an p0.1 c2,sV ao p0.2 ap]:Lv_)++(List.replicate 13 (uV 0):Lv_)).toArray) rfl (fun ρ h=>Cl [(0,2),(2,13)] h (Dw type141) underlying141 ⟨rfl,A3 type24,rfl,A3 type139,trivial⟩ rfl rfl) (JS.box (v:= .agg (([sV an p0.1 c2,sV ao p0.2 ap]:Lv_)++(List.replicate 13 (uV 0):Lv_)).toArray) rfl rfl rfl bj rfl fun U bl=>?_);refine zg 6 rfl (BJ underlying141 EI rfl rfl rfl ?_);obtain⟨cd,aP,bm⟩:=bs aU;obtain⟨_,rfl,_,_,ce⟩:=Hj (kk:=13) (pp:=(rN .u16)) (Io (E:=aq) (pp:=(rN .u16)) rfl) aP;refine Av (v:= .pointer (some ⟨U,2+Int.toNat (0)*1,none⟩)) rfl (fun ρ h=>H5 (kk:=13) (pp:=(rN .u16)) (Io (E:=aq) (pp:=(rN .u16)) rfl) aP underlying139 Gm (h _ _ rfl) (h _ _ rfl)) (BJ underlying138 Dv rfl rfl rfl ?_);have aH:=Mn (us:= [uV 1]) (y:=1) (Io (E:=aq) (pp:=(rN .u16)) rfl) aP rfl;refine I2 (v:= uV 1) (l:= [sV an p0.1 c2,sV ao p0.2 ap]) (ws:=(List.replicate 13 (uV 0):Lv_)) (us:= [uV 1]) (o:=Int.toNat (0)*1) 2 rfl rfl rfl bl rfl rfl rfl Dv (by simp [Value.cells,AL]) rfl aH.2 fun aW=>?_;replace aH:=aH.1;generalize bn:GA (List.replicate 13 (uV 0):Lv_) (Int.toNat (0)*1) [uV 1]=aX at aW ⊢;have bo:(rA 13 (rN .u16)).r aq aX ((List.replicate 13 (0:Nat)).set (Int.toNat 0) 1):=by rw [← bn];exact aH
 refine zg 2 rfl (JL.label ?_);obtain⟨cf,bp,bq⟩:=bs bm;refine Hr [(3,pV U 0)] rfl (R8 bp (fun L s Z=>∃(V:LH) (aw:Az) (ay:Nat) (az:Az) (aA:Nat) (aa:Lv_),Jn aq H V [[(U,.cells (([sV aw Z.1 ay,sV az Z.2.1 aA]:Lv_)++aa).toArray 141 (0,0))]] [(3,pV U 0)] L s (Aq (rL rI) V aw ay Z.1∧Aq (rL rI) V az aA Z.2.1∧(rA 13 (rN .u16)).r V aa Z.2.2)) ⟨aq,an,c2,ao,ap,aX,rfl,rfl,Ak,aW,(be.Ad aO),(bf.Ad aO),bo⟩ ?_);rintro _ _ Z ⟨V,aw,ay,az,aA,aa,rfl,rfl,aY,aZ,br,bu,ah⟩ bv ⟨cg,aQ⟩ bw;have a0:=aQ;unfold Pp at a0;refine zg 4 rfl (BJ underlying141 EI rfl rfl rfl ?_);refine Av (v:= .agg aa.toArray) rfl (fun ρ h=>Ia (kk:=13) (pp:=(rN .u16)) ah IT EI (h _ _ rfl) (Kn (l:= [sV aw Z.1 ay,sV az Z.2.1 aA]) 0 aZ rfl)) (Ci aZ (Dw type139) fun ar bx=>?_);refine I2 (v:= .agg aa.toArray) (l:= []) (ws:=(List.replicate 13 (uV 0):Lv_)) (us:=aa) (o:=0) 1 rfl rfl rfl bx rfl rfl rfl (by rw [Fv (kk:=13) (pp:=(rN .u16)) ah];exact A3 type139) ((rA 13 (rN .u16)).one ah) rfl (by rw [Fv (kk:=13) (pp:=(rN .u16)) ah,Fv (kk:=13) (pp:=(rN .u16)) (Io (E:=V) (pp:=(rN .u16)) rfl)];omega) fun a1=>?_;rw [NP (by rw [Fv (kk:=13) (pp:=(rN .u16)) ah,Fv (kk:=13) (pp:=(rN .u16)) (Io (E:=V) (pp:=(rN .u16)) rfl)])] at a1 ⊢;obtain⟨K,bz,bA⟩:=bs a0;refine zg 6 rfl (Cc (fun L s=>∃(ai:LH) (aj:Az) (ak:Nat) (ab:Az) (ac:Nat) (al:Lv_) (ae:Lv_),Jn V H ai [bX U (([sV aj K.1 ak,sV ab K.2.1 ac]:Lv_)++al).toArray 141,bX ar (([]:Lv_)++ae).toArray 139] [(3,pV U 0),(4,pV ar 0)] L s (Aq (rL rI) ai aj ak K.1∧Aq (rL rI) ai ab ac K.2.1∧(rA 13 (rN .u16)).r ai al K.2.2.1∧(rA 13 (rN .u16)).r ai ae K.2.2.2)) ?_ ?_)
 ·rintro _ _ ⟨ai,aj,ak,ab,ac,al,ae,rfl,rfl,a2,au,a3,a4,aB,ag⟩;refine zg 2 rfl (Dr 5 [ar,U] ⟨⟨1,_,rfl⟩,⟨0,_,rfl⟩,trivial⟩ au fun ht=>?_);refine Bd (v:= .agg ae.toArray) 0 ht rfl rfl (fun ρ h s' hs=>Ia (kk:=13) (pp:=(rN .u16)) ag IT EI (h _ _ rfl) (LX (l:= []) 1 au rfl (by simp [AX]) hs)) (Bt ht rfl [1,2] rfl ?_);refine BN 3 ht underlying141 EI rfl rfl rfl rfl (Bd (v:= .agg al.toArray) 4 ht rfl rfl (fun ρ h s' hs=>Ia (kk:=13) (pp:=(rN .u16)) aB IT EI (h _ _ rfl) (LX (l:= [sV aj K.1 ak,sV ab K.2.1 ac]) 0 au rfl (by simp [AX]) hs)) ?_);refine CU [5] (Av (v:= .bool (decide (K.2.2.2≠K.2.2.1))) rfl (fun ρ h=>Sq underlying139 (by decide+kernel) Uh Gm ag aB (h _ _ rfl) (h _ _ rfl)) ?_);refine JL.done (A7 bA (fun bB bC=>?_) (fun bB bD=>?_))
  ·refine zg 3 rfl (Av (v:= .agg ae.toArray) rfl (fun ρ h=>Ia (kk:=13) (pp:=(rN .u16)) ag IT EI (h _ _ rfl) (Kn (l:= []) 1 au rfl)) ?_);refine zg 1 rfl (BJ underlying141 EI rfl rfl rfl ?_);refine I2 (v:= .agg ae.toArray) (l:= [sV aj K.1 ak,sV ab K.2.1 ac]) (ws:=al) (us:=ae) (o:=0) 0 rfl rfl rfl au rfl rfl rfl (by rw [Fv (kk:=13) (pp:=(rN .u16)) ag];exact A3 type139) ((rA 13 (rN .u16)).one ag) rfl (by rw [Fv (kk:=13) (pp:=(rN .u16)) ag,Fv (kk:=13) (pp:=(rN .u16)) aB];omega) fun a5=>?_;rw [NP (by rw [Fv (kk:=13) (pp:=(rN .u16)) ag,Fv (kk:=13) (pp:=(rN .u16)) aB])] at a5 ⊢;refine JL.done (JL.goto rfl ?_);refine zg 2 rfl (JS.drop 1 a5 rfl fun bE=>?_);obtain rfl:=oi bC;exact AU (bw _ _ (K.1,K.2.1,K.2.2.2) ⟨ai,aj,ak,ab,ac,ae,rfl,rfl,(aY.Aa a2),bE,a3,a4,ag⟩ aQ) rfl
  ·refine zg 6 rfl (Cn 0 au rfl fun ci aI bF bG=>?_);refine JS.drop 1 bG rfl fun bH=>?_;obtain rfl:=oi bD;obtain rfl:=bv _ aQ;have bI:=elim_inl bq;obtain rfl:=oi bI;exact AS func92 rfl rfl (bh (((aO.Aa aY).Aa a2).Aa aI) rfl ⟨pV U 0,rfl,rfl,⟨_,_,_,rfl,bF,⟨[sV aj K.1 ak],(([sV ab K.2.1 ac]:Lv_)++al),rfl,⟨_,_,rfl,(a3.Ad aI)⟩,⟨[sV ab K.2.1 ac],al,rfl,⟨_,_,rfl,(a4.Ad aI)⟩,(Rp.Ad _ aI aB)⟩⟩⟩⟩ bH)
 ·intro bJ;refine JL.block (DT bz (fun L s O=>∃(am:LH) (aC:Az) (aD:Nat) (aE:Az) (aF:Nat) (aJ:Lv_) (av:Lv_),Jn V H am [bX U (([sV aC O.1 aD,sV aE O.2.1 aF]:Lv_)++aJ).toArray 141,bX ar (([]:Lv_)++av).toArray 139] [(3,pV U 0),(4,pV ar 0),(18,iV O.2.2.2.2)] L s (Aq (rL rI) am aC aD O.1∧Aq (rL rI) am aE aF O.2.1∧(rA 13 (rN .u16)).r am aJ O.2.2.1∧(rA 13 (rN .u16)).r am av O.2.2.2.1)) ⟨V,aw,ay,az,aA,aa,aa,rfl,rfl,Ak,a1,br,bu,ah,ah⟩ ?_);rintro _ _ O ⟨am,aC,aD,aE,aF,aJ,av,rfl,rfl,a6,aR,a7,a8,aK,aL⟩ bK ⟨ck,aS⟩ bL;have a9:=aS;unfold Ps at a9;refine zg 5 rfl (A7 a9 (fun bM bN=>?_) (fun bM bO=>?_))
  ·obtain⟨aG,bP,bQ⟩:=bs bN;refine zg 10 rfl (Bv bP rfl rfl rfl ?_);refine zg 4 rfl (BJ underlying141 EI rfl rfl rfl ?_);obtain⟨bR,ba,bS⟩:=bs bQ;obtain⟨_,rfl,_,_,bT⟩:=Hj (kk:=13) (pp:=(rN .u16)) aK ba;refine Av (v:= .pointer (some ⟨U,2+Int.toNat (O.2.2.2.2)*1,none⟩)) rfl (fun ρ h=>H5 (kk:=13) (pp:=(rN .u16)) aK ba underlying139 Gm (h _ _ rfl) (h _ _ rfl)) (BJ underlying138 Dv rfl rfl rfl ?_);refine Av (v:= uV bR) rfl (fun ρ h=>Yl.load FE (h _ _ rfl) (RJ (l:= [sV aC O.1 aD,sV aE O.2.1 aF]) 0 aR rfl (bT 0 _ rfl))) ?_;obtain⟨Y,bU,bV⟩:=bs bS;refine CZ 0 (SN a7 a8 aK bU) rfl rfl (Bc func121 rfl) aR rfl ?_;rintro _ bb _ aM ⟨bW,bY,bZ,b0,Jv,rfl,rfl,b1,b2,b3⟩ b4;obtain⟨cm,aT,b5⟩:=bs bV;obtain⟨_,rfl,_,_,cn⟩:=Hj (kk:=13) (pp:=(rN .u16)) (Rp.Ad _ aM aL) aT;refine Av (v:= .pointer (some ⟨ar,0+Int.toNat (aG)*1,none⟩)) rfl (fun ρ h=>H5 (kk:=13) (pp:=(rN .u16)) (Rp.Ad _ aM aL) aT underlying139 Gm (h _ _ rfl) (h _ _ rfl)) (BJ underlying138 Dv rfl rfl rfl ?_);have aN:=Mn (us:= [uV Y.1]) (y:=Y.1) (Rp.Ad _ aM aL) aT rfl;refine I2 (v:= uV Y.1) (l:= []) (ws:=av) (us:= [uV Y.1]) (o:=Int.toNat (aG)*1) 1 rfl rfl rfl b4 rfl rfl rfl Dv (by simp [Value.cells,AL]) rfl aN.2 fun bc=>?_;replace aN:=aN.1;generalize b6:GA av (Int.toNat (aG)*1) [uV Y.1]=bd at bc ⊢;have b7:(rA 13 (rN .u16)).r bb bd (O.2.2.2.1.set (Int.toNat aG) Y.1):=by rw [← b6];exact aN
   obtain⟨b8,b9,ca⟩:=bs b5;refine zg 3 rfl (Bv b9 rfl rfl rfl ?_);refine zg 2 rfl ?_;obtain rfl:=oi ca;exact AU (bL _ _ (Y.2.1,Y.2.2.1,Y.2.2.2,(O.2.2.2.1.set (Int.toNat aG) Y.1),b8) ⟨bb,bW,bY,bZ,b0,Jv,bd,rfl,rfl,(a6.Aa aM),bc,b1,b2,b3,b7⟩ aS) rfl
  ·refine JL.exit rfl ?_;obtain rfl:=oi bO;obtain rfl:=bK _ aS;exact AU (bJ _ _ ⟨am,aC,aD,aE,aF,aJ,av,rfl,rfl,a6,aR,a7,a8,aK,aL⟩) rfl
end Pal
namespace Pal
open Go Go.Conc Go.Proofs
open Go.Proofs.Tryz
variable {J:Judge Tryz.prog}{E:LH}
def Om(fuel:Nat)(p0:BG)(O:Nat)(U:(List Int))(K:Int):Option (Bz Int ((Bool)⊕(Unit))):= if K<(U.length:Int) then((ix U K).bind fun V=> (f103 fuel O V).bind fun Y=> Option.bind (if Y=true then(some true) else((ix p0.2.1 V).bind fun Z=> (f120 fuel Z).bind fun aa=> (Js O aa).bind fun ab=> some (decide ((((ab):Nat):Int)≠(((0):Nat):Int))))) fun ac=> if ac=true then(some (.done (Sum.inl true))) else((AA (K+1)).bind fun ae=> some (.more ae))) else(some (.done (Sum.inr ())))
def f109(fuel:Nat)(p0:BG)(p1:Int)(p2:Int):Option Bool:= (ix p0.2.2 p2).bind fun K=> (ix p0.2.2 p1).bind fun O=> (f89 fuel O).bind fun U=> Option.bind (iter (Om fuel p0 K U) fuel 0) fun V=> Sum.elim (fun r=>some r) (fun Y=> some false) V
theorem O8{k1:Nat}{o2:Nat}{O:Az}{U:Nat}{V:Az}{Y:Nat}{ah:Lv_}{p0:BG}{p1:Int}{p2:Int}(ag:At E k1 o2 (([sV O p0.1 U,sV V p0.2.1 Y]:Lv_)++ah))(bA:Aq (rL rI) E O U p0.1)(aE:Aq (rL rI) E V Y p0.2.1)(ai:(rA 13 (rN .u16)).r E ah p0.2.2){fuel:Nat}{r:Bool}(aj:f109 fuel p0 p1 p2=some r):AT J 109 [pV k1 o2,iV p1,iV p2] E [] (fun w E' B'=>w= .bool r∧B'= []):=by
 refine Bm func109 fun Q bB cs H aF ak=>?_;unfold f109 at aj;refine zg 9 rfl (BJ underlying141 EI rfl rfl rfl ?_);obtain⟨al,aG,aH⟩:=bs aj;refine Me (l:= [sV O p0.1 U,sV V p0.2.1 Y]) ag ai aG rfl rfl rfl rfl rfl underlying139 Gm ?_;rintro bC _ rfl aI;refine Cd 0 aI underlying138 Dv FE ?_;refine zg 8 rfl (BJ underlying141 EI rfl rfl rfl ?_);obtain⟨bD,aJ,aK⟩:=bs aH;refine Me (l:= [sV O p0.1 U,sV V p0.2.1 Y]) ag ai aJ rfl rfl rfl rfl rfl underlying139 Gm ?_;rintro bE _ rfl aL;refine Cd 0 aL underlying138 Dv FE ?_;obtain⟨Z,aM,aN⟩:=bs aK;refine AJ (Hs aM) rfl rfl Hd aF ?_;rintro _ aO _ aa ⟨am,an,rfl,rfl,aP⟩ aQ;refine BR underlying28 rfl rfl rfl ?_;obtain⟨ao,aR,ap⟩:=bs aN;refine zg 2 rfl (Cc (fun L s=>∃(aq:Unit) (ar:LH),ao=Sum.inr aq∧Jm aO H ar [] [] L s) ?_ ?_)
 ·rintro _ _ ⟨aq,ar,rfl,rfl,rfl,aS,aT⟩;have aU:=elim_inr ap;refine zg 4 rfl ?_;obtain rfl:=oi aU;exact AS func109 rfl rfl (ak (aa.Aa aS) rfl ⟨rfl,rfl⟩ aT)
 ·intro aV;refine JL.block (CC aR (fun ab=> []) (fun ab=> [(0,pV k1 o2),(7,uV al),(24,sV am Z an),(25,iV (Z.length:Int)),(26,iV ab)]) Ak aQ ?_);rintro ab aW K au av ⟨bF,ac⟩ aX;have aw:=ac;unfold Om at aw;refine zg 5 rfl (A7 aw (fun aY aZ=>?_) (fun aY a0=>?_))
  ·obtain⟨bG,a1,a2⟩:=bs aZ;refine zg 5 rfl (C3 (aP.Ad K) a1 underlying28 AD ?_);rintro bH bI _ rfl a3;refine Cv 0 a3 BV rfl rfl rfl ?_;obtain⟨bJ,a4,a5⟩:=bs a2;refine zg 6 rfl (Ba (KF a4) rfl rfl JU au fun ay ae az=>?_);obtain⟨a6,a7,a8⟩:=bs a5;refine zg 1 rfl (EK [] (fun L s=>∃(aA:LH),Jm ay H aA [] [(0,pV k1 o2),(7,uV al),(24,sV am Z an),(25,iV (Z.length:Int)),(26,iV ab),(46,.bool a6)] L s) ?_ ?_)
   ·rintro _ _ ⟨aA,rfl,rfl,aB,aC⟩;refine JL.done (BO a8 (fun a9 ba=>?_) (fun a9 bb=>?_))
    ·refine zg 4 rfl ?_;obtain rfl:=oi ba;obtain rfl:=av _ ac;have bc:=elim_inl ap;obtain rfl:=oi bc;exact AS func109 rfl rfl (ak (((aa.Aa K).Aa ae).Aa aB) rfl ⟨rfl,rfl⟩ aC)
    ·obtain⟨bd,be,bf⟩:=bs bb;refine zg 3 rfl (Bv be rfl rfl rfl ?_);refine zg 2 rfl ?_;obtain rfl:=oi bf;exact aX bd ((K.Aa ae).Aa aB) aC rfl ac
   ·intro aD;refine Bn 33 a7 (fun bg bh=>?_) (fun bg bi=>?_)
    ·refine zg 13 rfl ?_;obtain rfl:=oi bh;exact AU (aD _ _ ⟨ay,rfl,rfl,Ak,az⟩) rfl
    ·refine zg 3 rfl (BJ underlying141 Ch rfl rfl rfl ?_);refine Cd 1 (ag.Ad ((aa.Aa K).Aa ae)) underlying24 Be CI ?_;obtain⟨bK,bj,bl⟩:=bs bi;refine zg 1 rfl (C3 (aE.Ad ((aa.Aa K).Aa ae)) bj underlying22 AN ?_);rintro bL bM _ ⟨bN,bO,rfl,bm⟩ bn;refine Cv 0 bn EF rfl rfl rfl ?_;obtain⟨bP,bo,bp⟩:=bs bl;refine Ba (Iq bm bo) rfl rfl HX az fun bq br bu=>?_;obtain⟨bv,bw,bx⟩:=bs bp;refine Av (v:= uV bv) rfl (fun ρ h=>LS (h _ _ rfl) (h _ _ rfl) bw) (zg 2 rfl ?_);obtain rfl:=oi bx;exact AU (aD _ _ ⟨bq,rfl,rfl,br,bu⟩) rfl
  ·refine JL.exit rfl ?_;obtain rfl:=oi a0;have bz:ao=(Sum.inr ()):=(av _ ac).symm;exact AU (aV _ _ ⟨(),aW,bz,rfl,rfl,K,au⟩) rfl
end Pal
namespace Pal
open Go Go.Conc Go.Proofs
open Go.Proofs.Tryz
variable {J:Judge Tryz.prog}{E:LH}
def Hw(fuel:Nat)(p0:Ca):Option Int:= (f113 fuel p0).bind fun K=> (Lc fuel K).bind fun O=> some O
theorem Ir{O:Az}{c2:Nat}{U:Az}{V:Nat}{p0:Ca}(aa:GE E)(ab:Aq (rL rI) E O c2 p0.1)(ac:Aq (rL rI) E U V p0.2){fuel:Nat}{r:Int}(Y:Hw fuel p0=some r):AT J 67 [.agg #[sV O p0.1 c2,sV U p0.2 V]] E [] (fun w E' B'=>w=iV r∧B'= []):=by
 refine Bm func67 fun Q ar cs H ae ag=>?_;unfold Hw at Y;refine zg 2 rfl (CB ae fun au av K ah ai=>?_);refine zg 4 rfl (BZ ah CE Ch rfl rfl ?_);obtain⟨aw,aj,ak⟩:=bs Y;refine AJ (PI (ab.Ad K) (ac.Ad K) aj) rfl rfl (Bc func113 rfl) ai ?_;rintro ay az _ Z ⟨_,rfl,rfl,al⟩ am;obtain⟨aA,an,ao⟩:=bs ak;refine Ba (Ma (aa.Ad (K.Aa Z)) al an) rfl rfl Lx am fun aB ap aq=>zg 2 rfl ?_;obtain rfl:=oi ao;exact AS func67 rfl rfl (ag ((K.Aa Z).Aa ap) rfl ⟨rfl,rfl⟩ aq)
def Gg(fuel:Nat)(p0:Ca)(p1:AZ):Option Int:= (f113 fuel p0).bind fun K=> if K.isSome=true then((Lc fuel K).bind fun O=> some O) else((f116 fuel p0 p1).bind fun U=> (Lc fuel U).bind fun V=> some V)
theorem GX{U:Az}{c2:Nat}{V:Az}{Y:Nat}{Z:Az}{aa:Nat}{p0:Ca}{p1:AZ}(ab:GE E)(ac:Aq (rL rI) E U c2 p0.1)(ae:Aq (rL rI) E V Y p0.2)(am:Aq BE E Z aa p1){fuel:Nat}{r:Int}(ag:Gg fuel p0 p1=some r):AT J 69 [.agg #[sV U p0.1 c2,sV V p0.2 Y],sV Z p1 aa] E [] (fun w E' B'=>w=iV r∧B'= []):=by
 refine Bm func69 fun Q aK cs H an ah=>?_;unfold Gg at ag;refine zg 2 rfl (CB an fun aL aM K ai ao=>?_);refine zg 5 rfl (BZ ai CE Ch rfl rfl ?_);obtain⟨ap,aq,ar⟩:=bs ag;refine AJ (PI (ac.Ad K) (ae.Ad K) aq) rfl rfl (Bc func113 rfl) ao ?_;rintro aN aO _ O ⟨_,rfl,rfl,aj⟩ ak;refine zg 5 rfl (Av (v:= .bool ap.isSome) rfl (fun ρ h=>LY underlying149 aj (h _ _ rfl) (h _ _ rfl)) ?_);refine JL.done (BO ar (fun au av=>?_) (fun au aw=>?_))
 ·obtain⟨aP,ay,az⟩:=bs av;refine zg 3 rfl (Ba (Ma (ab.Ad (K.Aa O)) aj ay) rfl rfl Lx ak fun aQ aA aB=>?_);refine zg 2 rfl ?_;obtain rfl:=oi az;exact AS func69 rfl rfl (ah ((K.Aa O).Aa aA) rfl ⟨rfl,rfl⟩ aB)
 ·refine zg 3 rfl (BZ (ai.Ad O) CE Ch rfl rfl ?_);obtain⟨aR,aC,aD⟩:=bs aw;refine zg 1 rfl (AJ (Uq (ac.Ad (K.Aa O)) (ae.Ad (K.Aa O)) (am.Ad (K.Aa O)) aC) rfl rfl (Bc func116 rfl) ak ?_);rintro aS aT _ al ⟨_,rfl,rfl,aE⟩ aF;obtain⟨aU,aG,aH⟩:=bs aD;refine Ba (Ma (ab.Ad ((K.Aa O).Aa al)) aE aG) rfl rfl Lx aF fun aV aI aJ=>zg 2 rfl ?_;obtain rfl:=oi aH;exact AS func69 rfl rfl (ah (((K.Aa O).Aa al).Aa aI) rfl ⟨rfl,rfl⟩ aJ)
def Oe(fuel:Nat)(p1:List Int)(K:Int):Option (Bz Int (((Option BG)×Int)⊕(Unit))):= if K<(p1.length:Int) then((ix p1 K).bind fun O=> (f101 fuel O 0 12).bind fun U=> if U=true then(some (.done (Sum.inl (none,1)))) else((AA (K+1)).bind fun V=> some (.more V))) else(some (.done (Sum.inr ())))
def Iw(fuel:Nat)(p0:Ca)(p1:List Int):Option ((Option BG)×Int):= (Hw fuel p0).bind fun K=> if K≠0 then(some (none,K)) else(Option.bind (iter (Oe fuel p1) fuel 0) fun O=> Sum.elim (fun r=>some r) (fun V=> (f92 fuel p0).bind fun U=> some (U,0)) O)
theorem Kv{ae:Az}{c2:Nat}{ag:Az}{ah:Nat}{Z:Az}{aa:Nat}{p0:Ca}{p1:List Int}(aB:GE E)(ai:Aq (rL rI) E ae c2 p0.1)(aj:Aq (rL rI) E ag ah p0.2)(aC:Aq rI E Z aa p1){fuel:Nat}{r:(Option BG)×Int}(ak:Iw fuel p0 p1=some r):AT J 106 [.agg #[sV ae p0.1 c2,sV ag p0.2 ah],sV Z p1 aa] E [] (fun w E' B'=>∃(al:Value),w= .tuple #[al,iV r.2]∧B'= []∧IN (rP (rL (rL rI)) (rP (rL (rL rI)) (rA 13 (rN .u16)))) E' al r.1):=by
 refine Bm func106 fun Q bd cs H aD ab=>?_;unfold Iw at ak;refine zg 2 rfl (CB aD fun am be K an aE=>?_);refine zg 6 rfl (BZ an CE Ch rfl rfl ?_);obtain⟨bf,aF,aG⟩:=bs ak;refine Ba (Ir (aB.Ad K) (ai.Ad K) (aj.Ad K) aF) rfl rfl HY aE fun aH O ao=>zg 7 rfl (A7 aG (fun aI aJ=>?_) (fun aI aK=>?_))
 ·refine zg 6 rfl ?_;obtain rfl:=oi aJ;exact AS func106 rfl rfl (ab (K.Aa O) rfl ⟨.pointer none,rfl,rfl,rfl⟩ ao)
 ·refine zg 5 rfl (BR underlying28 rfl rfl rfl ?_);obtain⟨ap,aL,aq⟩:=bs aK;refine zg 2 rfl (Cc (fun L s=>∃(ar:Unit) (au:LH),ap=Sum.inr ar∧Jm aH H au [] [(2,pV am 0)] L s) ?_ ?_)
  ·rintro _ _ ⟨ar,au,rfl,rfl,rfl,U,aM⟩;have aN:=elim_inr aq;refine zg 2 rfl (BZ (an.Ad (O.Aa U)) CE Ch rfl rfl ?_);obtain⟨bg,aO,aP⟩:=bs aN;refine AJ (Lb (ai.Ad ((K.Aa O).Aa U)) (aj.Ad ((K.Aa O).Aa U)) aO) rfl rfl J5 aM ?_;rintro aQ bh _ aR ⟨_,rfl,rfl,aS⟩ aT;refine zg 3 rfl ?_;obtain rfl:=oi aP;exact AS func106 rfl rfl (ab (((K.Aa O).Aa U).Aa aR) rfl ⟨aQ,rfl,rfl,aS⟩ aT)
  ·intro aU;refine JL.block (CC aL (fun ac=> []) (fun ac=> [(2,pV am 0),(14,sV Z p1 aa),(15,iV (p1.length:Int)),(16,iV ac)]) Ak ao ?_);rintro ac aV V av aw ⟨bi,Y⟩ aW;have ay:=Y;unfold Oe at ay;refine zg 5 rfl (A7 ay (fun aX aY=>?_) (fun aX aZ=>?_))
   ·obtain⟨bj,a0,a1⟩:=bs aY;refine zg 5 rfl (C3 (aC.Ad ((K.Aa O).Aa V)) a0 underlying28 AD ?_);rintro bl bm _ rfl a2;refine Cv 0 a2 BV rfl rfl rfl ?_;obtain⟨bn,a3,a4⟩:=bs a1;refine zg 5 rfl (Ba (Ho a3) rfl rfl Hb av fun bo az aA=>?_);refine JL.done (BO a4 (fun a5 a6=>?_) (fun a5 a7=>?_))
    ·refine zg 5 rfl ?_;obtain rfl:=oi a6;obtain rfl:=aw _ Y;have a8:=elim_inl aq;obtain rfl:=oi a8;exact AS func106 rfl rfl (ab (((K.Aa O).Aa V).Aa az) rfl ⟨.pointer none,rfl,rfl,rfl⟩ aA)
    ·obtain⟨a9,ba,bb⟩:=bs a7;refine zg 3 rfl (Bv ba rfl rfl rfl ?_);refine zg 2 rfl ?_;obtain rfl:=oi bb;exact aW a9 (V.Aa az) aA rfl Y
   ·refine JL.exit rfl ?_;obtain rfl:=oi aZ;have bc:ap=(Sum.inr ()):=(aw _ Y).symm;exact AU (aU _ _ ⟨(),aV,bc,rfl,rfl,V,av⟩) rfl
def HR(fuel:Nat)(p0:Ca)(p1:Int):Option ((List Int)×Int):= (Iw fuel p0 ([p1]:List Int)).bind fun K=> if K.2≠0 then(some ([],K.2)) else((K.1).bind fun O=> (ix O.2.2 p1).bind fun U=> (f89 fuel U).bind fun V=> some (V,0))
theorem Jk{U:Az}{c2:Nat}{V:Az}{Y:Nat}{p0:Ca}{p1:Int}(aj:GE E)(ak:Aq (rL rI) E U c2 p0.1)(al:Aq (rL rI) E V Y p0.2){fuel:Nat}{r:(List Int)×Int}(Z:HR fuel p0 p1=some r):AT J 51 [.agg #[sV U p0.1 c2,sV V p0.2 Y],iV p1] E [] (fun w E' B'=>∃(aa:Az) (ab:Nat),w= .tuple #[sV aa r.1 ab,iV r.2]∧B'= []∧Aq rI E' aa ab r.1):=by
 refine Bm func51 fun Q aU cs H am ac=>?_;unfold HR at Z;refine zg 2 rfl (CB am fun aV aW K an ao=>?_);refine zg 5 rfl (BZ an CE Ch rfl rfl ?_);refine zg 1 rfl (B9 (pp:=rI) [iV p1] [p1] rfl rfl rfl underlying28 AD A1 (by decide) rfl rfl rfl ⟨rfl,trivial⟩ ao fun aX aY ap aq=>?_);refine BA 2 ap aq rfl fun aZ O ar au=>?_;obtain⟨a0,av,aw⟩:=bs Z;refine AJ (Kv (aj.Ad (K.Aa O)) (ak.Ad (K.Aa O)) (al.Ad (K.Aa O)) ar av) rfl rfl JR au ?_;rintro _ a1 _ ae ⟨a2,rfl,rfl,ay⟩ ag;refine zg 12 rfl (A7 aw (fun az aA=>?_) (fun az aB=>?_))
 ·refine zg 6 rfl ?_;obtain rfl:=oi aA;exact AS func51 rfl rfl (ac ((K.Aa O).Aa ae) rfl ⟨none,0,rfl,rfl,Aq.nil⟩ ag)
 ·obtain⟨ah,aC,aD⟩:=bs aB;have ai:=ay;refine zg 5 rfl ?_;rw [aC] at ai;obtain⟨a3,a4,_,rfl,aE,⟨_,_,rfl,⟨aF,aG,rfl,a5⟩,⟨_,a6,rfl,⟨aH,aI,rfl,a7⟩,aJ⟩⟩⟩:=ai;refine zg 1 rfl (BJ underlying141 EI rfl rfl rfl ?_);obtain⟨a8,aK,aL⟩:=bs aD;refine Me (l:= [sV aF ah.1 aG,sV aH ah.2.1 aI]) aE aJ aK rfl rfl rfl rfl rfl underlying139 Gm ?_;rintro a9 _ rfl aM;refine Cd 0 aM underlying138 Dv FE ?_;obtain⟨ba,aN,aO⟩:=bs aL;refine AJ (Hs aN) rfl rfl Hd ag ?_;rintro _ bb _ aP ⟨aQ,aR,rfl,rfl,aS⟩ aT;refine zg 3 rfl ?_;obtain rfl:=oi aO;exact AS func51 rfl rfl (ac (((K.Aa O).Aa ae).Aa aP) rfl ⟨aQ,aR,rfl,rfl,aS⟩ aT)
def O6(fuel:Nat)(p1:Int)(O:BG)(K:(List Int)×Int):Option (Bz ((List Int)×Int) ((List Int))):= if K.2<13 then((ix O.2.2 K.2).bind fun U=> (f103 fuel U p1).bind fun V=> Option.bind (if V=true then((room K.1 K.2).bind fun Y=> some Y) else(some K.1)) fun Z=> (AA (K.2+1)).bind fun aa=> some (.more (Z,aa))) else(some (.done K.1))
def Iy(fuel:Nat)(p0:Ca)(p1:Int):Option ((List Int)×Int):= (Iw fuel p0 ([])).bind fun K=> if K.2≠0 then(some ([],K.2)) else((AA ((p0.1.length:Int) - 1)).bind fun O=> (f101 fuel p1 0 O).bind fun U=> if U=true then(some ([],3)) else((K.1).bind fun V=> Option.bind (iter (O6 fuel p1 V) fuel ([],0)) fun Y=> some (Y,0)))
theorem KE{az:Az}{c2:Nat}{aA:Az}{aB:Nat}{p0:Ca}{p1:Int}(aQ:GE E)(aR:Aq (rL rI) E az c2 p0.1)(aS:Aq (rL rI) E aA aB p0.2){fuel:Nat}{r:(List Int)×Int}(aC:Iy fuel p0 p1=some r):AT J 65 [.agg #[sV az p0.1 c2,sV aA p0.2 aB],iV p1] E [] (fun w E' B'=>∃(aD:Az) (aE:Nat),w= .tuple #[sV aD r.1 aE,iV r.2]∧B'= []∧Aq rI E' aD aE r.1):=by
 refine Bm func65 fun Q bY cs H aT aj=>?_;unfold Iy at aC;refine zg 2 rfl (CB aT fun bZ b0 K aF aU=>?_);refine zg 5 rfl (BZ aF CE Ch rfl rfl ?_);obtain⟨b1,aV,aW⟩:=bs aC;refine AJ (Kv (aQ.Ad K) (aR.Ad K) (aS.Ad K) Aq.nil aV) rfl rfl JR aU ?_;rintro _ b2 _ Z ⟨b3,rfl,rfl,aX⟩ aG;refine zg 12 rfl (A7 aW (fun aY aZ=>?_) (fun aY a0=>?_))
 ·refine zg 6 rfl ?_;obtain rfl:=oi aZ;exact AS func65 rfl rfl (aj (K.Aa Z) rfl ⟨none,0,rfl,rfl,Aq.nil⟩ aG)
 ·refine zg 5 rfl (Cd 0 (aF.Ad Z) underlying24 Be CI ?_);refine BR underlying22 rfl rfl rfl ?_;obtain⟨b4,a1,a2⟩:=bs a0;refine Cq a1 rfl rfl rfl ?_;obtain⟨b5,a3,a4⟩:=bs a2;refine Ba (Ho a3) rfl rfl Hb aG fun ak al aH=>JL.done (BO a4 (fun a5 a6=>?_) (fun a5 a7=>?_))
  ·refine zg 5 rfl ?_;obtain rfl:=oi a6;exact AS func65 rfl rfl (aj ((K.Aa Z).Aa al) rfl ⟨none,0,rfl,rfl,Aq.nil⟩ aH)
  ·obtain⟨aI,a8,a9⟩:=bs a7;have aJ:=(aX.Ad al);refine zg 9 rfl ?_;rw [a8] at aJ;obtain⟨b6,b7,_,rfl,ba,⟨_,_,rfl,⟨bb,bc,rfl,b8⟩,⟨_,am,rfl,⟨bd,be,rfl,b9⟩,aK⟩⟩⟩:=aJ;refine zg 1 rfl (BJ underlying141 EI rfl rfl rfl ?_);refine Av (v:= .agg am.toArray) rfl (fun ρ h=>Ia aK IT EI (h _ _ rfl) (At.Pb (At.tail (l:= [sV bb aI.1 bc,sV bd aI.2.1 be]) ba))) ?_;obtain⟨aL,bf,bg⟩:=bs a9;refine zg 2 rfl (Cc (fun L s=>∃(an:LH) (aa:Az) (ab:Nat) (ao:Seg),Jn ak H an [ao] [(8,sV aa aL ab)] L s (OL 3 rI an aa ab ao aL)) ?_ ?_)
   ·rintro _ _ ⟨an,aa,ab,ao,rfl,rfl,bh,bi,bj⟩;refine zg 6 rfl (BA 0 bj bi rfl fun ca bl bm bn=>?_);obtain rfl:=oi bg;exact AS func65 rfl rfl (aj ((((K.Aa Z).Aa al).Aa bh).Aa bl) rfl ⟨aa,ab,rfl,rfl,bm⟩ bn)
   ·intro bo;refine JL.block (DT bf (fun L s O=>∃(ac:LH) (U:Az) (V:Nat) (Y:Seg),Jn ak H ac [Y] [(1,iV p1),(8,sV U O.1 V),(28,.agg am.toArray),(29,iV O.2)] L s (OL 3 rI ac U V Y O.1)) ⟨ak,none,0,[],rfl,rfl,Ak,aH,OL.nil⟩ ?_);rintro _ _ O ⟨ac,U,V,Y,rfl,rfl,ap,aM,aq⟩ bp ⟨cb,ar⟩ bq;have aN:=ar;unfold O6 at aN;refine zg 5 rfl (A7 aN (fun br bu=>?_) (fun br bv=>?_))
    ·obtain⟨cc,bw,bx⟩:=bs bu;refine zg 6 rfl (Pd (Rp.Ad _ ap aK) bw rfl rfl rfl rfl rfl underlying139 Gm (Dc underlying138) ?_ (by intro h;cases h));rintro _ rfl;refine Ci aM (Dw type138) fun cd bz=>?_;refine zg 1 rfl (BI 1 bz Gm fun bA=>?_);refine Cn 1 bA rfl fun ce au bB bC=>zg 3 rfl (Cd 0 bB underlying138 Dv FE ?_);obtain⟨cf,bD,bE⟩:=bs bx;refine zg 1 rfl (Ba (KF bD) rfl rfl JU bC fun av aw aO=>?_);obtain⟨ay,bF,bG⟩:=bs bE;refine JL.done (Cc (fun L s=>∃(ae:LH) (ag:Az) (ah:Nat) (ai:Seg),Jn av H ae [ai] [(1,iV p1),(8,sV ag ay ah),(28,.agg am.toArray),(29,iV O.2)] L s (OL 3 rI ae ag ah ai ay)) ?_ ?_)
     ·rintro _ _ ⟨ae,ag,ah,ai,rfl,rfl,bH,bI,bJ⟩;obtain⟨bK,bL,bM⟩:=bs bG;refine zg 2 rfl (Bv bL rfl rfl rfl ?_);refine zg 2 rfl ?_;obtain rfl:=oi bM;exact AU (bq _ _ (ay,bK) ⟨ae,ag,ah,ai,rfl,rfl,(((ap.Aa au).Aa aw).Aa bH),bI,bJ⟩ ar) rfl
     ·intro aP;refine BO bF (fun bN bO=>?_) (fun bN bP=>?_)
      ·obtain⟨cg,bQ,bR⟩:=bs bO;refine zg 3 rfl (JS.app (pp:=rI) (v:=iV O.2) (a:=U) (c:=V) 0 bQ rfl rfl rfl rfl (fun _=>rfl) rfl (fun _=>rfl) rfl rfl rfl underlying28 underlying28 underlying28 AD (FJ type3) A1 rfl (by decide) (by decide) (by decide) (by decide) (aq.Ad (au.Aa aw)) rfl aO rfl fun ci bS bT bU bV bW=>?_);refine zg 2 rfl ?_;obtain rfl:=oi bR;exact AU (aP _ _ ⟨av,bS,bT,bU,rfl,rfl,Ak,bW,bV⟩) rfl
      ·refine JL.skip ?_;obtain rfl:=oi bP;exact AU (aP _ _ ⟨av,U,V,Y,rfl,rfl,Ak,aO,(aq.Ad (au.Aa aw))⟩) rfl
    ·refine JL.exit rfl ?_;obtain rfl:=oi bv;obtain rfl:=bp _ ar;exact AU (bo _ _ ⟨ac,U,V,Y,rfl,rfl,ap,aM,aq⟩) rfl
def JE(fuel:Nat)(p0:Ca)(p1:Int)(p2:Int):Option (Bool×Int):= (Iw fuel p0 ([p1,p2]:List Int)).bind fun K=> if K.2≠0 then(some (false,K.2)) else((K.1).bind fun O=> (f109 fuel O p1 p2).bind fun U=> some (U,0))
theorem Mo{U:Az}{c2:Nat}{V:Az}{Y:Nat}{p0:Ca}{p1:Int}{p2:Int}(ag:GE E)(ah:Aq (rL rI) E U c2 p0.1)(ai:Aq (rL rI) E V Y p0.2){fuel:Nat}{r:Bool×Int}(Z:JE fuel p0 p1 p2=some r):AT J 59 [.agg #[sV U p0.1 c2,sV V p0.2 Y],iV p1,iV p2] E [] (fun w E' B'=>w= .tuple #[.bool r.1,iV r.2]∧B'= []):=by
 refine Bm func59 fun Q aJ cs H aj aa=>?_;unfold JE at Z;refine zg 2 rfl (CB aj fun aK aL K ak al=>?_);refine zg 5 rfl (BZ ak CE Ch rfl rfl ?_);refine zg 2 rfl (B9 (pp:=rI) [iV p1,iV p2] [p1,p2] rfl rfl rfl underlying28 AD A1 (by decide) rfl rfl rfl ⟨rfl,rfl,trivial⟩ al fun aM aN am an=>?_);refine BA 2 am an rfl fun aO O ao ap=>?_;obtain⟨aP,aq,ar⟩:=bs Z;refine AJ (Kv (ag.Ad (K.Aa O)) (ah.Ad (K.Aa O)) (ai.Ad (K.Aa O)) ao aq) rfl rfl JR ap ?_;rintro _ aQ _ ab ⟨aR,rfl,rfl,au⟩ ac;refine zg 12 rfl (A7 ar (fun av aw=>?_) (fun av ay=>?_))
 ·refine zg 6 rfl ?_;obtain rfl:=oi aw;exact AS func59 rfl rfl (aa ((K.Aa O).Aa ab) rfl ⟨rfl,rfl⟩ ac)
 ·obtain⟨aS,az,aA⟩:=bs ay;have ae:=au;refine zg 6 rfl ?_;rw [az] at ae;obtain⟨aT,aU,_,rfl,aB,⟨_,_,rfl,⟨aV,aW,rfl,aC⟩,⟨_,aX,rfl,⟨aY,aZ,rfl,aD⟩,aE⟩⟩⟩:=ae;obtain⟨a0,aF,aG⟩:=bs aA;refine Ba (O8 aB aC aD aE aF) rfl rfl (Bc func109 rfl) ac fun a1 aH aI=>zg 3 rfl ?_;obtain rfl:=oi aG;exact AS func59 rfl rfl (aa (((K.Aa O).Aa ab).Aa aH) rfl ⟨rfl,rfl⟩ aI)
def OU(fuel:Nat)(p1:Int)(O:BG)(K:Int):Option (Bz Int Int):= (f109 fuel O p1 K).bind fun U=> if(!U)=true then((AA (K+1)).bind fun V=> some (.more V)) else(some (.done K))
def Jy(fuel:Nat)(p0:Ca)(p1:Int):Option (Int×Int):= (Iw fuel p0 ([p1]:List Int)).bind fun K=> if K.2≠0 then(some (0,K.2)) else((K.1).bind fun O=> Option.bind (iter (OU fuel p1 O) fuel 0) fun U=> some (U,0))
theorem Mi{Z:Az}{c2:Nat}{aa:Az}{ab:Nat}{p0:Ca}{p1:Int}(am:GE E)(an:Aq (rL rI) E Z c2 p0.1)(ao:Aq (rL rI) E aa ab p0.2){fuel:Nat}{r:Int×Int}(ac:Jy fuel p0 p1=some r):AT J 57 [.agg #[sV Z p0.1 c2,sV aa p0.2 ab],iV p1] E [] (fun w E' B'=>w= .tuple #[iV r.1,iV r.2]∧B'= []):=by
 refine Bm func57 fun Q a5 cs H ap ae=>?_;unfold Jy at ac;refine zg 2 rfl (CB ap fun a6 a7 O aq ar=>?_);refine zg 5 rfl (BZ aq CE Ch rfl rfl ?_);refine zg 1 rfl (B9 (pp:=rI) [iV p1] [p1] rfl rfl rfl underlying28 AD A1 (by decide) rfl rfl rfl ⟨rfl,trivial⟩ ar fun a8 a9 au av=>?_);refine BA 2 au av rfl fun ba U aw ay=>?_;obtain⟨bb,az,aA⟩:=bs ac;refine AJ (Kv (am.Ad (O.Aa U)) (an.Ad (O.Aa U)) (ao.Ad (O.Aa U)) aw az) rfl rfl JR ay ?_;rintro _ bc _ ag ⟨bd,rfl,rfl,aB⟩ ah;refine zg 12 rfl (A7 aA (fun aC aD=>?_) (fun aC aE=>?_))
 ·refine zg 6 rfl ?_;obtain rfl:=oi aD;exact AS func57 rfl rfl (ae ((O.Aa U).Aa ag) rfl ⟨rfl,rfl⟩ ah)
 ·obtain⟨be,aF,aG⟩:=bs aE;have ai:=aB;refine zg 6 rfl ?_;rw [aF] at ai;obtain⟨aH,aI,_,rfl,aJ,⟨_,_,rfl,⟨bf,bg,rfl,aK⟩,⟨_,bh,rfl,⟨bi,bj,rfl,aL⟩,aM⟩⟩⟩:=ai;obtain⟨aN,aO,aP⟩:=bs aG;refine Cw [] [(8,iV aN)] (fun bl aQ aR=>?_) (fun aS=>?_)
  ·refine zg 6 rfl ?_;obtain rfl:=oi aP;exact AS func57 rfl rfl (ae (((O.Aa U).Aa ag).Aa aQ) rfl ⟨rfl,rfl⟩ aR)
  ·refine JL.block (CC aO (fun V=> []) (fun V=> [(1,iV p1),(6,pV aH aI),(8,iV V)]) Ak ah ?_);rintro V bm K aT aU ⟨bn,Y⟩ aV;have aj:=Y;unfold OU at aj;obtain⟨aW,aX,aY⟩:=bs aj;refine zg 6 rfl (Ba (O8 (aJ.Ad K) (aK.Ad K) (aL.Ad K) (Rp.Ad _ K aM) aX) rfl rfl (Bc func109 rfl) aT fun bo ak al=>?_);refine Av (v:= .bool (!aW)) rfl (fun ρ h=>Yl.not (h _ _ rfl)) (JL.done ?_);refine BO aY (fun aZ a0=>?_) (fun aZ a1=>?_)
   ·obtain⟨a2,a3,a4⟩:=bs a0;refine zg 4 rfl (Bv a3 rfl rfl rfl ?_);refine zg 3 rfl ?_;obtain rfl:=oi a4;exact aV a2 (K.Aa ak) al rfl Y
   ·refine JL.exit rfl ?_;obtain rfl:=oi a1;obtain rfl:=aU _ Y;exact aS (K.Aa ak) al rfl
end Pal
namespace Pal
open Go Go.Conc Go.Proofs
open Go.Proofs.Tryz
variable {J:Judge Tryz.prog}{E:LH}
def O3(fuel:Nat)(p0:List Int)(p1:Int)(K:Int):Option (Bz Int ((Int)⊕(Unit))):= if K<(p0.length:Int) then((ix p0 K).bind fun O=> if p1=O then(some (.done (Sum.inl K))) else((AA (K+1)).bind fun U=> some (.more U))) else(some (.done (Sum.inr ())))
def f201(fuel:Nat)(p0:List Int)(p1:Int):Option Int:= Option.bind (iter (O3 fuel p0 p1) fuel 0) fun K=> Sum.elim (fun r=>some r) (fun O=> some (-1)) K
theorem Up{U:Az}{c2:Nat}{p0:List Int}{p1:Int}(aj:Aq rI E U c2 p0){fuel:Nat}{r:Int}(Z:f201 fuel p0 p1=some r):AT J 201 [sV U p0 c2,iV p1] E [] (fun w E' B'=>w=iV r∧B'= []):=by
 refine Bm func201 fun Q aJ cs H ak aa=>?_;unfold f201 at Z;refine zg 8 rfl (BR underlying28 rfl rfl rfl ?_);obtain⟨ab,al,ac⟩:=bs Z;refine zg 2 rfl (Cc (fun L s=>∃(ae:Unit) (ag:LH),ab=Sum.inr ae∧Jm E H ag [] [] L s) ?_ ?_)
 ·rintro _ _ ⟨ae,ag,rfl,rfl,rfl,am,an⟩;have ao:=elim_inr ac;refine zg 4 rfl ?_;obtain rfl:=oi ao;exact AS func201 rfl rfl (aa am rfl ⟨rfl,rfl⟩ an)
 ·intro ap;refine JL.block (CC al (fun V=> []) (fun V=> [(0,sV U p0 c2),(1,iV p1),(7,iV (p0.length:Int)),(8,iV V)]) Ak ak ?_);rintro V aq K Y ah ⟨aK,O⟩ ar;have ai:=O;unfold O3 at ai;refine zg 5 rfl (A7 ai (fun au av=>?_) (fun au aw=>?_))
  ·obtain⟨aL,ay,az⟩:=bs av;refine zg 13 rfl (C3 (aj.Ad K) ay underlying28 AD ?_);rintro aM aN _ rfl aA;refine Cv 0 aA BV rfl rfl rfl (zg 2 rfl ?_);refine A7 az (fun aB aC=>?_) (fun aB aD=>?_)
   ·refine zg 5 rfl ?_;obtain rfl:=oi aC;obtain rfl:=ah _ O;have aE:=elim_inl ac;obtain rfl:=oi aE;exact AS func201 rfl rfl (aa K rfl ⟨rfl,rfl⟩ Y)
   ·obtain⟨aF,aG,aH⟩:=bs aD;refine zg 3 rfl (Bv aG rfl rfl rfl ?_);refine zg 2 rfl ?_;obtain rfl:=oi aH;exact ar aF K Y rfl O
  ·refine JL.exit rfl ?_;obtain rfl:=oi aw;have aI:ab=(Sum.inr ()):=(ah _ O).symm;exact AU (ap _ _ ⟨(),aq,aI,rfl,rfl,K,Y⟩) rfl
def f199(fuel:Nat)(p0:List Int)(p1:Int):Option Bool:= (f201 fuel p0 p1).bind fun K=> some (decide (0≤K))
theorem TN{K:Az}{c2:Nat}{p0:List Int}{p1:Int}(U:Aq rI E K c2 p0){fuel:Nat}{r:Bool}(O:f199 fuel p0 p1=some r):AT J 199 [sV K p0 c2,iV p1] E [] (fun w E' B'=>w= .bool r∧B'= []):=by
 refine Bm func199 fun Q ae cs H V Y=>?_;unfold f199 at O;obtain⟨ag,Z,aa⟩:=bs O;refine zg 8 rfl (Ba (Up U Z) rfl rfl (Bc func201 rfl) V fun ah ab ac=>?_);refine zg 3 rfl ?_;obtain rfl:=oi aa;exact AS func199 rfl rfl (Y ab rfl ⟨rfl,rfl⟩ ac)
def f192(fuel:Nat)(p0:BG)(p1:Int)(p2:Int):Option ((Option (Int×Option Int))):= if p1=p2 then(some (some (p1,none))) else((ix p0.2.1 p1).bind fun K=> (f199 fuel K p2).bind fun O=> if O=true then(some (some (p1,some p2))) else(some none))
theorem Uj{k1:Nat}{o2:Nat}{O:Az}{U:Nat}{V:Az}{Y:Nat}{Z:Lv_}{p0:BG}{p1:Int}{p2:Int}(ah:At E k1 o2 (([sV O p0.1 U,sV V p0.2.1 Y]:Lv_)++Z))(ay:Aq (rL rI) E O U p0.1)(ai:Aq (rL rI) E V Y p0.2.1)(az:(rA 13 (rN .u16)).r E Z p0.2.2){fuel:Nat}{r:(Option (Int×Option Int))}(aa:f192 fuel p0 p1 p2=some r):AT J 192 [pV k1 o2,iV p1,iV p2] E [] (fun w E' B'=>∃(ab:Value),w=ab∧B'= []∧MP 257 259 ab r):=by
 refine Bm func192 fun Q aA cs H ac K=>?_;unfold f192 at aa;refine zg 13 rfl (A7 aa (fun aj ak=>?_) (fun aj al=>?_))
 ·refine zg 3 rfl (Av (v:= .agg #[iV p1]) rfl (fun ρ h=>Cl [(0,1)] h (Dw type257) underlying257 ⟨rfl,A3 type3,trivial⟩ rfl rfl) ?_);refine Av (v:= .iface 257 (.agg #[iV p1])) rfl (fun ρ h=>Ed underlying257 (fun _ h=>by cases h) (h _ _ rfl)) (zg 2 rfl ?_);obtain rfl:=oi ak;exact AS func192 rfl rfl (K Ak rfl ⟨.iface 257 (.agg #[iV p1]),rfl,rfl,rfl⟩ ac)
 ·refine zg 4 rfl (BJ underlying141 Ch rfl rfl rfl ?_);refine Cd 1 ah underlying24 Be CI ?_;obtain⟨aB,am,an⟩:=bs al;refine zg 1 rfl (C3 ai am underlying22 AN ?_);rintro aC aD _ ⟨aE,aF,rfl,ao⟩ ap;refine Cv 0 ap EF rfl rfl rfl ?_;obtain⟨aG,aq,ar⟩:=bs an;refine zg 1 rfl (Ba (TN ao aq) rfl rfl (Bc func199 rfl) ac fun aH ae ag=>?_);refine zg 2 rfl (BO ar (fun au av=>?_) (fun au aw=>?_))
  ·refine zg 4 rfl (Av (v:= .agg #[iV p1,iV p2]) rfl (fun ρ h=>Cl [(0,1),(1,1)] h (Dw type259) underlying259 ⟨rfl,A3 type3,rfl,A3 type3,trivial⟩ rfl rfl) ?_);refine Av (v:= .iface 259 (.agg #[iV p1,iV p2])) rfl (fun ρ h=>Ed underlying259 (fun _ h=>by cases h) (h _ _ rfl)) (zg 2 rfl ?_);obtain rfl:=oi av;exact AS func192 rfl rfl (K ae rfl ⟨.iface 259 (.agg #[iV p1,iV p2]),rfl,rfl,rfl⟩ ag)
  ·refine zg 6 rfl ?_;obtain rfl:=oi aw;exact AS func192 rfl rfl (K ae rfl ⟨.nilIface,rfl,rfl,rfl⟩ ag)
end Pal
namespace Pal
open Go Go.Conc Go.Proofs
open Go.Proofs.Tryz
variable {J:Judge Tryz.prog}{E:LH}
def My(fuel:Nat)(p0:(BG)×(AZ)×BS):Option Int:= if(p0.2.1.length:Int)=0 then(some 0) else((AA ((p0.2.1.length:Int) - 1)).bind fun K=> (ix p0.2.1 K).bind fun O=> some O.1)
theorem S7{bk:Nat}{k1:Nat}{o2:Nat}{Z:Az}{aa:Nat}{ab:Az}{ac:Nat}{ae:Lv_}{O:Az}{U:Nat}{V:Az}{Y:Nat}{p0:(BG)×(AZ)×BS}(ar:At E k1 o2 (([sV Z p0.1.1 aa,sV ab p0.1.2.1 ac]:Lv_)++ae))(au:Aq (rL rI) E Z aa p0.1.1)(av:Aq (rL rI) E ab ac p0.1.2.1)(aw:(rA 13 (rN .u16)).r E ae p0.1.2.2)(ai:Aq BE E O U p0.2.1)(ay:Aq rI E V Y p0.2.2.2.1){fuel:Nat}{r:Int}(ag:My fuel p0=some r):AT J 154 [pV bk 0] E [(bk,.cells #[pV k1 o2,sV O p0.2.1 U,iV p0.2.2.1,sV V p0.2.2.2.1 Y,uV p0.2.2.2.2] 175 (0,0))] (fun w E' B'=>w=iV r∧B'= [(bk,.cells #[pV k1 o2,sV O p0.2.1 U,iV p0.2.2.1,sV V p0.2.2.2.1 Y,uV p0.2.2.2.2] 175 (0,0))]):=by
 refine Bm func154 fun Q az cs H K ah=>?_;unfold My at ag;refine zg 9 rfl (BJ underlying175 J9 rfl rfl rfl ?_);refine Av (v:= sV O p0.2.1 U) rfl (fun ρ h=>Yl.load IU (h _ _ rfl) (Cu (j:=0) (off:=1) K rfl rfl)) (BR underlying25 rfl rfl rfl ?_);refine zg 2 rfl (A7 ag (fun aj ak=>?_) (fun aj al=>?_))
 ·refine zg 4 rfl ?_;obtain rfl:=oi ak;exact AS func154 rfl rfl (ah Ak rfl ⟨rfl,rfl⟩ K)
 ·refine zg 2 rfl (Dr 10 [bk] ⟨⟨0,_,rfl⟩,trivial⟩ K fun ht=>?_);refine Bt ht rfl [0,1] rfl (BN 2 ht underlying175 J9 rfl rfl rfl rfl ?_);refine G1 3 ht 1 0 K IU ?_;refine Bt ht rfl [4,5] rfl (BN 6 ht underlying175 J9 rfl rfl rfl rfl ?_);refine G1 7 ht 1 0 K IU ?_;refine Bd 8 ht rfl rfl (fun ρ h s' hs=>Yl.len rfl underlying25 (h _ _ rfl)) ?_;obtain⟨aA,am,an⟩:=bs al;refine Bd 9 ht rfl rfl (fun ρ h s' hs=>Db (h _ _ rfl) (h _ _ rfl) am) (CU [10,11,12,13] ?_);obtain⟨aB,ao,ap⟩:=bs an;refine C3 ai ao underlying25 CJ ?_;rintro aC aD _ ⟨_,_,rfl,rfl,rfl⟩ aq;refine Cd 0 aq underlying27 AD BV ?_;refine zg 2 rfl ?_;obtain rfl:=oi ap;exact AS func154 rfl rfl (ah Ak rfl ⟨rfl,rfl⟩ K)
def NX(fuel:Nat)(p0:(BG)×(AZ)×BS)(p1:Int)(p2:Int)(K:Nat×Int):Option (Bz (Nat×Int) ((Nat×Bool)⊕(Nat))):= if K.2<(p0.2.1.length:Int) then(Option.bind ((ix p0.2.1 K.2).bind fun O=> if O.1≠p1 then(some (Sum.inr K.1)) else((f192 fuel p0.1 p2 O.2).bind fun U=> Option.bind (if Lq U=true then(some (Sum.inr K.1)) else(if Lp U=true then((f90 fuel K.1 K.2).bind fun V=> some (Sum.inr V)) else(some (Sum.inl (0,false))))) fun Y=>Sum.elim (fun r=>some (Sum.inl r)) (fun Z=> some (Sum.inr Z)) Y)) fun aa=>Sum.elim (fun r=>some (.done (Sum.inl r))) (fun ab=> (AA (K.2+1)).bind fun ac=> some (.more (ab,ac))) aa) else(some (.done (Sum.inr K.1)))
def Mx(fuel:Nat)(p0:(BG)×(AZ)×BS)(p1:Int)(p2:Int):On_:= Option.bind (iter (NX fuel p0 p1 p2) fuel (0,0)) fun K=> Sum.elim (fun r=>some r) (fun O=> some (O,true)) K
theorem Tp{bk:Nat}{k1:Nat}{o2:Nat}{al:Az}{am:Nat}{an:Az}{ao:Nat}{ap:Lv_}{K:Az}{O:Nat}{Y:Az}{Z:Nat}{p0:(BG)×(AZ)×BS}{p1:Int}{p2:Int}(aM:At E k1 o2 (([sV al p0.1.1 am,sV an p0.1.2.1 ao]:Lv_)++ap))(aN:Aq (rL rI) E al am p0.1.1)(aO:Aq (rL rI) E an ao p0.1.2.1)(aP:(rA 13 (rN .u16)).r E ap p0.1.2.2)(aQ:Aq BE E K O p0.2.1)(bI:Aq rI E Y Z p0.2.2.2.1){fuel:Nat}{r:Nat×Bool}(aq:Mx fuel p0 p1 p2=some r):AT J 174 [pV bk 0,iV p1,iV p2] E [(bk,.cells #[pV k1 o2,sV K p0.2.1 O,iV p0.2.2.1,sV Y p0.2.2.2.1 Z,uV p0.2.2.2.2] 175 (0,0))] (fun w E' B'=>w= .tuple #[uV r.1,.bool r.2]∧B'= [(bk,.cells #[pV k1 o2,sV K p0.2.1 O,iV p0.2.2.1,sV Y p0.2.2.2.1 Z,uV p0.2.2.2.2] 175 (0,0))]):=by
 refine Bm func174 fun Q bJ cs H ar au=>?_;unfold Mx at aq;refine zg 11 rfl (JL.label ?_);refine zg 5 rfl (BJ underlying175 J9 rfl rfl rfl ?_);refine Av (v:= sV K p0.2.1 O) rfl (fun ρ h=>Yl.load IU (h _ _ rfl) (Cu (j:=0) (off:=1) ar rfl rfl)) (BR underlying25 rfl rfl rfl ?_);obtain⟨av,aR,aw⟩:=bs aq;refine zg 2 rfl (Cc (fun L s=>∃(ai:Nat) (ay:LH),av=Sum.inr ai∧Jm E H ay [bX bk #[pV k1 o2,sV K p0.2.1 O,iV p0.2.2.1,sV Y p0.2.2.2.1 Z,uV p0.2.2.2.2] 175] [(8,uV ai)] L s) ?_ ?_)
 ·rintro _ _ ⟨ai,ay,rfl,rfl,rfl,aS,aT⟩;have aU:=elim_inr aw;refine zg 6 rfl ?_;obtain rfl:=oi aU;exact AS func174 rfl rfl (au aS rfl ⟨rfl,rfl⟩ aT)
 ·intro aV;refine JL.block (CC aR (fun U=> [bX bk #[pV k1 o2,sV K p0.2.1 O,iV p0.2.2.1,sV Y p0.2.2.2.1 Z,uV p0.2.2.2.2] 175]) (fun U=> [(0,pV bk 0),(1,iV p1),(2,iV p2),(8,uV U.1),(14,sV K p0.2.1 O),(15,iV (p0.2.1.length:Int)),(16,iV U.2)]) Ak ar ?_);rintro U az V aA aB ⟨bK,ac⟩ aW;have aC:=ac;unfold NX at aC;refine zg 5 rfl (A7 aC (fun aX aY=>?_) (fun aX aZ=>?_))
  ·obtain⟨a0,a1,aD⟩:=bs aY;refine zg 2 rfl (Cc (fun L s=>∃(ae:Nat) (aE:LH),a0=Sum.inr ae∧Jm az H aE [bX bk #[pV k1 o2,sV K p0.2.1 O,iV p0.2.2.1,sV Y p0.2.2.2.1 Z,uV p0.2.2.2.2] 175] [(0,pV bk 0),(1,iV p1),(2,iV p2),(8,uV ae),(14,sV K p0.2.1 O),(15,iV (p0.2.1.length:Int)),(16,iV U.2)] L s) ?_ ?_)
   ·rintro _ _ ⟨ae,aE,rfl,rfl,rfl,a2,a3⟩;have a4:=elim_inr aD;obtain⟨a5,a6,a7⟩:=bs a4;refine JL.region (Bv a6 rfl rfl rfl ?_);refine zg 2 rfl ?_;obtain rfl:=oi a7;exact aW (ae,a5) (V.Aa a2) a3 rfl ac
   ·intro aF;obtain⟨bL,a8,a9⟩:=bs a1;refine zg 4 rfl (C3 (aQ.Ad V) a8 underlying25 CJ ?_);rintro bM bN _ ⟨_,_,rfl,rfl,rfl⟩ ba;refine BZ ba HW CJ rfl rfl (Ci aA Du fun bO bb=>?_);refine zg 1 rfl (BI 1 bb CJ fun bc=>?_);refine Cn 1 bc rfl fun bd aa aG ab=>zg 4 rfl (Cd 0 aG underlying27 AD BV ?_);refine zg 3 rfl (A7 a9 (fun be bf=>?_) (fun be bg=>?_))
    ·exact JL.exit rfl (AU (aF _ _ ⟨U.1,bd,(Option.some.inj bf).symm,rfl,rfl,aa,ab⟩) rfl)
    ·refine zg 2 rfl (Dr 7 [bk] ⟨⟨0,_,rfl⟩,trivial⟩ ab fun ht=>?_);refine Bt ht rfl [0,1] rfl (BN 2 ht underlying175 LD rfl rfl rfl rfl ?_);refine G1 3 ht 0 0 ab JP ?_;refine CG 4 ht rfl rfl (BN 5 ht underlying27 AD rfl rfl rfl rfl ?_);refine JG.lp 6 ht 1 aG ab ⟨⟨0,_,rfl⟩,trivial⟩ BV ?_;refine CU [7] ?_;obtain⟨ag,bh,bi⟩:=bs bg;refine AJ (Uj (aM.Ad (V.Aa aa)) (aN.Ad (V.Aa aa)) (aO.Ad (V.Aa aa)) (Rp.Ad _ (V.Aa aa) aP) bh) rfl rfl (Bc func192 rfl) ab ?_;rintro _ aH _ aI ⟨bP,rfl,rfl,aJ⟩ aj;refine zg 4 rfl (Av (v:= .tuple #[(MQ ag),.bool (Lq ag)]) rfl (fun ρ h=>Q0 (t2:=259) underlying257 (Dw type257) (by decide) aJ (h _ _ rfl)) ?_);obtain⟨bj,bl,aK⟩:=bs bi;refine zg 3 rfl (Cc (fun L s=>∃(ah:Nat) (ak:LH),bj=Sum.inr ah∧Jm aH H ak [bX bk #[pV k1 o2,sV K p0.2.1 O,iV p0.2.2.1,sV Y p0.2.2.2.1 Z,uV p0.2.2.2.2] 175] [(0,pV bk 0),(1,iV p1),(2,iV p2),(8,uV ah),(14,sV K p0.2.1 O),(15,iV (p0.2.1.length:Int)),(16,iV U.2)] L s) ?_ ?_)
     ·rintro _ _ ⟨ah,ak,rfl,rfl,rfl,bm,bn⟩;have bo:=elim_inr aK;exact zg 2 rfl (AU (aF _ _ ⟨ah,ak,(Option.some.inj bo).symm,rfl,rfl,((aa.Aa aI).Aa bm),bn⟩) rfl)
     ·intro aL;refine BO bl (fun bp bq=>?_) (fun bp br=>?_)
      ·exact JL.skip (AU (aL _ _ ⟨U.1,aH,(Option.some.inj bq).symm,rfl,rfl,Ak,aj⟩) rfl)
      ·refine zg 2 rfl (Av (v:= .tuple #[(MR ag),.bool (Lp ag)]) rfl (fun ρ h=>Q2 (t1:=257) underlying259 (Dw type259) (by decide) aJ (h _ _ rfl)) ?_);refine zg 3 rfl (BO br (fun bu bv=>?_) (fun bu bw=>?_))
       ·obtain⟨bx,bz,bA⟩:=bs bv;refine zg 3 rfl (Ba (Lf bz) rfl rfl J6 aj fun bB bC bD=>?_);exact zg 2 rfl (AU (aL _ _ ⟨bx,bB,(Option.some.inj bA).symm,rfl,rfl,bC,bD⟩) rfl)
       ·refine zg 5 rfl ?_;obtain rfl:=oi bw;have bE:=elim_inl aK;obtain rfl:=oi bE;have bF:=elim_inl aD;obtain rfl:=oi bF;obtain rfl:=aB _ ac;have bG:=elim_inl aw;obtain rfl:=oi bG;exact AS func174 rfl rfl (au ((V.Aa aa).Aa aI) rfl ⟨rfl,rfl⟩ aj)
  ·refine JL.exit rfl ?_;obtain rfl:=oi aZ;have bH:av=(Sum.inr U.1):=(aB _ ac).symm;exact AU (aV _ _ ⟨U.1,az,bH,rfl,rfl,V,aA⟩) rfl
end Pal
namespace Pal
open Go Go.Conc Go.Proofs
open Go.Proofs.Tryz
variable {J:Judge Tryz.prog}{E:LH}
def K0(fuel:Nat)(p0:List Int):Option ((List Int)):= (Ff ([]:List Int) p0).bind fun K=> some K
theorem SZ{ad:Addr}{c2:Nat}{p0:List Int}(V:Aq rI E (some ad) c2 p0){fuel:Nat}{r:(List Int)}(K:K0 fuel p0=some r):AT J 175 [.slice (some ad) p0.length c2] E [] (fun w E' B'=>∃(O:Az) (U:Nat) (g0:Seg),w= sV O r U∧B'=g0∧OL 3 rI E' O U g0 r):=by
 refine Bm func175 fun Q al cs H Y Z=>?_;unfold K0 at K;refine zg 8 rfl (Av (v:= .bool false) rfl (fun ρ h=>Ki (a:=(some ad)) underlying28 (h _ _ rfl) (h _ _ rfl)) ?_);refine zg 5 rfl (OQ (pp:=rI) rfl rfl rfl underlying28 AD Y fun am g2 aa ab=>?_);obtain⟨an,ac,ae⟩:=bs K;refine zg 1 rfl (OE (pp:=rI) 1 ac rfl rfl rfl rfl rfl rfl rfl underlying28 underlying28 AD (FJ type3) A1 rfl (by decide) (by decide) aa V ab rfl fun ag ah ai aj ak=>?_);refine zg 2 rfl ?_;obtain rfl:=oi ae;exact AS func175 rfl rfl (Z Ak rfl ⟨ag,ah,ai,rfl,(by first | rfl | simp | (simp [Value.cells])),aj⟩ ak)
def P4(fuel:Nat)(p0:List Int):Option ((List Int)):= some ([])
theorem Tv{c2:Nat}{p0:List Int}(Z:Aq rI E none c2 p0){fuel:Nat}{r:(List Int)}(K:P4 fuel p0=some r):AT J 175 [sV none p0 c2] E [] (fun w E' B'=>∃(O:Az) (U:Nat) (g0:Seg),w= sV O r U∧B'=g0∧OL 3 rI E' O U g0 r):=by
 refine Bm func175 fun Q aa cs H V Y=>?_;unfold P4 at K;refine zg 8 rfl (Av (v:= .bool true) rfl (fun ρ h=>Ki (a:=none) underlying28 (h _ _ rfl) (h _ _ rfl)) ?_);refine zg 6 rfl ?_;obtain rfl:=oi K;exact AS func175 rfl rfl (Y Ak rfl ⟨none,0,[],rfl,rfl,OL.nil⟩ V)
def f175(fuel:Nat)(p0:List Int):Option (List Int):=K0 fuel p0
theorem Pa{O:Az}{c2:Nat}{p0:List Int}(U:Aq rI E O c2 p0){fuel:Nat}{r:List Int}(K:f175 fuel p0=some r):AT J 175 [.slice O p0.length c2] E [] (fun w E' B'=>∃(V:Az) (Y:Nat) (g0:Seg),w= .slice V r.length Y∧B'=g0∧OL 3 rI E' V Y g0 r):=by
 cases O with
 | some ad=>exact SZ U K
 | none=>
  have Z:p0= []:=by
   rcases U.2 with h | ⟨_,_,h,_⟩
   ·exact h.1
   ·cases h
  subst Z;have aa:r= []:=by
   have ab:K0 fuel []=some []:=rfl;unfold f175 at K;rw [ab] at K;exact(Option.some.inj K).symm
  subst aa;exact Tv (fuel:=fuel) U rfl
end Pal
namespace Pal
open Go Go.Conc Go.Proofs
open Go.Proofs.Tryz
def Iz(fuel:Nat)(le:Int)(all:List (BS))(tr:(BS))(O:Int):Option (Int×List (BS)):=
 Option.bind (
  if((all).length:Int)=0 then(
   some true
  ) else(
   some (decide (O<le))
  )
 ) fun U=>
 Option.bind (
  if U=true then(
   some (O,[])
  ) else(
   some (le,all)
  )
 ) fun K=>
 Option.bind (
  if O=K.1 then(
   (Ff K.2 ([tr]:List (BS))).bind fun V=>
   some V
  ) else(
   some K.2
  )
 ) fun Y=>
 some (K.1,Y)
theorem Ub{J:Judge Tryz.prog}{E:LH}{bk:Nat}{age:Int}{le:Int}{a:Az}{c:Nat}{g:Seg}{all:List (BS)}(aD:OL 104 CW E a c g all){Y:Az}{Z:Nat}{tr:(BS)}(aE:Aq rI E Y Z tr.2.1){aa:Int}{fuel:Nat}{r:Int×List (BS)}(aq:Iz fuel le all tr aa=some r):
  AT J 122 [pV bk 1,.agg #[iV tr.1,.slice Y tr.2.1.length Z,uV tr.2.2],iV aa] E ([(bk,.cells #[iV age,iV le,.slice a all.length c] 133 (0,0))]++g) (fun w E' B'=>∃ar au g',w= .tuple #[]∧B'= [(bk,.cells #[iV age,iV r.1,.slice ar r.2.length au] 133 (0,0))]++g'∧OL 104 CW E' ar au g' r.2):=by
 refine Bm func122 fun Q bg cs H al aF=>?_;refine Da (S':= [[(bk,.cells #[iV age,iV le,.slice a all.length c] 133 (0,0))],g]) (by simp) al fun al=>?_;unfold Iz at aq;refine zg 2 rfl (CB al fun av am an aG ab=>?_);refine zg 6 rfl (BJ underlying97 CX rfl rfl rfl ?_);refine Av (v:= sV a all c) rfl (fun ρ h=>Yl.load DN (h _ _ rfl) (Cu (j:=0) (off:=2) ab rfl rfl)) (BR underlying95 rfl rfl rfl ?_);obtain⟨aH,aI,aJ⟩:=bs aq;refine zg 2 rfl (EK [] (fun L s=>∃(U:LH),Jm am H U [bX bk #[iV age,iV le,sV a all c] 133,g] [(0,pV bk 1),(2,iV aa),(4,pV av 0),(19,.bool aH)] L s) ?_ ?_)
 ·rintro _ _ ⟨U,rfl,rfl,ac,aw⟩;obtain⟨V,aK,aL⟩:=bs aJ;refine JL.done (Cc (fun L s=>∃(K:LH) (ae:Az) (ag:Nat) (ah:Seg),Jn U H K [bX bk #[iV age,iV V.1,sV ae V.2 ag] 133,ah] [(0,pV bk 1),(2,iV aa),(4,pV av 0)] L s (OL 104 CW K ae ag ah V.2)) ?_ ?_)
  ·rintro _ _ ⟨K,ae,ag,ah,rfl,rfl,ao,O,ay⟩;refine zg 5 rfl (BJ underlying97 AD rfl rfl rfl ?_);refine Av (v:=iV V.1) rfl (fun ρ h=>Yl.load BV (h _ _ rfl) (Cu (j:=0) (off:=1) O rfl rfl)) ?_;obtain⟨az,aM,aN⟩:=bs aL;refine zg 2 rfl (Cc (fun L s=>∃(ap:LH) (ai:Az) (aj:Nat) (ak:Seg),Jn K H ap [bX bk #[iV age,iV V.1,sV ai az aj] 133,ak] [] L s (OL 104 CW ap ai aj ak az)) ?_ ?_)
   ·rintro _ _ ⟨ap,ai,aj,ak,rfl,rfl,aO,aP,aQ⟩;obtain rfl:=oi aN;exact JL.fin (v:= .tuple #[]) rfl rfl (BP.list func122 rfl (vs:= []) trivial) (aF (((an.Aa ac).Aa ao).Aa aO) rfl ⟨ai,aj,ak,rfl,by simp,aQ⟩ aP)
   ·intro aA;refine A7 aM (fun aR aS=>?_) (fun aR aT=>?_)
    ·refine Dr 8 [bk] ⟨⟨0,_,rfl⟩,trivial⟩ O fun ht=>Bt ht rfl [0,1,2] rfl (BN 3 ht underlying97 CX rfl rfl rfl rfl ?_);refine G1 4 ht 2 0 O DN ?_;refine Bd 5 ht rfl rfl (fun ρ h s' hs=>EZ (vs:= [iV tr.1,sV Y tr.2.1 Z,uV tr.2.2]) EV Cb (h _ _ rfl) (At.Mk (aG.Ad (ac.Aa ao)) (Mr O hs ⟨⟨0,_,rfl⟩,trivial⟩))) ?_;obtain⟨bh,aU,aV⟩:=bs aS;refine JG.one (i:=6) rfl (by decide+kernel) (Take.lit (pp:=CW) (jp:=0) [.agg #[iV tr.1,sV Y tr.2.1 Z,uV tr.2.2]] ([tr]:List BS) O rfl rfl rfl rfl underlying95 Cb F1 (by decide) rfl rfl rfl ⟨⟨_,_,rfl,rfl,⟨_,_,rfl,⟨_,_,rfl,(aE.Ad ((an.Aa ac).Aa ao))⟩,rfl⟩⟩,trivial⟩ fun bi bj aW aX=>?_);refine JG.one (i:=7) rfl (by decide+kernel) (Take.app (pp:=CW) (jp:=0) 1 2 aX rfl aU rfl rfl rfl rfl rfl rfl rfl underlying95 underlying95 Cb (FJ type104) F1 rfl (by decide) (by decide) ay aW rfl rfl rfl rfl fun aY aZ bl a0 a1 a2=>?_);refine CU [8,9,10] (Ft 1 rfl a2 fun a3=>?_);refine JS.drop 1 a3 rfl fun a4=>zg 1 rfl (BJ underlying97 CX rfl rfl rfl ?_);refine BI 0 a4 CX fun a5=>?_;refine JL.done (JS.drop 2 a5 rfl fun a6=>?_);obtain rfl:=oi aV;exact AU (aA _ _ ⟨K,aY,aZ,a0,rfl,rfl,Ak,a6,a1⟩) rfl
    ·refine JL.skip ?_;obtain rfl:=oi aT;exact AU (aA _ _ ⟨K,ae,ag,ah,rfl,rfl,Ak,O,ay⟩) rfl
  ·intro aB;refine BO aK (fun a7 a8=>?_) (fun a7 a9=>?_)
   ·refine zg 5 rfl (BJ underlying97 AD rfl rfl rfl ?_);refine BI 0 aw AD fun ba=>?_;refine zg 1 rfl (BJ underlying97 CX rfl rfl rfl ?_);refine BI 0 ba CX fun bb=>?_;refine JL.done (JS.drop 1 bb rfl fun bc=>?_);obtain rfl:=oi a8;exact AU (aB _ _ ⟨U,none,0,[],rfl,rfl,Ak,bc,OL.nil⟩) rfl
   ·refine JL.skip ?_;obtain rfl:=oi a9;exact AU (aB _ _ ⟨U,a,c,g,rfl,rfl,Ak,aw,(aD.Ad (an.Aa ac))⟩) rfl
 ·intro aC;refine DU 12 aI (fun bd be=>?_) (fun bd bf=>?_)
  ·refine zg 7 rfl ?_;obtain rfl:=oi be;exact AU (aC _ _ ⟨am,rfl,rfl,Ak,ab⟩) rfl
  ·refine zg 3 rfl (BJ underlying97 AD rfl rfl rfl ?_);refine Av (v:=iV le) rfl (fun ρ h=>Yl.load BV (h _ _ rfl) (Cu (j:=0) (off:=1) ab rfl rfl)) (zg 2 rfl ?_);obtain rfl:=oi bf;exact AU (aC _ _ ⟨am,rfl,rfl,Ak,ab⟩) rfl
theorem Uc{J:Judge Tryz.prog}{E:LH}{bk:Nat}{age:Int}{le:Int}{a:Az}{c:Nat}{g:Seg}{all:List (BS)}(aD:OL 104 CW E a c g all){Y:Az}{Z:Nat}{tr:(BS)}(aE:Aq rI E Y Z tr.2.1){aa:Int}{fuel:Nat}{r:Int×List (BS)}(aq:Iz fuel le all tr aa=some r):
  AT J 122 [pV bk 0,.agg #[iV tr.1,.slice Y tr.2.1.length Z,uV tr.2.2],iV aa] E ([(bk,.cells #[iV le,.slice a all.length c] 97 (0,0))]++g) (fun w E' B'=>∃ar au g',w= .tuple #[]∧B'= [(bk,.cells #[iV r.1,.slice ar r.2.length au] 97 (0,0))]++g'∧OL 104 CW E' ar au g' r.2):=by
 refine Bm func122 fun Q bg cs H al aF=>?_;refine Da (S':= [[(bk,.cells #[iV le,.slice a all.length c] 97 (0,0))],g]) (by simp) al fun al=>?_;unfold Iz at aq;refine zg 2 rfl (CB al fun av am an aG ab=>?_);refine zg 6 rfl (BJ underlying97 CX rfl rfl rfl ?_);refine Av (v:= sV a all c) rfl (fun ρ h=>Yl.load DN (h _ _ rfl) (Cu (j:=0) (off:=1) ab rfl rfl)) (BR underlying95 rfl rfl rfl ?_);obtain⟨aH,aI,aJ⟩:=bs aq;refine zg 2 rfl (EK [] (fun L s=>∃(U:LH),Jm am H U [bX bk #[iV le,sV a all c] 97,g] [(0,pV bk 0),(2,iV aa),(4,pV av 0),(19,.bool aH)] L s) ?_ ?_)
 ·rintro _ _ ⟨U,rfl,rfl,ac,aw⟩;obtain⟨V,aK,aL⟩:=bs aJ;refine JL.done (Cc (fun L s=>∃(K:LH) (ae:Az) (ag:Nat) (ah:Seg),Jn U H K [bX bk #[iV V.1,sV ae V.2 ag] 97,ah] [(0,pV bk 0),(2,iV aa),(4,pV av 0)] L s (OL 104 CW K ae ag ah V.2)) ?_ ?_)
  ·rintro _ _ ⟨K,ae,ag,ah,rfl,rfl,ao,O,ay⟩;refine zg 5 rfl (BJ underlying97 AD rfl rfl rfl ?_);refine Av (v:=iV V.1) rfl (fun ρ h=>Yl.load BV (h _ _ rfl) (Cu (j:=0) (off:=0) O rfl rfl)) ?_;obtain⟨az,aM,aN⟩:=bs aL;refine zg 2 rfl (Cc (fun L s=>∃(ap:LH) (ai:Az) (aj:Nat) (ak:Seg),Jn K H ap [bX bk #[iV V.1,sV ai az aj] 97,ak] [] L s (OL 104 CW ap ai aj ak az)) ?_ ?_)
   ·rintro _ _ ⟨ap,ai,aj,ak,rfl,rfl,aO,aP,aQ⟩;obtain rfl:=oi aN;exact JL.fin (v:= .tuple #[]) rfl rfl (BP.list func122 rfl (vs:= []) trivial) (aF (((an.Aa ac).Aa ao).Aa aO) rfl ⟨ai,aj,ak,rfl,by simp,aQ⟩ aP)
   ·intro aA;refine A7 aM (fun aR aS=>?_) (fun aR aT=>?_)
    ·refine Dr 8 [bk] ⟨⟨0,_,rfl⟩,trivial⟩ O fun ht=>Bt ht rfl [0,1,2] rfl (BN 3 ht underlying97 CX rfl rfl rfl rfl ?_);refine G1 4 ht 1 0 O DN ?_;refine Bd 5 ht rfl rfl (fun ρ h s' hs=>EZ (vs:= [iV tr.1,sV Y tr.2.1 Z,uV tr.2.2]) EV Cb (h _ _ rfl) (At.Mk (aG.Ad (ac.Aa ao)) (Mr O hs ⟨⟨0,_,rfl⟩,trivial⟩))) ?_;obtain⟨bh,aU,aV⟩:=bs aS;refine JG.one (i:=6) rfl (by decide+kernel) (Take.lit (pp:=CW) (jp:=0) [.agg #[iV tr.1,sV Y tr.2.1 Z,uV tr.2.2]] ([tr]:List BS) O rfl rfl rfl rfl underlying95 Cb F1 (by decide) rfl rfl rfl ⟨⟨_,_,rfl,rfl,⟨_,_,rfl,⟨_,_,rfl,(aE.Ad ((an.Aa ac).Aa ao))⟩,rfl⟩⟩,trivial⟩ fun bi bj aW aX=>?_);refine JG.one (i:=7) rfl (by decide+kernel) (Take.app (pp:=CW) (jp:=0) 1 2 aX rfl aU rfl rfl rfl rfl rfl rfl rfl underlying95 underlying95 Cb (FJ type104) F1 rfl (by decide) (by decide) ay aW rfl rfl rfl rfl fun aY aZ bl a0 a1 a2=>?_);refine CU [8,9,10] (Ft 1 rfl a2 fun a3=>?_);refine JS.drop 1 a3 rfl fun a4=>zg 1 rfl (BJ underlying97 CX rfl rfl rfl ?_);refine BI 0 a4 CX fun a5=>?_;refine JL.done (JS.drop 2 a5 rfl fun a6=>?_);obtain rfl:=oi aV;exact AU (aA _ _ ⟨K,aY,aZ,a0,rfl,rfl,Ak,a6,a1⟩) rfl
    ·refine JL.skip ?_;obtain rfl:=oi aT;exact AU (aA _ _ ⟨K,ae,ag,ah,rfl,rfl,Ak,O,ay⟩) rfl
  ·intro aB;refine BO aK (fun a7 a8=>?_) (fun a7 a9=>?_)
   ·refine zg 5 rfl (BJ underlying97 AD rfl rfl rfl ?_);refine BI 0 aw AD fun ba=>?_;refine zg 1 rfl (BJ underlying97 CX rfl rfl rfl ?_);refine BI 0 ba CX fun bb=>?_;refine JL.done (JS.drop 1 bb rfl fun bc=>?_);obtain rfl:=oi a8;exact AU (aB _ _ ⟨U,none,0,[],rfl,rfl,Ak,bc,OL.nil⟩) rfl
   ·refine JL.skip ?_;obtain rfl:=oi a9;exact AU (aB _ _ ⟨U,a,c,g,rfl,rfl,Ak,aw,(aD.Ad (an.Aa ac))⟩) rfl
 ·intro aC;refine DU 12 aI (fun bd be=>?_) (fun bd bf=>?_)
  ·refine zg 7 rfl ?_;obtain rfl:=oi be;exact AU (aC _ _ ⟨am,rfl,rfl,Ak,ab⟩) rfl
  ·refine zg 3 rfl (BJ underlying97 AD rfl rfl rfl ?_);refine Av (v:=iV le) rfl (fun ρ h=>Yl.load BV (h _ _ rfl) (Cu (j:=0) (off:=0) ab rfl rfl)) (zg 2 rfl ?_);obtain rfl:=oi bf;exact AU (aC _ _ ⟨am,rfl,rfl,Ak,ab⟩) rfl
end Pal
namespace Pal
open Go Go.Conc Go.Proofs
open Go.Proofs.Tryz
def MI(fuel:Nat)(U:BG)(V:AZ)(age:Int)(ms:List Int)(K:Nat)(m:Int):Option (Option (List Int×Nat)):=
 (Mx fuel (U,V,age,ms,K) ((ms).length:Int) m).bind fun O=>
 if(!O.2)=true then(
  some none
 ) else(
  (f175 fuel ms).bind fun Y=>
  (Ff Y ([m]:List Int)).bind fun Z=>
  (IK (K) (O.1)).bind fun aa=>
  some (some (Z,aa))
 )
theorem TQ{J:Judge Tryz.prog}{A:Type}{I:A→LH→Seg→Prop}(a6:∀x E E' X,Le E E'→I x E X→I x E' X){E:LH}{bk k1 o2:Nat}{aL aM O aa:Az}{aN aO U ab:Nat}{aP:Lv_}{ai:BG}{K:AZ}{age:Int}{ms:List Int}{ac:Nat}(a7:At E k1 o2 (([sV aL ai.1 aN,sV aM ai.2.1 aO]:Lv_)++aP))(a8:Aq (rL rI) E aL aN ai.1)(a9:Aq (rL rI) E aM aO ai.2.1)(ba:(rA 13 (rN .u16)).r E aP ai.2.2)(bb:Aq BE E O U K)(az:Aq rI E aa ab ms){aQ:Value}{X:Seg}{acc acc':A}(bc:I acc E X){m:Int}{fuel:Nat}{r:Option (List Int×Nat)}(aR:MI fuel ai K age ms ac m=some r)
  (bd:r=none→acc'=acc)
  (aS:∀q,r=some q→∀E' a c,Le E E'→Aq rI E' a c q.1→D7 J aQ [] E' ([(bk,.cells #[pV k1 o2,.slice O K.length U,iV age,.slice a q.1.length c,uV q.2] 175 (0,0))]++X) (fun w be bf=>∃an ao ap Z,w= .bool true∧bf= [(bk,.cells #[pV k1 o2,.slice O K.length U,an,ao,ap] 175 (0,0))]++Z∧I acc' be Z)):
  AT J 155 [pV bk 0,iV m,aQ] E ([(bk,.cells #[pV k1 o2,.slice O K.length U,iV age,.slice aa ms.length ab,uV ac] 175 (0,0))]++X) (fun w E' B'=>∃Z,w= .bool true∧B'= [(bk,.cells #[pV k1 o2,.slice O K.length U,iV age,.slice aa ms.length ab,uV ac] 175 (0,0))]++Z∧I acc' E' Z):=by
 refine Bm func155 fun Q aT cs H aA aB=>?_;refine Da (S':= [[(bk,.cells #[pV k1 o2,.slice O K.length U,iV age,.slice aa ms.length ab,uV ac] 175 (0,0))],X]) (by simp) aA fun aA=>?_;unfold MI at aR;refine zg 2 rfl (CB aA fun aj b4 V ag aq=>?_);refine zg 3 rfl (Dr 13 [bk] ⟨⟨0,_,rfl⟩,trivial⟩ aq fun ht=>?_);refine JG.lp 0 ht 0 ag aq ⟨⟨0,_,rfl⟩,trivial⟩ EE ?_;refine JG.lp 1 ht 0 ag aq ⟨⟨0,_,rfl⟩,trivial⟩ EE ?_;refine CG 2 ht rfl rfl (BN 3 ht underlying175 Cb rfl rfl rfl rfl ?_);refine BN 4 ht underlying104 AN rfl rfl rfl rfl (G1 5 ht 3 0 aq EF ?_);refine Bd 6 ht rfl rfl (fun ρ h s' hs=>Yl.len rfl underlying28 (h _ _ rfl)) (CG 7 ht rfl rfl ?_);obtain⟨bg,bh,bi⟩:=bs aR;refine Ny (i:=8) (vs:= [pV bk 0,iV (ms.length:Int),iV m]) 0 ⟨⟨0,_,rfl⟩,trivial⟩ (Tp (a7.Ad V) (a8.Ad V) (a9.Ad V) (Rp.Ad _ V ba) (bb.Ad V) (az.Ad V) bh) (fun _ _ _ h=>h.2) (by decide+kernel) rfl rfl rfl (Bc func174 rfl) rfl aq rfl ?_;rintro _ b5 Y ⟨rfl,_⟩ aC;refine Bt ht rfl [9,10,11,12] rfl (CU [13] ?_);refine zg 6 rfl (Av (v:= .bool (!bg.2)) rfl (fun ρ h=>Yl.not (h _ _ rfl)) ?_);refine JL.done (BO bi (fun bj bl=>?_) (fun bj bm=>?_))
 ·refine zg 4 rfl ?_;obtain rfl:=oi bl;exact AS func155 rfl rfl (aB (V.Aa Y) rfl ⟨X,rfl,by simp,by rw [bd rfl];exact a6 _ _ _ _ (V.Aa Y) bc⟩ aC)
 ·refine zg 3 rfl (Cv 0 (ag.Ad Y) EE rfl rfl rfl ?_);refine zg 1 rfl (BJ underlying175 Cb rfl rfl rfl ?_);refine Av rfl (fun ρ h=>EZ (vs:= [iV age,sV aa ms ab,uV ac]) EV Cb (h _ _ rfl) (EJ (off:=2) 0 aC rfl rfl)) (Ci aC F1 fun ak bn=>?_);refine BI 3 bn Cb fun bo=>?_;refine Cn 3 bo rfl fun b6 ae aD bp=>Bl (S':= [[(bk,.cells #[pV k1 o2,sV O K U,iV age,sV aa ms ab,uV ac] 175 (0,0))],X,[],[]]) rfl bp fun aU=>zg 2 rfl (Er 7 fun ht=>?_);refine DV 0 ht 0 (ag.Ad (Y.Aa ae)) EE rfl rfl rfl rfl (BN 1 ht underlying104 AN rfl rfl rfl rfl ?_);refine DV 2 ht 1 aD EF rfl rfl rfl rfl (CG 4 ht rfl rfl ?_);obtain⟨b7,aV,bq⟩:=bs bm;obtain⟨al,aW,aX⟩:=bs bq;refine Cy (i:=3) (j:=5) rfl (by decide+kernel) ?_ ?_
  ·refine Take.PX (vs:= [sV aa ms ab]) aU (Pa (az.Ad ((V.Aa Y).Aa ae)) aV) rfl rfl rfl (Bc func175 rfl) rfl ?_;rintro _ b8 _ ar ⟨b9,ca,cb,rfl,rfl,br⟩ bu;refine JG.one (i:=5) rfl (by decide+kernel) (Take.BD (pp:=rI) [iV m] ([m]:List Int) bu rfl rfl rfl underlying28 AD A1 (by decide) rfl rfl rfl ⟨rfl,trivial⟩ fun cc aY bv bw=>?_);refine JG.one (i:=6) rfl (by decide+kernel) (Take.app0 (pp:=rI) 4 5 bw aW rfl rfl rfl rfl rfl rfl rfl underlying28 underlying28 AD (FJ type3) A1 rfl (by decide) (by decide) br bv rfl rfl fun aZ a0 cd bx bz bA=>?_);refine CU [7,8,9,10] (Ft 4 rfl bA fun bB=>?_);refine JS.drop 4 bB rfl fun bC=>Bl (S':= [[(bk,.cells #[pV k1 o2,sV O K U,iV age,sV aa ms ab,uV ac] 175 (0,0))],X,[],[],[],aY,bx]) rfl bC fun bD=>zg 1 rfl (BJ underlying175 Cb rfl rfl rfl ?_);refine BJ underlying104 AN rfl rfl rfl (BI 0 bD AN fun a1=>?_);refine zg 3 rfl (Cv 0 (ag.Ad ((Y.Aa ae).Aa ar)) EE rfl rfl rfl ?_);refine zg 1 rfl (BJ underlying175 Cb rfl rfl rfl ?_);refine BJ underlying104 Dv rfl rfl rfl (Av (v:= uV ac) rfl (fun ρ h=>Yl.load FE (h _ _ rfl) (Cu (j:=0) (off:=4) a1 rfl rfl)) ?_);obtain⟨au,bE,bF⟩:=bs aX;refine zg 1 rfl (Av (v:= uV au) rfl (fun ρ h=>Jb (h _ _ rfl) (h _ _ rfl) bE) ?_);refine zg 1 rfl (BJ underlying175 Cb rfl rfl rfl ?_);refine BJ underlying104 Dv rfl rfl rfl (BI 0 a1 Dv fun bG=>?_);refine zg 2 rfl (BA 6 bz bG rfl fun ce av bH bI=>?_);refine Bl (S':= [[(bk,.cells #[pV k1 o2,sV O K U,iV age,sV aZ al a0,uV au] 175 (0,0))],X,[],[],[],aY,[]]) rfl bI fun bJ=>JS.drop 5 bJ rfl fun bK=>?_;obtain rfl:=oi bF;refine JL.region (Av (v:= .func (.func 176) #[] [pV ak 0,pV aj 0].toArray) rfl (fun ρ h=>HD (by simp) (by simp [h (.tmp 9) _ rfl,h (.tmp 3) _ rfl])) ?_);refine NJ (vs:= []) (caps:= [pV ak 0,pV aj 0]) rfl rfl rfl rfl rfl rfl (zg 4 rfl ?_);refine Da (S':= [[(bk,.cells #[pV k1 o2,sV O K U,iV age,sV aZ al a0,uV au] 175 (0,0))]++X]) (by simp) bK fun aE=>H8 (vs:= []) 0 (aS (al,au) rfl _ _ _ ((((V.Aa Y).Aa ae).Aa ar).Aa av) bH) rfl rfl rfl rfl rfl aE rfl ?_;rintro _ bL _ ah ⟨an,ao,ap,Z,rfl,rfl,aF⟩ aG;refine zg 2 rfl (Eo rfl ?_);refine JO.Pc (vs:= []) (caps:= [pV ak 0,pV aj 0]) rfl func176 rfl rfl (Nat.le_of_ble_eq_true rfl) fun T aH todo=>Da (S':= [[(bk,.cells #[pV k1 o2,.slice O K.length U,an,ao,ap] 175 (0,0))],Z]) (by simp) aG fun aI=>JL.region (Cv 0 (ag.Ad ((((Y.Aa ae).Aa ar).Aa av).trans ah)) EE rfl rfl rfl ?_);refine BZ (aD.Ad ((ar.Aa av).trans ah)) EV Cb rfl rfl (zg 1 rfl ?_);refine BJ underlying175 Cb rfl rfl rfl (BI 0 aI Cb fun aJ=>?_);refine Bl (S':= [[(bk,.cells #[pV k1 o2,.slice O K.length U,iV age,.slice aa ms.length ab,uV ac] 175 (0,0))],Z]) rfl aJ fun aK=>JL.done (JL.out rfl ?_);refine JO.leaveD rfl func176 rfl (.inl rfl) ?_;refine(?_:JO J Q (base 155) Tryz.f155.ntmps _ [] (aT::cs) _) T aH todo;exact JO.leave (v:= .bool true) rfl (BP.list func155 rfl (vs:= [.bool true]) ⟨rfl,trivial⟩) (aB (((((V.Aa Y).Aa ae).Aa ar).Aa av).trans ah) rfl ⟨Z,rfl,by simp,aF⟩ aK)
  ·refine Take.BD (pp:=rI) [iV m] ([m]:List Int) aU rfl rfl rfl underlying28 AD A1 (by decide) rfl rfl rfl ⟨rfl,trivial⟩ fun cf a2 bM bN=>JG.one (i:=3) rfl (by decide+kernel) (Take.PX (vs:= [sV aa ms ab]) bN (Pa (az.Ad ((V.Aa Y).Aa ae)) aV) rfl rfl rfl (Bc func175 rfl) rfl ?_);rintro _ cg _ am ⟨ci,ck,cm,rfl,rfl,bO⟩ bP;refine JG.one (i:=6) rfl (by decide+kernel) (Take.app0 (pp:=rI) 5 4 bP aW rfl rfl rfl rfl rfl rfl rfl underlying28 underlying28 AD (FJ type3) A1 rfl (by decide) (by decide) bO (bM.Ad am) rfl rfl fun a3 a4 cn bQ bR bS=>?_);refine CU [7,8,9,10] (Ft 5 rfl bS fun bT=>?_);refine JS.drop 5 bT rfl fun bU=>Bl (S':= [[(bk,.cells #[pV k1 o2,sV O K U,iV age,sV aa ms ab,uV ac] 175 (0,0))],X,[],[],a2,[],bQ]) rfl bU fun bV=>zg 1 rfl (BJ underlying175 Cb rfl rfl rfl ?_);refine BJ underlying104 AN rfl rfl rfl (BI 0 bV AN fun a5=>?_);refine zg 3 rfl (Cv 0 (ag.Ad ((Y.Aa ae).Aa am)) EE rfl rfl rfl ?_);refine zg 1 rfl (BJ underlying175 Cb rfl rfl rfl ?_);refine BJ underlying104 Dv rfl rfl rfl (Av (v:= uV ac) rfl (fun ρ h=>Yl.load FE (h _ _ rfl) (Cu (j:=0) (off:=4) a5 rfl rfl)) ?_);obtain⟨aw,bW,bY⟩:=bs aX;refine zg 1 rfl (Av (v:= uV aw) rfl (fun ρ h=>Jb (h _ _ rfl) (h _ _ rfl) bW) ?_);refine zg 1 rfl (BJ underlying175 Cb rfl rfl rfl ?_);refine BJ underlying104 Dv rfl rfl rfl (BI 0 a5 Dv fun bZ=>?_);refine zg 2 rfl (BA 6 bR bZ rfl fun co ay b0 b1=>?_);refine Bl (S':= [[(bk,.cells #[pV k1 o2,sV O K U,iV age,sV a3 al a4,uV aw] 175 (0,0))],X,[],[],a2,[],[]]) rfl b1 fun b2=>JS.drop 4 b2 rfl fun b3=>?_;obtain rfl:=oi bY;refine JL.region (Av (v:= .func (.func 176) #[] [pV ak 0,pV aj 0].toArray) rfl (fun ρ h=>HD (by simp) (by simp [h (.tmp 9) _ rfl,h (.tmp 3) _ rfl])) ?_);refine NJ (vs:= []) (caps:= [pV ak 0,pV aj 0]) rfl rfl rfl rfl rfl rfl (zg 4 rfl ?_);refine Da (S':= [[(bk,.cells #[pV k1 o2,sV O K U,iV age,sV a3 al a4,uV aw] 175 (0,0))]++X]) (by simp) b3 fun aE=>H8 (vs:= []) 0 (aS (al,aw) rfl _ _ _ ((((V.Aa Y).Aa ae).Aa am).Aa ay) b0) rfl rfl rfl rfl rfl aE rfl ?_;rintro _ bL _ ah ⟨an,ao,ap,Z,rfl,rfl,aF⟩ aG;refine zg 2 rfl (Eo rfl ?_);refine JO.Pc (vs:= []) (caps:= [pV ak 0,pV aj 0]) rfl func176 rfl rfl (Nat.le_of_ble_eq_true rfl) fun T aH todo=>Da (S':= [[(bk,.cells #[pV k1 o2,.slice O K.length U,an,ao,ap] 175 (0,0))],Z]) (by simp) aG fun aI=>JL.region (Cv 0 (ag.Ad ((((Y.Aa ae).Aa am).Aa ay).trans ah)) EE rfl rfl rfl ?_);refine BZ (aD.Ad ((am.Aa ay).trans ah)) EV Cb rfl rfl (zg 1 rfl ?_);refine BJ underlying175 Cb rfl rfl rfl (BI 0 aI Cb fun aJ=>?_);refine Bl (S':= [[(bk,.cells #[pV k1 o2,.slice O K.length U,iV age,.slice aa ms.length ab,uV ac] 175 (0,0))],Z]) rfl aJ fun aK=>JL.done (JL.out rfl ?_);refine JO.leaveD rfl func176 rfl (.inl rfl) ?_;refine(?_:JO J Q (base 155) Tryz.f155.ntmps _ [] (aT::cs) _) T aH todo;exact JO.leave (v:= .bool true) rfl (BP.list func155 rfl (vs:= [.bool true]) ⟨rfl,trivial⟩) (aB (((((V.Aa Y).Aa ae).Aa am).Aa ay).trans ah) rfl ⟨Z,rfl,by simp,aF⟩ aK)
end Pal
namespace Pal
open Go Go.Conc Go.Proofs
open Go.Proofs.Tryz
def MF(fuel:Nat)(K:BG)(V:AZ)(age:Int)(ms:List Int)(Y:Nat)(n:Int):Option (Nat):=
 (ix K.1 (n)).bind fun O=>
 (f120 fuel O).bind fun U=>
 some U
theorem UZ{J:Judge Tryz.prog}{E:LH}{bk k1 o2:Nat}{aj ak U V:Az}{al am Y Z:Nat}{an:Lv_}{aa:BG}{O:AZ}{age:Int}{ms:List Int}{ab:Nat}(ar:At E k1 o2 (([sV aj aa.1 al,sV ak aa.2.1 am]:Lv_)++an))(au:Aq (rL rI) E aj al aa.1)(aS:Aq (rL rI) E ak am aa.2.1)(aT:(rA 13 (rN .u16)).r E an aa.2.2)(aU:Aq BE E U Y O)(aV:Aq rI E V Z ms){ac ae:Nat}(av:At E ac ae [pV bk 0]){ah ai kf ag:Nat}(aw:At E kf ag [.func (.func 153) #[] [pV ac ae,pV ah ai,pV kf ag].toArray]){ao on:Nat}{n:Int}(ay:At E ao on [iV n]){X:Seg}{fuel:Nat}{r:Nat}(ap:MF fuel aa O age ms ab n=some r){R:Value→LH→Seg→Prop}
  (az:∀E',Le E E'→AT J 153 [uV r,pV ac ae,pV ah ai,pV kf ag] E' ([(bk,.cells #[pV k1 o2,.slice U O.length Y,iV age,.slice V ms.length Z,uV ab] 175 (0,0))]++X) R):
  AT J 156 [pV kf ag,pV ac ae,pV ao on] E ([(bk,.cells #[pV k1 o2,.slice U O.length Y,iV age,.slice V ms.length Z,uV ab] 175 (0,0))]++X) R:=by
 refine Im func156 rfl rfl fun Q aW cs H K aA=>Da (S':= [[(bk,.cells #[pV k1 o2,.slice U O.length Y,iV age,.slice V ms.length Z,uV ab] 175 (0,0))],X]) (by simp) K fun K=>?_;unfold MF at ap;refine zg 5 rfl (Dr 13 [bk] ⟨⟨0,_,rfl⟩,trivial⟩ K fun ht=>?_);refine JG.lp 0 ht 0 aw K ⟨⟨0,_,rfl⟩,trivial⟩ (Dc underlying201) ?_;refine JG.lp 1 ht 0 av K ⟨⟨0,_,rfl⟩,trivial⟩ EE ?_;refine CG 2 ht rfl rfl (BN 3 ht underlying175 LD rfl rfl rfl rfl ?_);refine G1 4 ht 0 0 K JP ?_;refine CG 5 ht rfl rfl (BN 6 ht underlying141 Ch rfl rfl rfl rfl ?_);refine BN 7 ht underlying24 Be rfl rfl rfl rfl (JG.lp 8 ht 0 ar K ⟨⟨0,_,rfl⟩,trivial⟩ CI ?_);refine JG.lp 9 ht 0 ay K ⟨⟨0,_,rfl⟩,trivial⟩ BV ?_;obtain⟨aB,aC,aD⟩:=bs ap;refine G0 10 au aC ht underlying22 AN ?_;rintro aX aY _ ⟨aE,c4,rfl,aF⟩ aG;refine JG.lp 11 ht 0 aG K ⟨⟨0,_,rfl⟩,trivial⟩ EF ?_;obtain⟨aH,aI,aJ⟩:=bs aD;refine NV (i:=12) ⟨⟨0,_,rfl⟩,trivial⟩ (vs:= [sV aE aB c4]) (Iq aF aI) (by decide+kernel) rfl rfl rfl HX rfl K ?_;rintro _ aK _ aq ⟨rfl,rfl⟩ aL;refine CU [13,14] ?_;obtain rfl:=oi aJ;refine Da (S':= [[(bk,.cells #[pV k1 o2,.slice U O.length Y,iV age,.slice V ms.length Z,uV ab] 175 (0,0))]++X]) (by simp) aL fun aM=>?_;have aN:D7 J (.func (.func 153) #[] [pV ac ae,pV ah ai,pV kf ag].toArray) [uV aH] aK ([(bk,.cells #[pV k1 o2,.slice U O.length Y,iV age,.slice V ms.length Z,uV ab] 175 (0,0))]++X) R:=D7.ofFn (caps:= [pV ac ae,pV ah ai,pV kf ag]) (Bc func153 rfl) (az _ aq);refine H8 0 aN rfl rfl rfl rfl rfl aM rfl ?_;rintro w aZ aO aP aQ aR;refine zg 2 rfl (AS func156 rfl rfl ?_);exact aA _ _ _ aO (aq.Aa aP) (by simp) aQ aR
end Pal
namespace Pal
open Go Go.Conc Go.Proofs
open Go.Proofs.Tryz
def MH(fuel:Nat)(K:BG)(O:AZ)(age:Int)(ms:List Int)(U:Nat)(sm:Nat):Option (Option (List Int)):=
 (My fuel (K,O,age,ms,U)).bind fun V=>
 if V<((ms).length:Int) then(
  some none
 ) else(
  (f89 fuel sm).bind fun Y=>
  some (some Y)
 )
def Qb(rec:Nat→List Int→Nat→List (List Int×Nat)→Option (List (List Int×Nat)))(fuel:Nat)(K:BG)(O:AZ)(age:Int)(ms:List Int)(U:Nat)(ac:List (List Int×Nat))(n:Int):Option (List (List Int×Nat)):=
 (MI fuel K O age ms U n).bind fun r=>match r with
  | none=>some ac
  | some q=>(MF fuel K O age q.1 q.2 n).bind fun s'=>rec s' q.1 q.2 ac
def Lm(ok:List (List Int×Nat)→Bool)(rec:Nat→List Int→Nat→List (List Int×Nat)→Option (List (List Int×Nat)))(fuel:Nat)(O:BG)(U:AZ)(age:Int)(ms:List Int)(K:Nat)(ac:List (List Int×Nat)):Option (List Int)→Option (List (List Int×Nat))
 | none=>if ok (ac++ [(ms,K)])=true then some (ac++ [(ms,K)]) else none
 | some l=>if l.length≤1000 then Gx (Qb rec fuel O U age ms K) l ac else none
def JI(ok:List (List Int×Nat)→Bool)(fuel:Nat)(K:BG)(O:AZ)(age:Int):Nat→Nat→List Int→Nat→List (List Int×Nat)→Option (List (List Int×Nat))
 | 0,_,_,_,_=>none
 | g+1,sm,ms,U,ac=>(MH fuel K O age ms U sm).bind fun r=>Lm ok (JI ok fuel K O age g) fuel K O age ms U ac r
theorem TS{J:Judge Tryz.prog}{I:List (List Int×Nat)→LH→Seg→Prop}(aq:∀x E E' X,Le E E'→I x E X→I x E' X){E:LH}{bk k1 o2:Nat}{aP aQ aa Y:Az}{aR aS ab Z:Nat}{aT:Lv_}{ai:BG}{U:AZ}{age:Int}{ms:List Int}{K:Nat}(aE:At E k1 o2 (([sV aP ai.1 aR,sV aQ ai.2.1 aS]:Lv_)++aT))(aF:Aq (rL rI) E aP aR ai.1)(aG:Aq (rL rI) E aQ aS ai.2.1)(aH:(rA 13 (rN .u16)).r E aT ai.2.2)(aI:Aq BE E aa ab U)(aJ:Aq rI E Y Z ms){am an:Nat}(av:At E am an [pV bk 0]){ay az kf ao:Nat}(a6:At E kf ao [.func (.func 153) #[] [pV am an,pV ay az,pV kf ao].toArray]){aU:Value}(a7:At E ay az [aU]){X:Seg}{acc acc':List (List Int×Nat)}{ok:List (List Int×Nat)→Bool}(aV:I acc E X){rec:Nat→List Int→Nat→List (List Int×Nat)→Option (List (List Int×Nat))}(a8:∀s' aj ar ac aA,rec s' aj ar ac=some aA→∀E' O a c,Le E E'→Aq rI E' a c aj→I ac E' O→AT J 153 [uV s',pV am an,pV ay az,pV kf ao] E' ([(bk,.cells #[pV k1 o2,.slice aa U.length ab,iV age,(.slice a aj.length c),(uV ar)] 175 (0,0))]++O) (fun w E' B'=>∃aK aL aM O,w= .bool true∧B'= [(bk,.cells #[pV k1 o2,.slice aa U.length ab,aK,aL,aM] 175 (0,0))]++O∧I aA E' O))(a9:∀(E':LH) (O:Seg) (ac:List (List Int×Nat)) (aj:List Int) (ar:Nat) (a:Az) (c:Nat),Le E E'→Aq rI E' a c aj→I ac E' O→ok (ac++ [(aj,ar)])=true→D7 J aU [.agg #[iV age,.slice a aj.length c,uV ar]] E' O (fun w aW ba=>w= .bool true∧I (ac++ [(aj,ar)]) aW ba)){sm:Nat}{fuel:Nat}{r:Option (List Int)}(aX:MH fuel ai U age ms K sm=some r)(ae:Lm ok rec fuel ai U age ms K acc r=some acc'):
  AT J 153 [uV sm,pV am an,pV ay az,pV kf ao] E ([(bk,.cells #[pV k1 o2,.slice aa U.length ab,iV age,.slice Y ms.length Z,uV K] 175 (0,0))]++X) (fun w E' B'=>∃aK aL aM O,w= .bool true∧B'= [(bk,.cells #[pV k1 o2,.slice aa U.length ab,aK,aL,aM] 175 (0,0))]++O∧I acc' E' O):=by
 refine Bm func153 fun Q bN cs H ap aY=>?_;refine Da (S':= [[(bk,.cells #[pV k1 o2,.slice aa U.length ab,iV age,.slice Y ms.length Z,uV K] 175 (0,0))],X]) (by simp) ap fun ap=>?_;unfold MH at aX;refine zg 6 rfl (Dr 8 [bk] ⟨⟨0,_,rfl⟩,trivial⟩ ap fun ht=>?_);refine JG.lp 0 ht 0 av ap ⟨⟨0,_,rfl⟩,trivial⟩ EE ?_;refine CG 1 ht rfl rfl (BN 2 ht underlying175 Cb rfl rfl rfl rfl ?_);refine BN 3 ht underlying104 AN rfl rfl rfl rfl (G1 4 ht 3 0 ap EF ?_);refine Bd 5 ht rfl rfl (fun ρ h s' hs=>Yl.len rfl underlying28 (h _ _ rfl)) (JG.lp 6 ht 0 av ap ⟨⟨0,_,rfl⟩,trivial⟩ EE ?_);obtain⟨bO,bb,bc⟩:=bs aX;refine Ny (i:=7) (vs:= [pV bk 0]) 0 ⟨⟨0,_,rfl⟩,trivial⟩ (S7 aE aF aG aH aI aJ bb) (fun _ _ _ h=>h.2) (by decide+kernel) rfl rfl rfl (Bc func154 rfl) rfl ap rfl ?_;rintro _ aZ V ⟨rfl,_⟩ ak;refine CU [8] (zg 2 rfl ?_);refine A7 bc (fun bd be=>?_) (fun bd bf=>?_)
 ·refine JL.seq (Dr 5 [bk] ⟨⟨0,_,rfl⟩,trivial⟩ ak fun ht=>?_);refine JG.lp 0 ht 0 (a7.Ad V) ak ⟨⟨0,_,rfl⟩,trivial⟩ (Dc underlying200) ?_;refine JG.lp 1 ht 0 (av.Ad V) ak ⟨⟨0,_,rfl⟩,trivial⟩ EE ?_;refine CG 2 ht rfl rfl (BN 3 ht underlying175 Cb rfl rfl rfl rfl ?_);refine Bd 4 ht rfl rfl (fun ρ h s' hs=>EZ (vs:= [iV age,sV Y ms Z,uV K]) EV Cb (h _ _ rfl) (RE (o:=2) 0 ak rfl (by simp [AX]) hs rfl)) (CU [5,6] ?_);obtain rfl:=oi be;have a0:ok (acc++ [(ms,K)])=true∧acc++ [(ms,K)]=acc':=by
   simp only [Lm] at ae;split at ae
   ·exact⟨by assumption,Option.some.inj ae⟩
   ·cases ae
  obtain⟨bg,a0⟩:=a0;subst acc';refine H8 (vs:= [.agg #[iV age,.slice Y ms.length Z,uV K]]) 1 (a9 _ _ _ _ _ _ _ V (aJ.Ad V) (aq _ _ _ _ V aV) bg) rfl rfl rfl rfl rfl ak rfl ?_;rintro _ bP bh bi ⟨rfl,bj⟩ bl;refine zg 2 rfl (AS func153 rfl rfl ?_);exact aY (V.Aa bi) rfl ⟨iV age,.slice Y ms.length Z,uV K,bh,rfl,by simp,bj⟩ bl
 ·obtain⟨ah,bm,bn⟩:=bs bf;refine zg 5 rfl (AJ (Hs bm) rfl rfl Hd ak ?_);rintro _ bo _ aN ⟨a1,a2,rfl,rfl,bp⟩ bq;refine BR underlying28 rfl rfl rfl (zg 2 rfl ?_);obtain rfl:=oi bn;have br:ah.length≤1000∧Gx (Qb rec fuel ai U age ms K) ah acc=some acc':=by
   simp only [Lm] at ae;split at ae
   ·exact⟨by assumption,ae⟩
   ·cases ae
  obtain⟨hlen,ae⟩:=br;refine JL.block (Hr [(1,pV am an),(3,pV kf ao),(24,sV a1 ah a2),(25,iV (ah.length:Int)),(26,iV 0)] rfl ?_);refine Da (S':= [[(bk,.cells #[pV k1 o2,.slice aa U.length ab,iV age,.slice Y ms.length Z,uV K] 175 (0,0))],X]) (by simp) bq fun bu=>QM (l:=ah) ae (fun L s i ac=>∃aB au,Jn bo H aB [[(bk,.cells #[pV k1 o2,.slice aa U.length ab,iV age,.slice Y ms.length Z,uV K] 175 (0,0))],au] [(1,pV am an),(3,pV kf ao),(24,sV a1 ah a2),(25,iV (ah.length:Int)),(26,iV ((i:Nat):Int))] L s (I ac aB au)) ⟨_,X,rfl,rfl,Le.refl _,bu,aq _ _ _ _ (V.Aa aN) aV⟩ ?_ ?_
  ·rintro _ _ i ac n aA ⟨aB,au,rfl,rfl,aw,aO,aC⟩ bv bQ bw bx;have bz:=(V.Aa aN).Aa aw;refine zg 5 rfl ?_;rw [decide_eq_true (show((i:Nat):Int)<(ah.length:Int) by omega)];refine zg 6 rfl ?_;have bA:ix ah ((i:Nat):Int)=some n:=by unfold ix;rw [if_pos (by omega)];exact bv
   refine C3 (bp.Ad aw) bA underlying28 AD ?_;rintro kk bR _ rfl bB;refine Cv 0 bB BV rfl rfl rfl (Ci aO A1 fun bC bD=>?_);refine BI 2 bD AD fun bE=>?_;refine Cn 2 bE rfl fun bS aD a3 bF=>?_;have al:=bz.trans aD;refine zg 3 rfl (Cv 0 (av.Ad al) EE rfl rfl rfl ?_);refine Cv 0 a3 BV rfl rfl rfl (Av (v:= .func (.func 156) #[] [pV kf ao,pV am an,pV bC 0].toArray) rfl (fun ρ h=>HD (by simp) (by simp [h (.tmp 3) _ rfl,h (.tmp 1) _ rfl,h (.tmp 7) _ rfl])) ?_);refine Da (S':= [[(bk,.cells #[pV k1 o2,.slice aa U.length ab,iV age,.slice Y ms.length Z,uV K] 175 (0,0))]++au]) (by simp) bF fun ak=>?_;obtain⟨q,bG,a4⟩:=Option.bind_eq_some_iff.1 bw;refine CZ 0 (TQ aq (aE.Ad al) (aF.Ad al) (aG.Ad al) (Rp.Ad _ al aH) (aI.Ad al) (aJ.Ad al) (acc':=aA) (aq _ _ _ _ aD aC) bG (fun e=>by subst e;exact(Option.some.inj a4).symm) (fun p e E' a c hle a5=>?_)) rfl rfl (Bc func155 rfl) ak rfl ?_
   ·subst e;obtain⟨s',bH,bI⟩:=Option.bind_eq_some_iff.1 a4;have ag:=al.trans hle;exact D7.ofFn (Bc func156 rfl) (UZ (aE.Ad ag) (aF.Ad ag) (aG.Ad ag) (Rp.Ad _ ag aH) (aI.Ad ag) a5 (av.Ad ag) (a6.Ad ag) (a3.Ad hle) bH fun aW V=>a8 _ _ _ _ _ bI _ _ _ _ (ag.Aa V) (a5.Ad V) (aq _ _ _ _ (hle.trans V) (aq _ _ _ _ aD aC)))
   rintro _ aZ _ ag ⟨O,rfl,rfl,bJ⟩ bK;refine Av (v:= .bool (!true)) rfl (fun ρ h=>Yl.not (h _ _ rfl)) (zg 5 rfl ?_);have bL:AA (((i:Nat):Int)+1)=some (((i+1:Nat)):Int):=by unfold AA;rw [if_pos (by omega)];simp
   refine Bv bL rfl rfl rfl (zg 2 rfl ?_);exact Da (S':= [[(bk,.cells #[pV k1 o2,.slice aa U.length ab,iV age,.slice Y ms.length Z,uV K] 175 (0,0))],O]) (by simp) bK fun bM=>AU (bx _ _ ⟨aZ,O,rfl,rfl,(aw.Aa aD).Aa ag,bM,bJ⟩) rfl
  ·rintro _ _ ⟨aB,au,rfl,rfl,aw,aO,aC⟩;refine zg 5 rfl ?_;rw [decide_eq_false (Int.lt_irrefl _)];refine zg 6 rfl (AS func153 rfl rfl ?_);exact aY ((V.Aa aN).Aa aw) rfl ⟨iV age,.slice Y ms.length Z,uV K,au,rfl,by simp,aC⟩ aO
end Pal
namespace Pal
open Go Go.Conc Go.Proofs
open Go.Proofs.Tryz
theorem S5{J:Judge Tryz.prog}{I:List (List Int×Nat)→LH→Seg→Prop}(aA:∀x E E' X,Le E E'→I x E X→I x E' X){E:LH}{bk k1 o2:Nat}{ar au ab:Az}{av aw ae:Nat}{ay:Lv_}{O:BG}{Y:AZ}{age:Int}(aB:At E k1 o2 (([sV ar O.1 av,sV au O.2.1 aw]:Lv_)++ay))(aC:Aq (rL rI) E ar av O.1)(aD:Aq (rL rI) E au aw O.2.1)(aE:(rA 13 (rN .u16)).r E ay O.2.2)(aF:Aq BE E ab ae Y){ag ah:Nat}(aG:At E ag ah [pV bk 0]){ai aj kf ak:Nat}(aH:At E kf ak [.func (.func 153) #[] [pV ag ah,pV ai aj,pV kf ak].toArray]){az:Value}(aI:At E ai aj [az]){fuel:Nat}{ok:List (List Int×Nat)→Bool}(aJ:∀(E':LH) (Z:Seg) (ac:List (List Int×Nat)) (K:List Int) (U:Nat) (a:Az) (c:Nat),Le E E'→Aq rI E' a c K→I ac E' Z→ok (ac++ [(K,U)])=true→D7 J az [.agg #[iV age,.slice a K.length c,uV U]] E' Z (fun w aK aL=>w= .bool true∧I (ac++ [(K,U)]) aK aL)):
  ∀(g sm:Nat) (ms:List Int) (aa:Nat) (ac V:List (List Int×Nat)),JI ok fuel O Y age g sm ms aa ac=some V→∀E' X a c,Le E E'→Aq rI E' a c ms→I ac E' X→AT J 153 [uV sm,pV ag ah,pV ai aj,pV kf ak] E' ([(bk,.cells #[pV k1 o2,.slice ab Y.length ae,iV age,(.slice a ms.length c),uV aa] 175 (0,0))]++X) (fun w E' B'=>∃aM aN aO Z,w= .bool true∧B'= [(bk,.cells #[pV k1 o2,.slice ab Y.length ae,aM,aN,aO] 175 (0,0))]++Z∧I V E' Z):=by
 intro g
 induction g with
 | zero=>intro sm ms aa ac V h;cases h
 | succ g aP=>
  intro sm ms aa ac V h E' X a c hle aQ aR;obtain⟨r,aS,aT⟩:=Option.bind_eq_some_iff.1 h;exact TS aA (aB.Ad hle) (aC.Ad hle) (aD.Ad hle) (Rp.Ad _ hle aE) (aF.Ad hle) aQ (aG.Ad hle) (aH.Ad hle) (aI.Ad hle) aR (rec:=JI ok fuel O Y age g) (fun s' K U ac V aU al am an c2 ao ap aq=>aP s' K U ac V aU al am an c2 (hle.trans ao) ap aq) (fun al am ac K U an c2 ao ap aq aV=>aJ al am ac K U an c2 (hle.trans ao) ap aq aV) aS aT
def Jv(fuel:Nat)(K:BG)(U:AZ)(age:Int):Option Nat:=
 (ix K.2.2 (age)).bind fun O=>
 some O
theorem N6{J:Judge Tryz.prog}{I:List (List Int×Nat)→LH→Seg→Prop}(ay:∀x E E' X,Le E E'→I x E X→I x E' X){E:LH}{bk k1 o2:Nat}{am an Z:Az}{ao ap aa:Nat}{az:Lv_}{Y:BG}{U:AZ}{age:Int}(aA:At E k1 o2 (([sV am Y.1 ao,sV an Y.2.1 ap]:Lv_)++az))(aI:Aq (rL rI) E am ao Y.1)(aJ:Aq (rL rI) E an ap Y.2.1)(aq:(rA 13 (rN .u16)).r E az Y.2.2)(aK:Aq BE E Z aa U){ai aj:Nat}(ar:At E ai aj [pV bk 0]){aB aC:Nat}(aD:At E aB aC [iV age]){ae ag ah:Value}{aE:Go.Fn}{X:Seg}{acc acc':List (List Int×Nat)}(aL:I acc E X){ok:List (List Int×Nat)→Bool}{fuel:Nat}(aM:∀(E':LH) (V:Seg) (ac:List (List Int×Nat)) (ak:List Int) (au:Nat) (a:Az) (c:Nat),Le E E'→Aq rI E' a c ak→I ac E' V→ok (ac++ [(ak,au)])=true→D7 J (.func aE #[] #[]) [.agg #[iV age,.slice a ak.length c,uV au]] E' V (fun w aN aO=>w= .bool true∧I (ac++ [(ak,au)]) aN aO)){r:Nat}(aF:Jv fuel Y U age=some r)(aP:JI ok fuel Y U age fuel r [] 0 acc=some acc'):
  AT J 152 [.func aE #[] #[],pV aB aC,pV ai aj] E ([(bk,.cells #[pV k1 o2,.slice Z U.length aa,ae,ag,ah] 175 (0,0))]++X) (fun w E' B'=>∃ae ag ah V,w= .tuple #[]∧B'= [(bk,.cells #[pV k1 o2,.slice Z U.length aa,ae,ag,ah] 175 (0,0))]++V∧I acc' E' V):=by
 refine Bm func152 fun Q bi cs H av aQ=>?_;refine Da (S':= [[(bk,.cells #[pV k1 o2,.slice Z U.length aa,ae,ag,ah] 175 (0,0))],X]) (by simp) av fun av=>?_;unfold Jv at aF;refine zg 2 rfl (CB av fun aw bj K aR aS=>?_);refine zg 3 rfl (Cv 0 (ar.Ad K) EE rfl rfl rfl ?_);refine Cv 0 (aD.Ad K) BV rfl rfl rfl (Av (v:= .agg #[iV age,nS,uV 0]) rfl (fun ρ h=>Cl [(0,1),(1,1),(2,1)] h F1 underlying104 ⟨rfl,A3 type3,rfl,A3 type28,rfl,A3 type102,trivial⟩ rfl rfl) ?_);refine zg 1 rfl (BJ underlying175 Cb rfl rfl rfl ?_);refine BI 0 aS Cb fun aT=>?_;refine zg 3 rfl (Ci aT (Dw type201) fun al aU=>?_);refine Bl (S':= [[(bk,.cells #[pV k1 o2,sV Z U aa,iV age,nS,uV 0] 175 (0,0))],X,[],[(al,.cells #[.nilFunc] 201 (0,0))]]) rfl aU fun aV=>zg 3 rfl (Av (v:= .func (.func 153) #[] ([pV ai aj,pV aw 0,pV al 0]:Lv_).toArray) rfl (fun ρ h=>HD (by simp) (by simp [h (.tmp 2) _ rfl,h (.tmp 3) _ rfl,h (.tmp 4) _ rfl])) ?_);refine BI 3 aV (A3 type201) fun aW=>?_;refine Cn 3 aW rfl fun aX O aG ab=>JL.done (Dr 11 [bk] ⟨⟨0,_,rfl⟩,trivial⟩ ab fun ht=>?_);refine JG.lp 0 ht 0 aG ab ⟨⟨0,_,rfl⟩,trivial⟩ (Dc underlying201) ?_;refine JG.lp 1 ht 0 (ar.Ad (K.Aa O)) ab ⟨⟨0,_,rfl⟩,trivial⟩ EE ?_;refine CG 2 ht rfl rfl (BN 3 ht underlying175 LD rfl rfl rfl rfl ?_);refine G1 4 ht 0 0 ab JP ?_;refine JG.lp 5 ht 0 (aD.Ad (K.Aa O)) ab ⟨⟨0,_,rfl⟩,trivial⟩ BV ?_;refine CG 6 ht rfl rfl (BN 7 ht underlying141 EI rfl rfl rfl rfl ?_);obtain⟨aY,aH,aZ⟩:=bs aF;obtain⟨_,rfl,a0,_,_⟩:=PS (kk:=13) (pp:=(rN .u16)) (Rp.Ad _ (K.Aa O) aq) (At.tail (l:= [sV am Y.1 ao,sV an Y.2.1 ap]) (aA.Ad (K.Aa O))) aH;refine Bd (v:= .pointer (some ⟨k1,(o2+2+Int.toNat (age)*1),none⟩)) 8 ht rfl rfl (fun ρ h s' hs=>H5 (kk:=13) (pp:=(rN .u16)) (Rp.Ad _ (K.Aa O) aq) aH underlying139 Gm (h _ _ rfl) (h _ _ rfl)) (BN 9 ht underlying138 Dv rfl rfl rfl rfl ?_);refine JG.lp 10 ht 0 a0 ab ⟨⟨0,_,rfl⟩,trivial⟩ FE ?_;refine CU [11] ?_;obtain rfl:=oi aZ;have a1:D7 J (.func (.func 153) #[] [pV ai aj,pV aw 0,pV al 0].toArray) [uV aY] aX ([(bk,.cells #[pV k1 o2,.slice Z U.length aa,iV age,nS,uV 0] 175 (0,0))]++X) (fun w E' B'=>∃ae ag ah V,w= .bool true∧B'= [(bk,.cells #[pV k1 o2,.slice Z U.length aa,ae,ag,ah] 175 (0,0))]++V∧I acc' E' V):=D7.ofFn (caps:= [pV ai aj,pV aw 0,pV al 0]) (Bc func153 rfl) (S5 ay (aA.Ad (K.Aa O)) (aI.Ad (K.Aa O)) (aJ.Ad (K.Aa O)) (Rp.Ad _ (K.Aa O) aq) (aK.Ad (K.Aa O)) (ar.Ad (K.Aa O)) aG (aR.Ad O) (fun a2 a3 ac a4 a5 a6 c2 a7 a8 a9 ba=>aM a2 a3 ac a4 a5 a6 c2 (((K.Aa O)).Aa a7) a8 a9 ba) _ _ _ _ _ _ aP _ _ _ _ Ak Aq.nil (ay _ _ _ _ (K.Aa O) aL));refine Da (S':= [[(bk,.cells #[pV k1 o2,.slice Z U.length aa,iV age,nS,uV 0] 175 (0,0))]++X]) (by simp) ab fun bb=>H8 0 a1 rfl rfl rfl rfl rfl bb rfl ?_;rintro w bl _ bc ⟨bd,be,bf,V,rfl,rfl,bg⟩ bh;refine JL.done (JL.fin (v:= .tuple #[]) rfl rfl (BP.list func152 rfl (vs:= []) trivial) ?_);exact aQ ((K.Aa O).trans bc) rfl ⟨bd,be,bf,V,rfl,by simp,bg⟩ bh
end Pal
namespace Pal
open Go Go.Conc Go.Proofs
open Go.Proofs.Tryz
noncomputable def Hn:Code:=match Tryz.f127.body with | some (.seq _ (.seq _ (.seq (.seq _ (.block _ (.rangeFunc _ _ a _))) _)))=>a | _=> .skip
noncomputable def Hm:Code:=match Tryz.f127.body with | some (.seq _ (.seq _ (.seq (.seq _ (.block _ (.rangeFunc _ _ _ b))) _)))=>b | _=> .skip
def add1(fuel:Nat)(age:Int)(q:Int×List (BS))(x:List Int×Nat):Option (Int×List (BS)):=
 (f130 fuel (age,x.1,x.2)).bind fun n=>Iz fuel q.1 q.2 (age,x.1,x.2) n
def HN(fuel:Nat)(age:Int)(ac:List (List Int×Nat)):Option (Int×List (BS)):=Gx (add1 fuel age) ac (0,[])
def IP(fuel:Nat)(age:Int)(l K O:Nat)(T:Aw)(ac:List (List Int×Nat))(E:LH)(X:Seg):Prop:=
 ∃q a c g,HN fuel age ac=some q∧X=(l,.loop ⟨.ready,none,127,T,#[17],Hn,Hm,O⟩)::([(K,.cells #[iV age,iV q.1,.slice a q.2.length c] 133 (0,0))]++g)∧OL 104 CW E a c g q.2
theorem IP.Ad{fuel:Nat}{age:Int}{l K O:Nat}{T:Aw}:∀(ac:List (List Int×Nat)) (E E':LH) (X:Seg),Le E E'→IP fuel age l K O T ac E X→IP fuel age l K O T ac E' X:=
 fun ac E E' X hle ⟨q,a,c,g,U,V,Y⟩=>⟨q,a,c,g,U,V,Y.Ad hle⟩
theorem Nl{α B:Type}{step:B→α→Option B}:∀{l:List α} {x:α} {b:B},Gx step (l++ [x]) b=(Gx step l b).bind fun K=>step K x
 | [],x,b=>by simp [Gx]
 | y::l,x,b=>by
  simp only [List.cons_append,Gx]
  cases step b y with
  | none=>rfl
  | some K=>exact Nl
theorem OM{J:Judge Tryz.prog}{fuel:Nat}{age:Int}{l O U:Nat}{T:Aw}(ak:Has Tryz.f127.ntmps [(6,pV O 0)] T){E:LH}{X:Seg}{ac:List (List Int×Nat)}{ms:List Int}{K:Nat}{V:Az}{Y:Nat}(ag:Aq rI E V Y ms)(al:IP fuel age l O U T ac E X)(am:(HN fuel age (ac++ [(ms,K)])).isSome=true):
  D7 J (.func (.yield l) #[] #[]) [.agg #[iV age,.slice V ms.length Y,uV K]] E X (fun w E' an=>w= .bool true∧IP fuel age l O U T (ac++ [(ms,K)]) E' an):=by
 obtain⟨q,a,c,g,ah,rfl,ao⟩:=al;obtain⟨r,he⟩:=Option.isSome_iff_exists.1 am;have ai:add1 fuel age q (ms,K)=some r:=by
  have aa:=he;unfold HN at aa ah;rw [Nl,ah] at aa;exact aa
 refine D7.yield (i:=0) (t:=17) rfl rfl fun Q ap cs H ab aq=>?_;refine(?_:JL J Q (PR l 127) Tryz.f127.ntmps [(17,.agg #[iV age,.slice V ms.length Y,uV K]),(6,pV O 0)] [] [.code Hn,.beginRound,.code Hm] (ap::cs) _) _ (ak.put (d:=some 17) rfl _);refine Da (S':= [[(l,.loop ⟨.ready,none,127,T,#[17],Hn,Hm,U⟩)],[(O,.cells #[iV age,iV q.1,.slice a q.2.length c] 133 (0,0))],g]) (by simp) ab fun ab=>?_;unfold add1 at ai;refine JL.region (Ci ab F1 fun aI ar=>?_);refine BI 3 ar Cb fun au=>?_;refine Cn 3 au rfl fun aJ Z aj av=>JL.done (JL.beginRound 0 rfl rfl av rfl rfl fun aw=>?_);refine JL.block (Er 4 fun ht=>?_);refine BN 0 ht underlying133 CN rfl rfl rfl rfl (Jl 1 ht aj EV Cb rfl rfl rfl ?_);refine Jl 2 ht aj EV Cb rfl rfl rfl ?_;obtain⟨aK,ay,az⟩:=bs ai;refine JG.call (i:=3) (vs:= [.agg #[iV age,sV V ms Y,uV K]]) (Uy (p0:=(age,ms,K)) (ag.Ad Z) ay) (by decide+kernel) rfl rfl rfl (Bc func130 rfl) rfl aw ?_;rintro _ aL _ ae ⟨rfl,rfl⟩ aA;refine CU [4] (Da (S':= [[(l,.loop ⟨.busy,none,127,T,#[17],Hn,Hm,U⟩)],[(O,.cells #[iV age,iV q.1,.slice a q.2.length c] 133 (0,0))]++g]) (by simp) aA fun aB=>?_);refine CZ 1 (Ub ((ao.Ad (Z.Aa ae))) (tr:=(age,ms,K)) (ag.Ad (Z.Aa ae)) az) rfl rfl (Bc func122 rfl) aB rfl ?_;rintro _ aM _ aC ⟨aD,aE,g',rfl,rfl,aF⟩ aG;refine zg 2 rfl (JL.endRound 0 rfl rfl aG rfl fun aH=>?_);exact aq _ _ _ _ ((Z.Aa ae).trans aC) rfl ⟨rfl,r,aD,aE,g',he,by simp,aF⟩ aH
end Pal
namespace Pal
open Go Go.Conc Go.Proofs
open Go.Proofs.Tryz
open Go.Conc.Lib Go.ConcR.Gen
theorem NH{J:Judge Tryz.prog}{E:LH}{bk:Nat}{age:Int}:AT J 129 [pV bk 0,iV age] E [] (fun w E' B'=>∃K O,w= .func (.func 152) #[] [pV K 0,pV O 0].toArray∧B'= []∧At E' K 0 [iV age]∧At E' O 0 [pV bk 0]):=by
 refine Bm func129 fun Q ai cs H Z aa=>?_;refine zg 2 rfl (CB Z fun U aj ab ac ae=>?_);refine CB ae fun V ak Y ag ah=>?_;refine zg 4 rfl (Av (v:= .func (.func 152) #[] ([pV V 0,pV U 0]:Lv_).toArray) rfl (fun ρ h=>HD (by simp) (by simp [h (.tmp 3) _ rfl,h (.tmp 2) _ rfl])) ?_);refine zg 2 rfl (AS func129 rfl rfl ?_);exact aa (ab.Aa Y) rfl ⟨V,U,rfl,by simp,ag,(ac.Ad Y)⟩ ah
def GZ(fuel:Nat)(K:BG)(O:AZ)(age:Int):Option (Int×List (BS)):=
 (Jv fuel K O age).bind fun s=>(JI (fun ac=>(HN fuel age ac).isSome) fuel K O age fuel s [] 0 []).bind fun tr=>HN fuel age tr
theorem Sw{L:WgLink}(az:WgLib Tryz.prog L)(a5:L.done=128){F:Fam}{j:Nat}{E:LH}{k1 o2:Nat}{a6 a7 U:Az}{a8 a9 V:Nat}{ba:Lv_}{ai:BG}{O:AZ}{age:Int}(bb:At E k1 o2 (([sV a6 ai.1 a8,sV a7 ai.2.1 a9]:Lv_)++ba))(bc:Aq (rL rI) E a6 a8 ai.1)(bd:Aq (rL rI) E a7 a9 ai.2.1)(be:(rA 13 (rN .u16)).r E ba ai.2.2)(bf:Aq BE E U V O){aA aB aC ol ka aj kc ab:Nat}(bj:At E aA aB [pV k1 o2])(bl:At E aC ol [.slice U O.length V])(aF:At E ka aj [iV age])(bg:At E kc ab [.chan (some F.ch)])
  {fuel:Nat} {q:Int×List (BS)} (aD:GZ fuel ai O age=some q) (aE:F.has j=decide (0<q.2.length)) (bh:∀E' a c,Le E E'→Aq CW E' a c q.2→F.msg j (.agg #[iV age,iV q.1,.slice a q.2.length c]) E'):
  Way Tryz.prog false (Stop Tryz.prog F (F.start j)) (born Tryz.prog ⟨.fn (.func 127) [.pointer (some F.sA),pV aA aB,pV aC ol,pV ka aj,pV kc ab].toArray,#[]⟩) ⟨E,fun _=>none,false⟩:=by
 refine N4 (fn:=Tryz.f127) (vs:= [.pointer (some F.sA),pV aA aB,pV aC ol,pV ka aj,pV kc ab]) func127 rfl rfl (by simp) (Nat.le_of_ble_eq_true rfl) ?_;obtain⟨H,bm⟩:∃H:LH,H=fun _=>none:=⟨_,rfl⟩;rw [← bm];have bi:Ar E H []:=trivial;refine(?_:JL (Bo Tryz.prog false) (Stop Tryz.prog F (F.start j)) (baseD 127) Tryz.f127.ntmps (EO 0 [.pointer (some F.sA),pV aA aB,pV aC ol,pV ka aj,pV kc ab]) [] [.code _] [GY Tryz.prog] (Am E H []));refine zg 2 rfl (JL.defer (vs:= [.pointer (some F.sA)]) rfl rfl rfl rfl rfl ?_);refine zg 2 rfl (Er 8 fun ht=>?_);refine DV 0 ht 0 bj JP rfl rfl rfl rfl (DV 1 ht 0 bl IU rfl rfl rfl rfl ?_);refine Bd (v:= .agg #[pV k1 o2,sV U O V,iV 0,nS,uV 0]) 2 ht rfl rfl (fun ρ h s' hs=>Cl [(0,1),(1,1),(2,3)] h (Dw type175) underlying175 ⟨rfl,A3 type94,rfl,A3 type25,rfl,A3 type104,trivial⟩ rfl rfl) (DV 4 ht 0 aF BV rfl rfl rfl rfl ?_);refine Bd (v:= .agg #[iV age,iV 0,nS]) 5 ht rfl rfl (fun ρ h s' hs=>Cl [(0,1),(1,2)] h He underlying133 ⟨rfl,A3 type3,rfl,A3 type97,trivial⟩ rfl rfl) (Cy (i:=3) (j:=6) rfl (by decide+kernel) ?_ ?_)
 ·refine Take.Qa (v:= .agg #[pV k1 o2,sV U O V,iV 0,nS,uV 0]) bi rfl rfl rfl rfl fun ak am=>JG.one (i:=6) rfl (by decide+kernel) (Take.Pq am rfl rfl rfl He fun ae an=>?_);refine CG 7 ht rfl rfl (CU [8] ?_);refine Bl (S':= [[(ak,.cells #[pV k1 o2,sV U O V,iV 0,nS,uV 0] 175 (0,0))],[(ae,.cells #[iV 0,iV 0,nS] 133 (0,0))]]) rfl an fun ao=>BI 1 ao AK fun aa=>?_;refine zg 3 rfl (Bl (S':= [[(ak,.cells #[pV k1 o2,.slice U O.length V,iV 0,nS,uV 0] 175 (0,0))],[(ae,.cells #[iV age,iV 0,nS] 133 (0,0))]]) rfl aa fun aG=>?_);refine Hr [(3,pV ka aj),(4,pV kc ab),(5,pV ak 0),(6,pV ae 0)] rfl ?_;have ap:Le E E:=Ak;refine zg 2 rfl (Cv 0 (aF.Ad ap) BV rfl rfl rfl ?_);refine AJ NH rfl rfl (Bc func129 rfl) aG ?_;rintro _ bn _ aH ⟨aq,ar,rfl,rfl,aI,aJ⟩ am;have Y:=ap.Aa aH;refine zg 2 rfl (Da (S':= [[(ak,.cells #[pV k1 o2,.slice U O.length V,iV 0,nS,uV 0] 175 (0,0))],[(ae,.cells #[iV age,iV 0,nS] 133 (0,0))]]) (by simp) am fun aK=>?_);refine JL.rangeFunc (caps:= [pV aq 0,pV ar 0]) rfl (by intro e;cases e) rfl (Bc func152 rfl) aK fun Z l T au aL=>L9 (S':= [[(ak,.cells #[pV k1 o2,.slice U O.length V,iV 0,nS,uV 0] 175 (0,0))]++([(l,.loop ⟨.ready,none,127,T,#[17],Hn,Hm,Z⟩)]++ [(ae,.cells #[iV age,iV 0,nS] 133 (0,0))]),[(Z,.deferred (some []))]]) Pw aL fun an=>?_;unfold GZ at aD;obtain⟨bo,aM,aN⟩:=Option.bind_eq_some_iff.1 aD;obtain⟨tr,aO,aP⟩:=Option.bind_eq_some_iff.1 aN;refine Oi (vs:= [.func (.yield l) #[] #[],pV aq 0,pV ar 0]) 0 (N6 (I:=IP fuel age l ae Z T) (ok:=fun ac=>(HN fuel age ac).isSome) (acc:= []) IP.Ad (bb.Ad Y) (bc.Ad Y) (bd.Ad Y) (Rp.Ad _ Y be) (bf.Ad Y) aJ aI ⟨(0,[]),none,0,[],rfl,rfl,OL.nil⟩ (fun E' aQ ac bp bq a c hle aR aS aT=>OM (au.sub ⟨rfl,trivial⟩) aR aS aT) aM aO) an rfl ?_;rintro _ br _ aU ⟨aV,aW,aX,aQ,rfl,rfl,K,a,c,g,aY,rfl,aZ⟩ a0;obtain rfl:K=q:=Option.some.inj (aY.symm.trans aP);refine O1 (S':= [[(ak,.cells #[pV k1 o2,.slice U O.length V,aV,aW,aX] 175 (0,0))],[(l,.loop ⟨.ready,none,127,T,#[17],Hn,Hm,Z⟩)],[(ae,.cells #[iV age,iV K.1,.slice a K.2.length c] 133 (0,0))],g,[(Z,.deferred (some []))]]) (by simp) a0 fun ao=>Na 1 ao rfl rfl rfl fun aa=>?_;refine(?_:JL (Bo Tryz.prog false) (Stop Tryz.prog F (F.start j)) (baseD 127) Tryz.f127.ntmps [(4,pV kc ab),(6,pV ae 0)] [⟨.collected Z,#[]⟩,dcall 128 #[.pointer (some F.sA)]] _ [GY Tryz.prog] _) T (au.sub ⟨rfl,rfl,trivial⟩);have av:=Y.Aa aU;have a1:dcall 128 #[.pointer (some F.sA)]=dcall L.done #[.pointer (some F.sA)]:=by rw [a5]
  rw [a1];refine zg 3 rfl (BJ underlying133 CN rfl rfl rfl ?_);refine BJ underlying97 CX rfl rfl rfl (Av (v:= .slice a K.2.length c) rfl (fun ρ h=>Yl.load DN (h _ _ rfl) (Cu (j:=2) (off:=2) aa rfl rfl)) ?_);refine BR underlying95 rfl rfl rfl (zg 2 rfl ?_);refine Mp (p:=0<((K.2).length:Int)) rfl (fun a2=>?_) (fun a2=>?_)
  ·have ah:F.start j= .Cj j:=by unfold Fam.start;rw [aE,decide_eq_true (show 0<K.2.length by omega)];rfl
   rw [ah];refine JL.region (Cv 0 (bg.Ad av) JN rfl rfl rfl ?_);refine BA 3 aZ aa rfl fun bu a3 a4 aw=>Av rfl (fun ρ h=>EZ (vs:= [iV age,iV K.1,.slice a K.2.length c]) B8 AK (h _ _ rfl) (EJ (off:=0) 2 aw rfl rfl)) (Oc rfl rfl rfl rfl rfl rfl rfl (bh _ _ _ (av.Aa a3) a4) ?_);exact JL.done (JL.out rfl (JO.collected 4 rfl aw rfl fun ay=>JO.La az rfl rfl (JO.leaveD rfl func127 rfl (.inr rfl) I0)))
  ·have ah:F.start j= .CH:=by unfold Fam.start;rw [aE,decide_eq_false (show ¬0<K.2.length by omega)];rfl
   rw [ah];exact JL.skip (JL.out rfl (JO.collected 4 rfl aa rfl fun ay=>JO.La az rfl rfl (JO.leaveD rfl func127 rfl (.inr rfl) I0)))
 ·refine Take.Pq bi rfl rfl rfl He fun ag ay=>JG.one (i:=3) rfl (by decide+kernel) (Take.Qa (v:= .agg #[pV k1 o2,sV U O V,iV 0,nS,uV 0]) ay rfl rfl rfl rfl fun al bv=>?_);refine CG 7 ht rfl rfl (CU [8] ?_);refine Bl (S':= [[(ag,.cells #[iV 0,iV 0,nS] 133 (0,0))],[(al,.cells #[pV k1 o2,sV U O V,iV 0,nS,uV 0] 175 (0,0))]]) rfl bv fun bw=>BI 0 bw AK fun bx=>?_;refine zg 3 rfl (JS.perm (S':= [[(al,.cells #[pV k1 o2,.slice U O.length V,iV 0,nS,uV 0] 175 (0,0))],[(ag,.cells #[iV age,iV 0,nS] 133 (0,0))]]) (List.Perm.swap _ _ _) bx fun aG=>?_);refine Hr [(3,pV ka aj),(4,pV kc ab),(5,pV al 0),(6,pV ag 0)] rfl ?_;have ap:Le E E:=Ak;refine zg 2 rfl (Cv 0 (aF.Ad ap) BV rfl rfl rfl ?_);refine AJ NH rfl rfl (Bc func129 rfl) aG ?_;rintro _ bn _ aH ⟨aq,ar,rfl,rfl,aI,aJ⟩ am;have Y:=ap.Aa aH;refine zg 2 rfl (Da (S':= [[(al,.cells #[pV k1 o2,.slice U O.length V,iV 0,nS,uV 0] 175 (0,0))],[(ag,.cells #[iV age,iV 0,nS] 133 (0,0))]]) (by simp) am fun aK=>?_);refine JL.rangeFunc (caps:= [pV aq 0,pV ar 0]) rfl (by intro e;cases e) rfl (Bc func152 rfl) aK fun Z l T au aL=>L9 (S':= [[(al,.cells #[pV k1 o2,.slice U O.length V,iV 0,nS,uV 0] 175 (0,0))]++([(l,.loop ⟨.ready,none,127,T,#[17],Hn,Hm,Z⟩)]++ [(ag,.cells #[iV age,iV 0,nS] 133 (0,0))]),[(Z,.deferred (some []))]]) Pw aL fun an=>?_;unfold GZ at aD;obtain⟨bo,aM,aN⟩:=Option.bind_eq_some_iff.1 aD;obtain⟨tr,aO,aP⟩:=Option.bind_eq_some_iff.1 aN;refine Oi (vs:= [.func (.yield l) #[] #[],pV aq 0,pV ar 0]) 0 (N6 (I:=IP fuel age l ag Z T) (ok:=fun ac=>(HN fuel age ac).isSome) (acc:= []) IP.Ad (bb.Ad Y) (bc.Ad Y) (bd.Ad Y) (Rp.Ad _ Y be) (bf.Ad Y) aJ aI ⟨(0,[]),none,0,[],rfl,rfl,OL.nil⟩ (fun E' aQ ac bp bq a c hle aR aS aT=>OM (au.sub ⟨rfl,trivial⟩) aR aS aT) aM aO) an rfl ?_;rintro _ br _ aU ⟨aV,aW,aX,aQ,rfl,rfl,K,a,c,g,aY,rfl,aZ⟩ a0;obtain rfl:K=q:=Option.some.inj (aY.symm.trans aP);refine O1 (S':= [[(al,.cells #[pV k1 o2,.slice U O.length V,aV,aW,aX] 175 (0,0))],[(l,.loop ⟨.ready,none,127,T,#[17],Hn,Hm,Z⟩)],[(ag,.cells #[iV age,iV K.1,.slice a K.2.length c] 133 (0,0))],g,[(Z,.deferred (some []))]]) (by simp) a0 fun ao=>Na 1 ao rfl rfl rfl fun aa=>?_;refine(?_:JL (Bo Tryz.prog false) (Stop Tryz.prog F (F.start j)) (baseD 127) Tryz.f127.ntmps [(4,pV kc ab),(6,pV ag 0)] [⟨.collected Z,#[]⟩,dcall 128 #[.pointer (some F.sA)]] _ [GY Tryz.prog] _) T (au.sub ⟨rfl,rfl,trivial⟩);have av:=Y.Aa aU;have a1:dcall 128 #[.pointer (some F.sA)]=dcall L.done #[.pointer (some F.sA)]:=by rw [a5]
  rw [a1];refine zg 3 rfl (BJ underlying133 CN rfl rfl rfl ?_);refine BJ underlying97 CX rfl rfl rfl (Av (v:= .slice a K.2.length c) rfl (fun ρ h=>Yl.load DN (h _ _ rfl) (Cu (j:=2) (off:=2) aa rfl rfl)) ?_);refine BR underlying95 rfl rfl rfl (zg 2 rfl ?_);refine Mp (p:=0<((K.2).length:Int)) rfl (fun a2=>?_) (fun a2=>?_)
  ·have ah:F.start j= .Cj j:=by unfold Fam.start;rw [aE,decide_eq_true (show 0<K.2.length by omega)];rfl
   rw [ah];refine JL.region (Cv 0 (bg.Ad av) JN rfl rfl rfl ?_);refine BA 3 aZ aa rfl fun bu a3 a4 aw=>Av rfl (fun ρ h=>EZ (vs:= [iV age,iV K.1,.slice a K.2.length c]) B8 AK (h _ _ rfl) (EJ (off:=0) 2 aw rfl rfl)) (Oc rfl rfl rfl rfl rfl rfl rfl (bh _ _ _ (av.Aa a3) a4) ?_);exact JL.done (JL.out rfl (JO.collected 4 rfl aw rfl fun ay=>JO.La az rfl rfl (JO.leaveD rfl func127 rfl (.inr rfl) I0)))
  ·have ah:F.start j= .CH:=by unfold Fam.start;rw [aE,decide_eq_false (show ¬0<K.2.length by omega)];rfl
   rw [ah];exact JL.skip (JL.out rfl (JO.collected 4 rfl aa rfl fun ay=>JO.La az rfl rfl (JO.leaveD rfl func127 rfl (.inr rfl) I0)))
end Pal
namespace Go.Proofs
abbrev Tryz.link:Go.Conc.Lib.WgLink:={add:=126,done:=128,wait:=132,relMerge:=139,disable:=140,enable:=141,inBubble:=142,associate:=143,fatal:=144,uOr:=145,uAdd:=146,raceRead:=147,uLoad:=148,uStore:=149,disassociate:=150,semrelease:=151,acquire:=157,isAssociated:=158,uCas:=159,raceWrite:=160,semacquire:=161,orU64:=170,addU64:=171,loadU64:=172,storeU64:=173,casU64:=177,tWgP:=189,tUP:=191,tAssoc:=192,tWg:=171,tAU:=168,tU64:=90,tUint:=156,tU32:=169,tPU32:=196,tPAU:=221,tPU64:=223,tNoCopy:=164,tANoCopy:=165,tAlign64:=166}
theorem Tryz.Mw:Go.Conc.Lib.WgLib Tryz.prog Tryz.link:=
 ⟨Tryz.func126,Tryz.func128,Tryz.func132,Tryz.func139,Tryz.func140,Tryz.func141,Tryz.func142,Tryz.func143,Tryz.func144,Tryz.func145,Tryz.func146,Tryz.func147,Tryz.func148,Tryz.func149,Tryz.func150,Tryz.func151,Tryz.func157,Tryz.func158,Tryz.func159,Tryz.func160,Tryz.func161,Tryz.func170,Tryz.func171,Tryz.func172,Tryz.func173,Tryz.func177,Tryz.underlying189,Tryz.runUnderlying189,Tryz.sizeOf189,Tryz.isAgg189,Tryz.zeroValue189,Tryz.underlying191,Tryz.runUnderlying191,Tryz.sizeOf191,Tryz.isAgg191,Tryz.zeroValue191,Tryz.underlying192,Tryz.runUnderlying192,Tryz.sizeOf192,Tryz.isAgg192,Tryz.zeroValue192,Tryz.underlying171,Tryz.runUnderlying171,Tryz.sizeOf171,Tryz.isAgg171,Tryz.zeroValue171,Tryz.underlying168,Tryz.runUnderlying168,Tryz.sizeOf168,Tryz.isAgg168,Tryz.zeroValue168,Tryz.underlying90,Tryz.runUnderlying90,Tryz.sizeOf90,Tryz.isAgg90,Tryz.zeroValue90,Tryz.underlying156,Tryz.runUnderlying156,Tryz.sizeOf156,Tryz.isAgg156,Tryz.zeroValue156,Tryz.underlying169,Tryz.runUnderlying169,Tryz.sizeOf169,Tryz.isAgg169,Tryz.zeroValue169,Tryz.underlying196,Tryz.runUnderlying196,Tryz.sizeOf196,Tryz.isAgg196,Tryz.zeroValue196,Tryz.underlying221,Tryz.runUnderlying221,Tryz.sizeOf221,Tryz.isAgg221,Tryz.zeroValue221,Tryz.underlying223,Tryz.runUnderlying223,Tryz.sizeOf223,Tryz.isAgg223,Tryz.zeroValue223,Tryz.underlying0,Tryz.runUnderlying0,Tryz.sizeOf0,Tryz.isAgg0,Tryz.zeroValue0,Tryz.underlying3,Tryz.runUnderlying3,Tryz.sizeOf3,Tryz.isAgg3,Tryz.zeroValue3,Tryz.underlying4,Tryz.runUnderlying4,Tryz.sizeOf4,Tryz.isAgg4,Tryz.zeroValue4,Tryz.underlying9,Tryz.runUnderlying9,Tryz.sizeOf9,Tryz.isAgg9,Tryz.zeroValue9,Tryz.underlying20,Tryz.runUnderlying20,Tryz.sizeOf20,Tryz.isAgg20,Tryz.zeroValue20,Tryz.underlying21,Tryz.runUnderlying21,Tryz.sizeOf21,Tryz.isAgg21,Tryz.zeroValue21,(by decide+kernel),(by decide+kernel)⟩
end Go.Proofs
namespace Pal
open Go Go.Conc Go.Proofs Go.Conc.Lib Go.ConcR.Gen
theorem SH{F:Fam}(O:F.n<2147483648){E:LH}{kc K:Nat}(U:At E kc K [.chan (some F.ch)]):Way Tryz.prog false (Stop Tryz.prog F .CK) (born Tryz.prog ⟨.fn (.func 131) [.pointer (some F.sA),pV kc K].toArray,#[]⟩) ⟨E,fun _=>none,false⟩:=by
 refine N4 (fn:=Tryz.f131) (vs:= [.pointer (some F.sA),pV kc K]) Tryz.func131 rfl rfl (by simp) (Nat.le_of_ble_eq_true rfl) ?_;obtain⟨H,V⟩:∃H:LH,H=fun _=>none:=⟨_,rfl⟩;rw [← V];refine(?_:JL (Bo Tryz.prog false) (Stop Tryz.prog F .CK) (baseD 131) Tryz.f131.ntmps (EO 0 [.pointer (some F.sA),pV kc K]) [] [.code _] [GY Tryz.prog] (Am E H []));refine zg 2 rfl (JL.wait Tryz.Mw O rfl rfl rfl rfl rfl ?_);refine zg 2 rfl (Cv 0 U JN rfl rfl rfl ?_);refine Rz rfl rfl rfl rfl rfl rfl rfl (JL.done ?_);exact JL.out rfl (JO.leaveD rfl Tryz.func131 rfl (.inr rfl) I0)
end Pal
namespace Pal
open Go Go.Conc Go.Proofs
open Go.Proofs.Tryz
open Go.Conc.Lib Go.ConcR.Gen
noncomputable def HO:Code:=match Tryz.f102.body with | some (.seq _ (.seq _ (.seq _ (.seq (.seq _ (.block _ (.loop c))) _))))=>c | _=> .skip
theorem QX{F:Fam}(aM:F.n=13){E:LH}{k1 o2:Nat}{ag ah ai:Az}{aj ak al:Nat}{am:Lv_}{O:BG}{ab:AZ}(ao:At E k1 o2 (([sV ag O.1 aj,sV ah O.2.1 ak]:Lv_)++am))(ap:Aq (rL rI) E ag aj O.1)(aq:Aq (rL rI) E ah ak O.2.1)(ar:(rA 13 (rN .u16)).r E am O.2.2)(au:Aq BE E ai al ab){V Y Z ol kc aa:Nat}(av:At E V Y [pV k1 o2])(aw:At E Z ol [.slice ai ab.length al])(ay:At E kc aa [.chan (some F.ch)]){fuel:Nat}{qs:Nat→Int×List (BS)}(az:∀j,j<13→GZ fuel O ab ((j:Nat):Int)=some (qs j))(aA:∀j,j<13→F.has j=decide (0<(qs j).2.length))(aB:∀j,j<13→∀E' a c,Aq CW E' a c (qs j).2→F.msg j (.agg #[iV ((j:Nat):Int),iV (qs j).1,.slice a (qs j).2.length c]) E'){j:Nat}(ac:j<13){ae H:LH}(hle:Le E ae)(aC:Ar ae H []){k:Li_}{cs:Lf_}
  (h:∀U,Le E U→Ar U H []→JL (Bo Tryz.prog true) (Stop Tryz.prog F (F.Dg j)) (base 102) Tryz.f102.ntmps [(2,pV V Y),(3,pV Z ol),(5,pV kc aa),(6,.pointer (some F.sA)),(11,iV ((j+1:Nat):Int))] [] (.inLoop HO::k) cs (Am U H [])):
  JL (Bo Tryz.prog true) (Stop Tryz.prog F (.Es j)) (base 102) Tryz.f102.ntmps [(2,pV V Y),(3,pV Z ol),(5,pV kc aa),(6,.pointer (some F.sA)),(11,iV ((j:Nat):Int))] [] (.code HO:: .inLoop HO::k) cs (Am ae H []):=by
 refine zg 5 rfl ?_;rw [decide_eq_true (show((j:Nat):Int)<13 by omega)];refine zg 7 rfl (Ci aC A1 fun aD aE=>?_);refine BI 0 aE AD fun aF=>?_;refine Cn 0 aF rfl fun U aG aH aI=>Da (S':= []) (by simp) aI fun aJ=>?_;have K:=hle.trans aG;refine zg 3 rfl (RL Tryz.Mw rfl rfl rfl rfl rfl rfl ?_);refine zg 2 rfl (Av (v:= .func (.func 127) #[] ([.pointer (some F.sA),pV V Y,pV Z ol,pV aD 0,pV kc aa]:Lv_).toArray) rfl (fun ρ h=>HD (by simp) (by simp [h (.tmp 6) _ rfl,h (.tmp 2) _ rfl,h (.tmp 3) _ rfl,h (.tmp 7) _ rfl,h (.tmp 5) _ rfl])) ?_);have an:=Sw Tryz.Mw rfl (F:=F) (j:=j) (ao.Ad K) (ap.Ad K) (aq.Ad K) (Rp.Ad _ K ar) (au.Ad K) (av.Ad K) (aw.Ad K) aH (ay.Ad K) (az j ac) (aA j ac) (fun E' a c _ aK=>aB j ac E' a c aK);refine T5 (fi:= #[]) rfl rfl rfl rfl rfl rfl rfl (by first | exact an | (simp only [List.append_toArray,List.nil_append,Array.append_empty,Array.empty_append];exact an)) ?_
 refine zg 3 rfl ?_;have aL:AA (((j:Nat):Int)+1)=some (((j+1:Nat)):Int):=by unfold AA;rw [if_pos (by omega)];simp
 refine Bv aL rfl rfl rfl (zg 2 rfl ?_);exact AU (h U K aJ) rfl
theorem Q9{F:Fam}(V:F.n=13){E:LH}{k1 o2:Nat}{ae ag ah:Az}{ai aj ak:Nat}{al:Lv_}{K:BG}{Y:AZ}(ao:At E k1 o2 (([sV ae K.1 ai,sV ag K.2.1 aj]:Lv_)++al))(ap:Aq (rL rI) E ae ai K.1)(aq:Aq (rL rI) E ag aj K.2.1)(ar:(rA 13 (rN .u16)).r E al K.2.2)(au:Aq BE E ah ak Y){Z aa ab ol kc ac:Nat}(av:At E Z aa [pV k1 o2])(aw:At E ab ol [.slice ah Y.length ak])(ay:At E kc ac [.chan (some F.ch)]){fuel:Nat}{qs:Nat→Int×List (BS)}(az:∀j,j<13→GZ fuel K Y ((j:Nat):Int)=some (qs j))(aA:∀j,j<13→F.has j=decide (0<(qs j).2.length))(aB:∀j,j<13→∀E' a c,Aq CW E' a c (qs j).2→F.msg j (.agg #[iV ((j:Nat):Int),iV (qs j).1,.slice a (qs j).2.length c]) E'){H:LH}{k:Li_}{cs:Lf_}
  (h:∀O,Le E O→Ar O H []→JL (Bo Tryz.prog true) (Stop Tryz.prog F .ER) (base 102) Tryz.f102.ntmps [(2,pV Z aa),(3,pV ab ol),(5,pV kc ac),(6,.pointer (some F.sA)),(11,iV 13)] [] (.code HO:: .inLoop HO::k) cs (Am O H [])):
  ∀(m j:Nat),j+m=13→0<m→∀U,Le E U→Ar U H []→JL (Bo Tryz.prog true) (Stop Tryz.prog F (.Es j)) (base 102) Tryz.f102.ntmps [(2,pV Z aa),(3,pV ab ol),(5,pV kc ac),(6,.pointer (some F.sA)),(11,iV ((j:Nat):Int))] [] (.code HO:: .inLoop HO::k) cs (Am U H []):=by
 intro m
 induction m with
 | zero=>intro j _ aC;cases aC
 | succ m aD=>
  intro j aG _ U hle aE;refine QX V ao ap aq ar au av aw ay az aA aB (by omega) hle aE fun O am an=>JL.again ?_;by_cases hm:m=0
  ·subst hm;have aF:j=12:=by omega
   subst aF;have e:F.Dg 12= .ER:=by unfold Fam.Dg;rw [V];rfl
   rw [e];exact h O am an
  ·have e:F.Dg j= .Es (j+1):=by unfold Fam.Dg;rw [V,if_neg (by omega)]
   rw [e];exact aD (j+1) (by omega) (by omega) O am an
end Pal
namespace Pal
open Go Go.Conc Go.Proofs
open Go.Proofs.Tryz
open Go.Conc.Lib Go.ConcR.Gen
noncomputable def P6:Code:=match Tryz.f102.body with | some (.seq _ (.seq _ (.seq _ (.seq _ (.seq _ (.seq _ (.seq (.seq _ (.block _ (.loop c))) _)))))))=>c | _=> .skip
def partOf(qs:Nat→Int×List (BS))(k:Nat):(Bi):=(((k:Nat):Int),(qs k).1,(qs k).2)
theorem TL{K:List Nat}{kk n:Nat}(O:kk<n)(U:kk ∉ K):((List.range n).filter (fun x=> !(K++ [kk]).contains x)).length<((List.range n).filter (fun x=> !K.contains x)).length:=by
 have e:(List.range n).filter (fun x=> !(K++ [kk]).contains x)=((List.range n).filter (fun x=> !K.contains x)).filter (fun x=>x != kk):=by
  rw [List.filter_filter];apply List.filter_congr;intro x _;by_cases V:x∈K <;> by_cases e2:x=kk <;> simp [V,e2]
 rw [e];apply List.length_filter_lt_length_iff_exists.2;exact⟨kk,by simp [O,U],by simp⟩
theorem RN{F:Fam}(aa:F.n=13){Q:GP}(an:∀g s,(C5 Tryz.prog).ok Q g s→F.fin g s){qs:Nat→Int×List (BS)}(ao:∀kk v E',F.msg kk v E'→∃a c,v= .agg #[iV ((kk:Nat):Int),iV (qs kk).1,.slice a (qs kk).2.length c]∧Aq CW E' a c (qs kk).2)
  {E H:LH} {k:Li_} {cs:Lf_}
  (ap:∀(K:List Nat) (V:LH) (a:Az) (c:Nat) (g:Seg),Le E V→K.Nodup→(∀x∈K,x<13∧F.has x=true)→(∀x,x<13→F.has x=true→x∈K)→OL 133 Ce V a c g (K.map (partOf qs))→Ar V H [g]→JL (C5 Tryz.prog) Q (base 102) Tryz.f102.ntmps [(8,.slice a (K.map (partOf qs)).length c)] [] k cs (Am V H [g])):
  ∀(m:Nat) (K:List Nat) (vs:Lv_) (U:LH) (a:Az) (c:Nat) (g:Seg),((List.range 13).filter (fun x=> !K.contains x)).length=m→K.Nodup→(∀x∈K,x<13∧F.has x=true)→K.length+m≤13→Le E U→OL 133 Ce U a c g (K.map (partOf qs))→Ar U H [g]→
   JL (Bo Tryz.prog true) (Stop Tryz.prog F (.B6 K vs)) (base 102) Tryz.f102.ntmps [(8,.slice a (K.map (partOf qs)).length c),(18,.chan (some F.ch))] [] (.code P6:: .inLoop P6:: .inBlock 2::k) cs (Am U H [g]):=by
 intro m
 induction m using Nat.strongRecOn with
 | _ m aq=>
  intro K vs U a c g hm ab ac hlen hle ae ag;refine zg 2 rfl (Sz rfl rfl rfl rfl rfl rfl underlying162 He ?_ ?_)
  ·intro kk v E' Y ar ah ai au av;rw [aa] at Y;obtain⟨aK,aL,rfl,aw⟩:=ao kk v E' av;have ay:Ar E' H [g]:=ag.up au;refine(?_:JL (Bo Tryz.prog true) (Stop Tryz.prog F (.B6 (K++ [kk]) (vs++ [_]))) (base 102) Tryz.f102.ntmps _ [] _ cs (Am E' H [g]));refine zg 9 rfl (JS.alloc rfl rfl rfl ay He fun aM az=>?_);refine BI 1 az AK fun aA=>?_;refine Cn 1 aA rfl fun aB Z aC aD=>Da (S':= [g]) (by simp) aD fun aE=>zg 3 rfl (BZ aC B8 AK rfl rfl ?_);have aF:(K.map (partOf qs)).length+1≤2 ^ 40:=by rw [List.length_map];omega
   refine Nm (pp:=Ce) (xv:=partOf qs kk) 0 rfl rfl rfl rfl (fun w=>rfl) rfl (fun w=>rfl) rfl rfl rfl underlying130 underlying130 underlying130 AK (FJ type133) He rfl (by decide) (by decide) (by decide) (by decide) aF (ae.Ad (ai.trans Z)) ⟨_,_,rfl,rfl,⟨_,_,rfl,rfl,⟨_,_,rfl,aw.Ad Z⟩⟩⟩ aE rfl fun w aj ak g' al aG=>?_;have em:K.map (partOf qs)++ [partOf qs kk]=(K++ [kk]).map (partOf qs):=by simp
   rw [em] at al;refine AY (v:= .slice aj ((K++ [kk]).map (partOf qs)).length ak) rfl rfl rfl (fun ρ h=>by rw [← em];exact Yl.assign (h _ _ rfl)) (zg 2 rfl ?_);refine JL.again ?_;have aH:((List.range 13).filter (fun x=> !(K++ [kk]).contains x)).length<m:=by rw [← hm];exact TL Y ah
   exact AU (aq _ aH (K++ [kk]) (vs++ [_]) aB aj ak g' rfl (by rw [List.nodup_append];exact⟨ab,by simp,by intro x O y am;simp at am;subst am;intro e;exact ah (e▸O)⟩) (by intro x O;simp at O;rcases O with O | rfl;exact ac x O;exact⟨Y,ar⟩) (by simp only [List.length_append,List.length_cons,List.length_nil];omega) ((hle.trans ai).Aa Z) al aG) rfl
  ·intro aI T aJ;refine an _ _ ?_;refine(?_:JL (C5 Tryz.prog) Q (base 102) Tryz.f102.ntmps _ [] _ cs (Am U H [g])) T aJ;exact zg 5 rfl (AU (ap K U a c g hle ab ac (fun x O hh=>aI x (by rw [aa];exact O) hh) ae ag) rfl)
end Pal
namespace Pal
open Go Go.Conc Go.Proofs
open Go.Proofs.Tryz
variable {J:Judge Tryz.prog}{E:LH}
def Pg:List Nat:= [0,1,2,2,3,3,3,3,4,4,4,4,4,4,4,4,5,5,5,5,5,5,5,5,5,5,5,5,5,5,5,5,6,6,6,6,6,6,6,6,6,6,6,6,6,6,6,6,6,6,6,6,6,6,6,6,6,6,6,6,6,6,6,6,7,7,7,7,7,7,7,7,7,7,7,7,7,7,7,7,7,7,7,7,7,7,7,7,7,7,7,7,7,7,7,7,7,7,7,7,7,7,7,7,7,7,7,7,7,7,7,7,7,7,7,7,7,7,7,7,7,7,7,7,7,7,7,7,8,8,8,8,8,8,8,8,8,8,8,8,8,8,8,8,8,8,8,8,8,8,8,8,8,8,8,8,8,8,8,8,8,8,8,8,8,8,8,8,8,8,8,8,8,8,8,8,8,8,8,8,8,8,8,8,8,8,8,8,8,8,8,8,8,8,8,8,8,8,8,8,8,8,8,8,8,8,8,8,8,8,8,8,8,8,8,8,8,8,8,8,8,8,8,8,8,8,8,8,8,8,8,8,8,8,8,8,8,8,8,8,8,8,8,8,8,8,8,8,8,8,8,8,8,8,8,8]
def f187(fuel:Nat)(p0:Nat):Option Int:= Option.bind (if(((4294967296):Nat):Int)≤(((p0):Nat):Int) then(some (p0>>>32,32)) else(some (p0,0))) fun K=> Option.bind (if(((65536):Nat):Int)≤(((K.1):Nat):Int) then((AA (K.2+16)).bind fun V=> some (K.1>>>16,V)) else(some K)) fun O=> Option.bind (if(((256):Nat):Int)≤(((O.1):Nat):Int) then((AA (O.2+8)).bind fun Y=> some (O.1>>>8,Y)) else(some O)) fun U=> (Jw Pg (((((U.1) % 256):Nat):Int))).bind fun Z=> (AA (((Z):Nat):Int)).bind fun aa=> (AA (U.2+aa)).bind fun ab=> some ab
theorem Ud{p0:Nat}{fuel:Nat}{r:Int}(V:f187 fuel p0=some r):AT J 187 [.int .u64 ((p0:Nat):Int)] E [] (fun w E' B'=>w=iV r∧B'= []):=by
 refine Bm func187 fun Q aP cs H Y ag=>?_;unfold f187 at V;obtain⟨K,ah,ai⟩:=bs V;refine zg 10 rfl (Cw [] [(0,.int .u64 ((K.1:Nat):Int)),(2,iV K.2)] (fun aQ aj Z=>?_) (fun aa=>?_))
 ·obtain⟨O,ak,al⟩:=bs ai;refine zg 6 rfl (Cw [] [(0,.int .u64 ((O.1:Nat):Int)),(2,iV O.2)] (fun aR am ab=>?_) (fun ac=>?_))
  ·obtain⟨U,an,ao⟩:=bs al;refine zg 6 rfl (Cw [] [(0,.int .u64 ((U.1:Nat):Int)),(2,iV U.2)] (fun aS ap aq=>?_) (fun ae=>?_))
   ·refine zg 4 rfl (Av (v:= .int .u8 (((U.1) % 256:Nat):Int)) rfl (fun ρ h=>S3 underlying90 underlying5 (h _ _ rfl)) ?_);obtain⟨ar,au,av⟩:=bs ao;refine Av (v:= .int .u8 ((ar:Nat):Int)) rfl (fun ρ h=>LV (l:=Pg) (by decide+kernel) underlying9 (h _ _ rfl) (h _ _ rfl) au) ?_;obtain⟨aw,ay,az⟩:=bs av;refine Av (v:=iV aw) rfl (fun ρ h=>OY underlying5 underlying3 (h _ _ rfl) ay) ?_;obtain⟨aT,aA,aB⟩:=bs az;refine Bv aA rfl rfl rfl (zg 2 rfl ?_);obtain rfl:=oi aB;exact AS func187 rfl rfl (ag ((aj.Aa am).Aa ap) rfl ⟨rfl,rfl⟩ aq)
   ·refine A7 an (fun aC aD=>?_) (fun aC aE=>?_)
    ·refine zg 3 rfl (Av (v:= .int .u64 ((O.1>>>8:Nat):Int)) rfl (fun ρ h=>Mc 8 (h _ _ rfl) (h _ _ rfl) (by decide)) ?_);obtain⟨aU,aF,aG⟩:=bs aD;refine zg 4 rfl (Bv aF rfl rfl rfl ?_);refine zg 2 rfl ?_;obtain rfl:=oi aG;exact ae Ak ab rfl
    ·refine JL.skip ?_;obtain rfl:=oi aE;exact ae Ak ab rfl
  ·refine A7 ak (fun aH aI=>?_) (fun aH aJ=>?_)
   ·refine zg 3 rfl (Av (v:= .int .u64 ((K.1>>>16:Nat):Int)) rfl (fun ρ h=>Mc 16 (h _ _ rfl) (h _ _ rfl) (by decide)) ?_);obtain⟨aV,aK,aL⟩:=bs aI;refine zg 4 rfl (Bv aK rfl rfl rfl ?_);refine zg 2 rfl ?_;obtain rfl:=oi aL;exact ac Ak Z rfl
   ·refine JL.skip ?_;obtain rfl:=oi aJ;exact ac Ak Z rfl
 ·refine A7 ah (fun aM aN=>?_) (fun aM aO=>?_)
  ·refine zg 3 rfl (Av (v:= .int .u64 ((p0>>>32:Nat):Int)) rfl (fun ρ h=>Mc 32 (h _ _ rfl) (h _ _ rfl) (by decide)) ?_);refine zg 5 rfl ?_;obtain rfl:=oi aN;exact aa Ak Y rfl
  ·refine JL.skip ?_;obtain rfl:=oi aO;exact aa Ak Y rfl
def f163(fuel:Nat)(p0:Nat):Option Int:= (f187 fuel p0).bind fun K=> some K
theorem PE{p0:Nat}{fuel:Nat}{r:Int}(K:f163 fuel p0=some r):AT J 163 [.int .u64 ((p0:Nat):Int)] E [] (fun w E' B'=>w=iV r∧B'= []):=by
 refine Bm func163 fun Q ab cs H O U=>?_;unfold f163 at K;obtain⟨ac,V,Y⟩:=bs K;refine zg 10 rfl (Ba (Ud V) rfl rfl (Bc func187 rfl) O fun ae Z aa=>?_);refine zg 2 rfl ?_;obtain rfl:=oi Y;exact AS func163 rfl rfl (U Z rfl ⟨rfl,rfl⟩ aa)
def f134(fuel:Nat)(p0:Bi)(p1:Bi):Option Int:= (AA (p0.1 - p1.1)).bind fun K=> some K
theorem Ga{K:Az}{c2:Nat}{O:Az}{U:Nat}{p0:Bi}{p1:Bi}(ak:Aq CW E K c2 p0.2.2)(al:Aq CW E O U p1.2.2){fuel:Nat}{r:Int}(V:f134 fuel p0 p1=some r):AT J 134 [.agg #[iV p0.1,iV p0.2.1,sV K p0.2.2 c2],.agg #[iV p1.1,iV p1.2.1,sV O p1.2.2 U]] E [] (fun w E' B'=>w=iV r∧B'= []):=by
 refine Bm func134 fun Q am cs H Z aa=>?_;unfold f134 at V;refine zg 2 rfl (CB Z fun an ao ab ac ae=>?_);refine CB ae fun ap aq Y ag ah=>?_;refine zg 4 rfl (Cd 0 (ac.Ad Y) underlying133 AD BV ?_);refine Cd 0 ag underlying133 AD BV ?_;obtain⟨ar,ai,aj⟩:=bs V;refine Cq ai rfl rfl rfl (zg 2 rfl ?_);obtain rfl:=oi aj;exact AS func134 rfl rfl (aa (ab.Aa Y) rfl ⟨rfl,rfl⟩ ah)
def Ij(fuel:Nat)(p1:Int)(K:Int×(List Bi)):Option (Bz (Int×(List Bi)) ((List Bi))):= Option.bind (if p1<K.1 then((ix K.2 K.1).bind fun V=> (AA (K.1 - 1)).bind fun Y=> (ix K.2 Y).bind fun Z=> (f134 fuel V Z).bind fun aa=> some (decide (aa<0))) else(some false)) fun ab=> if ab=true then((AA (K.1 - 1)).bind fun O=> (AA (K.1 - 1)).bind fun ac=> (ix K.2 ac).bind fun U=> (ix K.2 K.1).bind fun ae=> (ix (K.2.set (Int.toNat K.1) U) O).bind fun ah=> (AA (K.1 - 1)).bind fun ag=> some (.more (ag,((K.2.set (Int.toNat K.1) U).set (Int.toNat O) ae)))) else(some (.done K.2))
def HM(fuel:Nat)(p1:Int)(p2:Int)(K:Int×(List Bi)):Option (Bz (Int×(List Bi)) ((List Bi))):= if K.1<p2 then(Option.bind (iter (Ij fuel p1) fuel K) fun O=> (AA (K.1+1)).bind fun U=> some (.more (U,O))) else(some (.done K.2))
def f178(fuel:Nat)(p0:List Bi)(p1:Int)(p2:Int):Option ((List Bi)):= (AA (p1+1)).bind fun K=> Option.bind (iter (HM fuel p1 p2) fuel (K,p0)) fun O=> some O
theorem O9{K:Nat}{U:Nat}{V:Nat}{ap:Aw}{p0:List (Bi)}{p1:Int}{p2:Int}(hW:WL 133 Ce E K U V ap p0){fuel:Nat}{r:(List Bi)}(aC:f178 fuel p0 p1 p2=some r):AT J 178 [.slice (Aj K) V U,iV p1,iV p2,(fV 134)] E [(K,.cells ap 133 (0,0))] (fun w E' B'=>∃(aD:Aw),w= .tuple #[]∧B'= [(K,.cells aD 133 (0,0))]∧WL 133 Ce E' K U V aD r):=by
 refine Bm func178 fun Q b2 cs H aW aX=>?_;unfold f178 at aC;obtain⟨b3,aY,aZ⟩:=bs aC;refine zg 3 rfl (Bv aY rfl rfl rfl ?_);obtain⟨a0,a1,a2⟩:=bs aZ;refine zg 2 rfl (Cc (fun L s=>∃(aq:LH) (f17:Aw),Jn E H aq [bX K f17 133] [] L s (WL 133 Ce aq K U V f17 a0)) ?_ ?_)
 ·rintro _ _ ⟨aq,f17,rfl,rfl,a3,a4,a5⟩;obtain rfl:=oi a2;exact JL.fin (v:= .tuple #[]) rfl rfl (BP.list func178 rfl (vs:= []) trivial) (aX a3 rfl ⟨f17,rfl,(by first | rfl | simp | (simp [Value.cells])),a5⟩ a4)
 ·intro a6;refine JL.block (DT a1 (fun L s ac=>∃(ab:LH) (f25:Aw),Jn E H ab [bX K f25 133] [(0,.slice (Aj K) V U),(1,iV p1),(2,iV p2),(3,(fV 134)),(8,iV ac.1)] L s (WL 133 Ce ab K U V f25 ac.2)) ⟨E,ap,rfl,rfl,Ak,aW,hW⟩ ?_);rintro _ _ ac ⟨ab,f25,rfl,rfl,aE,aF,aG⟩ a7 ⟨b4,ar⟩ a8;have aH:=ar;unfold HM at aH;refine zg 7 rfl (A7 aH (fun a9 ba=>?_) (fun a9 bb=>?_))
  ·obtain⟨aI,bc,bd⟩:=bs ba;refine zg 8 rfl (Cc (fun L s=>∃(al:LH) (f48:Aw),Jn ab H al [bX K f48 133] [(0,.slice (Aj K) V U),(1,iV p1),(2,iV p2),(3,(fV 134)),(8,iV ac.1)] L s (WL 133 Ce al K U V f48 aI)) ?_ ?_)
   ·rintro _ _ ⟨al,f48,rfl,rfl,be,bf,bg⟩;obtain⟨bh,bi,bj⟩:=bs bd;refine zg 3 rfl (Bv bi rfl rfl rfl ?_);refine zg 2 rfl ?_;obtain rfl:=oi bj;exact AU (a8 _ _ (bh,aI) ⟨al,f48,rfl,rfl,(aE.Aa be),bf,bg⟩ ar) rfl
   ·intro bl;refine JL.block (DT bc (fun L s aa=>∃(ai:LH) (f58:Aw),Jn ab H ai [bX K f58 133] [(0,.slice (Aj K) V U),(1,iV p1),(2,iV p2),(3,(fV 134)),(8,iV ac.1),(9,iV aa.1)] L s (WL 133 Ce ai K U V f58 aa.2)) ⟨ab,f25,rfl,rfl,Ak,aF,aG⟩ ?_);rintro _ _ aa ⟨ai,f58,rfl,rfl,aJ,aj,O⟩ bm ⟨b5,au⟩ bn;have aK:=au;unfold Ij at aK;refine zg 2 rfl (Dr 17 [K] ⟨⟨0,_,rfl⟩,trivial⟩ aj fun ht=>?_);refine Bt ht rfl [0,1,2,3] rfl ?_;obtain⟨bo,aL,bp⟩:=bs aK;refine Fq 0 #[true,true,true,true,true,true,true,true,true,true,true,true,true,true,true,true,true] (fun L s=>∃(am:LH),Jm ai H am [bX K f58 133] [(0,.slice (Aj K) V U),(1,iV p1),(2,iV p2),(3,(fV 134)),(8,iV ac.1),(9,iV aa.1),(34,.bool bo)] L s) ?_ ?_
    ·rintro _ _ ⟨am,rfl,rfl,ae,an⟩;refine AQ.fin (by decide+kernel) (BO bp (fun bq br=>?_) (fun bq bu=>?_))
     ·refine zg 3 rfl (F5 [15,17] [K] mixed rfl ?_);refine Bh 0 rfl rfl (Bh 1 rfl rfl ?_);refine Bh 2 rfl rfl (Bh 3 rfl rfl ?_);obtain⟨aM,bv,bw⟩:=bs br;refine FR 4 true rfl rfl (fun ρ h s' hs=>Db (h _ _ rfl) (h _ _ rfl) bv) (Bh 5 rfl rfl ?_);refine Bh 6 rfl rfl ?_;obtain⟨b6,bx,bz⟩:=bs bw;refine FR 7 true rfl rfl (fun ρ h s' hs=>Db (h _ _ rfl) (h _ _ rfl) bx) ?_;obtain⟨Y,aN,bA⟩:=bs bz;obtain⟨_,⟨_,_,rfl,rfl,⟨_,_,rfl,rfl,⟨av,aw,rfl,bB⟩⟩⟩,bC⟩:=WL.at (O.Ad ae) aN;refine Cg 8 O.2 aN underlying130 AK ?_;refine Dy 9 [iV Y.1,iV Y.2.1,sV av Y.2.2 aw] 0 an bC B8 AK ?_;refine Bh 10 rfl rfl (Bh 11 rfl rfl ?_);obtain⟨Z,ao,bD⟩:=bs bA;obtain⟨_,⟨_,_,rfl,rfl,⟨_,_,rfl,rfl,⟨ay,az,rfl,bE⟩⟩⟩,bF⟩:=WL.at (O.Ad ae) ao;refine Cg 12 O.2 ao underlying130 AK ?_;refine Dy 13 [iV Z.1,iV Z.2.1,sV ay Z.2.2 az] 0 an bF B8 AK ?_;refine Cg 14 O.2 ao underlying130 AK ?_;have ak:=WL.put (x':=Y) (ws':= [iV Y.1,iV Y.2.1,sV av Y.2.2 aw]) (O.Ad ae) O.2 ao ⟨_,_,rfl,rfl,⟨_,_,rfl,rfl,⟨_,_,rfl,bB⟩⟩⟩;refine Dz 15 0 an AK ak.2 fun bG=>?_;obtain⟨b7,aA,bH⟩:=bs bD;obtain⟨_,⟨_,_,rfl,rfl,⟨_,_,rfl,rfl,⟨b8,b9,rfl,ca⟩⟩⟩,cb⟩:=WL.at ak.1 aA;refine Cg 16 (ak.1).2 aA underlying130 AK ?_;have aO:=WL.put (x':=Z) (ws':= [iV Z.1,iV Z.2.1,sV ay Z.2.2 az]) ak.1 (ak.1).2 aA ⟨_,_,rfl,rfl,⟨_,_,rfl,rfl,⟨_,_,rfl,bE⟩⟩⟩;refine Dz 17 0 bG AK aO.2 fun bI=>?_;refine JB.fin (by decide+kernel) ?_;obtain⟨bJ,bK,bL⟩:=bs bH;refine zg 3 rfl (Cq bK rfl rfl rfl ?_);refine zg 2 rfl ?_;obtain rfl:=oi bL;exact AU (bn _ _ (bJ,((aa.2.set (Int.toNat aa.1) Y).set (Int.toNat aM) Z)) ⟨am,(AI (AI f58 (Int.toNat (aa.1)*3) [iV Y.1,iV Y.2.1,sV av Y.2.2 aw]) (Int.toNat (aM)*3) [iV Z.1,iV Z.2.1,sV ay Z.2.2 az]),rfl,rfl,(aJ.Aa ae),bI,aO.1⟩ au) rfl
     ·refine JL.exit rfl ?_;obtain rfl:=oi bu;obtain rfl:=bm _ au;exact AU (bl _ _ ⟨am,f58,rfl,rfl,(aJ.Aa ae),an,(O.Ad ae)⟩) rfl
    ·intro aP;refine FH (q:=p1<aa.1) (i:=21) rfl (fun aB=>?_) (fun aB=>?_)
     ·have bM:=ip aL aB;refine Bt ht rfl [4,5,6] rfl ?_;obtain⟨ag,aQ,bN⟩:=bs bM;obtain⟨_,⟨_,_,rfl,rfl,⟨_,_,rfl,rfl,⟨aR,aS,rfl,bO⟩⟩⟩,bP⟩:=WL.at O aQ;refine Fe 7 ht (O).2 aQ underlying130 AK ?_;refine Dl 8 ht [iV ag.1,iV ag.2.1,sV aR ag.2.2 aS] 0 aj bP B8 AK ?_;refine Bt ht rfl [9,10] rfl ?_;obtain⟨cc,bQ,bR⟩:=bs bN;refine Bd 11 ht rfl rfl (fun ρ h s' hs=>Db (h _ _ rfl) (h _ _ rfl) bQ) ?_;obtain⟨ah,aT,bS⟩:=bs bR;obtain⟨_,⟨_,_,rfl,rfl,⟨_,_,rfl,rfl,⟨aU,aV,rfl,bT⟩⟩⟩,bU⟩:=WL.at O aT;refine Fe 12 ht (O).2 aT underlying130 AK ?_;refine Dl 13 ht [iV ah.1,iV ah.2.1,sV aU ah.2.2 aV] 0 aj bU B8 AK ?_;obtain⟨cd,bV,bW⟩:=bs bS;refine GK (i:=14) ⟨⟨0,_,rfl⟩,trivial⟩ (vs:= [.agg #[iV ag.1,iV ag.2.1,sV aR ag.2.2 aS],.agg #[iV ah.1,iV ah.2.1,sV aU ah.2.2 aV]]) (Ga bO bT bV) (by decide+kernel) rfl rfl rfl rfl F0 rfl aj ?_;rintro _ bY _ bZ ⟨rfl,rfl⟩ b0;refine Bt ht rfl [15,16] rfl ?_;obtain rfl:=oi bW;refine Dp ?_ (aP _ _ ⟨bY,rfl,rfl,bZ,b0⟩);exact⟨rfl,rfl,rfl,rfl,rfl,rfl,rfl,trivial⟩
     ·have b1:=im aL aB;refine Bt ht rfl [4,5,6,7,8,9,10,11,12,13,14,15,16] rfl ?_;obtain rfl:=oi b1;refine Dp ?_ (aP _ _ ⟨ai,rfl,rfl,Ak,aj⟩);exact⟨rfl,rfl,rfl,rfl,rfl,rfl,rfl,trivial⟩
  ·refine JL.exit rfl ?_;obtain rfl:=oi bb;obtain rfl:=a7 _ ar;exact AU (a6 _ _ ⟨ab,f25,rfl,rfl,aE,aF,aG⟩) rfl
def f200(fuel:Nat)(p0:List Bi)(p1:Int)(p2:Int)(p3:Int):Option (Int×Int×Int):= (ix p0 p2).bind fun K=> (ix p0 p1).bind fun O=> (f134 fuel K O).bind fun U=> if U<0 then((AA (p3+1)).bind fun V=> some (p2,p1,V)) else(some (p1,p2,p3))
theorem Mm{K:Nat}{aa:Nat}{ab:Nat}{Y:Aw}{bk:Nat}{p0:List (Bi)}{p1:Int}{p2:Int}{p3:Int}(hW:WL 133 Ce E K aa ab Y p0){fuel:Nat}{r:Int×Int×Int}(ac:f200 fuel p0 p1 p2 p3=some r):AT J 200 [.slice (Aj K) ab aa,iV p1,iV p2,pV bk 0,(fV 134)] E ([(bk,.cells #[iV p3] 3 (0,0))]++ [(K,.cells Y 133 (0,0))]) (fun w E' B'=>w= .tuple #[iV r.1,iV r.2.1]∧B'= [(bk,.cells #[iV r.2.2] 3 (0,0))]++ [(K,.cells Y 133 (0,0))]):=by
 refine Bm func200 fun Q aD cs H O ae=>?_;unfold f200 at ac;refine Da (S':= [[(bk,.cells #[iV p3] 3 (0,0))],[(K,.cells Y 133 (0,0))]]) (by simp) O fun O=>zg 7 rfl (Dr 9 [K] ⟨⟨1,_,rfl⟩,trivial⟩ O fun ht=>?_);refine Bt ht rfl [0,1,2] rfl ?_;obtain⟨U,ag,am⟩:=bs ac;obtain⟨_,⟨_,_,rfl,rfl,⟨_,_,rfl,rfl,⟨ah,c4,rfl,an⟩⟩⟩,ao⟩:=WL.at hW ag;refine Fe 3 ht (hW).2 ag underlying130 AK ?_;refine Dl 4 ht [iV U.1,iV U.2.1,sV ah U.2.2 c4] 1 O ao B8 AK ?_;refine Bt ht rfl [5,6] rfl ?_;obtain⟨V,ai,ap⟩:=bs am;obtain⟨_,⟨_,_,rfl,rfl,⟨_,_,rfl,rfl,⟨aj,ak,rfl,aq⟩⟩⟩,ar⟩:=WL.at hW ai;refine Fe 7 ht (hW).2 ai underlying130 AK ?_;refine Dl 8 ht [iV V.1,iV V.2.1,sV aj V.2.2 ak] 1 O ar B8 AK ?_;refine CU [9,10] ?_;obtain⟨aE,au,av⟩:=bs ap;refine I8 (vs:= [.agg #[iV U.1,iV U.2.1,sV ah U.2.2 c4],.agg #[iV V.1,iV V.2.1,sV aj V.2.2 ak]]) (Ga an aq au) rfl rfl rfl rfl F0 rfl O ?_;rintro _ aF _ al ⟨rfl,rfl⟩ Z;refine zg 2 rfl (A7 av (fun aw ay=>?_) (fun aw az=>?_))
 ·refine zg 4 rfl (Av (v:=iV p3) rfl (fun ρ h=>Yl.load BV (h _ _ rfl) (Cu (j:=0) (off:=0) Z rfl rfl)) ?_);obtain⟨aG,aA,aB⟩:=bs ay;refine Bv aA rfl rfl rfl (zg 1 rfl ?_);refine BI 0 Z AD fun aC=>?_;refine zg 8 rfl ?_;obtain rfl:=oi aB;exact AS func200 rfl rfl (ae al rfl ⟨rfl,(by first | rfl | simp | (simp [Value.cells]))⟩ aC)
 ·refine zg 8 rfl ?_;obtain rfl:=oi az;exact AS func200 rfl rfl (ae al rfl ⟨rfl,(by first | rfl | simp | (simp [Value.cells]))⟩ Z)
def f197(fuel:Nat)(p0:List Bi)(p1:Int)(p2:Int)(p3:Int)(p4:Int):Option (Int×Int):= (f200 fuel p0 p1 p2 p4).bind fun K=> (f200 fuel p0 K.2.1 p3 K.2.2).bind fun O=> (f200 fuel p0 K.1 O.1 O.2.2).bind fun U=> some U.2
theorem TR{K:Nat}{Y:Nat}{Z:Nat}{O:Aw}{bk:Nat}{p0:List (Bi)}{p1:Int}{p2:Int}{p3:Int}{p4:Int}(hW:WL 133 Ce E K Y Z O p0){fuel:Nat}{r:Int×Int}(aa:f197 fuel p0 p1 p2 p3 p4=some r):AT J 197 [.slice (Aj K) Z Y,iV p1,iV p2,iV p3,pV bk 0,(fV 134)] E ([(bk,.cells #[iV p4] 3 (0,0))]++ [(K,.cells O 133 (0,0))]) (fun w E' B'=>w=iV r.1∧B'= [(bk,.cells #[iV r.2] 3 (0,0))]++ [(K,.cells O 133 (0,0))]):=by
 refine Bm func197 fun Q aF cs H U ae=>?_;unfold f197 at aa;refine Da (S':= [[(bk,.cells #[iV p4] 3 (0,0))],[(K,.cells O 133 (0,0))]]) (by simp) U fun U=>?_;obtain⟨ag,ah,ai⟩:=bs aa;refine zg 11 rfl (Ja 0 1 rfl rfl U fun aj=>?_);refine CZ 0 (Mm hW ah) rfl rfl Lw aj rfl ?_;rintro _ aG _ V ⟨rfl,rfl⟩ ak;refine Ft 0 rfl ak fun al=>Bl (S':= [[(bk,.cells #[iV ag.2.2] 3 (0,0))],[],[(K,.cells O 133 (0,0))]]) rfl al fun am=>?_;obtain⟨an,ao,ap⟩:=bs ai;refine zg 13 rfl (Ja 0 2 rfl rfl am fun aq=>?_);refine CZ 0 (Mm (hW.Ad V) ao) rfl rfl Lw aq rfl ?_;rintro _ aH _ ab ⟨rfl,rfl⟩ ar;refine Ft 0 rfl ar fun au=>Bl (S':= [[(bk,.cells #[iV an.2.2] 3 (0,0))],[],[],[(K,.cells O 133 (0,0))]]) rfl au fun av=>?_;obtain⟨ac,aw,ay⟩:=bs ap;refine zg 13 rfl (Ja 0 3 rfl rfl av fun az=>?_);refine CZ 0 (Mm (hW.Ad (V.Aa ab)) aw) rfl rfl Lw az rfl ?_;rintro _ aI _ aA ⟨rfl,rfl⟩ aB;refine Ft 0 rfl aB fun aC=>Bl (S':= [[(bk,.cells #[iV ac.2.2] 3 (0,0))],[],[],[],[(K,.cells O 133 (0,0))]]) rfl aC fun aD=>zg 11 rfl (Bl (S':= [[(bk,.cells #[iV ac.2.2] 3 (0,0))],[],[],[],[(K,.cells O 133 (0,0))]]) rfl aD fun aE=>?_);obtain rfl:=oi ay;exact AS func197 rfl rfl (ae ((V.Aa ab).Aa aA) rfl ⟨rfl,(by first | rfl | simp | (simp [Value.cells]))⟩ aE)
def f181(fuel:Nat)(p0:List Bi)(p1:Int)(p2:Int):Option (Int×Int):= (AA (p2 - p1)).bind fun K=> (GB K (4)).bind fun V=> (AA (V*1)).bind fun Y=> (AA (p1+Y)).bind fun Z=> (GB K (4)).bind fun aa=> (AA (aa*2)).bind fun ab=> (AA (p1+ab)).bind fun U=> (GB K (4)).bind fun ac=> (AA (ac*3)).bind fun ae=> (AA (p1+ae)).bind fun ag=> Option.bind (if 8≤K then(Option.bind (if 50≤K then(none) else(some ())) fun ai=> (f197 fuel p0 Z U ag 0).bind fun ah=> some ah) else(some (U,0))) fun O=> if O.2=0 then(some (O.1,1)) else(if O.2=12 then(some (O.1,2)) else(some (O.1,0)))
theorem PG{K:Nat}{Y:Nat}{Z:Nat}{O:Aw}{p0:List (Bi)}{p1:Int}{p2:Int}(hW:WL 133 Ce E K Y Z O p0){fuel:Nat}{r:Int×Int}(ae:f181 fuel p0 p1 p2=some r):AT J 181 [.slice (Aj K) Z Y,iV p1,iV p2,(fV 134)] E [(K,.cells O 133 (0,0))] (fun w E' B'=>w= .tuple #[iV r.1,iV r.2]∧B'= [(K,.cells O 133 (0,0))]):=by
 refine Bm func181 fun Q bh cs H aj aa=>?_;unfold f181 at ae;obtain⟨bi,ak,al⟩:=bs ae;refine zg 9 rfl (Cq ak rfl rfl rfl ?_);refine zg 4 rfl (Ci aj A1 fun U ag=>?_);obtain⟨am,an,ao⟩:=bs al;refine zg 5 rfl (Av (v:=iV am) rfl (fun ρ h=>Jh (h _ _ rfl) (h _ _ rfl) an) ?_);obtain⟨bj,ap,aq⟩:=bs ao;refine Av rfl (fun ρ h=>HH (h _ _ rfl) (h _ _ rfl) ap) ?_;obtain⟨ar,au,av⟩:=bs aq;refine Bv au rfl rfl rfl ?_;obtain⟨aw,ay,az⟩:=bs av;refine zg 6 rfl (Av (v:=iV aw) rfl (fun ρ h=>Jh (h _ _ rfl) (h _ _ rfl) ay) ?_);obtain⟨bl,aA,aB⟩:=bs az;refine Av rfl (fun ρ h=>HH (h _ _ rfl) (h _ _ rfl) aA) ?_;obtain⟨aC,aD,aE⟩:=bs aB;refine Bv aD rfl rfl rfl ?_;obtain⟨aF,aG,aH⟩:=bs aE;refine zg 6 rfl (Av (v:=iV aF) rfl (fun ρ h=>Jh (h _ _ rfl) (h _ _ rfl) aG) ?_);obtain⟨bm,aI,aJ⟩:=bs aH;refine Av rfl (fun ρ h=>HH (h _ _ rfl) (h _ _ rfl) aI) ?_;obtain⟨aK,aL,aM⟩:=bs aJ;refine Bv aL rfl rfl rfl ?_;obtain⟨ab,aN,aO⟩:=bs aM;refine zg 8 rfl (Cw [bX K O 133,bX U #[iV ab.2] 3] [(11,pV U 0),(13,iV ab.1)] (fun bn ac V=>?_) (fun ah=>?_))
 ·refine zg 2 rfl (Av (v:=iV ab.2) rfl (fun ρ h=>Yl.load BV (h _ _ rfl) (Cu (j:=1) (off:=0) V rfl rfl)) ?_);refine zg 7 rfl (A7 aO (fun aP aQ=>?_) (fun aP aR=>?_))
  ·refine zg 6 rfl (JS.drop 1 V rfl fun aS=>?_);obtain rfl:=oi aQ;exact AS func181 rfl rfl (aa ac rfl ⟨rfl,(by first | rfl | simp | (simp [Value.cells]))⟩ aS)
  ·refine zg 5 rfl (A7 aR (fun aT aU=>?_) (fun aT aV=>?_))
   ·refine zg 6 rfl (JS.drop 1 V rfl fun aW=>?_);obtain rfl:=oi aU;exact AS func181 rfl rfl (aa ac rfl ⟨rfl,(by first | rfl | simp | (simp [Value.cells]))⟩ aW)
   ·refine zg 6 rfl (JS.drop 1 V rfl fun aX=>?_);obtain rfl:=oi aV;exact AS func181 rfl rfl (aa ac rfl ⟨rfl,(by first | rfl | simp | (simp [Value.cells]))⟩ aX)
 ·refine A7 aN (fun aY aZ=>?_) (fun aY a0=>?_)
  ·obtain⟨bo,a1,a2⟩:=bs aZ;refine zg 6 rfl (Cw [bX K O 133,bX U #[iV 0] 3] [(0,.slice (Aj K) Z Y),(3,(fV 134)),(8,iV 0),(9,iV 0),(11,pV U 0),(12,iV ar),(13,iV aC),(14,iV aK)] (fun bp ai a3=>?_) (fun a4=>?_))
   ·obtain⟨a5,a6,a7⟩:=bs a2;refine zg 6 rfl (Ja 1 0 rfl rfl a3 fun a8=>?_);refine CZ 1 (TR (hW.Ad ai) a6) rfl rfl (Bc func197 rfl) a8 rfl ?_;rintro _ bq _ a9 ⟨rfl,rfl⟩ ba;refine Ft 1 rfl ba fun bb=>Bl (S':= [[],[(U,.cells #[iV a5.2] 3 (0,0))],[(K,.cells O 133 (0,0))]]) rfl bb fun bc=>zg 2 rfl (JS.swap 1 2 rfl rfl rfl bc fun bd=>?_);obtain rfl:=oi a7;exact ah (ai.Aa a9) bd rfl
   ·refine A7 a1 (fun be bf=>?_) (fun be bg=>?_)
    ·refine zg 5 rfl ?_;cases bf
    ·refine JL.skip ?_;obtain rfl:=oi bg;exact a4 Ak ag rfl
  ·refine JL.skip ?_;obtain rfl:=oi a0;exact ah Ak ag rfl
end Pal
