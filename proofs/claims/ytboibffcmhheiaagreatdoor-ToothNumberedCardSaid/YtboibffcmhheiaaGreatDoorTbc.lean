/- ToothNumbered: with other numbers of the mouths all answers are the same Part 3 of 8. -/
import Derived.Test.YtboibffcmhheiaaGreatDoorTba
import Derived.Test.YtboibffcmhheiaaGreatDoorTbb
import Derived.Test.YtboibffcmhheiaaGreatDoorRows
import Derived.Test.YtboibffcmhheiaaGreatDoorChecked
import Derived.Conc.LeavingOf
import Derived.Conc.Holds
import Derived.Carry
import Derived.ChangeSame
import Derived.ChangeVars
import Derived.JoinedOf
import Derived.RowKit
import Derived.LaidLaws
import Derived.LaidHandle
import Derived.Stop.Joined
import Derived.Test.YtboibffcmhheiaaGreatDoorProg
import Derived.Conc.WgGenN3
set_option linter.all false
set_option maxRecDepth 100000
namespace Pal
open Go Go.Conc
theorem SV{E H:LH}{S:List Seg}{bks:List Nat}{bk o:Nat}{l ws:Lv_}{e:TypeId}{f:Nat×Nat}{s':St}{w:Value}(j:Nat)(K:As E H S)(O:S[j]? =some [(bk,.cells (l++ws).toArray e f)])(U:AZ bks bk=true)(hs:∀x o,(Bx (AZ bks) (Ak E H S)).E x=some o→s'.E x=some o)(V:ws[o]? =some w):s'.cell? ⟨bk,l.length+o,none⟩=some w:=by
 have:=Nc j K O U hs o w V
 rwa [DT rfl] at this
section
variable {P:Program}{E H:LH}{B:List (Nat×Obj)}{t e ty:TypeId}
theorem R3{ats:Array TypeId}{a:Option Addr}{l K O m cx:Nat}{ax:Option Addr}{xs ys:Lv_}{z:Value}{Q:Value→St→Prop}{X:Halt→St→Prop}
  (am:ats[0]? =some t) {t1 an:TypeId} (ao:ats[1]? =some t1) (ap:P.underlying t1=some (.slice an)) (ht:P.underlying t=some (.slice e)) (aq:Bs P e=some K) (hb:Ed P e=some O) (ar:zeroOf P e=some z) (au:z.cells.size=K)
  (av:Nd E H B) (aa:Gh (mk E H B) (.slice a l l) K xs)
  (W:Gh (mk E H B) (.slice ax m cx) K ys) (aF:∀w∈ys,CK w=true) (aG:0<O) (aH:l+m≤2 ^ 40) (aw:O≤64)
  (ak:m=0→Q (.slice a (l+m) l) (mk E H B))
  (ay:∀r Y ab,l+m≤ab→Y.size=ab*K→Y.toList.take ((l+m)*K)=xs++ys→Nd E H (B++ [(r,.cells Y e (0,0))])→Q (.slice (some ⟨r,0,none⟩) (l+m) ab) (mk E H (B++ [(r,.cells Y e (0,0))]))):
  lp P (Builtin.append_ ats ty #[.slice a l l,.slice ax m cx]) (mk E H B) Q X:=by
 unfold Builtin.append_;simp only [am,ao,List.getElem?_toArray,List.getElem?_cons_zero,List.getElem?_cons_succ];refine AF _ _ (Dh ht ?_);refine AF _ _ (EG aq ?_);refine AF _ _ (Dh ap ?_);simp only [GY,Bool.false_eq_true,if_false,Builtin.lenOf,Bool.not_false,if_true];have Z:ys.length=m*K:=by
  cases ax with
  | none=>obtain⟨U,V⟩:=W;subst U V;simp
  | some ad=>exact W.2.1
 have ae:xs.length=l*K:=by
  cases a with
  | none=>obtain⟨U,V⟩:=aa;subst U V;simp
  | some ad=>exact aa.2.1
 obtain⟨c,aI⟩:∃c,c=l:=⟨_,rfl⟩;split
 ·rename_i aJ;have hm:m=0:=by omega
  have az:ys= []:=List.eq_nil_of_length_eq_zero (by rw [Z,hm];simp);refine AF _ _ (IJ ⟨ax,cx,rfl⟩ W ?_);subst az;cases a with
  | none=>exact ak hm
  | some ad=>exact ak hm
 ·rename_i aK;have U:¬(((l+m:Nat):Int)>IntKind.i64.max∧(False∨O=0)):=by rintro⟨_,h | h⟩ <;> omega
  have V:¬(Builtin.nextslicecap (l+m) l*O>2 ^ 48):=by
   have:=OP (need:=l+m) (old:=l) (by omega);have aL:Builtin.nextslicecap (l+m) l*O≤(2*(l+m)+768)*64:=Nat.mul_le_mul this aw;omega
  obtain⟨inf,ah,ai⟩:=Lj hb;refine AF _ _ (HJ ah ?_);rw [ai,if_neg U];refine AF _ _ (HJ ah ?_);rw [ai,if_neg V];refine AF _ _ ?_;simp only [choose,lp,Question.forced,Bool.false_eq_true,if_false];refine⟨rfl,fun aA=>?_⟩;generalize aB:(Question.appendCap (l+m) l e).cut aA=aj;have aC:l+m≤aj:=by rw [← aB];simp [Question.cut]
  refine AF _ _ (HJ ah ?_);rw [ai];have aD:∀{α:Type} {f:Unit→Sem α} {Q:α→St→Prop},lp P (f ()) (mk E H B) Q X→lp P (askRoom (aj*O)>>=f) (mk E H B) Q X:=by
   intro α f Q al;refine AF _ _ ?_;unfold askRoom;split
   ·exact⟨.inl ⟨rfl,rfl⟩,al⟩
   ·exact al
  refine aD (AF _ _ (IJ ⟨a,l,rfl⟩ aa ?_));refine AF _ _ (IJ ⟨ax,cx,rfl⟩ W ?_);refine AF _ _ (FU ar ?_);refine AF _ _ (G1 av fun r aE=>?_);refine ay r _ aj aC ?_ ?_ aE
  ·simp only [Array.size_append,List.size_toArray,Oo,au,ae,Z];rw [← Nat.add_mul,← Nat.add_mul];congr 1;omega
  ·simp only [Array.toList_append];rw [List.take_append_of_le_length (by simp [ae,Z,Nat.add_mul])];rw [List.take_of_length_le (by simp [ae,Z,Nat.add_mul])]
end
theorem An.spot{α:Type}{pp:Rp α}{E:LH}{a:Option Addr}{c:Nat}{xs:List α}(h:An pp E a c xs):∀ad,a=some ad→ad.spot=none∨c=0:=fun ad K=>by
 rcases h.2 with⟨_,h⟩ | ⟨bk,off,h,_⟩
 ·exact h ad K
 ·rw [h] at K;cases K;exact .inl rfl
theorem An.full{α:Type}{pp:Rp α}{E:LH}{a:Option Addr}{c:Nat}{xs:List α}(h:An pp E a c xs):An pp E a xs.length xs:=⟨Nat.le_refl _,h.2.imp (fun⟨h,_⟩=>⟨h,fun _ _=> .inr (by rw [h];rfl)⟩) id⟩
theorem An.PX{α:Type}{pp:Rp α}{E H:LH}{B:List (Nat×Obj)}{a:Option Addr}{c:Nat}{ys:List α}(Y:An pp E a c ys):
  ∃K:List (Lv_),K.length=ys.length∧(∀(i:Nat) x ws,ys[i]? =some x→K[i]? =some ws→pp.r E ws x)∧Gh (mk E H B) (.slice a ys.length c) pp.n K.flatten∧∀w∈K.flatten,CK w=true:=by
 obtain⟨K,U,W,V⟩:=Y.rows;have Z:=HP U W;refine⟨K,U,W,?_,fun w hw=>?_⟩
 ·rcases V with⟨V,ai⟩ | ⟨bk,off,rfl,V⟩
  ·subst V;have:K= []:=List.eq_nil_of_length_eq_zero U;subst this;cases a with
   | none=>exact⟨rfl,rfl⟩
   | some ad=>exact⟨.inr rfl,by simp,Nat.zero_le _,fun q w O=>by simp at O⟩
  ·refine⟨.inl rfl,by rw [Lf Z,U],Y.1,fun q w O=>?_⟩;obtain⟨q1,m,ws,aa,e2,ab⟩:=MX Z O;have:=(V q1 ws aa).cell (H:=H) (B:=B) e2;subst ab;rw [← Nat.add_assoc];exact this
 ·obtain⟨us,ae,hw⟩:=List.mem_flatten.1 hw;obtain⟨q,O⟩:=List.mem_iff_getElem?.1 ae;have ah:q<ys.length:=by rw [← U];exact(List.getElem?_eq_some_iff.1 O).1
  exact pp.one (W q _ us (List.getElem?_eq_getElem ah) O) w hw
section
variable {P:Program}{J:Judge P}{Q:Gs_}{b:Frame}{n:Nat}{ds:Ld_}{ops:Ao_}{k:Li_}{cs:Lf_}{L:Env}{s:St}{E E' H:LH}{S:List Seg}
variable {d:Option Tmp}{x y z1:Operand}{t u ty e:TypeId}{p:String}{af:Ae_}{g:On_}{v:Value}{i:Nat}{rest:List Nat}{kd:IntKind}{ρ:Operand→Value}
theorem Sn{a:Option Addr}{l c K:Nat}(O:∀ad,a=some ad→ad.spot=none∨c=0)(U:l≤c)(ht:P.underlying t=some (.slice e))(V:Bs P e=some K)(W:ρ x= .slice a l c)(Y:ρ y=iV (l:Int))(Z:ρ z1=iV (l:Int)):
  Yl P ⟨d,.slice t x none (some y) (some z1),ty,p,af,g⟩ ρ s (.slice a l l):=by
 have h:=Yl.slice (P:=P) (s:=s) (d:=d) (ty:=ty) (p:=p) (af:=af) (g:=g) (olo:=none) (ohi:=some y) (omx:=some z1) (lo:=0) (hi:=l) (mx:=l) ht V W Z Y rfl U (Nat.le_refl _) (Nat.zero_le _);have aa:(if l=0 then a else a.map (·.add (0*K)))=a:=by
  split
  ·rfl
  ·cases a with
   | none=>rfl
   | some ad=>
    have:=(O ad rfl).resolve_right (by omega);simp only [Option.map_some,Nat.zero_mul];rw [DT this];obtain⟨b,o,sp⟩:=ad;simp only at this;subst this;simp
 rw [aa] at h;simpa using h
theorem Ss{α:Type}{pp:Rp α}{t1:TypeId}{V c cx:Nat}{a ax:Option Addr}{xs ys W:List α}{ats:Array TypeId}{z:Value}(U:DC xs ys=some W)
  (ai:ops[i]? =some ⟨d,.call ⟨.builtin .append,#[x,y],ats⟩,ty,p,af,g⟩) (hw:A8 L ops ⟨d,.call ⟨.builtin .append,#[x,y],ats⟩,ty,p,af,g⟩=some true) (aj:CL b n ⟨d,.call ⟨.builtin .append,#[x,y],ats⟩,ty,p,af,g⟩=true)
  (ak:ev L x=some (.slice a xs.length xs.length)) (al:ev L y=some (.slice ax ys.length cx)) (am:ats[0]? =some t) (an:ats[1]? =some t1) (ht:P.underlying t=some (.slice e)) (ao:P.underlying t1=some (.slice e)) (ap:Bs P e=some pp.n) (hb:Ed P e=some V) (aq:zeroOf P e=some z) (ar:z.cells.size=pp.n)
  (au:0<V) (av:V≤64) (hX:An pp E a c xs) (aw:An pp E ax cx ys) (Y:As E H S)
  (h:∀E' Z K,Le E E'→An pp E' Z K W→As E' H (S++ [[]])→JL J Q b n (AB L d (.slice Z W.length K)) ds (.inRegion ops rest::k) cs (Ak E' H (S++ [[]]))):
  JL J Q b n L ds (.inRegion ops (i::rest)::k) cs (Ak E H S):=by
 unfold DC at U;split at U
 rotate_left
 ·cases U
 rename_i ay;cases U;obtain⟨wss,aa,az,aA,aQ⟩:=An.PX (H:=H) (B:=S.flatten) hX.full;obtain⟨aB,aC,aD,aE,aF⟩:=An.PX (H:=H) (B:=S.flatten) aw;have hlen:(xs++ys).length=xs.length+ys.length:=by simp
 show JL J Q b n L ds (.inRegion ops (i::rest)::k) cs (mk E H S.flatten);refine JL.op ai hw aj fun ρ ab=>?_;rw [Lb,ab x _ ak,ab y _ al];refine AF _ _ (R3 am an ao ht ap hb aq ar Y aA aE aF au ay av ?_ ?_)
 ·intro hm;have aG:ys= []:=List.eq_nil_of_length_eq_zero hm;subst aG;have aH:As E H (S++ [[]]):=by unfold As at*;rw [GB,List.append_nil];exact Y
  have aI:mk E H S.flatten=Ak E H (S++ [[]]):=by unfold Ak;rw [GB,List.append_nil]
  rw [aI];have:=h E a xs.length (Le.refl _) (by rw [List.append_nil];exact hX.full) aH;rw [hlen] at this;exact this
 ·intro r O K aJ aK aL aM;have aN:OL e pp E (some ⟨r,0,none⟩) K [(r,.cells O e (0,0))] (xs++ys):=
   ⟨wss++aB,.inr ⟨r,O,rfl,rfl,aK,by rw [hlen];exact aJ,by rw [hlen,List.flatten_append];exact aL.symm⟩,by simp [aa,aC],MZ aa az aD⟩
  have ae:=Ew (S:=S) (seg:= [(r,.cells O e (0,0))]) aM;show JL J Q b n _ ds _ cs (mk E H (S.flatten++ [(r,.cells O e (0,0))]));rw [ae.1];refine Cf S.length aN ae.2 (by simp) fun E' hle aO ah=>?_;have aP:(S++ [[(r,Obj.cells O e (0,0))]]).set S.length []=S++ [[]]:=HS _ _ _ _;rw [aP] at ah ⊢;have:=h E' (some ⟨r,0,none⟩) K hle aO ah;rw [hlen] at this;exact this
end
end Pal
namespace Pal
open Go Go.Conc
open Go.ConcN (sumTo upd sumTo_upd upd_ne upd_same)
def JY(P:Program)(R:Value→St→Prop):GP:=fun g s=>
 g.status= .running∧∃v,R v s∧∀w,stepG P true g w= .ended (.done v) w #[]
section
variable {P:Program}{R:Value→St→Prop}{J:Judge P}{n:Nat}{L:Env}{s:St}{b:Frame}
theorem JO.end{fn:Func}{t:Tmp}{v:Value}(K:b.kind= .normal)(hi:P.inits.idxOf? b.fn=none)(O:P.funcs[b.fn]? =some fn)(U:fn.results= #[.tmp t])(V:look L t=some v)(W:R v s):JO J (JY P R) b n L [] [] s:=fun T Y todo=>by
 refine J.stop ⟨rfl,v,W,fun w=>?_⟩
 have e:results fn T=Sem.pure v:=by
  have:=Y.at_ t v V;simp only [results,U,Array.mapM_eq_mapM_toList];show Sem.pure (T.getD t undef)=_;rw [this]
 have Z:(results fn T).run P w= .ok v w:=by rw [e];rfl
 have e2:(results fn T).events P w #[]= #[]:=by rw [e];simp [Sem.events_pure']
 simp [G,stepG,unwind,D9,O,Z,e2,doReturn,K,GStep.after,hi,seen_none]
end
section
variable {P:Program}{R:Value→St→Prop}
def Kp(P:Program)(R:Value→St→Prop)(K:World)(s₀:St)(v:Value)(w':World):Prop:=
 ∃s,R v s∧Fits s w'∧(∀b o,s₀.E b=some o→s.E b=some o)∧w'.tape=K.tape∧w'.os=K.os∧w'.output=K.output
def N9(P:Program)(R:Value→St→Prop)(K:World)(s₀:St)(O:Nat)(m:Machine)(t:Trace):Prop:=
 ∃gs w sl q Sh g s,m=crowd gs w sl∧F5 P gs w t q Sh g s∧JY P R g s∧O=sumTo gs.size q∧(∀b o,s₀.E b=some o→s.E b=some o)∧w.tape=K.tape∧w.os=K.os∧w.output=K.output
theorem TW{ae:World}{s₀:St}(ak:Nat)(m:Machine)(t:Trace)(h:N9 P R ae s₀ ak m t):
  (∃o w ops,stepT P m=(.ended o w,ops)∧Good P (Kp P R ae s₀) m o w (t++ops))∨(∃m' ops al,stepT P m=(.next m',ops)∧al<ak∧N9 P R ae s₀ al m' (t++ops)):=by
 obtain⟨gs,w,sl,q,Sh,g,s,rfl,hC,aB,rfl,am,an,ao,ap⟩:=h;obtain⟨Y,v,aq,ar⟩:=aB;have aC:∀x∈gs,awake x:=by
  intro x V;obtain⟨i,hi,rfl⟩:=Array.mem_iff_getElem.1 V;rcases Nat.eq_zero_or_pos i with rfl | ah
  ·have:gs[0]=g:=by simpa [Array.getElem?_eq_getElem hi] using hC.main
   rw [this];exact awake_of (.inl Y)
  ·exact awake_of ((hC.lv.old i _ ah (Array.getElem?_eq_getElem hi)).status.elim .inl fun x=> .inr (.inr x))
 obtain⟨i,x,d,au,hi,V,av⟩:=crowd_pick (P:=P) (w:=w) (sl:=sl) aC ⟨0,g,hC.main,Y⟩;have aw:=hC.at_ d;have aD:0<gs.size:=(Array.getElem?_eq_some_iff.1 hC.main).1;have aE:∀(a:Nat) (fn:FuncId) (pos:String),MemOp.ofEvents a fn pos #[]= #[]:=fun a fn pos=>by rw [ofEvents_eq];simp
 rcases Nat.eq_zero_or_pos i with rfl | ah
 ·obtain rfl:x=g:=by rw [hC.main] at hi;exact(Option.some.inj hi).symm
  have Z:=runT_many_ended (P:=P) (sl:=au) (i:=0) hi (show stepG P (0==0) x (w.at d)=_ from ar (w.at d));rw [aE] at Z;refine .inl ⟨_,_,_,av.trans Z,v,rfl,⟨s,aq,aw.CE.fits 0 aD,am,an,ao,ap⟩,?_,?_,⟨fun y K=>?_,rfl⟩,fun j y K O=>?_⟩
  ·simpa using hC.CE.clean
  ·simpa using hC.over
  ·obtain⟨j,O⟩:=List.mem_iff_getElem?.1 K;rw [List.getElem?_drop] at O;exact⟨_,(hC.lv.old (1+j) y (by omega) (by simpa [crowd] using O)).leaves⟩
  ·have W:=hC.lv.old j y (by omega) K;exact⟨q j,by simp only [Array.append_empty];exact W.hears w⟩
 ·have W:=hC.lv.old i x ah hi;have aF:(i==0)=false:=by simp;omega
  have ay:i<gs.size:=(Array.getElem?_eq_some_iff.1 hi).1;cases ai:q i with
  | zero=>rw [ai] at W;rw [W.1] at V;cases V
  | succ k=>
   rw [ai] at W;rcases W with⟨aG,_⟩ | ⟨_,x',es,hm,aH,aI⟩
   ·rw [aG] at V;cases V
   have aM:sumTo gs.size (upd q i k)+(k+1)=sumTo gs.size q+k:=by
    have:=sumTo_upd q k id ay;simpa [ai] using this
   have Z:=runT_crowd_go (P:=P) (sl:=au) (i:=i) hi (by rw [aF];exact aH (w.at d));have aj:((gs.map (woken P x x' (w.at d))).setIfInBounds i x').size=gs.size:=by simp
   have aa:∀op∈MemOp.ofEvents i x.frame.fn x.frame.place es,op.g=i:=fun op U=>by obtain⟨e,_,rfl⟩:=mem_ofEvents U;rfl
   have az:∀op∈MemOp.ofEvents i x.frame.fn x.frame.place es,op.act.touch? =none:=fun op U=>by obtain⟨e,he,rfl⟩:=mem_ofEvents U;exact touch_mute (hm e he)
   have aJ:F5 P ((gs.map (woken P x x' (w.at d))).setIfInBounds i x') (w.at d) (t++MemOp.ofEvents i x.frame.fn x.frame.place es) (upd q i k) Sh g s:=by
    refine⟨?_,⟨fun j y O K=>?_,fun j O=>?_⟩,?_,?_,?_⟩
    ·have aK:i≠0:=by omega
     rw [Array.getElem?_setIfInBounds_ne aK,Array.getElem?_map,hC.main];simp [woken_run Y]
    ·by_cases ab:i=j
     ·subst ab;rw [Array.getElem?_setIfInBounds_self_of_lt (by simpa using ay)] at K;obtain rfl:=Option.some.inj K;rw [upd_same,Deaf_own];exact aI
     ·rw [Array.getElem?_setIfInBounds_ne ab,Array.getElem?_map] at K;obtain⟨z,aL,rfl⟩:=Option.map_eq_some_iff.1 K;have aA:=hC.lv.old j z O aL;rw [woken_quitsD aA,upd_ne q k (Ne.symm ab),Deaf_other t ab _ aa];exact aA
    ·rw [Deaf_other t (g':=i) (by simp at O;omega) _ aa];exact hC.lv.above j (by simpa using O)
    ·rw [aj];exact aw.CE.mute aa az (fun op U=>by obtain⟨e,he,rfl⟩:=mem_ofEvents U;exact low_mute (hm e he) _) rfl
    ·exact handedOver_app hC.over fun op U=> .inr (az op U)
    ·rw [Deaf_other t (by omega) _ aa];exact hC.hears
   exact .inr ⟨_,_,_,av.trans Z,by rw [← aj];rw [aj];omega,_,_,_,_,_,_,_,rfl,aJ,⟨Y,v,aq,ar⟩,rfl,am,an,ao,ap⟩
theorem ends{gs:Array Goroutine}{w:World}{sl:Option (Nat×Nat)}{t:Trace}{q:Nat→Nat}{Sh:Nat→Prop}{g:Goroutine}{s:St}(hC:F5 P gs w t q Sh g s)(O:JY P R g s):
  ∃N last o w' K,runNT P (N+1) (crowd gs w sl) t=(.ended o w',K)∧runN P N (crowd gs w sl)= .next last∧step P last= .ended o w'∧Good P (Kp P R w s) last o w' K:=
 run_of_inv Nat.lt_wfRel.wf (N9 P R w s) (Good P (Kp P R w s)) TW _ _ _ ⟨gs,w,sl,q,Sh,g,s,rfl,hC,O,rfl,fun _ _ h=>h,rfl,rfl,rfl⟩
theorem SJ{m m':Machine}{t K:Trace}{n:Nat}(h:runNT P n m t=(.next m',K)):runN P n m= .next m':=by rw [← runNT_fst P n m t,h]
def H7(W:World):St:=⟨fun b=>W.heap[b]?,fun _=>none,false⟩
theorem Ui{W:World}{g:Goroutine}(h:(Dt P).ok (JY P R) g (H7 W)):
  ∃M last o w' K,runNT P (M+1) (solo g W) #[]=(.ended o w',K)∧runN P M (solo g W)= .next last∧step P last= .ended o w'∧Good P (Kp P R W (H7 W)) last o w' K:=by
 have hC:F5 P #[g] W #[] (fun _=>0) (fun _=>False) g (H7 W):=by
  have V:∀{i:Nat} {a:Touch},touchAt #[] i=some a→False:=fun {i a} h=>by simp [touchAt,Trace.act?] at h
  refine⟨rfl,leavers_one P g,⟨fun i hi=>?_,fun i j hi Z aC=>by simp at hi Z;omega,fun i hi b hb=>hb.elim,fun b hb=>hb.elim,fun said=>?_,by simp,fun i _ b _ x a O=>(V O).elim,fun i _ b _ x a O=>(V O).elim⟩,fun i g aa=>by simp [Trace.g?] at aa,rfl⟩
  ·have:i=0:=by simp at hi;exact hi
   subst this;exact⟨fun b o U=>U,fun b o U=>(by cases U),fun b _=>rfl⟩
  ·rintro⟨i,j,_,⟨a,b,ab,_⟩,_⟩;simp [Trace.act?] at ab
 obtain⟨n,gs',w',ae,K,aD,aE,g',s',Y,ah,ai,aj,ak,al,am⟩:=h #[g] W none #[] _ _ hC;obtain⟨N,last,o,an,ao,k1,ap,aq,ar⟩:=ends (sl:=ae) ah ai;refine⟨n+N,last,o,an,ao,?_,?_,aq,?_⟩
 ·rw [solo_eq_crowd,Nat.add_assoc,runNT_add,Y];exact k1
 ·have au:=SJ Y;rw [solo_eq_crowd,runN_add,au];exact ap
 ·obtain⟨v,e,⟨s2,av,aw,ay,az,aA,aB⟩,r⟩:=ar;exact⟨v,e,⟨s2,av,aw,fun b o hb=>ay b o (aj b o hb),az.trans ak,aA.trans al,aB.trans am⟩,r⟩
end
end Pal
namespace Pal
open Go Go.Conc
theorem S4{P:Program}{Q:Gs_}{E H:LH}{f:FuncId}{fn:Func}{c:Code}{vs:Lv_}(U:P.funcs[f]? =some fn)(hb:fn.body=some c)(Y:fn.ntmps=fn.ntmps)(Z:vs.length≤fn.ntmps)
  (h:JL (Dt P) Q (base f) fn.ntmps (Fs 0 vs) [] [.code c] [] (Ak E H [[]])):(Dt P).ok Q (G (Frame.enter P f vs.toArray .normal) []) (mk E H []):=by
 have he:Frame.enter P f vs.toArray .normal=fr (base f) (vs.toArray++Array.replicate (fn.ntmps - vs.length) undef) [] [.code c]:=by
  simp [Frame.enter,fr,U,hb,base];rfl
 rw [he];have V:mk E H []=Ak E H [[]]:=by unfold Ak;simp
 rw [V];refine h _ ⟨by simp;omega,fun t v ht=>?_⟩;obtain⟨_,K⟩:=IL ht;have W:t<vs.length:=by
  rcases Nat.lt_or_ge t vs.length with O | O
  ·exact O
  ·simp at K;have:=(List.getElem?_eq_some_iff.1 K).1;omega
 rw [Array.getD_eq_getD_getElem?,Array.getElem?_append_left (by simpa using W)];simp at K;simp [K]
end Pal
namespace Pal
open Go Go.Conc Go.Proofs Go.ChangeShapes Go.WideShapes Go.ChangeAt Go.RowKit
open Go.Proofs.YtboibffcmhheiaaGreatDoor (Rows.laid_errors_errorType)
theorem Tryz.own:ownKnob Tryz.prog.godebug=none:=by kernel_rfl
theorem Tryz.laidOut:laidOutB Tryz.prog=true:=by kernel_rfl
theorem Tryz.Wb:Tryz.prog.cellsOf 3=1:=by kernel_rfl
theorem TK{W:World}{a:Addr}{len cap:Nat}{K:List Int}(V:a.spot=none)(ah:len≤cap)(aa:len≤K.length)(ab:∀i,i<K.length→W.cell? (a.add i)=some (.int .i64 (K.getD i 0))):
  An rI (H7 W).E (some a) cap (K.take len)∧(K.take len).length=len:=by
 have Z:(K.take len).length=len:=by simp [Nat.min_eq_left aa]
 refine⟨⟨by omega,.inr ⟨a.block,a.off,?_,fun i x Y=>⟨[iV x],rfl,?_⟩⟩⟩,Z⟩
 ·obtain⟨b,o,s⟩:=a;simp only at V;subst V;rfl
 ·have hi:i<len:=by rw [← Z];exact(List.getElem?_eq_some_iff.1 Y).1
  have O:=ab i (by omega);have ae:K.getD i 0=x:=by
   rw [List.getElem?_take_of_lt hi] at Y;rw [List.getD_eq_getElem?_getD,Y];rfl
  rw [ae,DT V] at O;unfold World.cell? at O;split at O
  ·rename_i c e f hW;simp only [Option.isSome_none,Bool.false_eq_true,if_false] at O;refine⟨c,e,f,hW,fun j w U=>?_⟩
   match j,U with
   | 0,U=>
    simp at U;subst U;show c[a.off+i*1+0]? =some (.int .i64 x);simpa using O
   | j+1,U=>simp at U
  ·cases O
theorem Sa{W:World}{base:Nat}{t e:TypeId}{a:Addr}{len cap:Nat}(ht:Tryz.prog.underlying t=some (.slice e))(h:Value.okWide Tryz.prog W .any base t (.slice (some a) len cap)):a.spot=none∧len≤cap:=by
 simp only [Value.okWide,ht,Cell.okWide,Cell.ok] at h;exact⟨h.2.2.2.1,h.1⟩
theorem Sd{R:Value→St→Prop}{W w':World}{v:Value}(h:Kp Tryz.prog R W (H7 W) v w'):(∃s,R v s)∧Below W.heap.size W w':=by
 obtain⟨s,V,Y,Z,ht,aa,ab⟩:=h;have hb:∀k,k<W.heap.size→w'.heap[k]? =W.heap[k]? :=fun k O=>by
  have K:(H7 W).E k=some W.heap[k]:=Array.getElem?_eq_getElem O;have U:=Y.e k _ (Z k _ K);rw [U,Array.getElem?_eq_getElem O]
 refine⟨⟨s,V⟩,⟨aa,ht,ab,?_,hb⟩⟩;rcases Nat.eq_zero_or_pos W.heap.size with ae | ae
 ·omega
 ·have K:=hb (W.heap.size - 1) (by omega);have ah:W.heap[W.heap.size - 1]? =some W.heap[W.heap.size - 1]:=Array.getElem?_eq_getElem (by omega);rw [ah] at K;have U:=(Array.getElem?_eq_some_iff.1 K).1;omega
noncomputable def O4(os:Os):World:=
 let w0:=World.holding Tryz.prog os ⟨#[],#[],[]⟩
 {w0 with heap:=w0.heap.modify 0 fun
   | .cells _ t frozen=> .cells #[.iface 240 (.agg #[.pointer (some ⟨1,149,none⟩)])] t frozen
   | o=>o}
theorem R4(os:Os)(args:Ay):laidMetH Tryz.prog [("errors.errorType",Go.Proofs.YtboibffcmhheiaaGreatDoor.Rows.laid_errors_errorType)] ((O4 os).forCall (fun _ _=>0) ⟨#[],args,[]⟩).memory:=
 laidMetH_of_parts (laidMet_nil _ _) (by kernel_rfl)
end Pal
namespace Pal
open Go Go.Conc
theorem oi{α:Type}{a b:α}(h:some a=some b):a=b:=Option.some.inj h
theorem bs{α β:Type}{o:Option α}{f:α→Option β}{r:β}(h:o.bind f=some r):∃x,o=some x∧f x=some r:=bind_some h
def GG(L:Env):Env→List (Option Value)
 | []=> []
 | (t,_)::L'=>look L t::GG L L'
def GJ:Env→List (Option Value)
 | []=> []
 | (_,v)::L'=>some v::GJ L'
theorem Mi{L:Env}:∀{L':Env},GG L L'=GJ L'→Sub L' L
 | [],_=>trivial
 | (t,v)::L',h=>by
  simp only [GG,GJ,List.cons.injEq] at h
  exact⟨h.1,Mi h.2⟩
section
variable {P:Program}{J:Judge P}{Q:Gs_}{b:Frame}{n:Nat}{L L':Env}{ds:Ld_}{k k':Li_}{cs:Lf_}{s:St}{ops:Ao_}{i:Nat}{rest:List Nat}{v:Value}
variable {d:Option Tmp}{op:Op}{ty:TypeId}{p:String}{af:Ae_}{g:On_}
theorem HZ(L':Env)(h:GG L L'=GJ L')(k':JL J Q b n L' ds k cs s):JL J Q b n L ds k cs s:=GD (Mi h) k'
theorem Az(k':JL J Q b n L' ds k cs s)(h:GG L L'=GJ L'):JL J Q b n L ds k cs s:=GD (Mi h) k'
def Eo(b:Frame)(n:Nat)(L:Env)(ops:Ao_)(i:Nat):Option Oper:=
 match Hx ops.toList i with
 | some ⟨d,op,ty,p,af,g⟩=>match A8 L ops ⟨d,op,ty,p,af,g⟩ with
  | some true=>match CL b n ⟨d,op,ty,p,af,g⟩ with
   | true=>some ⟨d,op,ty,p,af,g⟩
   | false=>none
  | _=>none
 | none=>none
theorem Im{o:Oper}(h:Eo b n L ops i=some o):ops[i]? =some o∧A8 L ops o=some true∧CL b n o=true:=by
 unfold Eo at h;split at h
 ·rename_i K;rw [I1,Array.getElem?_toList] at K;split at h
  ·rename_i hw;split at h
   ·rename_i O;cases h;exact⟨K,hw,O⟩
   ·cases h
  ·cases h
 ·cases h
theorem AA(K:Eo b n L ops i=some ⟨d,op,ty,p,af,g⟩)(h:∀ρ,Ej L ρ→Yl P ⟨d,op,ty,p,af,g⟩ ρ s v)(O:JL J Q b n (AB L d v) ds (.inRegion ops rest::k) cs s):
  JL J Q b n L ds (.inRegion ops (i::rest)::k) cs s:=
 let ⟨U,V,W⟩:=Im K
 A1 U V W h O
theorem NN{f:FuncId}{fn:Func}{c:Code}{E:LH}{vs:Lv_}{B:Seg}{R:Value→LH→Seg→Prop}(O:P.funcs[f]? =some fn)(hb:fn.body=some c)(U:Nat.ble vs.length fn.ntmps=true)
  (h:∀(Q:Gs_) (K:Frame) (cs:Lf_) (H:LH),As E H [B]→(∀v E' S' B',Le E E'→S'.flatten=B'→R v E' B'→As E' H S'→J.ok Q (G (K.finish v) cs) (Ak E' H S'))→JL J Q (base f) fn.ntmps (Fs 0 vs) [] [.code c] (K::cs) (Ak E H [B])):AR J f vs E B R:=
 AR.enter O hb (Nat.le_of_ble_eq_true U) h
def MF(n:Nat)(L:Env)(ops:Ao_)(i:Nat):Option Env:=
 match Hx ops.toList i with
 | some ⟨d,op,ty,p,af,g⟩=>match A8 L ops ⟨d,op,ty,p,af,g⟩ with
  | some true=>match Bt n d with
   | true=>match IF L op with
    | some v=>match d with
     | some d=>some ((d,v)::L)
     | none=>some L
    | none=>none
   | false=>none
  | some false=>match Bt n d with
   | true=>match d with
    | some d=>some ((d,undef)::L)
    | none=>some L
   | false=>none
  | none=>none
 | none=>none
def FN(n:Nat)(L:Env)(ops:Ao_)(i:Nat):Option Oper:=
 match Hx ops.toList i with
 | some ⟨d,op,ty,p,af,g⟩=>match A8 L ops ⟨d,op,ty,p,af,g⟩ with
  | some true=>match Bt n d with
   | true=>some ⟨d,op,ty,p,af,g⟩
   | false=>none
  | _=>none
 | none=>none
theorem M7{o:Oper}(h:FN n L ops i=some o):ops[i]? =some o∧A8 L ops o=some true∧Bt n o.dst=true:=by
 unfold FN at h;split at h
 ·rename_i K;rw [I1,Array.getElem?_toList] at K;split at h
  ·rename_i hw;split at h
   ·rename_i O;cases h;exact⟨K,hw,O⟩
   ·cases h
  ·cases h
 ·cases h
theorem Uo(h:MF n L ops i=some L'):∃o,ops[i]? =some o∧Bt n o.dst=true∧((∃v,A8 L ops o=some true∧IF L o.op=some v∧L'=AB L o.dst v)∨(A8 L ops o=some false∧L'=AB L o.dst undef)):=by
 unfold MF at h;split at h
 ·rename_i d op ty p af g O;rw [I1,Array.getElem?_toList] at O;refine⟨_,O,?_⟩;split at h
  ·rename_i hw;split at h
   ·rename_i K;refine⟨K,.inl ?_⟩;split at h
    ·rename_i v U;refine⟨v,hw,U,?_⟩;cases d with
     | none=>cases h;rfl
     | some d=>cases h;rfl
    ·cases h
   ·cases h
  ·rename_i hw;split at h
   ·rename_i K;refine⟨K,.inr ⟨hw,?_⟩⟩;cases d with
    | none=>cases h;rfl
    | some d=>cases h;rfl
   ·cases h
  ·cases h
 ·cases h
variable {m:Nat}{D:Nat→Bool}{fuel:Nat}{listed:Array Bool}
theorem Cm(i:Nat)(K:Dx ops m=true)(O:s.q=false)(h:MF n L ops i=some L')
  (U:AQ J Q b n ds ops k cs m D fuel (A6 listed i) L' s) (V:EY ops listed m i=true:=by decide+kernel):AQ J Q b n ds ops k cs m D (fuel+1) listed L s:=by
 obtain⟨o,W,Y,⟨v,hw,Z,rfl⟩ | ⟨hw,rfl⟩⟩:=Uo h
 ·exact ND i W K V O hw Y (fun ρ aa s' _=>LP aa Z) U
 ·exact W3 i W K V O hw Y U
theorem Bv(i:Nat)(K:Dx ops m=true)(O:s.q=false)(U:FN n L ops i=some ⟨d,op,ty,p,af,g⟩)
  (V:∀ρ,Ej L ρ→∀s':St,(∀x o,(Bx D s).E x=some o→s'.E x=some o)→Yl P ⟨d,op,ty,p,af,g⟩ ρ s' v)
  (W:AQ J Q b n ds ops k cs m D fuel (A6 listed i) (AB L d v) s) (Y:EY ops listed m i=true:=by decide+kernel):AQ J Q b n ds ops k cs m D (fuel+1) listed L s:=by
 obtain⟨Z,aa,ab⟩:=M7 U;exact ND i Z K Y O aa ab V W
end
end Pal
namespace Pal
open Go Go.Conc
abbrev Jn(E H E':LH)(S:List Seg)(K L:Env)(s:St)(R:Prop):Prop:=L=K∧s=Ak E' H S∧Le E E'∧As E' H S∧R
abbrev Jm(E H E':LH)(S:List Seg)(K L:Env)(s:St):Prop:=L=K∧s=Ak E' H S∧Le E E'∧As E' H S
def ME(L:Env):List ResultVar→Option (Lv_)
 | []=>some []
 | .tmp t::rs=>match look L t with
  | some v=>match ME L rs with
   | some vs=>some (v::vs)
   | none=>none
  | none=>none
 | _=>none
theorem P3{P:Program}{L:Env}{s:St}:∀{rs:List ResultVar} {vs:Lv_},ME L rs=some vs→RV P L s rs vs
 | [],vs,h=>by cases h;trivial
 | .tmp t::rs,vs,h=>by
  unfold ME at h
  split at h
  ·rename_i v K
   split at h
   ·rename_i ws hw;cases h;exact⟨K,P3 hw⟩
   ·cases h
  ·cases h
 | .cell _ _::_,_,h=>by cases h
section
variable {P:Program}{J:Judge P}{Q:Gs_}{b:Frame}{n:Nat}{L L':Env}{ds:Ld_}{k k':Li_}{cs:Lf_}{s:St}{ops:Ao_}{i:Nat}{rest:List Nat}{v:Value}{E H:LH}{S:List Seg}
variable {d:Option Tmp}{op:Op}{x y:Operand}{t ft ty e:TypeId}{p:String}{af:Ae_}{g:On_}
theorem AP{c:Frame}{fn:Func}{vs:Lv_}(O:P.funcs[b.fn]? =some fn)(K:(b.kind== .normal&&b.roundOf.isNone)=true)(U:ME L fn.results.toList=some vs)(h:J.ok Q (G (c.finish (LQ vs)) cs) s):JL J Q b n L [] (.code .ret::k) (c::cs) s:=by
 simp only [Bool.and_eq_true,beq_iff_eq,Option.isNone_iff_eq_none] at K;exact JL.ret K.1 K.2 (BY.list O rfl (P3 U)) h
theorem BM{f:FuncId}{args:Array Operand}{ats:Array TypeId}{vs:Lv_}{R:Value→LH→Seg→Prop}
  (O:AR J f vs E [] R) (U:Eo b n L ops i=some ⟨d,.call ⟨.value (.func f),args,ats⟩,ty,p,af,g⟩) (V:evs L args.toList=some vs) (hb:DG P f=true)
  (W:As E H S) (Y:∀v E' seg',Le E E'→R v E' seg'→As E' H (S++ [seg'])→JL J Q b n (AB L d v) ds (.inRegion ops rest::k) cs (Ak E' H (S++ [seg']))):
  JL J Q b n L ds (.inRegion ops (i::rest)::k) cs (Ak E H S):=by
 obtain⟨Z,aa,K⟩:=Im U;refine JS.call O Z aa ?_ hb V W Y;simp only [CL,Bool.and_eq_true] at K ⊢;exact⟨K.1,K.2.1⟩
theorem BI{f:FuncId}{args:Array Operand}{ats:Array TypeId}{vs:Lv_}{v:Value}
  (O:AR J f vs E [] (fun w E' B'=>w=v∧B'= [])) (U:Eo b n L ops i=some ⟨d,.call ⟨.value (.func f),args,ats⟩,ty,p,af,g⟩) (V:evs L args.toList=some vs) (hb:DG P f=true)
  (K:As E H S) (W:∀E',Le E E'→As E' H (S++ [[]])→JL J Q b n (AB L d v) ds (.inRegion ops rest::k) cs (Ak E' H (S++ [[]]))):
  JL J Q b n L ds (.inRegion ops (i::rest)::k) cs (Ak E H S):=BM O U V hb K (by rintro _ E' _ hle ⟨rfl,rfl⟩ K;exact W E' hle K)
theorem BS{f:FuncId}{args:Array Operand}{ats:Array TypeId}{vs:Lv_}{seg:Seg}{R:Value→LH→Seg→Prop}(j:Nat)
  (O:AR J f vs E seg R) (U:Eo b n L ops i=some ⟨d,.call ⟨.value (.func f),args,ats⟩,ty,p,af,g⟩) (V:evs L args.toList=some vs) (hb:DG P f=true)
  (W:As E H S) (Y:S[j]? =some seg) (Z:∀v E' seg',Le E E'→R v E' seg'→As E' H (S.set j seg')→JL J Q b n (AB L d v) ds (.inRegion ops rest::k) cs (Ak E' H (S.set j seg'))):
  JL J Q b n L ds (.inRegion ops (i::rest)::k) cs (Ak E H S):=by
 obtain⟨aa,ab,K⟩:=Im U;refine Nf j O aa ab ?_ hb V W Y Z;simp only [CL,Bool.and_eq_true] at K ⊢;exact⟨K.1,K.2.1⟩
def J6(K:Array Field)(i:Nat):Option (Nat×TypeId):=match K[i]? with
 | some f=>some (f.offset,f.type)
 | none=>none
theorem Bh{r m m':Int}{u:TypeId}(h:Au (m+m')=some r)(K:Eo b n L ops i=some ⟨d,.binOp .add t x y u,ty,p,af,g⟩)(O:ev L x=some (iV m))(U:ev L y=some (iV m'))
  (V:JL J Q b n (AB L d (iV r)) ds (.inRegion ops rest::k) cs s):JL J Q b n L ds (.inRegion ops (i::rest)::k) cs s:=AA K (fun _ q=>UW (q _ _ O) (q _ _ U) h) V
theorem BX{r m m':Int}{u:TypeId}(h:Au (m - m')=some r)(K:Eo b n L ops i=some ⟨d,.binOp .sub t x y u,ty,p,af,g⟩)(O:ev L x=some (iV m))(U:ev L y=some (iV m'))
  (V:JL J Q b n (AB L d (iV r)) ds (.inRegion ops rest::k) cs s):JL J Q b n L ds (.inRegion ops (i::rest)::k) cs s:=AA K (fun _ q=>Du (q _ _ O) (q _ _ U) h) V
theorem BA{a:Option Addr}{e:TypeId}{l c:Nat}{ats:Array TypeId}(ht:P.underlying t=some (.slice e))(K:Eo b n L ops i=some ⟨d,.call ⟨.builtin .len,#[x],ats⟩,ty,p,af,g⟩)(O:ats[0]? =some t)(U:ev L x=some (.slice a l c))
  (V:JL J Q b n (AB L d (.int .i64 l)) ds (.inRegion ops rest::k) cs s):JL J Q b n L ds (.inRegion ops (i::rest)::k) cs s:=AA K (fun _ q=>Yl.len O ht (q _ _ U)) V
theorem Bz{bk o O off:Nat}{U:Array Field}{V:Nat}(ht:P.underlying t=some (.struct U))(W:Bs P ft=some (O+1))(Y:Eo b n L ops i=some ⟨d,.fieldAddr t x V,ty,p,af,g⟩)(Z:ev L x=some (.pointer (some ⟨bk,o,none⟩)))(K:J6 U V=some (off,ft))
  (aa:JL J Q b n (AB L d (.pointer (some ⟨bk,o+off,none⟩))) ds (.inRegion ops rest::k) cs s):
  JL J Q b n L ds (.inRegion ops (i::rest)::k) cs s:=by
 unfold J6 at K;split at K
 ·rename_i f ab;cases K;refine AA Y (fun ρ h=>Re (a:=⟨bk,o,none⟩) O f.offset ht W ab rfl rfl (h _ _ Z)) ?_;rw [DT rfl];exact aa
 ·cases K
theorem B4{bk o:Nat}{ws:Lv_}(j:Nat)(K:At E bk o ws)(ht:Dk P t=some false)(O:Eo b n L ops i=some ⟨d,.load t x,ty,p,af,g⟩)(U:ev L x=some (.pointer (some ⟨bk,o+j,none⟩)))(V:ws[j]? =some v)
  (W:JL J Q b n (AB L d v) ds (.inRegion ops rest::k) cs (Ak E H S)):
  JL J Q b n L ds (.inRegion ops (i::rest)::k) cs (Ak E H S):=
 AA O (fun _ h=>Yl.load ht (h _ _ U) (At.Rj K V)) W
theorem W1{bk off:Nat}{c:Ay}(j:Nat)(K:As E H S)(O:Bs P t=some v.cells.size)(U:Eo b n L ops i=some ⟨d,.store t x y,ty,p,af,g⟩)
  (V:ev L x=some (.pointer (some ⟨bk,off,none⟩))) (W:ev L y=some v) (Y:S[j]? =some [(bk,.cells c e (0,0))])
  (h:As E H (S.set j [(bk,.cells (Ba c off v.cells.toList) e (0,0))])→JL J Q b n (AB L d undef) ds (.inRegion ops rest::k) cs (Ak E H (S.set j [(bk,.cells (Ba c off v.cells.toList) e (0,0))])))
  (hle:off+v.cells.size≤c.size:=by exact Nat.le_of_ble_eq_true rfl) (Z:∀u∈v.cells.toList,CK u=true:=by simp [Value.cells,CK]):
  JL J Q b n L ds (.inRegion ops (i::rest)::k) cs (Ak E H S):=by
 obtain⟨aa,ab,ae⟩:=Im U;exact JS.store j aa ab ae K V W O Z Y hle h
theorem Cd{bk o:Nat}{ws:Lv_}(K:At E bk o ws)(ht:Dk P t=some true)(O:Bs P t=some ws.length)(U:Eo b n L ops i=some ⟨d,.load t x,ty,p,af,g⟩)(V:ev L x=some (.pointer (some ⟨bk,o,none⟩)))
  (W:JL J Q b n (AB L d (.agg ws.toArray)) ds (.inRegion ops rest::k) cs (Ak E H S)):
  JL J Q b n L ds (.inRegion ops (i::rest)::k) cs (Ak E H S):=
 AA U (fun _ h=>FH ht O (h _ _ V) (At.VZ K)) W
variable {m:Nat}{D:Nat→Bool}{fuel:Nat}{listed:Array Bool}
theorem Ce{bk o O off:Nat}{U:Array Field}{V:Nat}(i:Nat)(W:Dx ops m=true)(ht:P.underlying t=some (.struct U))(Y:Bs P ft=some (O+1))(Z:s.q=false)(aa:FN n L ops i=some ⟨d,.fieldAddr t x V,ty,p,af,g⟩)(ab:ev L x=some (.pointer (some ⟨bk,o,none⟩)))(K:J6 U V=some (off,ft))
  (ae:AQ J Q b n ds ops k cs m D fuel (A6 listed i) (AB L d (.pointer (some ⟨bk,o+off,none⟩))) s) (ah:EY ops listed m i=true:=by decide+kernel):AQ J Q b n ds ops k cs m D (fuel+1) listed L s:=by
 unfold J6 at K;split at K
 ·rename_i f ai;cases K;refine Bv i W Z aa (fun ρ h _ _=>Re (a:=⟨bk,o,none⟩) O f.offset ht Y ai rfl rfl (h _ _ ab)) ?_ ah;rw [DT rfl];exact ae
 ·cases K
theorem EK{bk o:Nat}{ws:Lv_}(i:Nat)(K:Dx ops m=true)(j:Nat)(O:At (Bx D s).E bk o ws)(ht:Dk P t=some false)(U:s.q=false)(V:FN n L ops i=some ⟨d,.load t x,ty,p,af,g⟩)(W:ev L x=some (.pointer (some ⟨bk,o+j,none⟩)))(Y:ws[j]? =some v)
  (Z:AQ J Q b n ds ops k cs m D fuel (A6 listed i) (AB L d v) s) (aa:EY ops listed m i=true:=by decide+kernel):AQ J Q b n ds ops k cs m D (fuel+1) listed L s:=
 Bv i K U V (fun _ h _ hs=>Yl.load ht (h _ _ W) (At.NX O hs Y)) Z aa
theorem J8{bk o:Nat}{ws:Lv_}(i:Nat)(K:Dx ops m=true)(O:At (Bx D s).E bk o ws)(ht:Dk P t=some true)(U:Bs P t=some ws.length)(V:s.q=false)(W:FN n L ops i=some ⟨d,.load t x,ty,p,af,g⟩)(Y:ev L x=some (.pointer (some ⟨bk,o,none⟩)))
  (Z:AQ J Q b n ds ops k cs m D fuel (A6 listed i) (AB L d (.agg ws.toArray)) s) (aa:EY ops listed m i=true:=by decide+kernel):AQ J Q b n ds ops k cs m D (fuel+1) listed L s:=
 Bv i K V W (fun _ h _ hs=>FH ht U (h _ _ Y) (At.NB O hs)) Z aa
end
end Pal
namespace Pal
open Go Go.Conc
abbrev BH:=List (List Int)×List (List Int)
abbrev BK:=List (List Int)×List (List Int)×List Nat
abbrev BU:=Int×List Int×Nat
abbrev Bl:=Int×Int×List BU
abbrev AT:=List (Int×Int)
abbrev BF:=List Int×Int×Nat
abbrev Ao:=Option Addr
abbrev C8:Rp BU:=rP rI (rP (rL rI) (rN .u16))
abbrev Cg:Rp Bl:=rP rI (rP rI (rL C8))
abbrev By:Rp (Int×Int):=rP rI rI
theorem ip{α:Type}{p:Prop} [Decidable p] {A B:Option α}{r:α}(h:(if p then A else B)=some r)(c:p):A=some r:=by rwa [if_pos c] at h
theorem im{α:Type}{p:Prop} [Decidable p] {A B:Option α}{r:α}(h:(if p then A else B)=some r)(c:¬p):B=some r:=by rwa [if_neg c] at h
theorem ib{α:Type}{c:Bool}{A B:Option α}{r:α}(h:(if c=true then A else B)=some r)(K:c=false):B=some r:=by subst K;simpa using h
def N8(n:Nat)(ops:Ao_):List Nat→Nat→Env→Option (Nat×Env)
 | [],f,L=>some (f,L)
 | i::l,f+1,L=>match MF n L ops i with
  | some L'=>N8 n ops l f L'
  | none=>none
 | _::_,0,_=>none
def N6(ops:Ao_)(m:Nat):Array Bool→List Nat→Bool
 | _,[]=>true
 | listed,i::l=>EY ops listed m i&&N6 ops m (A6 listed i) l
def Rs:Array Bool→List Nat→Array Bool
 | listed,[]=>listed
 | listed,i::l=>Rs (A6 listed i) l
theorem Bn{P:Program}{J:Judge P}{Q:Gs_}{b:Frame}{n:Nat}{ds:Ld_}{k:Li_}{cs:Lf_}{s:St}{ops:Ao_}{m:Nat}{D:Nat→Bool}{L':Env}{U:Nat}(V:Dx ops m=true)(W:s.q=false):
  ∀(l:List Nat) {fuel:Nat} {listed:Array Bool} {L:Env},N8 n ops l fuel L=some (U,L')→AQ J Q b n ds ops k cs m D U (Rs listed l) L' s→(K:N6 ops m listed l=true:=by decide+kernel)→AQ J Q b n ds ops k cs m D fuel listed L s
 | [],fuel,listed,L,h,O,_=>by cases h;exact O
 | i::l,fuel,listed,L,h,O,K=>by
  cases fuel with
  | zero=>cases h
  | succ fuel=>
   unfold N6 at K;rw [Bool.and_eq_true] at K;unfold N8 at h;split at h
   ·rename_i Y e;exact Cm i V W e (Bn V W l h O K.2) K.1
   ·cases h
theorem zg{P:Program}{J:Judge P}{Q:Gs_}{b:Frame}{n:Nat}{L L':Env}{ds:Ld_}{k k':Li_}{cs:Lf_}{s:St}(m:Nat)(h:Md b n m k L=some (k',L'))(K:JL J Q b n L' ds k' cs s):JL J Q b n L ds k cs s:=JL.go m h K
abbrev bX(r:Nat)(c:Ay)(t:TypeId):Seg:= [(r,.cells c t (0,0))]
end Pal
namespace Pal
open Go Go.Conc
section
variable {P:Program}{J:Judge P}{Q:Gs_}{b:Frame}{n:Nat}{L L':Env}{ds:Ld_}{k:Li_}{cs:Lf_}{s:St}{ops:Ao_}{E H:LH}{S:List Seg}
variable {α:Type}{A B:Option α}{r:α}
theorem AX{c:Operand}{x y:Code}{p:Prop} [Decidable p] (K:(if p then A else B)=some r)(O:p→A=some r→JL J Q b n L ds (.code x::k) cs s)(U:¬p→B=some r→JL J Q b n L ds (.code y::k) cs s)
  (V:ev L c=some (.bool (decide p)):=by exact rfl):JL J Q b n L ds (.code (.cond c x y)::k) cs s:=NL V (fun h=>O h (ip K h)) fun h=>U h (im K h)
theorem BP{c:Operand}{x y:Code}{t:Bool}(K:(if t=true then A else B)=some r)(O:t=true→A=some r→JL J Q b n L ds (.code x::k) cs s)(U:t=false→B=some r→JL J Q b n L ds (.code y::k) cs s)
  (V:ev L c=some (.bool t):=by exact rfl):JL J Q b n L ds (.code (.cond c x y)::k) cs s:=Py V (fun h=>O h (ip K h)) fun h=>U h (ib K h)
theorem Ex{q:Prop} [Decidable q] (i:Nat)(K:(if q then A else B)=some r)(O:q→A=some r→JL J Q b n (AB L (some i) (.bool true)) ds k cs s)(U:¬q→B=some r→JL J Q b n (AB L (some i) (.bool false)) ds k cs s)
  (V:look L i=some (.bool (decide q)):=by exact rfl):JL J Q b n L ds k cs s:=Tg V (fun h=>O h (ip K h)) fun h=>U h (im K h)
theorem Dz{t:Bool}(i:Nat)(K:(if t=true then A else B)=some r)(O:t=true→A=some r→JL J Q b n (AB L (some i) (.bool true)) ds k cs s)(U:t=false→B=some r→JL J Q b n (AB L (some i) (.bool false)) ds k cs s)
  (V:look L i=some (.bool t):=by exact rfl):JL J Q b n L ds k cs s:=Tt V (fun h=>O h (ip K h)) fun h=>U h (ib K h)
theorem CM{K O:Type}{c:Code}{body:K→Option (Bj K O)}{f:Nat}{U:K}{a:O}(W:iter body f U=some a)(I:Env→St→K→Prop)(Y:I L' s U)
  (round:∀L s x,I L s x→(∀V,body x=some (.done V)→V=a)→(∃st,body x=some st)→(∀L' s' x',I L' s' x'→body x=some (.more x')→JL J Q b n L' ds (.inLoop c::k) cs s')→JL J Q b n L ds (.code c:: .inLoop c::k) cs s)
  (Z:GG L L'=GJ L':=by exact rfl):JL J Q b n L ds (.code (.loop c)::k) cs s:=HZ L' Z (Pm W I Y round)
variable {m:Nat}{D:Nat→Bool}{fuel:Nat}{listed:Array Bool}
def Mq(ops:Ao_):Array Bool→List Nat→Bool
 | _,[]=>true
 | l,i::t=>Region.ready .any ops l== [i]&&Mq ops (A6 l i) t
theorem P2:∀{t:List Nat} {l:Array Bool},Mq ops l t=true→∀u,Region.linearise.go .any ops t.length u l []=t
 | [],_,_,_=>rfl
 | i::t,l,h,u=>by
  unfold Mq at h
  rw [Bool.and_eq_true,beq_iff_eq] at h
  exact WN h.1 (P2 h.2) u
theorem Cy(t:List Nat)(O:JL J Q b n L ds (.inRegion ops t::k) cs s)(K:(NT m listed&&Mq ops listed t&&(fuel+1==t.length))=true:=by decide+kernel):AQ J Q b n ds ops k cs m D (fuel+1) listed L s:=by
 rw [Bool.and_eq_true,Bool.and_eq_true,beq_iff_eq] at K;exact AQ.leaf K.1.1 (by rw [K.2];exact P2 K.1.2) O
theorem EV(m:Nat){id:Nat}(h:Dx ops m=true→AQ J Q b n ds ops k cs m D3 ops.size (Array.replicate ops.size false) L (Ak E H S))(hm:P.follows .mixedOrders=true:=by exact rfl)(K:(b.kind != .early)=true:=by exact rfl)(ht:Dx ops m=true:=by decide+kernel):
  JL J Q b n L ds (.code (.region id ops true)::k) cs (Ak E H S):=TD m hm K ht h
theorem CY(m:Nat)(bks:List Nat){id:Nat}(K:F0 S bks)(O:As E H S)(h:Dx ops m=true→AQ J Q b n ds ops k cs m (AZ bks) ops.size (Array.replicate ops.size false) L (Ak E H S))(hm:P.follows .mixedOrders=true:=by exact rfl)(U:(b.kind != .early)=true:=by exact rfl)(ht:Dx ops m=true:=by decide+kernel):
  JL J Q b n L ds (.code (.region id ops true)::k) cs (Ak E H S):=Uj m bks K O hm U ht h
theorem Ei{α:Type}{pp:Rp α}{a:Option Addr}{c:Nat}{xs:List α}{xv:α}{K:Int}{d:Option Tmp}{x y:Operand}{t ty e:TypeId}{p:String}{af:Ae_}{g:On_}{kd:IntKind}(i:Nat)(O:An pp E a c xs)(U:ix xs K=some xv)(V:Dx ops m=true)(ht:P.underlying t=some (.slice e))(W:Bs P e=some pp.n)
  (h:∀bk o ws,pp.r E ws xv→At E bk o ws→AQ J Q b n ds ops k cs m D fuel (A6 listed i) (AB L d (.pointer (some ⟨bk,o,none⟩))) s)
  (Y:ops[i]? =some ⟨d,.indexAddr t x y,ty,p,af,g⟩:=by exact rfl) (Z:EY ops listed m i=true:=by decide+kernel) (aa:s.q=false:=by exact rfl)
  (hw:A8 L ops ⟨d,.indexAddr t x y,ty,p,af,g⟩=some true:=by exact rfl) (ab:Bt n d=true:=by exact rfl)
  (ae:ev L x=some (.slice a xs.length c):=by exact rfl) (ah:ev L y=some (.int kd K):=by exact rfl):
  AQ J Q b n ds ops k cs m D (fuel+1) listed L s:=Wk i O U Y V Z aa hw ab ae ah ht W h
end
end Pal
namespace Pal
open Go Go.Conc
section
variable {P:Program}{J:Judge P}{Q:Gs_}{b:Frame}{n:Nat}{ds:Ld_}{ops:Ao_}{k:Li_}{cs:Lf_}{fuel:Nat}{D:Nat→Bool}{listed:Array Bool}{L L':Env}{s:St}{xl:List Nat}
variable {d:Option Tmp}{op:Op}{ty:TypeId}{p:String}{af:Ae_}{g:On_}{v:Value}
theorem Gm(i:Nat)(pure:Bool)(K:s.q=false)(O:FN n L ops i=some ⟨d,op,ty,p,af,g⟩)
  (U:∀ρ,Ej L ρ→∀s':St,(pure=false→∀x o,(Bx D s).E x=some o→s'.E x=some o)→Yl P ⟨d,op,ty,p,af,g⟩ ρ s' v)
  (V:Fa J Q b n ds ops k cs (AZ xl) D fuel (A6 listed i) (AB L d v) s) (W:Jk ops listed xl pure i=true:=by decide+kernel):Fa J Q b n ds ops k cs (AZ xl) D (fuel+1) listed L s:=by
 obtain⟨Y,Z,aa⟩:=M7 O;exact QM i pure Y W K Z aa U V
def Of(n:Nat)(L:Env)(ops:Ao_)(i:Nat):Option Env:=
 match Hx ops.toList i with
 | some ⟨d,op,ty,p,af,g⟩=>match A8 L ops ⟨d,op,ty,p,af,g⟩ with
  | some true=>match Bt n d with
   | true=>match IF L op with
    | some v=>match d with
     | some d=>some ((d,v)::L)
     | none=>some L
    | none=>none
   | false=>none
  | _=>none
 | none=>none
theorem Ue{i:Nat}(h:Of n L ops i=some L'):∃o v,ops[i]? =some o∧Bt n o.dst=true∧A8 L ops o=some true∧IF L o.op=some v∧L'=AB L o.dst v:=by
 unfold Of at h;split at h
 ·rename_i d op ty p af g K;rw [I1,Array.getElem?_toList] at K;split at h
  ·rename_i hw;split at h
   ·rename_i O;split at h
    ·rename_i v U;refine⟨_,v,K,O,hw,U,?_⟩;cases d with
     | none=>cases h;rfl
     | some d=>cases h;rfl
    ·cases h
   ·cases h
  ·cases h
 ·cases h
theorem Bi(i:Nat)(K:s.q=false)(h:Of n L ops i=some L')
  (O:Fa J Q b n ds ops k cs (AZ xl) D fuel (A6 listed i) L' s) (U:Jk ops listed xl true i=true:=by decide+kernel):Fa J Q b n ds ops k cs (AZ xl) D (fuel+1) listed L s:=by
 obtain⟨o,v,V,W,hw,Y,rfl⟩:=Ue h;exact QM i true V U K hw W (fun ρ Z s' _=>LP Z Y) O
end
end Pal
namespace Pal
open Go Go.Conc
section
variable {P:Program}{J:Judge P}{Q:Gs_}{b:Frame}{n:Nat}{L L':Env}{ds:Ld_}{k:Li_}{cs:Lf_}{s:St}{ops:Ao_}{E H:LH}{S:List Seg}{i i2:Nat}{rest:List Nat}
variable {d d2:Option Tmp}{x y x2:Operand}{t t2 ft u ty ty2 e:TypeId}{p p2:String}{af af2:Ae_}{g g2:On_}{v w:Value}
theorem CI(O:As E H S)(h:∀r E',Le E E'→At E' r 0 v.cells.toList→As E' H (S++ [[]])→JL J Q b n (AB L d (.pointer (some ⟨r,0,none⟩))) ds (.inRegion ops rest::k) cs (Ak E' H (S++ [[]])))
  (U:Eo b n L ops i=some ⟨d,.box e x,ty,p,af,g⟩:=by exact rfl) (V:ev L x=some v:=by exact rfl):JL J Q b n L ds (.inRegion ops (i::rest)::k) cs (Ak E H S):=by
 obtain⟨W,Y,Z⟩:=Im U;refine JS.box W Y Z O V fun r aa=>C4 (bk:=r) (c:=v.cells) (e:=e) (f:=(0,0)) S.length aa (by simp) fun E' hle ab K=>?_;have ae:(S++ [[(r,Obj.cells v.cells e (0,0))]]).set S.length []=S++ [[]]:=by simp
 rw [ae] at K ⊢;exact h r E' hle ab K
theorem Cz{z:Value}(K:As E H S)(O:zeroOf P e=some z)(h:∀r,As E H (S++ [[(r,.cells z.cells e (0,0))]])→JL J Q b n (AB L d (.pointer (some ⟨r,0,none⟩))) ds (.inRegion ops rest::k) cs (Ak E H (S++ [[(r,.cells z.cells e (0,0))]])))
  (U:Eo b n L ops i=some ⟨d,.alloc e,ty,p,af,g⟩:=by exact rfl):JL J Q b n L ds (.inRegion ops (i::rest)::k) cs (Ak E H S):=by
 obtain⟨V,W,Y⟩:=Im U;exact JS.alloc V W Y K O h
theorem BJ{bk off K:Nat}{c:Ay}(j:Nat)(O:As E H S)(U:Bs P t=some K)
  (h:As E H (S.set j [(bk,.cells (Ba c off v.cells.toList) e (0,0))])→JL J Q b n (AB L d undef) ds (.inRegion ops rest::k) cs (Ak E H (S.set j [(bk,.cells (Ba c off v.cells.toList) e (0,0))])))
  (V:Eo b n L ops i=some ⟨d,.store t x y,ty,p,af,g⟩:=by exact rfl) (W:ev L x=some (.pointer (some ⟨bk,off,none⟩)):=by exact rfl) (Y:ev L y=some v:=by exact rfl) (Z:S[j]? =some [(bk,.cells c e (0,0))]:=by exact rfl)
  (aa:K=v.cells.size:=by exact rfl) (hle:off+v.cells.size≤c.size:=by exact Nat.le_of_ble_eq_true rfl) (ab:v.cells.toList.all CK=true:=by first | exact rfl | simp [Value.cells,CK]):
  JL J Q b n L ds (.inRegion ops (i::rest)::k) cs (Ak E H S):=W1 j O (by rw [← aa];exact U) V W Y Z h hle (List.all_eq_true.1 ab)
theorem JL.fl{bk o o1 U off:Nat}{K:Array Field}{O:Nat}{ws:Lv_}(j:Nat)(V:At E bk o ws)(ht:P.underlying t=some (.struct K))(W:Bs P ft=some (U+1))(Y:Dk P t2=some false)
  (Z:JL J Q b n (AB (AB L d (.pointer (some ⟨bk,o1+off,none⟩))) d2 v) ds (.inRegion ops rest::k) cs (Ak E H S))
  (aa:Eo b n L ops i=some ⟨d,.fieldAddr t x O,ty,p,af,g⟩:=by exact rfl) (ab:ev L x=some (.pointer (some ⟨bk,o1,none⟩)):=by exact rfl) (ae:J6 K O=some (off,ft):=by exact rfl)
  (ah:Eo b n (AB L d (.pointer (some ⟨bk,o1+off,none⟩))) ops i2=some ⟨d2,.load t2 x2,ty2,p2,af2,g2⟩:=by exact rfl) (ai:ev (AB L d (.pointer (some ⟨bk,o1+off,none⟩))) x2=some (.pointer (some ⟨bk,o+j,none⟩)):=by exact rfl) (aj:ws[j]? =some v:=by exact rfl):
  JL J Q b n L ds (.inRegion ops (i::i2::rest)::k) cs (Ak E H S):=Bz ht W aa ab ae (B4 j V Y ah ai aj Z)
theorem Cj{α:Type}{pp:Rp α}{a:Option Addr}{c:Nat}{xs:List α}{xv:α}{m:Int}{kd:IntKind}(K:An pp E a c xs)(hm:ix xs m=some xv)(ht:P.underlying t=some (.slice e))(O:Bs P e=some pp.n)
  (h:∀bk o ws,pp.r E ws xv→At E bk o ws→JL J Q b n (AB L d (.pointer (some ⟨bk,o,none⟩))) ds (.inRegion ops rest::k) cs (Ak E H S))
  (U:Eo b n L ops i=some ⟨d,.indexAddr t x y,ty,p,af,g⟩:=by exact rfl) (V:ev L x=some (.slice a xs.length c):=by exact rfl) (W:ev L y=some (.int kd m):=by exact rfl):
  JL J Q b n L ds (.inRegion ops (i::rest)::k) cs (Ak E H S):=by
 obtain⟨Y,Z,aa⟩:=Im U;exact Vh K hm Y Z aa V W ht O h
theorem CB(K:List Seg)(O:Env){todo:Li_}{c:Code}(U:∀E',Le E E'→As E' H K→JL J Q b n O ds todo cs (Ak E' H K))
  (h:(∀{E':LH} {L:Env},Le E E'→As E' H K→GG L O=GJ O→JL J Q b n L ds todo cs (Ak E' H K))→JL J Q b n L ds (.code c::todo) cs (Ak E H S)):JL J Q b n L ds (.code c::todo) cs (Ak E H S):=
 h fun V W Y=>Az (U _ V W) Y
theorem C7{U:List Nat}(V W:Nat)(K:List Seg)(O:Env){todo:Li_}(Y:∀E',Le E E'→As E' H K→JL J Q b n O ds (.inRegion ops (List.range' V W)::todo) cs (Ak E' H K))
  (h:(∀{E':LH} {L:Env},Le E E'→As E' H K→GG L O=GJ O→JL J Q b n L ds (.inRegion ops (List.range' V W)::todo) cs (Ak E' H K))→JL J Q b n L ds (.inRegion ops U::todo) cs (Ak E H S)):JL J Q b n L ds (.inRegion ops U::todo) cs (Ak E H S):=
 h fun Z aa ab=>Az (Y _ Z aa) ab
theorem CC{O Z:Type}{c:Code}{body:O→Option (Bj O Z)}{f:Nat}{V:O}{a:Z}{W:LH}{k:Li_}(ab:iter body f V=some a)(K:O→List Seg)(U:O→Env)(hle:Le W E)(ae:As E H (K V))
  (round:∀x E',Le W E'→As E' H (K x)→(∀aa,body x=some (.done aa)→aa=a)→(∃st,body x=some st)→(∀{L':Env} {Y:LH} (x':O),Le W Y→As Y H (K x')→GG L' (U x')=GJ (U x')→body x=some (.more x')→JL J Q b n L' ds (.inLoop c::k) cs (Ak Y H (K x')))→JL J Q b n (U x) ds (.code c:: .inLoop c::k) cs (Ak E' H (K x)))
  (ah:GG L (U V)=GJ (U V):=by exact rfl) (ai:Ak E H S=Ak E H (K V):=by exact rfl):JL J Q b n L ds (.code (.loop c)::k) cs (Ak E H S):=by
 rw [ai];refine HZ _ ah (Pm ab (fun L s x=>∃E',Jm W H E' (K x) (U x) L s) ⟨E,rfl,rfl,hle,ae⟩ ?_);rintro _ _ x ⟨E',rfl,rfl,aj,ak⟩ al hb ag;exact round x E' aj ak al hb fun x' am g2 an ao=>Az (ag _ _ x' ⟨_,rfl,rfl,am,g2⟩ ao) an
theorem Bg{f:FuncId}{fn:Func}{c:Code}{E:LH}{vs:Lv_}{B:Seg}{R:Value→LH→Seg→Prop}(O:P.funcs[f]? =some fn)
  (h:∀(Q:Gs_) (K:Frame) (cs:Lf_) (H:LH),As E H [B]→(∀{v:Value} {E':LH} {S':List Seg} {B':Seg},Le E E'→S'.flatten=B'→R v E' B'→As E' H S'→J.ok Q (G (K.finish v) cs) (Ak E' H S'))→JL J Q (base f) fn.ntmps (Fs 0 vs) [] [.code c] (K::cs) (Ak E H [B]))
  (hb:fn.body=some c:=by exact rfl) (U:Nat.ble vs.length fn.ntmps=true:=by exact rfl):AR J f vs E B R:=
 NN O hb U fun Q K cs H V W=>h Q K cs H V fun Y Z aa ab=>W _ _ _ _ Y Z aa ab
variable {m:Nat}{fuel:Nat}{listed:Array Bool}{bks xl:List Nat}
theorem D2{bk:Nat}{c:Ay}{f:Nat×Nat}(i:Nat)(K:Dx ops m=true)(o:Nat)(j:Nat)(O:As E H S)(U:Dk P t=some false)
  (V:AQ J Q b n ds ops k cs m (AZ bks) fuel (A6 listed i) (AB L d w) (Ak E H S)) (W:FN n L ops i=some ⟨d,.load t x,ty,p,af,g⟩:=by exact rfl) (Y:ev L x=some (.pointer (some ⟨bk,o,none⟩)):=by exact rfl)
  (Z:S[j]? =some [(bk,.cells c e f)]:=by exact rfl) (hw:c[o]? =some w:=by exact rfl) (aa:AZ bks bk=true:=by simp [AZ]) (ab:EY ops listed m i=true:=by decide+kernel):AQ J Q b n ds ops k cs m (AZ bks) (fuel+1) listed L (Ak E H S):=
 Bv i K rfl W (fun ρ h s' hs=>Yl.load U (h _ _ Y) (Il (o:=o) j O Z aa hs hw)) V ab
theorem JG.lp{bk o:Nat}{ws:Lv_}(i:Nat)(K:Dx ops m=true)(j:Nat)(O:At E bk o ws)(U:As E H S)(V:F0 S bks)(W:Dk P t=some false)
  (Y:AQ J Q b n ds ops k cs m (AZ bks) fuel (A6 listed i) (AB L d w) (Ak E H S)) (Z:FN n L ops i=some ⟨d,.load t x,ty,p,af,g⟩:=by exact rfl) (aa:ev L x=some (.pointer (some ⟨bk,o+j,none⟩)):=by exact rfl)
  (hw:ws[j]? =some w:=by exact rfl) (ab:EY ops listed m i=true:=by decide+kernel):AQ J Q b n ds ops k cs m (AZ bks) (fuel+1) listed L (Ak E H S):=
 Bv i K rfl Z (fun ρ h s' hs=>Yl.load W (h _ _ aa) (At.NX (j:=j) O (N5 U hs V) hw)) Y ab
theorem DI{bk o K:Nat}{c:Ay}{f:Nat×Nat}(i:Nat)(O:Dx ops m=true)(vs:Lv_)(j:Nat)(U:As E H S)(hw:∀(q:Nat) w,vs[q]? =some w→c[o+q]? =some w)(V:Dk P t=some true)(W:Bs P t=some K)
  (Y:AQ J Q b n ds ops k cs m (AZ bks) fuel (A6 listed i) (AB L d (.agg vs.toArray)) (Ak E H S)) (Z:FN n L ops i=some ⟨d,.load t x,ty,p,af,g⟩:=by exact rfl) (aa:ev L x=some (.pointer (some ⟨bk,o,none⟩)):=by exact rfl)
  (ab:S[j]? =some [(bk,.cells c e f)]:=by exact rfl) (ae:K=vs.length:=by exact rfl) (ah:AZ bks bk=true:=by simp [AZ]) (ai:EY ops listed m i=true:=by decide+kernel):AQ J Q b n ds ops k cs m (AZ bks) (fuel+1) listed L (Ak E H S):=
 Bv i O rfl Z (fun ρ h s' hs=>FH (vs:=vs) V (by rw [← ae];exact W) (h _ _ aa) (fun q w aj=>by rw [DT rfl];exact Il j U ab ah hs (hw q w aj))) Y ai
theorem FK{D:Nat→Bool}{α:Type}{xs:List α}{xv:α}{K:Int}{bk c O U:Nat}{kd:IntKind}(i:Nat)(V:Dx ops m=true)(W:xs.length=U)(hm:ix xs K=some xv)(ht:P.underlying t=some (.slice e))(Y:Bs P e=some O)
  (Z:AQ J Q b n ds ops k cs m D fuel (A6 listed i) (AB L d (.pointer (some ⟨bk,K.toNat*O,none⟩))) s) (aa:s.q=false:=by exact rfl) (ab:FN n L ops i=some ⟨d,.indexAddr t x y,ty,p,af,g⟩:=by exact rfl)
  (ae:ev L x=some (.slice (some ⟨bk,0,none⟩) U c):=by exact rfl) (ah:ev L y=some (.int kd K):=by exact rfl) (ai:EY ops listed m i=true:=by decide+kernel):AQ J Q b n ds ops k cs m D (fuel+1) listed L s:=
 Bv i V aa ab (fun ρ h s' hs=>Ge W hm ht Y (h _ _ ae) (h _ _ ah)) Z ai
theorem Ck{D:Nat→Bool}{α:Type}{xs:List α}{xv:α}{K:Int}{bk c O U:Nat}{kd:IntKind}(i:Nat)(V:xs.length=U)(hm:ix xs K=some xv)(ht:P.underlying t=some (.slice e))(W:Bs P e=some O)
  (Y:Fa J Q b n ds ops k cs (AZ xl) D fuel (A6 listed i) (AB L d (.pointer (some ⟨bk,K.toNat*O,none⟩))) s) (Z:s.q=false:=by exact rfl) (aa:FN n L ops i=some ⟨d,.indexAddr t x y,ty,p,af,g⟩:=by exact rfl)
  (ab:ev L x=some (.slice (some ⟨bk,0,none⟩) U c):=by exact rfl) (ae:ev L y=some (.int kd K):=by exact rfl) (ah:Jk ops listed xl true i=true:=by decide+kernel):Fa J Q b n ds ops k cs (AZ xl) D (fuel+1) listed L s:=
 Gm i true Z aa (fun ρ h s' hs=>Ge V hm ht W (h _ _ ab) (h _ _ ae)) Y ah
theorem DW{bk o K:Nat}{c:Ay}{f:Nat×Nat}(i:Nat)(vs:Lv_)(j:Nat)(O:As E H S)(hw:∀(q:Nat) w,vs[q]? =some w→c[o+q]? =some w)(U:Dk P t=some true)(V:Bs P t=some K)
  (W:Fa J Q b n ds ops k cs (AZ xl) (AZ bks) fuel (A6 listed i) (AB L d (.agg vs.toArray)) (Ak E H S)) (Y:FN n L ops i=some ⟨d,.load t x,ty,p,af,g⟩:=by exact rfl) (Z:ev L x=some (.pointer (some ⟨bk,o,none⟩)):=by exact rfl)
  (aa:S[j]? =some [(bk,.cells c e f)]:=by exact rfl) (ab:K=vs.length:=by exact rfl) (ae:AZ bks bk=true:=by simp [AZ]) (ah:Jk ops listed xl false i=true:=by decide+kernel):Fa J Q b n ds ops k cs (AZ xl) (AZ bks) (fuel+1) listed L (Ak E H S):=
 Gm i false rfl Y (fun ρ h s' hs=>FH (vs:=vs) U (by rw [← ab];exact V) (h _ _ Z) (fun q w ai=>by rw [DT rfl];exact Il j O aa ae (hs rfl) (hw q w ai))) W ah
theorem DU{bk off K:Nat}{c:Ay}{D:Nat→Bool}(i j:Nat)(O:As E H S)(U:Bs P t=some K)(hle:off+K≤c.size)
  (h:As E H (S.set j [(bk,.cells (Ba c off v.cells.toList) e (0,0))])→Fa J Q b n ds ops k cs (AZ xl) D fuel (A6 listed i) (AB L d undef) (Ak E H (S.set j [(bk,.cells (Ba c off v.cells.toList) e (0,0))])))
  (V:FN n L ops i=some ⟨d,.store t x y,ty,p,af,g⟩:=by exact rfl) (W:ev L x=some (.pointer (some ⟨bk,off,none⟩)):=by exact rfl) (Y:ev L y=some v:=by exact rfl) (Z:S[j]? =some [(bk,.cells c e (0,0))]:=by exact rfl)
  (aa:K=v.cells.size:=by exact rfl) (ab:v.cells.toList.all CK=true:=by first | exact rfl | simp [Value.cells,CK]) (ae:Region.ready .any ops listed= [i]:=by decide+kernel) (hX:AZ xl i=true:=by decide+kernel):
  Fa J Q b n ds ops k cs (AZ xl) D (fuel+1) listed L (Ak E H S):=by
 obtain⟨ah,ai,aj⟩:=M7 V;subst aa;exact JB.store i j ae hX ah ai aj O W Y U (List.all_eq_true.1 ab) Z hle h
end
end Pal
namespace Pal
open Go Go.Conc Go.Proofs
end Pal
namespace Pal
open Go Go.Conc Go.Proofs
end Pal
namespace Pal
open Go Go.Conc Go.Proofs
open Go.Proofs.Tryz
variable {J:Judge Tryz.prog}{E:LH}
def AU:=Bf Tryz.type3
def Bq:=D1 Tryz.underlying3
def BL:=Bf Tryz.type28
def Df:=D1 Tryz.underlying28
def HI:=Bf Tryz.type90
def KS:=D1 Tryz.underlying90
def GX:=A5 Tryz.func41 rfl
def Cp:=D6 Tryz.type3
def EP:=D6 Tryz.type24
def DL:=D6 Tryz.type28
def Cb:=Bf Tryz.type24
def Cv:=D1 Tryz.underlying24
def FC:=D6 Tryz.type27
def CF:=Bf Tryz.type27
def MH:=A5 Tryz.func103 rfl
def K9:=A5 Tryz.func90 rfl
def Cq:=Bf Tryz.type22
def Da:=D1 Tryz.underlying22
def Ie:=A5 Tryz.func101 rfl
def FB:=D6 Tryz.type183
def Ic:=D1 Tryz.underlying27
def MI:=A5 Tryz.func112 rfl
def Ig:=A5 Tryz.func89 rfl
def II:=A5 Tryz.func120 rfl
def DZ:=Bf Tryz.type102
def Gv:=D1 Tryz.underlying102
def Ca:=Bf Tryz.type104
def FA:=D1 Tryz.underlying104
def Gx:=D6 Tryz.type104
def FT:=Bf Tryz.type139
def HH:=Bf Tryz.type138
def KN:=D1 Tryz.underlying139
def K1:=A5 Tryz.func92 rfl
def La:=Bf Tryz.type25
def Jv:=D1 Tryz.underlying25
def MP:=Bf Tryz.type94
def KT:=D1 Tryz.underlying94
def Dg:=Bf Tryz.type95
def Eu:=D1 Tryz.underlying95
def Fo:=D1 Tryz.underlying173
def C3:=Bf Tryz.type97
def HG:=D6 Tryz.type133
def AM:=Bf Tryz.type133
def KM:=D1 Tryz.underlying162
def B9:=D1 Tryz.underlying133
def Gw:=A5 Tryz.func134 rfl
def MG:=A5 Tryz.func200 rfl
def MJ:=A5 Tryz.func178 rfl
def KX:=A5 Tryz.func162 rfl
def FD:=D6 Tryz.type97
def HE:=D1 Tryz.underlying97
def Jw:=A5 Tryz.func69 rfl
def K0:=A5 Tryz.func93 rfl
def Jx:=A5 Tryz.func78 rfl
def KZ:=A5 Tryz.func168 rfl
def HF:=A5 Tryz.func71 rfl
def MK:=A5 Tryz.func72 rfl
def ML:=A5 Tryz.func43 rfl
def MN:=A5 Tryz.func28 rfl
def MO:=A5 Tryz.func49 rfl
def K7:=A5 Tryz.func32 rfl
def MM:=A5 Tryz.func96 rfl
def Jy:=A5 Tryz.func97 rfl
def K8:=A5 Tryz.func99 rfl
theorem mixed:Tryz.prog.follows .mixedOrders=true:=rfl
def f101(fuel:Nat)(p0:Int)(p1:Int)(p2:Int):Option Bool:= Option.bind (if p0<p1 then(some true) else(some (decide (p2<p0)))) fun K=> some K
theorem Iz{p0:Int}{p1:Int}{p2:Int}{fuel:Nat}{r:Bool}(K:f101 fuel p0 p1 p2=some r):AR J 101 [iV p0,iV p1,iV p2] E [] (fun w E' B'=>w= .bool r∧B'= []):=by
 refine Bg func101 fun Q aj cs H O V=>?_;unfold f101 at K;obtain⟨W,Y,Z⟩:=bs K;refine zg 10 rfl (C7 8 1 [] [(14,.bool W)] (fun ak aa ab=>?_) (fun U=>?_))
 ·refine zg 2 rfl ?_;obtain rfl:=oi Z;exact AP func101 rfl rfl (V aa rfl ⟨rfl,rfl⟩ ab)
 ·refine Ex 10 Y (fun ae ah=>?_) (fun ae ai=>?_)
  ·refine zg 4 rfl ?_;obtain rfl:=oi ah;exact U Ap O rfl
  ·refine zg 4 rfl ?_;obtain rfl:=oi ai;exact U Ap O rfl
def Mf(fuel:Nat)(p0:List Int)(p1:List Int)(K:Int):Option (Bj Int ((Bool)⊕(Unit))):= Option.bind (if K<(p0.length:Int) then(some (decide (K<(p1.length:Int)))) else(some false)) fun O=> if O=true then((ix p0 K).bind fun U=> (ix p1 K).bind fun V=> if U≠V then(some (.done (Sum.inl false))) else((Au (K+1)).bind fun W=> some (.more W))) else(some (.done (Sum.inr ())))
def f32(fuel:Nat)(p0:List Int)(p1:List Int):Option Bool:= Option.bind (iter (Mf fuel p0 p1) fuel 0) fun K=> Sum.elim (fun r=>some r) (fun O=> some (decide ((p0.length:Int)=(p1.length:Int)))) K
theorem Mo{K:Ao}{c2:Nat}{O:Ao}{U:Nat}{p0:List Int}{p1:List Int}(ar:An rI E K c2 p0)(au:An rI E O U p1){fuel:Nat}{r:Bool}(ah:f32 fuel p0 p1=some r):AR J 32 [sV K p0 c2,sV O p1 U] E [] (fun w E' B'=>w= .bool r∧B'= []):=by
 refine Bg func32 fun Q a0 cs H av ai=>?_;unfold f32 at ah;obtain⟨aj,aw,ak⟩:=bs ah;refine zg 9 rfl (Bu (fun L s=>∃(al:Unit) (am:LH),aj=Sum.inr al∧Jm E H am [] [(0,sV K p0 c2),(1,sV O p1 U)] L s) ?_ ?_)
 ·rintro _ _ ⟨al,am,rfl,rfl,rfl,ay,az⟩;have aA:=elim_inr ak;refine zg 3 rfl (BA underlying28 rfl rfl rfl ?_);refine zg 1 rfl (BA underlying28 rfl rfl rfl ?_);refine zg 3 rfl ?_;obtain rfl:=oi aA;exact AP func32 rfl rfl (ai ay rfl ⟨rfl,rfl⟩ az)
 ·intro aB;refine JL.block (CC aw (fun Y=> []) (fun Y=> [(0,sV K p0 c2),(1,sV O p1 U),(5,iV Y)]) Ap av ?_);rintro Y aa V an ao ⟨a1,Z⟩ aC;have ap:=Z;unfold Mf at ap;refine zg 5 rfl (BA underlying28 rfl rfl rfl ?_);obtain⟨aD,aE,aF⟩:=bs ap;refine zg 2 rfl (FG [] (fun L s=>∃(ab:LH),Jm aa H ab [] [(0,sV K p0 c2),(1,sV O p1 U),(5,iV Y),(15,.bool aD)] L s) ?_ ?_)
  ·rintro _ _ ⟨ab,rfl,rfl,W,ae⟩;refine JL.done (BP aF (fun aG aH=>?_) (fun aG aI=>?_))
   ·refine zg 4 rfl (EV 8 fun ht=>?_);refine Bn ht rfl [0,1] rfl ?_;obtain⟨a2,aJ,aK⟩:=bs aH;refine Ei 2 (ar.Ai (V.Ab W)) aJ ht underlying28 AU ?_;rintro a3 a4 _ rfl aL;refine EK 3 ht 0 aL Bq rfl rfl rfl rfl (Bn ht rfl [4,5] rfl ?_);obtain⟨a5,aM,aN⟩:=bs aK;refine Ei 6 (au.Ai (V.Ab W)) aM ht underlying28 AU ?_;rintro a6 a7 _ rfl aO;refine EK 7 ht 0 aO Bq rfl rfl rfl rfl (Cy [8] ?_);refine zg 2 rfl (AX aN (fun aP aQ=>?_) (fun aP aR=>?_))
    ·refine zg 4 rfl ?_;obtain rfl:=oi aQ;obtain rfl:=ao _ Z;have aS:=elim_inl ak;obtain rfl:=oi aS;exact AP func32 rfl rfl (ai (V.Ab W) rfl ⟨rfl,rfl⟩ ae)
    ·obtain⟨aT,aU,aV⟩:=bs aR;refine zg 4 rfl (Bh aU rfl rfl rfl ?_);refine zg 2 rfl ?_;obtain rfl:=oi aV;exact aC aT (V.Ab W) ae rfl Z
   ·refine JL.exit rfl ?_;obtain rfl:=oi aI;have aW:aj=(Sum.inr ()):=(ao _ Z).symm;exact Az (aB _ _ ⟨(),ab,aW,rfl,rfl,(V.Ab W),ae⟩) rfl
  ·intro aq;refine Ex 10 aE (fun aX aY=>?_) (fun aX aZ=>?_)
   ·refine zg 2 rfl (BA underlying28 rfl rfl rfl ?_);refine zg 2 rfl ?_;obtain rfl:=oi aY;exact Az (aq _ _ ⟨aa,rfl,rfl,Ap,an⟩) rfl
   ·refine zg 5 rfl ?_;obtain rfl:=oi aZ;exact Az (aq _ _ ⟨aa,rfl,rfl,Ap,an⟩) rfl
def f23(fuel:Nat)(p0:List Int):Option ((BF)):= some (p0,0,2685821657736338717)
theorem W9{K:Ao}{c2:Nat}{p0:List Int}(Y:An rI E K c2 p0){fuel:Nat}{r:(BF)}(O:f23 fuel p0=some r):AR J 23 [sV K p0 c2] E [] (fun w E' B'=>∃(U:Nat) (V:Ao) (W:Nat),w= pV U 0∧B'= [(U,.cells #[sV V r.1 W,iV r.2.1,.int .u64 ((r.2.2:Nat):Int)] 92 (0,0))]∧An rI E' V W r.1):=by
 refine Bg func23 fun Q ah cs H Z aa=>?_;unfold f23 at O;refine zg 7 rfl (AA (v:= .agg #[sV K p0 c2,iV 0,.int .u64 ((2685821657736338717:Nat):Int)]) rfl (fun ρ h=>CG [(0,1),(1,1),(2,1)] h (D6 type92) underlying92 ⟨rfl,Bf type28,rfl,Bf type3,rfl,Bf type90,trivial⟩ rfl rfl) ?_);refine JS.box (v:= .agg #[sV K p0 c2,iV 0,.int .u64 ((2685821657736338717:Nat):Int)]) rfl rfl rfl Z rfl fun ab ae=>zg 2 rfl ?_;obtain rfl:=oi O;exact AP func23 rfl rfl (aa Ap rfl ⟨ab,K,c2,rfl,(by first | rfl | simp | (simp [Value.cells])),Y⟩ ae)
def f100(fuel:Nat)(p0:BF):Option (Nat×(BF)):= (Au (p0.2.1+1)).bind fun O=> Option.bind (if O≤(p0.1.length:Int) then((Au (O - 1)).bind fun U=> (ix p0.1 U).bind fun V=> some (((((CX O)*11400714819323198485) % 2 ^ 64) ^^^ (((CX V)*14029467366897019727) % 2 ^ 64)) % 2 ^ 64)) else(some (((CX O)*11400714819323198485) % 2 ^ 64))) fun K=> some (((((((((((p0.2.2 ^^^ K) % 2 ^ 64)*18397679294719823053) % 2 ^ 64) ^^^ (((((p0.2.2 ^^^ K) % 2 ^ 64)*18397679294719823053) % 2 ^ 64)>>>33)) % 2 ^ 64)*14181476777654086739) % 2 ^ 64) ^^^ (((((((((p0.2.2 ^^^ K) % 2 ^ 64)*18397679294719823053) % 2 ^ 64) ^^^ (((((p0.2.2 ^^^ K) % 2 ^ 64)*18397679294719823053) % 2 ^ 64)>>>33)) % 2 ^ 64)*14181476777654086739) % 2 ^ 64)>>>29)) % 2 ^ 64)>>>11,(p0.1,O,(((((p0.2.2 ^^^ K) % 2 ^ 64)*18397679294719823053) % 2 ^ 64) ^^^ (((((p0.2.2 ^^^ K) % 2 ^ 64)*18397679294719823053) % 2 ^ 64)>>>33)) % 2 ^ 64))
theorem V6{bk:Nat}{V:Ao}{c2:Nat}{p0:BF}(Z:An rI E V c2 p0.1){fuel:Nat}{r:Nat×(BF)}(aa:f100 fuel p0=some r):AR J 100 [pV bk 0] E [(bk,.cells #[sV V p0.1 c2,iV p0.2.1,.int .u64 ((p0.2.2:Nat):Int)] 92 (0,0))] (fun w E' B'=>∃(ab:Ao) (ae:Nat),w= .int .u64 ((r.1:Nat):Int)∧B'= [(bk,.cells #[sV ab r.2.1 ae,iV r.2.2.1,.int .u64 ((r.2.2.2:Nat):Int)] 92 (0,0))]∧An rI E' ab ae r.2.1):=by
 refine Bg func100 fun Q aC cs H ah am=>?_;unfold f100 at aa;refine zg 8 rfl (Bz underlying92 AU rfl rfl rfl ?_);refine AA (v:=iV p0.2.1) rfl (fun ρ h=>Yl.load Bq (h _ _ rfl) (DF (j:=0) (off:=1) ah rfl rfl)) ?_;obtain⟨U,an,ao⟩:=bs aa;refine Bh an rfl rfl rfl (zg 1 rfl ?_);refine Bz underlying92 AU rfl rfl rfl (BJ 0 ah AU fun O=>?_);refine zg 5 rfl (Bz underlying92 AU rfl rfl rfl ?_);refine AA (v:=iV U) rfl (fun ρ h=>Yl.load Bq (h _ _ rfl) (DF (j:=0) (off:=1) O rfl rfl)) (AA (v:= .int .u64 ((CX U:Nat):Int)) rfl (fun ρ h=>Yl.CX underlying3 underlying90 (h _ _ rfl)) ?_);refine AA (v:= .int .u64 ((((CX U)*11400714819323198485) % 2 ^ 64:Nat):Int)) rfl (fun ρ h=>LM (h _ _ rfl) (h _ _ rfl)) (zg 4 rfl ?_);refine CY 9 [bk] ⟨⟨0,_,rfl⟩,trivial⟩ O fun ht=>Bn ht rfl [0,1] rfl (Ce 2 ht underlying92 AU rfl rfl rfl rfl ?_);refine D2 3 ht 1 0 O Bq ?_;refine Bn ht rfl [4,5] rfl (Ce 6 ht underlying92 BL rfl rfl rfl rfl ?_);refine D2 7 ht 0 0 O Df ?_;refine Bv 8 ht rfl rfl (fun ρ h s' hs=>Yl.len rfl underlying28 (h _ _ rfl)) (Cy [9] ?_);obtain⟨K,ap,aq⟩:=bs ao;refine zg 2 rfl (CB [bX bk #[sV V p0.1 c2,iV U,.int .u64 ((p0.2.2:Nat):Int)] 92] [(0,pV bk 0),(3,.int .u64 ((K:Nat):Int))] (fun aD ai aj=>?_) (fun ak=>?_))
 ·refine zg 5 rfl (Bz underlying92 HI rfl rfl rfl ?_);refine AA (v:= .int .u64 ((p0.2.2:Nat):Int)) rfl (fun ρ h=>Yl.load KS (h _ _ rfl) (DF (j:=0) (off:=2) aj rfl rfl)) (zg 1 rfl ?_);refine AA (v:= .int .u64 (((p0.2.2 ^^^ K) % 2 ^ 64:Nat):Int)) rfl (fun ρ h=>LF (h _ _ rfl) (h _ _ rfl)) (AA (v:= .int .u64 (((((p0.2.2 ^^^ K) % 2 ^ 64)*18397679294719823053) % 2 ^ 64:Nat):Int)) rfl (fun ρ h=>LM (h _ _ rfl) (h _ _ rfl)) ?_);refine zg 1 rfl (Bz underlying92 HI rfl rfl rfl ?_);refine BJ 0 aj HI fun W=>?_;refine zg 2 rfl (CY 11 [bk] ⟨⟨0,_,rfl⟩,trivial⟩ W fun ht=>?_);refine Bn ht rfl [0,1,2] rfl (Ce 3 ht underlying92 HI rfl rfl rfl rfl ?_);refine D2 4 ht 2 0 W KS ?_;refine Bn ht rfl [5,6] rfl (Ce 7 ht underlying92 HI rfl rfl rfl rfl ?_);refine D2 8 ht 2 0 W KS ?_;refine Bv (v:= .int .u64 ((((((p0.2.2 ^^^ K) % 2 ^ 64)*18397679294719823053) % 2 ^ 64)>>>33:Nat):Int)) 9 ht rfl rfl (fun ρ h s' hs=>I0 33 (h _ _ rfl) (h _ _ rfl) (by decide)) (Bv (v:= .int .u64 (((((((p0.2.2 ^^^ K) % 2 ^ 64)*18397679294719823053) % 2 ^ 64) ^^^ (((((p0.2.2 ^^^ K) % 2 ^ 64)*18397679294719823053) % 2 ^ 64)>>>33)) % 2 ^ 64:Nat):Int)) 10 ht rfl rfl (fun ρ h s' hs=>LF (h _ _ rfl) (h _ _ rfl)) ?_);refine Cy [11,12,13] (zg 1 rfl ?_);refine Bz underlying92 HI rfl rfl rfl (BJ 0 W HI fun al=>?_);refine zg 5 rfl (Bz underlying92 HI rfl rfl rfl ?_);refine AA (v:= .int .u64 (((((((p0.2.2 ^^^ K) % 2 ^ 64)*18397679294719823053) % 2 ^ 64) ^^^ (((((p0.2.2 ^^^ K) % 2 ^ 64)*18397679294719823053) % 2 ^ 64)>>>33)) % 2 ^ 64:Nat):Int)) rfl (fun ρ h=>Yl.load KS (h _ _ rfl) (DF (j:=0) (off:=2) al rfl rfl)) (AA (v:= .int .u64 (((((((((p0.2.2 ^^^ K) % 2 ^ 64)*18397679294719823053) % 2 ^ 64) ^^^ (((((p0.2.2 ^^^ K) % 2 ^ 64)*18397679294719823053) % 2 ^ 64)>>>33)) % 2 ^ 64)*14181476777654086739) % 2 ^ 64:Nat):Int)) rfl (fun ρ h=>LM (h _ _ rfl) (h _ _ rfl)) ?_);refine zg 6 rfl (AA (v:= .int .u64 ((((((((((p0.2.2 ^^^ K) % 2 ^ 64)*18397679294719823053) % 2 ^ 64) ^^^ (((((p0.2.2 ^^^ K) % 2 ^ 64)*18397679294719823053) % 2 ^ 64)>>>33)) % 2 ^ 64)*14181476777654086739) % 2 ^ 64)>>>29:Nat):Int)) rfl (fun ρ h=>I0 29 (h _ _ rfl) (h _ _ rfl) (by decide)) ?_);refine AA (v:= .int .u64 (((((((((((p0.2.2 ^^^ K) % 2 ^ 64)*18397679294719823053) % 2 ^ 64) ^^^ (((((p0.2.2 ^^^ K) % 2 ^ 64)*18397679294719823053) % 2 ^ 64)>>>33)) % 2 ^ 64)*14181476777654086739) % 2 ^ 64) ^^^ (((((((((p0.2.2 ^^^ K) % 2 ^ 64)*18397679294719823053) % 2 ^ 64) ^^^ (((((p0.2.2 ^^^ K) % 2 ^ 64)*18397679294719823053) % 2 ^ 64)>>>33)) % 2 ^ 64)*14181476777654086739) % 2 ^ 64)>>>29)) % 2 ^ 64:Nat):Int)) rfl (fun ρ h=>LF (h _ _ rfl) (h _ _ rfl)) (AA (v:= .int .u64 ((((((((((((p0.2.2 ^^^ K) % 2 ^ 64)*18397679294719823053) % 2 ^ 64) ^^^ (((((p0.2.2 ^^^ K) % 2 ^ 64)*18397679294719823053) % 2 ^ 64)>>>33)) % 2 ^ 64)*14181476777654086739) % 2 ^ 64) ^^^ (((((((((p0.2.2 ^^^ K) % 2 ^ 64)*18397679294719823053) % 2 ^ 64) ^^^ (((((p0.2.2 ^^^ K) % 2 ^ 64)*18397679294719823053) % 2 ^ 64)>>>33)) % 2 ^ 64)*14181476777654086739) % 2 ^ 64)>>>29)) % 2 ^ 64)>>>11:Nat):Int)) rfl (fun ρ h=>I0 11 (h _ _ rfl) (h _ _ rfl) (by decide)) ?_);refine zg 2 rfl ?_;obtain rfl:=oi aq;exact AP func100 rfl rfl (am ai rfl ⟨V,c2,rfl,rfl,(Z.Ai ai)⟩ al)
 ·refine AX ap (fun ar au=>?_) (fun ar av=>?_)
  ·refine CY 14 [bk] ⟨⟨0,_,rfl⟩,trivial⟩ O fun ht=>Bn ht rfl [0,1,2] rfl (Ce 3 ht underlying92 BL rfl rfl rfl rfl ?_);refine D2 4 ht 0 0 O Df ?_;refine Bn ht rfl [5,6] rfl (Ce 7 ht underlying92 AU rfl rfl rfl rfl ?_);refine D2 8 ht 1 0 O Bq ?_;obtain⟨aE,aw,ay⟩:=bs au;refine Bv 9 ht rfl rfl (fun ρ h s' hs=>Du (h _ _ rfl) (h _ _ rfl) aw) ?_;obtain⟨Y,az,aA⟩:=bs ay;refine Ei 10 Z az ht underlying28 AU ?_;rintro aF aG _ rfl aB;refine JG.lp 11 ht 0 aB O ⟨⟨0,_,rfl⟩,trivial⟩ Bq ?_;refine Bv (v:= .int .u64 ((CX Y:Nat):Int)) 12 ht rfl rfl (fun ρ h s' hs=>Yl.CX underlying3 underlying90 (h _ _ rfl)) (Bv (v:= .int .u64 ((((CX Y)*14029467366897019727) % 2 ^ 64:Nat):Int)) 13 ht rfl rfl (fun ρ h s' hs=>LM (h _ _ rfl) (h _ _ rfl)) ?_);refine Cy [14,15] (AA (v:= .int .u64 ((((((CX U)*11400714819323198485) % 2 ^ 64) ^^^ (((CX Y)*14029467366897019727) % 2 ^ 64)) % 2 ^ 64:Nat):Int)) rfl (fun ρ h=>LF (h _ _ rfl) (h _ _ rfl)) ?_);refine zg 2 rfl ?_;obtain rfl:=oi aA;exact ak Ap O rfl
  ·refine JL.skip ?_;obtain rfl:=oi av;exact ak Ap O rfl
def f41(fuel:Nat)(p0:BF)(p1:Int):Option (Int×(BF)):= (f100 fuel p0).bind fun K=> if p1<1 then(some (0,K.2)) else((Mt K.1 ((CX p1+1) % 2 ^ 64)).bind fun O=> some (KF O,K.2))
theorem Ha{bk:Nat}{K:Ao}{c2:Nat}{p0:BF}{p1:Int}(ai:An rI E K c2 p0.1){fuel:Nat}{r:Int×(BF)}(O:f41 fuel p0 p1=some r):AR J 41 [pV bk 0,iV p1] E [(bk,.cells #[sV K p0.1 c2,iV p0.2.1,.int .u64 ((p0.2.2:Nat):Int)] 92 (0,0))] (fun w E' B'=>∃(U:Ao) (V:Nat),w=iV r.1∧B'= [(bk,.cells #[sV U r.2.1 V,iV r.2.2.1,.int .u64 ((r.2.2.2:Nat):Int)] 92 (0,0))]∧An rI E' U V r.2.1):=by
 refine Bg func41 fun Q ar cs H aj W=>?_;unfold f41 at O;obtain⟨au,ak,al⟩:=bs O;refine zg 7 rfl (BS 0 (V6 ai ak) rfl rfl (A5 func100 rfl) aj rfl ?_);rintro _ av _ Y ⟨Z,aa,rfl,rfl,ab⟩ ae;refine zg 8 rfl (AX al (fun am an=>?_) (fun am ao=>?_))
 ·refine zg 4 rfl ?_;obtain rfl:=oi an;exact AP func41 rfl rfl (W Y rfl ⟨Z,aa,rfl,rfl,ab⟩ ae)
 ·refine zg 5 rfl (AA (v:= .int .u64 ((CX p1:Nat):Int)) rfl (fun ρ h=>Yl.CX underlying3 underlying90 (h _ _ rfl)) ?_);refine AA (v:= .int .u64 (((CX p1+1) % 2 ^ 64:Nat):Int)) rfl (fun ρ h=>Ve (h _ _ rfl) (h _ _ rfl)) ?_;obtain⟨ah,ap,aq⟩:=bs ao;refine AA (v:= .int .u64 ((ah:Nat):Int)) rfl (fun ρ h=>Ug (h _ _ rfl) (h _ _ rfl) ap) (AA (v:=iV (KF ah)) rfl (fun ρ h=>VW underlying90 underlying3 (h _ _ rfl)) ?_);refine zg 2 rfl ?_;obtain rfl:=oi aq;exact AP func41 rfl rfl (W Y rfl ⟨Z,aa,rfl,rfl,ab⟩ ae)
def f96(fuel:Nat)(p0:BF)(p1:Int)(p2:Int):Option (Int×(BF)):= (Au (p2 - p1)).bind fun O=> (f41 fuel p0 O).bind fun K=> (Au (p1+K.1)).bind fun U=> some (U,K.2)
theorem N4{bk:Nat}{K:Ao}{c2:Nat}{p0:BF}{p1:Int}{p2:Int}(W:An rI E K c2 p0.1){fuel:Nat}{r:Int×(BF)}(O:f96 fuel p0 p1 p2=some r):AR J 96 [pV bk 0,iV p1,iV p2] E [(bk,.cells #[sV K p0.1 c2,iV p0.2.1,.int .u64 ((p0.2.2:Nat):Int)] 92 (0,0))] (fun w E' B'=>∃(U:Ao) (V:Nat),w=iV r.1∧B'= [(bk,.cells #[sV U r.2.1 V,iV r.2.2.1,.int .u64 ((r.2.2.2:Nat):Int)] 92 (0,0))]∧An rI E' U V r.2.1):=by
 refine Bg func96 fun Q ap cs H Y Z=>?_;unfold f96 at O;obtain⟨aq,aa,ab⟩:=bs O;refine zg 10 rfl (BX aa rfl rfl rfl ?_);obtain⟨ar,ae,ah⟩:=bs ab;refine BS 0 (Ha W ae) rfl rfl GX Y rfl ?_;rintro _ au _ ai ⟨aj,ak,rfl,rfl,al⟩ am;obtain⟨av,an,ao⟩:=bs ah;refine Bh an rfl rfl rfl (zg 2 rfl ?_);obtain rfl:=oi ao;exact AP func96 rfl rfl (Z ai rfl ⟨aj,ak,rfl,rfl,al⟩ am)
def f97(fuel:Nat)(p0:BF)(p1:Int):Option (Bool×(BF)):= (Au (p1 - 1)).bind fun O=> (f41 fuel p0 O).bind fun K=> some (decide (K.1=0),K.2)
theorem Kj{bk:Nat}{K:Ao}{c2:Nat}{p0:BF}{p1:Int}(W:An rI E K c2 p0.1){fuel:Nat}{r:Bool×(BF)}(O:f97 fuel p0 p1=some r):AR J 97 [pV bk 0,iV p1] E [(bk,.cells #[sV K p0.1 c2,iV p0.2.1,.int .u64 ((p0.2.2:Nat):Int)] 92 (0,0))] (fun w E' B'=>∃(U:Ao) (V:Nat),w= .bool r.1∧B'= [(bk,.cells #[sV U r.2.1 V,iV r.2.2.1,.int .u64 ((r.2.2.2:Nat):Int)] 92 (0,0))]∧An rI E' U V r.2.1):=by
 refine Bg func97 fun Q an cs H Y Z=>?_;unfold f97 at O;obtain⟨ao,aa,ab⟩:=bs O;refine zg 8 rfl (BX aa rfl rfl rfl ?_);obtain⟨ap,ae,ah⟩:=bs ab;refine BS 0 (Ha W ae) rfl rfl GX Y rfl ?_;rintro _ aq _ ai ⟨aj,ak,rfl,rfl,al⟩ am;refine zg 3 rfl ?_;obtain rfl:=oi ah;exact AP func97 rfl rfl (Z ai rfl ⟨aj,ak,rfl,rfl,al⟩ am)
def f99(fuel:Nat)(p0:BF)(p1:List Int):Option (Int×(BF)):= (Au ((p1.length:Int) - 1)).bind fun O=> (f41 fuel p0 O).bind fun K=> (ix p1 K.1).bind fun U=> some (U,K.2)
theorem Mm{bk:Nat}{K:Ao}{c2:Nat}{O:Ao}{U:Nat}{p0:BF}{p1:List Int}(aa:An rI E K c2 p0.1)(ab:An rI E O U p1){fuel:Nat}{r:Int×(BF)}(V:f99 fuel p0 p1=some r):AR J 99 [pV bk 0,sV O p1 U] E [(bk,.cells #[sV K p0.1 c2,iV p0.2.1,.int .u64 ((p0.2.2:Nat):Int)] 92 (0,0))] (fun w E' B'=>∃(W:Ao) (Y:Nat),w=iV r.1∧B'= [(bk,.cells #[sV W r.2.1 Y,iV r.2.2.1,.int .u64 ((r.2.2.2:Nat):Int)] 92 (0,0))]∧An rI E' W Y r.2.1):=by
 refine Bg func99 fun Q av cs H ae ah=>?_;unfold f99 at V;refine zg 9 rfl (BA underlying28 rfl rfl rfl ?_);obtain⟨aw,ai,aj⟩:=bs V;refine BX ai rfl rfl rfl ?_;obtain⟨ay,ak,al⟩:=bs aj;refine BS 0 (Ha aa ak) rfl rfl GX ae rfl ?_;rintro _ az _ Z ⟨am,an,rfl,rfl,ao⟩ ap;obtain⟨aA,aq,ar⟩:=bs al;refine Cj (ab.Ai Z) aq underlying28 AU ?_;rintro aB aC _ rfl au;refine B4 0 au Bq rfl rfl rfl (zg 2 rfl ?_);obtain rfl:=oi ar;exact AP func99 rfl rfl (ah Z rfl ⟨am,an,rfl,rfl,ao⟩ ap)
def I8(fuel:Nat)(p0:List Int)(p1:Int)(K:(List Int)×Bool×Int):Option (Bj ((List Int)×Bool×Int) ((List Int)×Bool)):= if K.2.2<(p0.length:Int) then((ix p0 K.2.2).bind fun U=> Option.bind (if p1≤U then(some (!K.2.1)) else(some false)) fun V=> Option.bind (if V=true then((room K.1 p1).bind fun W=> some (W,true)) else(some (K.1,K.2.1))) fun O=> (ix p0 K.2.2).bind fun Y=> Option.bind (if Y≠p1 then((ix p0 K.2.2).bind fun Z=> (room O.1 Z).bind fun aa=> some aa) else(some O.1)) fun ab=> (Au (K.2.2+1)).bind fun ae=> some (.more (ab,O.2,ae))) else(some (.done (K.1,K.2.1)))
def f98(fuel:Nat)(p0:List Int)(p1:Int):Option ((List Int)):= Option.bind (iter (I8 fuel p0 p1) fuel ([],false,0)) fun K=> Option.bind (if(!K.2)=true then((room K.1 p1).bind fun O=> some O) else(some K.1)) fun U=> some U
theorem Rn{W:Ao}{c2:Nat}{p0:List Int}{p1:Int}(az:An rI E W c2 p0){fuel:Nat}{r:(List Int)}(aH:f98 fuel p0 p1=some r):AR J 98 [sV W p0 c2,iV p1] E [] (fun w E' B'=>∃(aI:Ao) (aJ:Nat),w= sV aI r aJ∧B'= []∧An rI E' aI aJ r):=by
 refine Bg func98 fun Q cd cs H aV aW=>?_;unfold f98 at aH;obtain⟨an,aX,aY⟩:=bs aH;refine zg 17 rfl (Bu (fun L s=>∃(Y:LH) (ab:Ao) (ae:Nat) (ao:Seg),Jn E H Y [ao] [(1,iV p1),(5,sV ab an.1 ae),(6,.bool an.2)] L s (OL 3 rI Y ab ae ao an.1)) ?_ ?_)
 ·rintro _ _ ⟨Y,ab,ae,ao,rfl,rfl,aZ,aK,aL⟩;refine zg 4 rfl (AA (v:= .bool (!an.2)) rfl (fun ρ h=>Yl.not (h _ _ rfl)) ?_);obtain⟨aM,a0,a1⟩:=bs aY;refine JL.done (Bu (fun L s=>∃(aA:LH) (ap:Ao) (aq:Nat) (aB:Seg),Jn Y H aA [aB] [(5,sV ap aM aq)] L s (OL 3 rI aA ap aq aB aM)) ?_ ?_)
  ·rintro _ _ ⟨aA,ap,aq,aB,rfl,rfl,a2,a3,a4⟩;refine zg 5 rfl (Cf 0 a4 a3 rfl fun ce a5 a6 a7=>?_);obtain rfl:=oi a1;exact AP func98 rfl rfl (aW ((aZ.Ab a2).Ab a5) rfl ⟨ap,aq,rfl,rfl,a6⟩ a7)
  ·intro aN;refine BP a0 (fun a8 a9=>?_) (fun a8 ba=>?_)
   ·obtain⟨cf,bb,bc⟩:=bs a9;refine zg 3 rfl (JS.app (pp:=rI) (v:=iV p1) (a:=ab) (c:=ae) 0 bb rfl rfl rfl rfl (fun _=>rfl) rfl (fun _=>rfl) rfl rfl rfl underlying28 underlying28 underlying28 AU (Cs type3) Cp rfl (by decide) (by decide) (by decide) (by decide) aL rfl aK rfl fun cg bd be bf bg bh=>?_);refine zg 2 rfl ?_;obtain rfl:=oi bc;exact Az (aN _ _ ⟨Y,bd,be,bf,rfl,rfl,Ap,bh,bg⟩) rfl
   ·refine JL.skip ?_;obtain rfl:=oi ba;exact Az (aN _ _ ⟨Y,ab,ae,ao,rfl,rfl,Ap,aK,aL⟩) rfl
 ·intro bi;refine JL.block (CM aX (fun L s K=>∃(O:LH) (U:Ao) (V:Nat) (Z:Seg),Jn E H O [Z] [(0,sV W p0 c2),(1,iV p1),(5,sV U K.1 V),(6,.bool K.2.1),(7,iV K.2.2)] L s (OL 3 rI O U V Z K.1)) ⟨E,none,0,[],rfl,rfl,Ap,aV,OL.nil⟩ ?_);rintro _ _ K ⟨O,U,V,Z,rfl,rfl,ah,aC,aD⟩ bj ⟨ci,aE⟩ bl;have aO:=aE;unfold I8 at aO;refine zg 5 rfl (BA underlying28 rfl rfl rfl ?_);refine zg 2 rfl (AX aO (fun bm bn=>?_) (fun bm bo=>?_))
  ·obtain⟨ck,bp,bq⟩:=bs bn;refine zg 8 rfl (Cj (az.Ai ah) bp underlying28 AU ?_);rintro cm cn _ rfl br;refine B4 0 br Bq rfl rfl rfl ?_;obtain⟨bu,bv,bw⟩:=bs bq;refine zg 3 rfl (FG [] (fun L s=>∃(ai:LH),Jm O H ai [Z] [(0,sV W p0 c2),(1,iV p1),(5,sV U K.1 V),(6,.bool K.2.1),(7,iV K.2.2),(23,.bool bu)] L s) ?_ ?_)
   ·rintro _ _ ⟨ai,rfl,rfl,aj,aP⟩;obtain⟨ak,bx,bz⟩:=bs bw;refine JL.done (Bu (fun L s=>∃(aa:LH) (al:Ao) (am:Nat) (ar:Seg),Jn ai H aa [ar] [(0,sV W p0 c2),(1,iV p1),(5,sV al ak.1 am),(6,.bool ak.2),(7,iV K.2.2)] L s (OL 3 rI aa al am ar ak.1)) ?_ ?_)
    ·rintro _ _ ⟨aa,al,am,ar,rfl,rfl,aF,aQ,aR⟩;obtain⟨co,bA,bB⟩:=bs bz;refine zg 4 rfl (Cj (az.Ai ((ah.Ab aj).Ab aF)) bA underlying28 AU ?_);rintro cp cq _ rfl bC;refine B4 0 bC Bq rfl rfl rfl ?_;obtain⟨aG,bD,bE⟩:=bs bB;refine zg 3 rfl (Bu (fun L s=>∃(au:LH) (av:Ao) (aw:Nat) (ay:Seg),Jn aa H au [ay] [(0,sV W p0 c2),(1,iV p1),(5,sV av aG aw),(6,.bool ak.2),(7,iV K.2.2)] L s (OL 3 rI au av aw ay aG)) ?_ ?_)
     ·rintro _ _ ⟨au,av,aw,ay,rfl,rfl,bF,bG,bH⟩;obtain⟨bI,bJ,bK⟩:=bs bE;refine zg 3 rfl (Bh bJ rfl rfl rfl ?_);refine zg 2 rfl ?_;obtain rfl:=oi bK;exact Az (bl _ _ (aG,ak.2,bI) ⟨au,av,aw,ay,rfl,rfl,(((ah.Ab aj).Ab aF).Ab bF),bG,bH⟩ aE) rfl
     ·intro aS;refine AX bD (fun bL bM=>?_) (fun bL bN=>?_)
      ·obtain⟨bO,bP,bQ⟩:=bs bM;refine zg 4 rfl (Cj (az.Ai ((ah.Ab aj).Ab aF)) bP underlying28 AU ?_);rintro cr ct _ rfl bR;refine B4 0 bR Bq rfl rfl rfl ?_;obtain⟨cu,bS,bT⟩:=bs bQ;refine JS.app (pp:=rI) (v:=iV bO) (a:=al) (c:=am) 0 bS rfl rfl rfl rfl (fun _=>rfl) rfl (fun _=>rfl) rfl rfl rfl underlying28 underlying28 underlying28 AU (Cs type3) Cp rfl (by decide) (by decide) (by decide) (by decide) aR rfl aQ rfl fun cv bU bV bW bY bZ=>zg 2 rfl ?_;obtain rfl:=oi bT;exact Az (aS _ _ ⟨aa,bU,bV,bW,rfl,rfl,Ap,bZ,bY⟩) rfl
      ·refine JL.skip ?_;obtain rfl:=oi bN;exact Az (aS _ _ ⟨aa,al,am,ar,rfl,rfl,Ap,aQ,aR⟩) rfl
    ·intro aT;refine BP bx (fun b0 b1=>?_) (fun b0 b2=>?_)
     ·obtain⟨cw,b3,b4⟩:=bs b1;refine zg 3 rfl (JS.app (pp:=rI) (v:=iV p1) (a:=U) (c:=V) 0 b3 rfl rfl rfl rfl (fun _=>rfl) rfl (fun _=>rfl) rfl rfl rfl underlying28 underlying28 underlying28 AU (Cs type3) Cp rfl (by decide) (by decide) (by decide) (by decide) (aD.Ai aj) rfl aP rfl fun cy b5 b6 b7 b8 b9=>?_);refine zg 3 rfl ?_;obtain rfl:=oi b4;exact Az (aT _ _ ⟨ai,b5,b6,b7,rfl,rfl,Ap,b9,b8⟩) rfl
     ·refine JL.skip ?_;obtain rfl:=oi b2;exact Az (aT _ _ ⟨ai,U,V,Z,rfl,rfl,Ap,aP,(aD.Ai aj)⟩) rfl
   ·intro aU;refine Ex 20 bv (fun ca cb=>?_) (fun ca cc=>?_)
    ·refine zg 1 rfl (AA (v:= .bool (!K.2.1)) rfl (fun ρ h=>Yl.not (h _ _ rfl)) ?_);refine zg 1 rfl ?_;obtain rfl:=oi cb;exact Az (aU _ _ ⟨O,rfl,rfl,Ap,aC⟩) rfl
    ·refine zg 3 rfl ?_;obtain rfl:=oi cc;exact Az (aU _ _ ⟨O,rfl,rfl,Ap,aC⟩) rfl
  ·refine JL.exit rfl ?_;obtain rfl:=oi bo;obtain rfl:=bj _ aE;exact Az (bi _ _ ⟨O,U,V,Z,rfl,rfl,ah,aC,aD⟩) rfl
def f27(fuel:Nat)(p0:AT):Option ((AT)):= (DC ([]:AT) p0).bind fun K=> some K
def L2(fuel:Nat)(p1:Int)(K:(List Int)×Int×Nat×(List Int)×Int):Option (Bj ((List Int)×Int×Nat×(List Int)×Int) ((List Int)×BF)):= if K.2.2.2.2<p1 then((f41 fuel (K.1,K.2.1,K.2.2.1) K.2.2.2.2).bind fun O=> (room K.2.2.2.1 K.2.2.2.2).bind fun U=> (ix U O.1).bind fun V=> (ix U K.2.2.2.2).bind fun Y=> (ix (U.set (Int.toNat K.2.2.2.2) V) O.1).bind fun Z=> (Au (K.2.2.2.2+1)).bind fun W=> some (.more (O.2.1,O.2.2.1,O.2.2.2,((U.set (Int.toNat K.2.2.2.2) V).set (Int.toNat O.1) K.2.2.2.2),W))) else(some (.done (K.2.2.2.1,K.1,K.2.1,K.2.2.1)))
def f56(fuel:Nat)(p0:BF)(p1:Int):Option ((List Int)×(BF)):= Option.bind (iter (L2 fuel p1) fuel (p0.1,p0.2.1,p0.2.2,[],0)) fun K=> some K
theorem W2{bk:Nat}{ar:Ao}{c2:Nat}{p0:BF}{p1:Int}(aR:An rI E ar c2 p0.1){fuel:Nat}{r:(List Int)×(BF)}(az:f56 fuel p0 p1=some r):AR J 56 [pV bk 0,iV p1] E [(bk,.cells #[sV ar p0.1 c2,iV p0.2.1,.int .u64 ((p0.2.2:Nat):Int)] 92 (0,0))] (fun w E' B'=>∃(aA:Ao) (aB:Nat) (aC:Ao) (aD:Nat),w= sV aA r.1 aB∧B'= [(bk,.cells #[sV aC r.2.1 aD,iV r.2.2.1,.int .u64 ((r.2.2.2:Nat):Int)] 92 (0,0))]∧An rI E' aA aB r.1∧An rI E' aC aD r.2.1):=by
 refine Bg func56 fun Q bG cs H aS aT=>?_;unfold f56 at az;obtain⟨Z,aU,aV⟩:=bs az;refine zg 13 rfl (Bu (fun L s=>∃(aj:LH) (ak:Ao) (al:Nat) (au:Seg) (am:Ao) (an:Nat),Jn E H aj [bX bk #[sV am Z.2.1 an,iV Z.2.2.1,.int .u64 ((Z.2.2.2:Nat):Int)] 92,au] [(5,sV ak Z.1 al)] L s (OL 3 rI aj ak al au Z.1∧An rI aj am an Z.2.1)) ?_ ?_)
 ·rintro _ _ ⟨aj,ak,al,au,am,an,rfl,rfl,aW,aX,aY,aZ⟩;refine zg 5 rfl (Cf 1 aY aX rfl fun bH aE a0 a1=>?_);obtain rfl:=oi aV;exact AP func56 rfl rfl (aT (aW.Ab aE) rfl ⟨ak,al,am,an,rfl,rfl,a0,(aZ.Ai aE)⟩ a1)
 ·intro a2;refine JL.block (CM aU (fun L s K=>∃(aa:LH) (ao:Ao) (ap:Nat) (ab:Ao) (ae:Nat) (aq:Seg),Jn E H aa [bX bk #[sV ao K.1 ap,iV K.2.1,.int .u64 ((K.2.2.1:Nat):Int)] 92,aq] [(0,pV bk 0),(1,iV p1),(5,sV ab K.2.2.2.1 ae),(6,iV K.2.2.2.2)] L s (An rI aa ao ap K.1∧OL 3 rI aa ab ae aq K.2.2.2.1)) ⟨E,ar,c2,none,0,[],rfl,rfl,Ap,aS,aR,OL.nil⟩ ?_);rintro _ _ K ⟨aa,ao,ap,ab,ae,aq,rfl,rfl,aF,aG,aH,aI⟩ a3 ⟨bI,av⟩ a4;have aJ:=av;unfold L2 at aJ;refine zg 7 rfl (AX aJ (fun a5 a6=>?_) (fun a5 a7=>?_))
  ·obtain⟨U,a8,a9⟩:=bs a6;refine zg 7 rfl (BS 0 (Ha aH a8) rfl rfl GX aG rfl ?_);rintro _ ba _ aK ⟨bb,bc,rfl,rfl,bd⟩ be;obtain⟨V,bf,bg⟩:=bs a9;refine zg 6 rfl (JS.app (pp:=rI) (v:=iV K.2.2.2.2) (a:=ab) (c:=ae) 1 bf rfl rfl rfl rfl (fun _=>rfl) rfl (fun _=>rfl) rfl rfl rfl underlying28 underlying28 underlying28 AU (Cs type3) Cp rfl (by decide) (by decide) (by decide) (by decide) (aI.Ai aK) rfl be rfl fun bJ W Y bK aL aM=>?_);obtain⟨O,bh,bi⟩:=bs bg;refine zg 9 rfl (Ir 1 aL bh rfl rfl rfl rfl rfl rfl underlying28 AU ?_);rintro aN aO f77 _ bj rfl bl bL bM bN bO;refine AA (v:=iV O) rfl (fun ρ h=>Yl.load Bq (h _ _ rfl) (DF (j:=1) aM bj (bl 0 _ rfl))) ?_;obtain⟨bP,bm,bn⟩:=bs bi;refine zg 1 rfl (Ir 1 aL bm rfl rfl rfl rfl rfl rfl underlying28 AU ?_);rintro aP aw f88 _ bo rfl bQ bp bq bR bS;refine JS.store (v:=iV O) (off:=aw) 1 rfl rfl rfl aM rfl rfl AU (by simp [Value.cells,CK]) bo (by have:=bp;simp only [Rp.n,rK,rN,rB,rP,rL] at this;show _+1≤_;omega) fun br=>?_;have bu:=bq O [iV O] rfl;have ah:(V.set (Int.toNat K.2.2.2.2) O).length=V.length:=List.length_set;refine GD (L':= [(0,pV bk 0),(1,iV p1),(6,iV K.2.2.2.2),(8,iV K.2.2.2.2),(9,iV p1),(10,.bool (decide (K.2.2.2.2<p1))),(13,pV bk 0),(14,iV K.2.2.2.2),(15,iV U.1),(7,iV U.1),(17,iV K.2.2.2.2),(19,.slice W ((V.set (Int.toNat K.2.2.2.2) O)).length Y),(5,.slice W ((V.set (Int.toNat K.2.2.2.2) O)).length Y),(20,.slice W ((V.set (Int.toNat K.2.2.2.2) O)).length Y),(21,iV K.2.2.2.2),(22,.slice W ((V.set (Int.toNat K.2.2.2.2) O)).length Y),(23,iV U.1),(24,.slice W ((V.set (Int.toNat K.2.2.2.2) O)).length Y),(25,iV U.1),(26,pV aN aO),(27,iV O),(28,iV K.2.2.2.2),(29,pV aP aw)]) ⟨rfl,rfl,rfl,rfl,rfl,rfl,rfl,rfl,rfl,rfl,rfl,by rw [ah];rfl,by rw [ah];rfl,by rw [ah];rfl,rfl,by rw [ah];rfl,rfl,by rw [ah];rfl,rfl,rfl,rfl,rfl,rfl,trivial⟩ ?_;obtain⟨bT,bv,bw⟩:=bs bn;refine Ir 1 bu bv rfl rfl rfl rfl rfl rfl underlying28 AU ?_;rintro aQ ay f102 _ bx rfl bU bz bA bV bW;refine JS.store (v:=iV K.2.2.2.2) (off:=ay) 1 rfl rfl rfl br rfl rfl AU (by simp [Value.cells,CK]) bx (by have:=bz;simp only [Rp.n,rK,rN,rB,rP,rL] at this;show _+1≤_;omega) fun bB=>?_;have bC:=bA K.2.2.2.2 [iV K.2.2.2.2] rfl;have ai:((V.set (Int.toNat K.2.2.2.2) O).set (Int.toNat U.1) K.2.2.2.2).length=((V.set (Int.toNat K.2.2.2.2) O)).length:=List.length_set;refine GD (L':= [(0,pV bk 0),(1,iV p1),(6,iV K.2.2.2.2),(8,iV K.2.2.2.2),(9,iV p1),(10,.bool (decide (K.2.2.2.2<p1))),(13,pV bk 0),(14,iV K.2.2.2.2),(15,iV U.1),(7,iV U.1),(17,iV K.2.2.2.2),(19,.slice W (((V.set (Int.toNat K.2.2.2.2) O).set (Int.toNat U.1) K.2.2.2.2)).length Y),(5,.slice W (((V.set (Int.toNat K.2.2.2.2) O).set (Int.toNat U.1) K.2.2.2.2)).length Y),(20,.slice W (((V.set (Int.toNat K.2.2.2.2) O).set (Int.toNat U.1) K.2.2.2.2)).length Y),(21,iV K.2.2.2.2),(22,.slice W (((V.set (Int.toNat K.2.2.2.2) O).set (Int.toNat U.1) K.2.2.2.2)).length Y),(23,iV U.1),(24,.slice W (((V.set (Int.toNat K.2.2.2.2) O).set (Int.toNat U.1) K.2.2.2.2)).length Y),(25,iV U.1),(26,pV aN aO),(27,iV O),(28,iV K.2.2.2.2),(29,pV aP aw),(30,pV aQ ay)]) ⟨rfl,rfl,rfl,rfl,rfl,rfl,rfl,rfl,rfl,rfl,rfl,by rw [ai];rfl,by rw [ai];rfl,by rw [ai];rfl,rfl,by rw [ai];rfl,rfl,by rw [ai];rfl,rfl,rfl,rfl,rfl,rfl,rfl,trivial⟩ ?_;obtain⟨bD,bE,bF⟩:=bs bw;refine zg 4 rfl (Bh bE rfl rfl rfl ?_);refine zg 2 rfl ?_;obtain rfl:=oi bF;exact Az (a4 _ _ (U.2.1,U.2.2.1,U.2.2.2,((V.set (Int.toNat K.2.2.2.2) O).set (Int.toNat U.1) K.2.2.2.2),bD) ⟨ba,bb,bc,W,Y,[(aQ,.cells (Ba f102 ay [iV K.2.2.2.2]) 3 (0,0))],rfl,rfl,(aF.Ab aK),bB,bd,bC⟩ av) rfl
  ·refine JL.exit rfl ?_;obtain rfl:=oi a7;obtain rfl:=a3 _ av;exact Az (a2 _ _ ⟨aa,ab,ae,aq,ao,ap,rfl,rfl,aF,aG,aI,aH⟩) rfl
def NQ(fuel:Nat)(p0:List Int)(p1:Int)(K:(List Int)×Int):Option (Bj ((List Int)×Int) ((List Int))):= Option.bind (if K.2<(p0.length:Int) then((ix p0 K.2).bind fun O=> some (decide (O<p1))) else(some false)) fun U=> if U=true then((ix p0 K.2).bind fun V=> (room K.1 V).bind fun W=> (Au (K.2+1)).bind fun Y=> some (.more (W,Y))) else(some (.done K.1))
def Mg(fuel:Nat)(p0:List Int)(p1:Int)(K:(List Int)×Int):Option (Bj ((List Int)×Int) ((List Int))):= if K.2<(p0.length:Int) then((ix p0 K.2).bind fun O=> Option.bind (if p1<O then((ix p0 K.2).bind fun U=> (room K.1 U).bind fun V=> some V) else(some K.1)) fun W=> (Au (K.2+1)).bind fun Y=> some (.more (W,Y))) else(some (.done K.1))
def f42(fuel:Nat)(p0:List Int)(p1:Int):Option ((List Int)):= Option.bind (iter (NQ fuel p0 p1) fuel ([],0)) fun K=> (room K p1).bind fun O=> Option.bind (iter (Mg fuel p0 p1) fuel (O,0)) fun U=> some U
theorem Rf{K:Ao}{c2:Nat}{p0:List Int}{p1:Int}(ak:An rI E K c2 p0){fuel:Nat}{r:(List Int)}(aI:f42 fuel p0 p1=some r):AR J 42 [sV K p0 c2,iV p1] E [] (fun w E' B'=>∃(aJ:Ao) (aK:Nat),w= sV aJ r aK∧B'= []∧An rI E' aJ aK r):=by
 refine Bg func42 fun Q cm cs H aU aV=>?_;unfold f42 at aI;obtain⟨aL,aW,aX⟩:=bs aI;refine zg 13 rfl (Bu (fun L s=>∃(U:LH) (al:Ao) (am:Nat) (az:Seg),Jn E H U [az] [(0,sV K p0 c2),(1,iV p1),(5,sV al aL am)] L s (OL 3 rI U al am az aL)) ?_ ?_)
 ·rintro _ _ ⟨U,al,am,az,rfl,rfl,aA,aY,aZ⟩;obtain⟨cn,a0,a1⟩:=bs aX;refine zg 4 rfl (JS.app (pp:=rI) (v:=iV p1) (a:=al) (c:=am) 0 a0 rfl rfl rfl rfl (fun _=>rfl) rfl (fun _=>rfl) rfl rfl rfl underlying28 underlying28 underlying28 AU (Cs type3) Cp rfl (by decide) (by decide) (by decide) (by decide) aZ rfl aY rfl fun co a2 a3 a4 a5 a6=>?_);obtain⟨aM,a7,a8⟩:=bs a1;refine zg 7 rfl (Bu (fun L s=>∃(aB:LH) (an:Ao) (ao:Nat) (aC:Seg),Jn U H aB [aC] [(5,sV an aM ao)] L s (OL 3 rI aB an ao aC aM)) ?_ ?_)
  ·rintro _ _ ⟨aB,an,ao,aC,rfl,rfl,a9,ba,bb⟩;refine zg 5 rfl (Cf 0 bb ba rfl fun cp bc bd be=>?_);obtain rfl:=oi a8;exact AP func42 rfl rfl (aV ((aA.Ab a9).Ab bc) rfl ⟨an,ao,rfl,rfl,bd⟩ be)
  ·intro bf;refine JL.block (CM a7 (fun L s ae=>∃(O:LH) (V:Ao) (W:Nat) (ah:Seg),Jn U H O [ah] [(0,sV K p0 c2),(1,iV p1),(5,sV V ae.1 W),(7,iV ae.2)] L s (OL 3 rI O V W ah ae.1)) ⟨U,a2,a3,a4,rfl,rfl,Ap,a6,a5⟩ ?_);rintro _ _ ae ⟨O,V,W,ah,rfl,rfl,ap,aD,aE⟩ bg ⟨cq,aF⟩ bh;have aN:=aF;unfold Mg at aN;refine zg 5 rfl (BA underlying28 rfl rfl rfl ?_);refine zg 2 rfl (AX aN (fun bi bj=>?_) (fun bi bl=>?_))
   ·obtain⟨cr,bm,bn⟩:=bs bj;refine zg 7 rfl (Cj (ak.Ai (aA.Ab ap)) bm underlying28 AU ?_);rintro ct cu _ rfl bo;refine B4 0 bo Bq rfl rfl rfl ?_;obtain⟨aG,bp,bq⟩:=bs bn;refine zg 3 rfl (Bu (fun L s=>∃(aq:LH) (ar:Ao) (au:Nat) (av:Seg),Jn O H aq [av] [(0,sV K p0 c2),(1,iV p1),(5,sV ar aG au),(7,iV ae.2)] L s (OL 3 rI aq ar au av aG)) ?_ ?_)
    ·rintro _ _ ⟨aq,ar,au,av,rfl,rfl,br,bu,bv⟩;obtain⟨bw,bx,bz⟩:=bs bq;refine zg 3 rfl (Bh bx rfl rfl rfl ?_);refine zg 2 rfl ?_;obtain rfl:=oi bz;exact Az (bh _ _ (aG,bw) ⟨aq,ar,au,av,rfl,rfl,(ap.Ab br),bu,bv⟩ aF) rfl
    ·intro aO;refine AX bp (fun bA bB=>?_) (fun bA bC=>?_)
     ·obtain⟨bD,bE,bF⟩:=bs bB;refine zg 4 rfl (Cj (ak.Ai (aA.Ab ap)) bE underlying28 AU ?_);rintro cv cw _ rfl bG;refine B4 0 bG Bq rfl rfl rfl ?_;obtain⟨cy,bH,bI⟩:=bs bF;refine JS.app (pp:=rI) (v:=iV bD) (a:=V) (c:=W) 0 bH rfl rfl rfl rfl (fun _=>rfl) rfl (fun _=>rfl) rfl rfl rfl underlying28 underlying28 underlying28 AU (Cs type3) Cp rfl (by decide) (by decide) (by decide) (by decide) aE rfl aD rfl fun cz bJ bK bL bM bN=>zg 2 rfl ?_;obtain rfl:=oi bI;exact Az (aO _ _ ⟨O,bJ,bK,bL,rfl,rfl,Ap,bN,bM⟩) rfl
     ·refine JL.skip ?_;obtain rfl:=oi bC;exact Az (aO _ _ ⟨O,V,W,ah,rfl,rfl,Ap,aD,aE⟩) rfl
   ·refine JL.exit rfl ?_;obtain rfl:=oi bl;obtain rfl:=bg _ aF;exact Az (bf _ _ ⟨O,V,W,ah,rfl,rfl,ap,aD,aE⟩) rfl
 ·intro bO;refine JL.block (CM aW (fun L s Y=>∃(Z:LH) (aa:Ao) (ab:Nat) (ai:Seg),Jn E H Z [ai] [(0,sV K p0 c2),(1,iV p1),(5,sV aa Y.1 ab),(6,iV Y.2)] L s (OL 3 rI Z aa ab ai Y.1)) ⟨E,none,0,[],rfl,rfl,Ap,aU,OL.nil⟩ ?_);rintro _ _ Y ⟨Z,aa,ab,ai,rfl,rfl,aw,aP,aQ⟩ bP ⟨cA,aH⟩ bQ;have aR:=aH;unfold NQ at aR;refine zg 5 rfl (BA underlying28 rfl rfl rfl ?_);obtain⟨bR,bS,bT⟩:=bs aR;refine zg 2 rfl (FG [] (fun L s=>∃(ay:LH),Jm Z H ay [ai] [(0,sV K p0 c2),(1,iV p1),(5,sV aa Y.1 ab),(6,iV Y.2),(19,.bool bR)] L s) ?_ ?_)
  ·rintro _ _ ⟨ay,rfl,rfl,aj,aS⟩;refine JL.done (BP bT (fun bU bV=>?_) (fun bU bW=>?_))
   ·obtain⟨bY,bZ,b0⟩:=bs bV;refine zg 7 rfl (Cj (ak.Ai (aw.Ab aj)) bZ underlying28 AU ?_);rintro cB cC _ rfl b1;refine B4 0 b1 Bq rfl rfl rfl ?_;obtain⟨b2,b3,b4⟩:=bs b0;refine JS.app (pp:=rI) (v:=iV bY) (a:=aa) (c:=ab) 0 b3 rfl rfl rfl rfl (fun _=>rfl) rfl (fun _=>rfl) rfl rfl rfl underlying28 underlying28 underlying28 AU (Cs type3) Cp rfl (by decide) (by decide) (by decide) (by decide) (aQ.Ai aj) rfl aS rfl fun H2 b5 b6 b7 b8 b9=>?_;obtain⟨ca,cb,cc⟩:=bs b4;refine zg 5 rfl (Bh cb rfl rfl rfl ?_);refine zg 2 rfl ?_;obtain rfl:=oi cc;exact Az (bQ _ _ (b2,ca) ⟨ay,b5,b6,b7,rfl,rfl,(aw.Ab aj),b9,b8⟩ aH) rfl
   ·refine JL.exit rfl ?_;obtain rfl:=oi bW;obtain rfl:=bP _ aH;exact Az (bO _ _ ⟨ay,aa,ab,ai,rfl,rfl,(aw.Ab aj),aS,(aQ.Ai aj)⟩) rfl
  ·intro aT;refine Ex 12 bS (fun cd ce=>?_) (fun cd cf=>?_)
   ·obtain⟨cD,cg,ci⟩:=bs ce;refine zg 2 rfl (Cj (ak.Ai aw) cg underlying28 AU ?_);rintro cE cF _ rfl ck;refine B4 0 ck Bq rfl rfl rfl (zg 3 rfl ?_);obtain rfl:=oi ci;exact Az (aT _ _ ⟨Z,rfl,rfl,Ap,aP⟩) rfl
   ·refine zg 7 rfl ?_;obtain rfl:=oi cf;exact Az (aT _ _ ⟨Z,rfl,rfl,Ap,aP⟩) rfl
def f71(fuel:Nat):Option ((BH)):= some (([([1]:List Int),([2]:List Int),([3,4]:List Int),([4]:List Int),([5]:List Int),([5]:List Int)]:List (List Int)),([[],[],[],([2]:List Int),([2,3]:List Int),([3,4]:List Int)]:List (List Int)))
theorem HY{fuel:Nat}{r:(BH)}(ak:f71 fuel=some r):AR J 71 [] E [] (fun w E' B'=>∃(al:Ao) (am:Nat) (an:Ao) (ao:Nat),w= .agg #[sV al r.1 am,sV an r.2 ao]∧B'= []∧An (rL rI) E' al am r.1∧An (rL rI) E' an ao r.2):=by
 refine Bg func71 fun Q bM cs H aB aC=>?_;unfold f71 at ak;refine zg 2 rfl (Cz aB EP fun K aD=>?_);refine zg 3 rfl (JS.lit (pp:=rI) [iV 1] [1] rfl rfl rfl underlying28 AU Cp (by decide) rfl rfl rfl ⟨rfl,trivial⟩ aD fun aE ap aF aG=>?_);refine JS.lit (pp:=rI) [iV 2] [2] rfl rfl rfl underlying28 AU Cp (by decide) rfl rfl rfl ⟨rfl,trivial⟩ aG fun aH aq aI aJ=>BR (S':= [[],[(K,.cells #[nS,nS] 24 (0,0))],ap,aq]) rfl aJ fun aK=>JS.lit (pp:=rI) [iV 3,iV 4] [3,4] rfl rfl rfl underlying28 AU Cp (by decide) rfl rfl rfl ⟨rfl,rfl,trivial⟩ aK fun aL ar aM aN=>JS.lit (pp:=rI) [iV 4] [4] rfl rfl rfl underlying28 AU Cp (by decide) rfl rfl rfl ⟨rfl,trivial⟩ aN fun aO au aP aQ=>JS.lit (pp:=rI) [iV 5] [5] rfl rfl rfl underlying28 AU Cp (by decide) rfl rfl rfl ⟨rfl,trivial⟩ aQ fun aR av aS aT=>BR (S':= [[],[(K,.cells #[nS,nS] 24 (0,0))],ap,aq,ar,au,av]) rfl aT fun aU=>JS.lit (pp:=rI) [iV 5] [5] rfl rfl rfl underlying28 AU Cp (by decide) rfl rfl rfl ⟨rfl,trivial⟩ aU fun aV aw aW aX=>Cf 2 aF aX rfl fun bN O aY aZ=>Cf 3 (aI.Ai O) aZ rfl fun bO U a0 a1=>BR (S':= [[],[(K,.cells #[nS,nS] 24 (0,0))],[],[],ar,au,av,aw]) rfl a1 fun a2=>Cf 4 (aM.Ai (O.Ab U)) a2 rfl fun bP V a3 a4=>Cf 5 (aP.Ai ((O.Ab U).Ab V)) a4 rfl fun bQ W a5 a6=>Cf 6 (aS.Ai (((O.Ab U).Ab V).Ab W)) a6 rfl fun bR Y a7 a8=>BR (S':= [[],[(K,.cells #[nS,nS] 24 (0,0))],[],[],[],[],[],aw]) rfl a8 fun a9=>Cf 7 (aW.Ai ((((O.Ab U).Ab V).Ab W).Ab Y)) a9 rfl fun bS Z ba bb=>JS.lit (pp:=(rL rI)) [.slice (AV aE) (([1]:List Int)).length 1,.slice (AV aH) (([2]:List Int)).length 1,.slice (AV aL) (([3,4]:List Int)).length 2,.slice (AV aO) (([4]:List Int)).length 1,.slice (AV aR) (([5]:List Int)).length 1,.slice (AV aV) (([5]:List Int)).length 1] [([1]:List Int),([2]:List Int),([3,4]:List Int),([4]:List Int),([5]:List Int),([5]:List Int)] rfl rfl rfl underlying22 BL DL (by decide) rfl rfl rfl ⟨⟨_,_,rfl,(aY.Ai ((((U.Ab V).Ab W).Ab Y).Ab Z))⟩,⟨_,_,rfl,(a0.Ai (((V.Ab W).Ab Y).Ab Z))⟩,⟨_,_,rfl,(a3.Ai ((W.Ab Y).Ab Z))⟩,⟨_,_,rfl,(a5.Ai (Y.Ab Z))⟩,⟨_,_,rfl,(a7.Ai Z)⟩,⟨_,_,rfl,ba⟩,trivial⟩ bb fun aa aj bc bd=>JS.lit (pp:=rI) [iV 2] [2] rfl rfl rfl underlying28 AU Cp (by decide) rfl rfl rfl ⟨rfl,trivial⟩ bd fun be bf bg bh=>BR (S':= [[],[(K,.cells #[nS,nS] 24 (0,0))],[],[],[],[],[],[],aj,bf]) rfl bh fun bi=>JS.lit (pp:=rI) [iV 2,iV 3] [2,3] rfl rfl rfl underlying28 AU Cp (by decide) rfl rfl rfl ⟨rfl,rfl,trivial⟩ bi fun bj bl bm bn=>JS.lit (pp:=rI) [iV 3,iV 4] [3,4] rfl rfl rfl underlying28 AU Cp (by decide) rfl rfl rfl ⟨rfl,rfl,trivial⟩ bn fun bo bp bq br=>Cf 9 bg br rfl fun bT ae bu bv=>?_;refine BR (S':= [[],[(K,.cells #[nS,nS] 24 (0,0))],[],[],[],[],[],[],aj,[],bl,bp]) rfl bv fun bw=>Cf 10 (bm.Ai ae) bw rfl fun bU ah bx bz=>Cf 11 (bq.Ai (ae.Ab ah)) bz rfl fun bV ai bA bB=>JS.lit (pp:=(rL rI)) [nS,nS,nS,.slice (AV be) (([2]:List Int)).length 1,.slice (AV bj) (([2,3]:List Int)).length 2,.slice (AV bo) (([3,4]:List Int)).length 2] [[],[],[],([2]:List Int),([2,3]:List Int),([3,4]:List Int)] rfl rfl rfl underlying22 BL DL (by decide) rfl rfl rfl ⟨⟨_,_,rfl,An.nil⟩,⟨_,_,rfl,An.nil⟩,⟨_,_,rfl,An.nil⟩,⟨_,_,rfl,(bu.Ai (ah.Ab ai))⟩,⟨_,_,rfl,(bx.Ai ai)⟩,⟨_,_,rfl,bA⟩,trivial⟩ bB fun ab bC bD bE=>BR (S':= [[],[(K,.cells #[nS,nS] 24 (0,0))],[],[],[],[],[],[],aj,[],[],[],bC]) rfl bE fun bF=>AA (v:= .agg #[.slice (AV aa) (([([1]:List Int),([2]:List Int),([3,4]:List Int),([4]:List Int),([5]:List Int),([5]:List Int)]:List (List Int))).length 6,.slice (AV ab) (([[],[],[],([2]:List Int),([2,3]:List Int),([3,4]:List Int)]:List (List Int))).length 6]) rfl (fun ρ h=>CG [(0,1),(1,1)] h EP underlying24 ⟨rfl,Bf type22,rfl,Bf type22,trivial⟩ rfl rfl) (BJ 1 bF Cb fun bG=>?_);refine JL.done (Cf 8 (bc.Ai ((ae.Ab ah).Ab ai)) bG rfl fun bW ay bH bI=>?_);refine Cf 12 (bD.Ai ay) bI rfl fun bY az bJ bK=>BR (S':= [[],[(K,.cells #[.slice (AV aa) (([([1]:List Int),([2]:List Int),([3,4]:List Int),([4]:List Int),([5]:List Int),([5]:List Int)]:List (List Int))).length 6,.slice (AV ab) (([[],[],[],([2]:List Int),([2,3]:List Int),([3,4]:List Int)]:List (List Int))).length 6] 24 (0,0))],[],[],[],[],[],[],[],[],[],[],[]]) rfl bK fun aA=>?_;obtain rfl:=oi ak;refine JL.ret (v:= .agg #[.slice (AV aa) (([([1]:List Int),([2]:List Int),([3,4]:List Int),([4]:List Int),([5]:List Int),([5]:List Int)]:List (List Int))).length 6,.slice (AV ab) (([[],[],[],([2]:List Int),([2,3]:List Int),([3,4]:List Int)]:List (List Int))).length 6]) rfl rfl (BY.list func71 rfl (vs:= [.agg #[.slice (AV aa) (([([1]:List Int),([2]:List Int),([3,4]:List Int),([4]:List Int),([5]:List Int),([5]:List Int)]:List (List Int))).length 6,.slice (AV ab) (([[],[],[],([2]:List Int),([2,3]:List Int),([3,4]:List Int)]:List (List Int))).length 6]]) ⟨⟨_,rfl,Ld.many (vs:= [.slice (AV aa) (([([1]:List Int),([2]:List Int),([3,4]:List Int),([4]:List Int),([5]:List Int),([5]:List Int)]:List (List Int))).length 6,.slice (AV ab) (([[],[],[],([2]:List Int),([2,3]:List Int),([3,4]:List Int)]:List (List Int))).length 6]) Cv Cb (FV (off:=0) 1 aA rfl rfl)⟩,trivial⟩) (Io 1 aA rfl fun bL=>?_);exact aC ((((((((((O.Ab U).Ab V).Ab W).Ab Y).Ab Z).Ab ae).Ab ah).Ab ai).Ab ay).Ab az) rfl ⟨(AV aa),6,(AV ab),6,rfl,rfl,(bH.Ai az),bJ⟩ bL
def f72(fuel:Nat):Option ((AT)):= some ([(0,2),(1,4)]:AT)
theorem NZ{fuel:Nat}{r:(AT)}(K:f72 fuel=some r):AR J 72 [] E [] (fun w E' B'=>∃(O:Ao) (U:Nat),w= sV O r U∧B'= []∧An By E' O U r):=by
 refine Bg func72 fun Q ai cs H V W=>?_;unfold f72 at K;refine zg 6 rfl (AA (v:= .agg #[iV 0,iV 2]) rfl (fun ρ h=>CG [(0,1),(1,1)] h FC underlying27 ⟨rfl,Bf type3,rfl,Bf type3,trivial⟩ rfl rfl) ?_);refine AA (v:= .agg #[iV 1,iV 4]) rfl (fun ρ h=>CG [(0,1),(1,1)] h FC underlying27 ⟨rfl,Bf type3,rfl,Bf type3,trivial⟩ rfl rfl) (JS.lit (pp:=By) [.agg #[iV 0,iV 2],.agg #[iV 1,iV 4]] [(0,2),(1,4)] rfl rfl rfl underlying25 CF FC (by decide) rfl rfl rfl ⟨⟨_,_,rfl,rfl,rfl⟩,⟨_,_,rfl,rfl,rfl⟩,trivial⟩ V fun Y g2 Z aa=>?_);refine zg 2 rfl (Cf 1 Z aa rfl fun aj ab ae ah=>?_);obtain rfl:=oi K;exact AP func72 rfl rfl (W ab rfl ⟨(AV Y),2,rfl,rfl,ae⟩ ah)
def f73(fuel:Nat):Option ((AT)):= some ([(0,3),(1,3)]:AT)
theorem Rx{fuel:Nat}{r:(AT)}(K:f73 fuel=some r):AR J 73 [] E [] (fun w E' B'=>∃(O:Ao) (U:Nat),w= sV O r U∧B'= []∧An By E' O U r):=by
 refine Bg func73 fun Q ai cs H V W=>?_;unfold f73 at K;refine zg 6 rfl (AA (v:= .agg #[iV 0,iV 3]) rfl (fun ρ h=>CG [(0,1),(1,1)] h FC underlying27 ⟨rfl,Bf type3,rfl,Bf type3,trivial⟩ rfl rfl) ?_);refine AA (v:= .agg #[iV 1,iV 3]) rfl (fun ρ h=>CG [(0,1),(1,1)] h FC underlying27 ⟨rfl,Bf type3,rfl,Bf type3,trivial⟩ rfl rfl) (JS.lit (pp:=By) [.agg #[iV 0,iV 3],.agg #[iV 1,iV 3]] [(0,3),(1,3)] rfl rfl rfl underlying25 CF FC (by decide) rfl rfl rfl ⟨⟨_,_,rfl,rfl,rfl⟩,⟨_,_,rfl,rfl,rfl⟩,trivial⟩ V fun Y g2 Z aa=>?_);refine zg 2 rfl (Cf 1 Z aa rfl fun aj ab ae ah=>?_);obtain rfl:=oi K;exact AP func73 rfl rfl (W ab rfl ⟨(AV Y),2,rfl,rfl,ae⟩ ah)
end Pal
namespace Pal
open Go Go.Conc Go.Proofs
open Go.Proofs.Tryz
variable {J:Judge Tryz.prog}{E:LH}
def f103(fuel:Nat)(p0:Nat)(p1:Int):Option Bool:= (Ks p0 p1).bind fun K=> (Jj K (1)).bind fun O=> some (decide ((((O):Nat):Int)=(((1):Nat):Int)))
theorem NC{p0:Nat}{p1:Int}{fuel:Nat}{r:Bool}(K:f103 fuel p0 p1=some r):AR J 103 [uV p0,iV p1] E [] (fun w E' B'=>w= .bool r∧B'= []):=by
 refine Bg func103 fun Q ae cs H O U=>?_;unfold f103 at K;obtain⟨V,W,Y⟩:=bs K;refine zg 8 rfl (AA (v:= uV V) rfl (fun ρ h=>U4 (h _ _ rfl) (h _ _ rfl) W) ?_);obtain⟨Z,aa,ab⟩:=bs Y;refine AA (v:= uV Z) rfl (fun ρ h=>Na (h _ _ rfl) (h _ _ rfl) aa) (zg 3 rfl ?_);obtain rfl:=oi ab;exact AP func103 rfl rfl (U Ap rfl ⟨rfl,rfl⟩ O)
def f90(fuel:Nat)(p0:Nat)(p1:Int):Option Nat:= (Kg p1).bind fun K=> (IH p0 K).bind fun O=> some O
theorem Mv{p0:Nat}{p1:Int}{fuel:Nat}{r:Nat}(K:f90 fuel p0 p1=some r):AR J 90 [uV p0,iV p1] E [] (fun w E' B'=>w= uV r∧B'= []):=by
 refine Bg func90 fun Q ae cs H O U=>?_;unfold f90 at K;obtain⟨V,W,Y⟩:=bs K;refine zg 8 rfl (AA (v:= uV V) rfl (fun ρ h=>UT (h _ _ rfl) (h _ _ rfl) W) ?_);obtain⟨Z,aa,ab⟩:=bs Y;refine AA (v:= uV Z) rfl (fun ρ h=>JU (h _ _ rfl) (h _ _ rfl) aa) (zg 2 rfl ?_);obtain rfl:=oi ab;exact AP func90 rfl rfl (U Ap rfl ⟨rfl,rfl⟩ O)
def L4(fuel:Nat)(p0:Nat)(K:(List Int)×Int):Option (Bj ((List Int)×Int) ((List Int))):= if K.2<16 then((f103 fuel p0 K.2).bind fun O=> Option.bind (if O=true then((room K.1 K.2).bind fun U=> some U) else(some K.1)) fun V=> (Au (K.2+1)).bind fun W=> some (.more (V,W))) else(some (.done K.1))
def f89(fuel:Nat)(p0:Nat):Option ((List Int)):= Option.bind (iter (L4 fuel p0) fuel ([],0)) fun K=> some K
theorem IA{p0:Nat}{fuel:Nat}{r:(List Int)}(ap:f89 fuel p0=some r):AR J 89 [uV p0] E [] (fun w E' B'=>∃(aq:Ao) (ar:Nat),w= sV aq r ar∧B'= []∧An rI E' aq ar r):=by
 refine Bg func89 fun Q bb cs H aB aC=>?_;unfold f89 at ap;obtain⟨au,aD,aE⟩:=bs ap;refine zg 13 rfl (Bu (fun L s=>∃(ai:LH) (W:Ao) (Y:Nat) (aj:Seg),Jn E H ai [aj] [(3,sV W au Y)] L s (OL 3 rI ai W Y aj au)) ?_ ?_)
 ·rintro _ _ ⟨ai,W,Y,aj,rfl,rfl,aF,aG,aH⟩;refine zg 5 rfl (Cf 0 aH aG rfl fun bc aI aJ aK=>?_);obtain rfl:=oi aE;exact AP func89 rfl rfl (aC (aF.Ab aI) rfl ⟨W,Y,rfl,rfl,aJ⟩ aK)
 ·intro aL;refine JL.block (CM aD (fun L s K=>∃(Z:LH) (O:Ao) (U:Nat) (V:Seg),Jn E H Z [V] [(0,uV p0),(3,sV O K.1 U),(5,iV K.2)] L s (OL 3 rI Z O U V K.1)) ⟨E,none,0,[],rfl,rfl,Ap,aB,OL.nil⟩ ?_);rintro _ _ K ⟨Z,O,U,V,rfl,rfl,av,aw,ak⟩ aM ⟨bd,al⟩ aN;have ay:=al;unfold L4 at ay;refine zg 5 rfl (AX ay (fun aO aP=>?_) (fun aO aQ=>?_))
  ·obtain⟨be,aR,aS⟩:=bs aP;refine zg 12 rfl (BI (NC aR) rfl rfl MH aw fun am an az=>?_);obtain⟨ao,aT,aU⟩:=bs aS;refine JL.done (Bu (fun L s=>∃(aa:LH) (ab:Ao) (ae:Nat) (ah:Seg),Jn am H aa [ah] [(0,uV p0),(3,sV ab ao ae),(5,iV K.2)] L s (OL 3 rI aa ab ae ah ao)) ?_ ?_)
   ·rintro _ _ ⟨aa,ab,ae,ah,rfl,rfl,aV,aW,aX⟩;obtain⟨aY,aZ,a0⟩:=bs aU;refine zg 2 rfl (Bh aZ rfl rfl rfl ?_);refine zg 2 rfl ?_;obtain rfl:=oi a0;exact Az (aN _ _ (ao,aY) ⟨aa,ab,ae,ah,rfl,rfl,((av.Ab an).Ab aV),aW,aX⟩ al) rfl
   ·intro aA;refine BP aT (fun a1 a2=>?_) (fun a1 a3=>?_)
    ·obtain⟨bf,a4,a5⟩:=bs a2;refine zg 3 rfl (JS.app (pp:=rI) (v:=iV K.2) (a:=O) (c:=U) 0 a4 rfl rfl rfl rfl (fun _=>rfl) rfl (fun _=>rfl) rfl rfl rfl underlying28 underlying28 underlying28 AU (Cs type3) Cp rfl (by decide) (by decide) (by decide) (by decide) (ak.Ai an) rfl az rfl fun bg a6 a7 a8 a9 ba=>?_);refine zg 2 rfl ?_;obtain rfl:=oi a5;exact Az (aA _ _ ⟨am,a6,a7,a8,rfl,rfl,Ap,ba,a9⟩) rfl
    ·refine JL.skip ?_;obtain rfl:=oi a3;exact Az (aA _ _ ⟨am,O,U,V,rfl,rfl,Ap,az,(ak.Ai an)⟩) rfl
  ·refine JL.exit rfl ?_;obtain rfl:=oi aQ;obtain rfl:=aM _ al;exact Az (aL _ _ ⟨Z,O,U,V,rfl,rfl,av,aw,ak⟩) rfl
def LI(fuel:Nat)(p0:List Int)(K:Nat×Int):Option (Bj (Nat×Int) Nat):= if K.2<(p0.length:Int) then((ix p0 K.2).bind fun O=> (f90 fuel K.1 O).bind fun U=> (Au (K.2+1)).bind fun V=> some (.more (U,V))) else(some (.done K.1))
def f120(fuel:Nat)(p0:List Int):Option Nat:= Option.bind (iter (LI fuel p0) fuel (0,0)) fun K=> some K
theorem I6{O:Ao}{c2:Nat}{p0:List Int}(aa:An rI E O c2 p0){fuel:Nat}{r:Nat}(W:f120 fuel p0=some r):AR J 120 [sV O p0 c2] E [] (fun w E' B'=>w= uV r∧B'= []):=by
 refine Bg func120 fun Q aG cs H ab ae=>?_;unfold f120 at W;refine zg 12 rfl (BA underlying28 rfl rfl rfl ?_);obtain⟨ah,ai,aj⟩:=bs W;refine zg 2 rfl (CB [] [(3,uV ah)] (fun aH ak al=>?_) (fun am=>?_))
 ·refine zg 5 rfl ?_;obtain rfl:=oi aj;exact AP func120 rfl rfl (ae ak rfl ⟨rfl,rfl⟩ al)
 ·refine JL.block (CC ai (fun K=> []) (fun K=> [(3,uV K.1),(6,sV O p0 c2),(7,iV (p0.length:Int)),(8,iV K.2)]) Ap ab ?_);rintro K aI U Y an ⟨aJ,V⟩ ao;have Z:=V;unfold LI at Z;refine zg 5 rfl (AX Z (fun ap aq=>?_) (fun ap ar=>?_))
  ·obtain⟨aK,au,av⟩:=bs aq;refine zg 5 rfl (Cj (aa.Ai U) au underlying28 AU ?_);rintro aL aM _ rfl aw;refine B4 0 aw Bq rfl rfl rfl ?_;obtain⟨ay,az,aA⟩:=bs av;refine zg 5 rfl (BI (Mv az) rfl rfl K9 Y fun aN aB aC=>?_);obtain⟨aD,aE,aF⟩:=bs aA;refine zg 4 rfl (Bh aE rfl rfl rfl ?_);refine zg 2 rfl ?_;obtain rfl:=oi aF;exact ao (ay,aD) (U.Ab aB) aC rfl V
  ·refine JL.exit rfl ?_;obtain rfl:=oi ar;obtain rfl:=an _ V;exact am U Y rfl
def LO(fuel:Nat)(p0:BH)(p1:Int)(p2:List Int)(p3:Bool)(K:Int):Option (Bj Int (((Option (Int×Int)))⊕(Unit))):= if K<(p2.length:Int) then((ix p2 K).bind fun O=> (Au ((p0.1.length:Int) - 1)).bind fun U=> (f101 fuel O 0 U).bind fun V=> if V=true then(some (.done (Sum.inl (some (3,p1))))) else(Option.bind (if O=p1 then(some (!p3)) else(some false)) fun W=> if W=true then(some (.done (Sum.inl (some (8,p1))))) else(Option.bind (if 0<K then((Au (K - 1)).bind fun Y=> (ix p2 Y).bind fun Z=> some (decide (O≤Z))) else(some false)) fun aa=> if aa=true then(some (.done (Sum.inl (some (5,p1))))) else((Au (K+1)).bind fun ab=> some (.more ab))))) else(some (.done (Sum.inr ())))
def f136(fuel:Nat)(p0:BH)(p1:Int)(p2:List Int)(p3:Bool):Option ((Option (Int×Int))):= Option.bind (iter (LO fuel p0 p1 p2 p3) fuel 0) fun K=> Sum.elim (fun r=>some r) (fun O=> some none) K
theorem QI{al:Ao}{c2:Nat}{am:Ao}{an:Nat}{K:Ao}{O:Nat}{p0:BH}{p1:Int}{p2:List Int}{p3:Bool}(bA:An (rL rI) E al c2 p0.1)(bB:An (rL rI) E am an p0.2)(ao:An rI E K O p2){fuel:Nat}{r:(Option (Int×Int))}(ap:f136 fuel p0 p1 p2 p3=some r):AR J 136 [.agg #[sV al p0.1 c2,sV am p0.2 an],iV p1,sV K p2 O,.bool p3] E [] (fun w E' B'=>∃(aq:Value),w=aq∧B'= []∧H6 183 aq r):=by
 refine Bg func136 fun Q bC cs H aD aa=>?_;unfold f136 at ap;refine zg 2 rfl (CI aD fun ai aE V aF aG=>?_);refine zg 6 rfl (BA underlying28 rfl rfl rfl ?_);obtain⟨ar,aH,ab⟩:=bs ap;refine zg 2 rfl (Bu (fun L s=>∃(au:Unit) (av:LH),ar=Sum.inr au∧Jm aE H av [] [] L s) ?_ ?_)
 ·rintro _ _ ⟨au,av,rfl,rfl,rfl,aI,aJ⟩;have aK:=elim_inr ab;refine zg 4 rfl ?_;obtain rfl:=oi aK;exact AP func136 rfl rfl (aa (V.Ab aI) rfl ⟨.nilIface,rfl,rfl,rfl⟩ aJ)
 ·intro aL;refine JL.block (CC aH (fun W=> []) (fun W=> [(1,iV p1),(2,sV K p2 O),(3,.bool p3),(4,pV ai 0),(11,sV K p2 O),(12,iV (p2.length:Int)),(13,iV W)]) Ap aG ?_);rintro W aM U aw ae ⟨bD,Y⟩ aN;have ay:=Y;unfold LO at ay;refine zg 5 rfl (AX ay (fun aO aP=>?_) (fun aO aQ=>?_))
  ·obtain⟨aR,aS,aT⟩:=bs aP;refine zg 6 rfl (Cj (ao.Ai (V.Ab U)) aS underlying28 AU ?_);rintro bE bF _ rfl aU;refine B4 0 aU Bq rfl rfl rfl (zg 7 rfl ?_);refine JL.fl 0 (aF.Ai U) underlying24 Cq Da ?_;refine BA underlying22 rfl rfl rfl ?_;obtain⟨bG,aV,aW⟩:=bs aT;refine BX aV rfl rfl rfl ?_;obtain⟨bH,aX,aY⟩:=bs aW;refine BI (Iz aX) rfl rfl Ie aw fun bI Z aj=>zg 2 rfl (BP aY (fun aZ a0=>?_) (fun aZ a1=>?_))
   ·refine zg 3 rfl (AA (v:= .agg #[iV 3,iV p1]) rfl (fun ρ h=>CG [(0,1),(1,1)] h FB underlying183 ⟨rfl,Bf type39,rfl,Bf type3,trivial⟩ rfl rfl) ?_);refine AA (v:= .iface 183 (.agg #[iV 3,iV p1])) rfl (fun ρ h=>ES underlying183 (fun _ h=>by cases h) (h _ _ rfl)) (zg 2 rfl ?_);obtain rfl:=oi a0;obtain rfl:=ae _ Y;have a2:=elim_inl ab;obtain rfl:=oi a2;exact AP func136 rfl rfl (aa ((V.Ab U).Ab Z) rfl ⟨.iface 183 (.agg #[iV 3,iV p1]),rfl,rfl,rfl⟩ aj)
   ·obtain⟨a3,a4,a5⟩:=bs a1;refine zg 6 rfl (C7 7 1 [] [(1,iV p1),(2,sV K p2 O),(3,.bool p3),(4,pV ai 0),(9,iV W),(10,iV aR),(11,sV K p2 O),(12,iV (p2.length:Int)),(13,iV W),(35,.bool a3)] (fun bJ ah ak=>?_) (fun az=>?_))
    ·refine zg 2 rfl (BP a5 (fun a6 a7=>?_) (fun a6 a8=>?_))
     ·refine zg 3 rfl (AA (v:= .agg #[iV 8,iV p1]) rfl (fun ρ h=>CG [(0,1),(1,1)] h FB underlying183 ⟨rfl,Bf type39,rfl,Bf type3,trivial⟩ rfl rfl) ?_);refine AA (v:= .iface 183 (.agg #[iV 8,iV p1])) rfl (fun ρ h=>ES underlying183 (fun _ h=>by cases h) (h _ _ rfl)) (zg 2 rfl ?_);obtain rfl:=oi a7;obtain rfl:=ae _ Y;have a9:=elim_inl ab;obtain rfl:=oi a9;exact AP func136 rfl rfl (aa (((V.Ab U).Ab Z).Ab ah) rfl ⟨.iface 183 (.agg #[iV 8,iV p1]),rfl,rfl,rfl⟩ ak)
     ·obtain⟨ba,bb,bc⟩:=bs a8;refine zg 5 rfl (C7 11 1 [] [(1,iV p1),(2,sV K p2 O),(3,.bool p3),(4,pV ai 0),(11,sV K p2 O),(12,iV (p2.length:Int)),(13,iV W),(50,.bool ba)] (fun bK aA aB=>?_) (fun aC=>?_))
      ·refine zg 2 rfl (BP bc (fun bd be=>?_) (fun bd bf=>?_))
       ·refine zg 3 rfl (AA (v:= .agg #[iV 5,iV p1]) rfl (fun ρ h=>CG [(0,1),(1,1)] h FB underlying183 ⟨rfl,Bf type39,rfl,Bf type3,trivial⟩ rfl rfl) ?_);refine AA (v:= .iface 183 (.agg #[iV 5,iV p1])) rfl (fun ρ h=>ES underlying183 (fun _ h=>by cases h) (h _ _ rfl)) (zg 2 rfl ?_);obtain rfl:=oi be;obtain rfl:=ae _ Y;have bg:=elim_inl ab;obtain rfl:=oi bg;exact AP func136 rfl rfl (aa ((((V.Ab U).Ab Z).Ab ah).Ab aA) rfl ⟨.iface 183 (.agg #[iV 5,iV p1]),rfl,rfl,rfl⟩ aB)
       ·obtain⟨bh,bi,bj⟩:=bs bf;refine zg 4 rfl (Bh bi rfl rfl rfl ?_);refine zg 2 rfl ?_;obtain rfl:=oi bj;exact aN bh (((U.Ab Z).Ab ah).Ab aA) aB rfl Y
      ·refine Ex 42 bb (fun bl bm=>?_) (fun bl bn=>?_)
       ·obtain⟨bL,bo,bp⟩:=bs bm;refine zg 3 rfl (BX bo rfl rfl rfl ?_);obtain⟨bM,bq,br⟩:=bs bp;refine Cj (ao.Ai (((V.Ab U).Ab Z).Ab ah)) bq underlying28 AU ?_;rintro bN bO _ rfl bu;refine B4 0 bu Bq rfl rfl rfl (zg 2 rfl ?_);obtain rfl:=oi br;exact aC Ap ak rfl
       ·refine zg 8 rfl ?_;obtain rfl:=oi bn;exact aC Ap ak rfl
    ·refine Ex 32 a4 (fun bv bw=>?_) (fun bv bx=>?_)
     ·refine zg 1 rfl (AA (v:= .bool (!p3)) rfl (fun ρ h=>Yl.not (h _ _ rfl)) ?_);refine zg 1 rfl ?_;obtain rfl:=oi bw;exact az Ap aj rfl
     ·refine zg 3 rfl ?_;obtain rfl:=oi bx;exact az Ap aj rfl
  ·refine JL.exit rfl ?_;obtain rfl:=oi aQ;have bz:ar=(Sum.inr ()):=(ae _ Y).symm;exact Az (aL _ _ ⟨(),aM,bz,rfl,rfl,U,aw⟩) rfl
def LL(fuel:Nat)(p0:BH)(K:Int):Option (Bj Int (((Option (Int×Int)))⊕(Unit))):= if K<(p0.1.length:Int) then((ix p0.1 K).bind fun O=> if(O.length:Int)=0 then(some (.done (Sum.inl (some (7,K))))) else(if 3<(O.length:Int) then(some (.done (Sum.inl (some (6,K))))) else((f136 fuel p0 K O true).bind fun U=> if U.isSome=true then(some (.done (Sum.inl U))) else((ix p0.2 K).bind fun W=> if 3<(W.length:Int) then(some (.done (Sum.inl (some (6,K))))) else((ix p0.2 K).bind fun Y=> (f136 fuel p0 K Y false).bind fun V=> if V.isSome=true then(some (.done (Sum.inl V))) else((Au (K+1)).bind fun Z=> some (.more Z))))))) else(some (.done (Sum.inr ())))
def f113(fuel:Nat)(p0:BH):Option ((Option (Int×Int))):= if(p0.1.length:Int)=0 then(some (some (7,0))) else(if 8<(p0.1.length:Int) then(some (some (6,0))) else(if(p0.2.length:Int)≠(p0.1.length:Int) then(some (some (9,0))) else(Option.bind (iter (LL fuel p0) fuel 0) fun K=> Sum.elim (fun r=>some r) (fun O=> some none) K)))
theorem QY{aj:Ao}{c2:Nat}{am:Ao}{an:Nat}{p0:BH}(ak:An (rL rI) E aj c2 p0.1)(ae:An (rL rI) E am an p0.2){fuel:Nat}{r:(Option (Int×Int))}(ao:f113 fuel p0=some r):AR J 113 [.agg #[sV aj p0.1 c2,sV am p0.2 an]] E [] (fun w E' B'=>∃(ap:Value),w=ap∧B'= []∧H6 183 ap r):=by
 refine Bg func113 fun Q bI cs H aB W=>?_;unfold f113 at ao;refine zg 2 rfl (CI aB fun aC aD O Z ah=>?_);refine zg 5 rfl (JL.fl 0 Z underlying24 Cq Da ?_);refine BA underlying22 rfl rfl rfl (zg 9 rfl ?_);refine AX ao (fun aE aF=>?_) (fun aE aG=>?_)
 ·refine zg 2 rfl (AA (v:= .agg #[iV 7,iV 0]) rfl (fun ρ h=>CG [(0,1),(1,1)] h FB underlying183 ⟨rfl,Bf type39,rfl,Bf type3,trivial⟩ rfl rfl) ?_);refine AA (v:= .iface 183 (.agg #[iV 7,iV 0])) rfl (fun ρ h=>ES underlying183 (fun _ h=>by cases h) (h _ _ rfl)) (zg 2 rfl ?_);obtain rfl:=oi aF;exact AP func113 rfl rfl (W O rfl ⟨.iface 183 (.agg #[iV 7,iV 0]),rfl,rfl,rfl⟩ ah)
 ·refine zg 6 rfl (AX aG (fun aH aI=>?_) (fun aH aJ=>?_))
  ·refine zg 2 rfl (AA (v:= .agg #[iV 6,iV 0]) rfl (fun ρ h=>CG [(0,1),(1,1)] h FB underlying183 ⟨rfl,Bf type39,rfl,Bf type3,trivial⟩ rfl rfl) ?_);refine AA (v:= .iface 183 (.agg #[iV 6,iV 0])) rfl (fun ρ h=>ES underlying183 (fun _ h=>by cases h) (h _ _ rfl)) (zg 2 rfl ?_);obtain rfl:=oi aI;exact AP func113 rfl rfl (W O rfl ⟨.iface 183 (.agg #[iV 6,iV 0]),rfl,rfl,rfl⟩ ah)
  ·refine zg 2 rfl (JL.fl 1 Z underlying24 Cq Da ?_);refine BA underlying22 rfl rfl rfl (zg 4 rfl ?_);refine AX aJ (fun aK aL=>?_) (fun aK aM=>?_)
   ·refine zg 2 rfl (AA (v:= .agg #[iV 9,iV 0]) rfl (fun ρ h=>CG [(0,1),(1,1)] h FB underlying183 ⟨rfl,Bf type39,rfl,Bf type3,trivial⟩ rfl rfl) ?_);refine AA (v:= .iface 183 (.agg #[iV 9,iV 0])) rfl (fun ρ h=>ES underlying183 (fun _ h=>by cases h) (h _ _ rfl)) (zg 2 rfl ?_);obtain rfl:=oi aL;exact AP func113 rfl rfl (W O rfl ⟨.iface 183 (.agg #[iV 9,iV 0]),rfl,rfl,rfl⟩ ah)
   ·refine zg 5 rfl (JL.fl 0 Z underlying24 Cq Da ?_);refine BA underlying22 rfl rfl rfl ?_;obtain⟨aq,aN,aa⟩:=bs aM;refine zg 2 rfl (Bu (fun L s=>∃(ar:Unit) (au:LH),aq=Sum.inr ar∧Jm aD H au [] [] L s) ?_ ?_)
    ·rintro _ _ ⟨ar,au,rfl,rfl,rfl,aO,aP⟩;have aQ:=elim_inr aa;refine zg 4 rfl ?_;obtain rfl:=oi aQ;exact AP func113 rfl rfl (W (O.Ab aO) rfl ⟨.nilIface,rfl,rfl,rfl⟩ aP)
    ·intro aR;refine JL.block (CC aN (fun U=> []) (fun U=> [(1,pV aC 0),(30,sV aj p0.1 c2),(31,iV (p0.1.length:Int)),(32,iV U)]) Ap ah ?_);rintro U aS K ai ab ⟨bJ,Y⟩ aT;have av:=Y;unfold LL at av;refine zg 5 rfl (AX av (fun aU aV=>?_) (fun aU aW=>?_))
     ·obtain⟨bK,aX,aY⟩:=bs aV;refine zg 6 rfl (Cj (ak.Ai (O.Ab K)) aX underlying22 BL ?_);rintro bL bM _ ⟨bN,bO,rfl,aZ⟩ a0;refine B4 0 a0 Df rfl rfl rfl (zg 7 rfl ?_);refine BA underlying28 rfl rfl rfl (zg 2 rfl ?_);refine AX aY (fun a1 a2=>?_) (fun a1 a3=>?_)
      ·refine zg 3 rfl (AA (v:= .agg #[iV 7,iV U]) rfl (fun ρ h=>CG [(0,1),(1,1)] h FB underlying183 ⟨rfl,Bf type39,rfl,Bf type3,trivial⟩ rfl rfl) ?_);refine AA (v:= .iface 183 (.agg #[iV 7,iV U])) rfl (fun ρ h=>ES underlying183 (fun _ h=>by cases h) (h _ _ rfl)) (zg 2 rfl ?_);obtain rfl:=oi a2;obtain rfl:=ab _ Y;have a4:=elim_inl aa;obtain rfl:=oi a4;exact AP func113 rfl rfl (W (O.Ab K) rfl ⟨.iface 183 (.agg #[iV 7,iV U]),rfl,rfl,rfl⟩ ai)
      ·refine zg 5 rfl (BA underlying28 rfl rfl rfl ?_);refine zg 2 rfl (AX a3 (fun a5 a6=>?_) (fun a5 a7=>?_))
       ·refine zg 3 rfl (AA (v:= .agg #[iV 6,iV U]) rfl (fun ρ h=>CG [(0,1),(1,1)] h FB underlying183 ⟨rfl,Bf type39,rfl,Bf type3,trivial⟩ rfl rfl) ?_);refine AA (v:= .iface 183 (.agg #[iV 6,iV U])) rfl (fun ρ h=>ES underlying183 (fun _ h=>by cases h) (h _ _ rfl)) (zg 2 rfl ?_);obtain rfl:=oi a6;obtain rfl:=ab _ Y;have a8:=elim_inl aa;obtain rfl:=oi a8;exact AP func113 rfl rfl (W (O.Ab K) rfl ⟨.iface 183 (.agg #[iV 6,iV U]),rfl,rfl,rfl⟩ ai)
       ·refine zg 4 rfl (Cd (Z.Ai K) Cv Cb rfl rfl ?_);obtain⟨a9,ba,bb⟩:=bs a7;refine zg 2 rfl (BM (QI (ak.Ai (O.Ab K)) (ae.Ai (O.Ab K)) aZ ba) rfl rfl (A5 func136 rfl) ai ?_);rintro bc bP _ V ⟨_,rfl,rfl,aw⟩ al;refine zg 5 rfl (AA (v:= .bool a9.isSome) rfl (fun ρ h=>Nh underlying149 aw (h _ _ rfl) (h _ _ rfl)) ?_);refine JL.done (BP bb (fun bd be=>?_) (fun bd bf=>?_))
        ·refine zg 5 rfl ?_;obtain rfl:=oi be;obtain rfl:=ab _ Y;have bg:=elim_inl aa;obtain rfl:=oi bg;exact AP func113 rfl rfl (W ((O.Ab K).Ab V) rfl ⟨bc,rfl,rfl,aw⟩ al)
        ·refine zg 4 rfl (JL.fl 1 (Z.Ai (K.Ab V)) underlying24 Cq Da ?_);obtain⟨bQ,bh,bi⟩:=bs bf;refine zg 1 rfl (Cj (ae.Ai ((O.Ab K).Ab V)) bh underlying22 BL ?_);rintro bR bS _ ⟨bT,bU,rfl,bV⟩ bj;refine B4 0 bj Df rfl rfl rfl (BA underlying28 rfl rfl rfl ?_);refine zg 2 rfl (AX bi (fun bl bm=>?_) (fun bl bn=>?_))
         ·refine zg 3 rfl (AA (v:= .agg #[iV 6,iV U]) rfl (fun ρ h=>CG [(0,1),(1,1)] h FB underlying183 ⟨rfl,Bf type39,rfl,Bf type3,trivial⟩ rfl rfl) ?_);refine AA (v:= .iface 183 (.agg #[iV 6,iV U])) rfl (fun ρ h=>ES underlying183 (fun _ h=>by cases h) (h _ _ rfl)) (zg 2 rfl ?_);obtain rfl:=oi bm;obtain rfl:=ab _ Y;have bo:=elim_inl aa;obtain rfl:=oi bo;exact AP func113 rfl rfl (W ((O.Ab K).Ab V) rfl ⟨.iface 183 (.agg #[iV 6,iV U]),rfl,rfl,rfl⟩ al)
         ·refine zg 2 rfl (EV 7 fun ht=>?_);refine J8 0 ht (Z.Ai (K.Ab V)) Cv Cb rfl rfl rfl (Cm 1 ht rfl rfl ?_);refine Ce 2 ht underlying24 Cq rfl rfl rfl rfl (EK 3 ht 1 (Z.Ai (K.Ab V)) Da rfl rfl rfl rfl ?_);refine Cm 4 ht rfl rfl ?_;obtain⟨bW,bp,bq⟩:=bs bn;refine Ei 5 (ae.Ai ((O.Ab K).Ab V)) bp ht underlying22 BL ?_;rintro bY bZ _ ⟨b0,b1,rfl,br⟩ bu;refine EK 6 ht 0 bu Df rfl rfl rfl rfl (Cy [7,8] ?_);obtain⟨bv,bw,bx⟩:=bs bq;refine BM (QI (ak.Ai ((O.Ab K).Ab V)) (ae.Ai ((O.Ab K).Ab V)) br bw) rfl rfl (A5 func136 rfl) al ?_;rintro bz b2 _ ay ⟨_,rfl,rfl,az⟩ aA;refine zg 5 rfl (AA (v:= .bool bv.isSome) rfl (fun ρ h=>Nh underlying149 az (h _ _ rfl) (h _ _ rfl)) ?_);refine JL.done (BP bx (fun bA bB=>?_) (fun bA bC=>?_))
          ·refine zg 5 rfl ?_;obtain rfl:=oi bB;obtain rfl:=ab _ Y;have bD:=elim_inl aa;obtain rfl:=oi bD;exact AP func113 rfl rfl (W (((O.Ab K).Ab V).Ab ay) rfl ⟨bz,rfl,rfl,az⟩ aA)
          ·obtain⟨bE,bF,bG⟩:=bs bC;refine zg 3 rfl (Bh bF rfl rfl rfl ?_);refine zg 2 rfl ?_;obtain rfl:=oi bG;exact aT bE ((K.Ab V).Ab ay) aA rfl Y
     ·refine JL.exit rfl ?_;obtain rfl:=oi aW;have bH:aq=(Sum.inr ()):=(ab _ Y).symm;exact Az (aR _ _ ⟨(),aS,bH,rfl,rfl,K,ai⟩) rfl
def LU(fuel:Nat)(p0:BH)(p1:AT)(K:Int):Option (Bj Int (((Option (Int×Int)))⊕(Unit))):= if K<(p1.length:Int) then((ix p1 K).bind fun O=> (f101 fuel O.1 0 6).bind fun U=> if U=true then(some (.done (Sum.inl (some (1,K))))) else(Option.bind (if 0<K then((Au (K - 1)).bind fun V=> (ix p1 V).bind fun W=> some (decide (O.1<W.1))) else(some false)) fun Y=> if Y=true then(some (.done (Sum.inl (some (5,K))))) else((Au ((p0.1.length:Int) - 1)).bind fun Z=> (f101 fuel O.2 0 Z).bind fun aa=> if aa=true then(some (.done (Sum.inl (some (3,K))))) else((Au (K+1)).bind fun ab=> some (.more ab))))) else(some (.done (Sum.inr ())))
def f116(fuel:Nat)(p0:BH)(p1:AT):Option ((Option (Int×Int))):= if 4<(p1.length:Int) then(some (some (6,0))) else(Option.bind (iter (LU fuel p0 p1) fuel 0) fun K=> Sum.elim (fun r=>some r) (fun O=> some none) K)
theorem VA{al:Ao}{c2:Nat}{am:Ao}{an:Nat}{W:Ao}{Y:Nat}{p0:BH}{p1:AT}(bC:An (rL rI) E al c2 p0.1)(bD:An (rL rI) E am an p0.2)(ao:An By E W Y p1){fuel:Nat}{r:(Option (Int×Int))}(ap:f116 fuel p0 p1=some r):AR J 116 [.agg #[sV al p0.1 c2,sV am p0.2 an],sV W p1 Y] E [] (fun w E' B'=>∃(aq:Value),w=aq∧B'= []∧H6 183 aq r):=by
 refine Bg func116 fun Q bE cs H aF ab=>?_;unfold f116 at ap;refine zg 2 rfl (CI aF fun ar aG V aH au=>?_);refine zg 6 rfl (BA underlying25 rfl rfl rfl ?_);refine zg 2 rfl (AX ap (fun aI aJ=>?_) (fun aI aK=>?_))
 ·refine zg 2 rfl (AA (v:= .agg #[iV 6,iV 0]) rfl (fun ρ h=>CG [(0,1),(1,1)] h FB underlying183 ⟨rfl,Bf type39,rfl,Bf type3,trivial⟩ rfl rfl) ?_);refine AA (v:= .iface 183 (.agg #[iV 6,iV 0])) rfl (fun ρ h=>ES underlying183 (fun _ h=>by cases h) (h _ _ rfl)) (zg 2 rfl ?_);obtain rfl:=oi aJ;exact AP func116 rfl rfl (ab V rfl ⟨.iface 183 (.agg #[iV 6,iV 0]),rfl,rfl,rfl⟩ au)
 ·refine zg 5 rfl (BA underlying25 rfl rfl rfl ?_);obtain⟨av,aL,ae⟩:=bs aK;refine zg 2 rfl (Bu (fun L s=>∃(aw:Unit) (ay:LH),av=Sum.inr aw∧Jm aG H ay [] [] L s) ?_ ?_)
  ·rintro _ _ ⟨aw,ay,rfl,rfl,rfl,aM,aN⟩;have aO:=elim_inr ae;refine zg 4 rfl ?_;obtain rfl:=oi aO;exact AP func116 rfl rfl (ab (V.Ab aM) rfl ⟨.nilIface,rfl,rfl,rfl⟩ aN)
  ·intro aP;refine JL.block (CC aL (fun K=> []) (fun K=> [(1,sV W p1 Y),(2,pV ar 0),(12,sV W p1 Y),(13,iV (p1.length:Int)),(14,iV K)]) Ap au ?_);rintro K aQ O az ah ⟨bF,Z⟩ aR;have aA:=Z;unfold LU at aA;refine zg 5 rfl (AX aA (fun aS aT=>?_) (fun aS aU=>?_))
   ·obtain⟨bG,aV,aW⟩:=bs aT;refine zg 6 rfl (Cj (ao.Ai (V.Ab O)) aV underlying25 CF ?_);rintro bH bI _ ⟨_,_,rfl,rfl,rfl⟩ aX;refine Cd aX Ic CF rfl rfl (Cz az FC fun aY aZ=>?_);refine zg 1 rfl (BJ 0 aZ CF fun a0=>?_);refine C4 0 a0 rfl fun bJ aa ai a1=>zg 4 rfl (JL.fl 0 ai underlying27 AU Bq ?_);obtain⟨bK,a2,a3⟩:=bs aW;refine BI (Iz a2) rfl rfl Ie a1 fun a4 U aj=>zg 2 rfl (BP a3 (fun a5 a6=>?_) (fun a5 a7=>?_))
    ·refine zg 3 rfl (AA (v:= .agg #[iV 1,iV K]) rfl (fun ρ h=>CG [(0,1),(1,1)] h FB underlying183 ⟨rfl,Bf type39,rfl,Bf type3,trivial⟩ rfl rfl) ?_);refine AA (v:= .iface 183 (.agg #[iV 1,iV K])) rfl (fun ρ h=>ES underlying183 (fun _ h=>by cases h) (h _ _ rfl)) (zg 2 rfl ?_);obtain rfl:=oi a6;obtain rfl:=ah _ Z;have a8:=elim_inl ae;obtain rfl:=oi a8;exact AP func116 rfl rfl (ab (((V.Ab O).Ab aa).Ab U) rfl ⟨.iface 183 (.agg #[iV 1,iV K]),rfl,rfl,rfl⟩ aj)
    ·refine JL.seq (EV 13 fun ht=>?_);refine Bn ht rfl [0,1,2] rfl ?_;obtain⟨a9,aB,ba⟩:=bs a7;refine FX 1 #[true,true,true,true,true,true,true,true,true,true,true,true,true,false] (fun L s=>L= [(1,sV W p1 Y),(2,pV ar 0),(5,iV K),(6,pV aY 0),(12,sV W p1 Y),(13,iV (p1.length:Int)),(14,iV K),(39,.bool a9)]∧s=Ak a4 H [[],[]]) ?_ ?_
     ·rintro _ _ ⟨rfl,rfl⟩;refine Cy [13] (zg 2 rfl ?_);refine BP ba (fun bb bc=>?_) (fun bb bd=>?_)
      ·refine zg 3 rfl (AA (v:= .agg #[iV 5,iV K]) rfl (fun ρ h=>CG [(0,1),(1,1)] h FB underlying183 ⟨rfl,Bf type39,rfl,Bf type3,trivial⟩ rfl rfl) ?_);refine AA (v:= .iface 183 (.agg #[iV 5,iV K])) rfl (fun ρ h=>ES underlying183 (fun _ h=>by cases h) (h _ _ rfl)) (zg 2 rfl ?_);obtain rfl:=oi bc;obtain rfl:=ah _ Z;have be:=elim_inl ae;obtain rfl:=oi be;exact AP func116 rfl rfl (ab (((V.Ab O).Ab aa).Ab U) rfl ⟨.iface 183 (.agg #[iV 5,iV K]),rfl,rfl,rfl⟩ aj)
      ·refine zg 2 rfl (JL.fl 1 (ai.Ai U) underlying27 AU Bq ?_);refine JL.fl 0 (aH.Ai ((O.Ab aa).Ab U)) underlying24 Cq Da ?_;refine BA underlying22 rfl rfl rfl ?_;obtain⟨bL,bf,bg⟩:=bs bd;refine BX bf rfl rfl rfl ?_;obtain⟨bM,bh,bi⟩:=bs bg;refine BI (Iz bh) rfl rfl Ie aj fun bN aC aD=>zg 2 rfl (BP bi (fun bj bl=>?_) (fun bj bm=>?_))
       ·refine zg 3 rfl (AA (v:= .agg #[iV 3,iV K]) rfl (fun ρ h=>CG [(0,1),(1,1)] h FB underlying183 ⟨rfl,Bf type39,rfl,Bf type3,trivial⟩ rfl rfl) ?_);refine AA (v:= .iface 183 (.agg #[iV 3,iV K])) rfl (fun ρ h=>ES underlying183 (fun _ h=>by cases h) (h _ _ rfl)) (zg 2 rfl ?_);obtain rfl:=oi bl;obtain rfl:=ah _ Z;have bn:=elim_inl ae;obtain rfl:=oi bn;exact AP func116 rfl rfl (ab ((((V.Ab O).Ab aa).Ab U).Ab aC) rfl ⟨.iface 183 (.agg #[iV 3,iV K]),rfl,rfl,rfl⟩ aD)
       ·obtain⟨bo,bp,bq⟩:=bs bm;refine zg 4 rfl (Bh bp rfl rfl rfl ?_);refine zg 2 rfl ?_;obtain rfl:=oi bq;exact aR bo (((O.Ab aa).Ab U).Ab aC) aD rfl Z
     ·intro aE;refine F9 (q:=0<K) (i:=29) rfl (fun ak=>?_) (fun ak=>?_)
      ·have br:=ip aB ak;refine Ce 3 ht underlying27 AU rfl rfl rfl rfl ?_;refine EK 4 ht 0 (ai.Ai U) Bq rfl rfl rfl rfl ?_;refine Bn ht rfl [5,6] rfl ?_;obtain⟨bO,bu,bv⟩:=bs br;refine Bv 7 ht rfl rfl (fun ρ h s' hs=>Du (h _ _ rfl) (h _ _ rfl) bu) ?_;obtain⟨bP,bw,bx⟩:=bs bv;refine Ei 8 (ao.Ai (((V.Ab O).Ab aa).Ab U)) bw ht underlying25 CF ?_;rintro bQ bR _ ⟨_,_,rfl,rfl,rfl⟩ bz;refine Ce 9 ht underlying27 AU rfl rfl rfl rfl ?_;refine EK 10 ht 0 bz Bq rfl rfl rfl rfl ?_;refine Bn ht rfl [11,12] rfl ?_;obtain rfl:=oi bx;refine DM ?_ (aE _ _ ⟨rfl,rfl⟩);exact⟨rfl,rfl,rfl,rfl,rfl,rfl,rfl,rfl,trivial⟩
      ·have bA:=im aB ak;refine Bn ht rfl [3,4,5,6,7,8,9,10,11,12] rfl ?_;obtain rfl:=oi bA;refine DM ?_ (aE _ _ ⟨rfl,rfl⟩);exact⟨rfl,rfl,rfl,rfl,rfl,rfl,rfl,rfl,trivial⟩
   ·refine JL.exit rfl ?_;obtain rfl:=oi aU;have bB:av=(Sum.inr ()):=(ah _ Z).symm;exact Az (aP _ _ ⟨(),aQ,bB,rfl,rfl,O,az⟩) rfl
end Pal
namespace Pal
open Go Go.Conc Go.Proofs
open Go.Proofs.Tryz
variable {J:Judge Tryz.prog}{E:LH}
def f135(fuel:Nat):Option Bool:= some false
theorem Wq{O:Value}{fuel:Nat}{r:Bool}(K:f135 fuel=some r):AR J 135 [.nilIface,O] E [] (fun w E' B'=>w= .bool r∧B'= []):=by
 refine Bg func135 fun Q W cs H U V=>?_;unfold f135 at K;refine zg 8 rfl ?_;refine AA (v:= .bool true) rfl (fun ρ h=>TP underlying149 (show H6 0 .nilIface none from rfl) (h _ _ rfl) (h _ _ rfl)) (zg 6 rfl ?_);obtain rfl:=oi K;exact AP func135 rfl rfl (V Ap rfl ⟨rfl,rfl⟩ U)
def f112(fuel:Nat):Option Int:= (f135 fuel).bind fun K=> if K=true then(some 0) else(some 0)
theorem VV{fuel:Nat}{r:Int}(O:f112 fuel=some r):AR J 112 [.nilIface] E [] (fun w E' B'=>w=iV r∧B'= []):=by
 refine Bg func112 fun Q al cs H W U=>?_;unfold f112 at O;refine zg 6 rfl (Cz W FB fun Y Z=>?_);refine zg 5 rfl (AA (v:=(.iface 185 (pV Y 0))) rfl (fun ρ h=>ES underlying185 (fun _ h=>by cases h) (h _ _ rfl)) ?_);obtain⟨am,aa,ab⟩:=bs O;refine BI (Wq aa) rfl rfl (A5 func135 rfl) Z fun an V K=>JL.done (BP ab (fun ae ah=>?_) (fun ae ai=>?_))
 ·refine zg 2 rfl (Bz underlying183 (Bf type39) rfl rfl rfl ?_);refine AA (v:=iV 0) rfl (fun ρ h=>Yl.load (D1 underlying39) (h _ _ rfl) (DF (j:=1) (off:=0) K rfl rfl)) (zg 2 rfl ?_);refine JS.drop 1 K rfl fun aj=>?_;obtain rfl:=oi ah;exact AP func112 rfl rfl (U V rfl ⟨rfl,rfl⟩ aj)
 ·refine zg 5 rfl (JS.drop 1 K rfl fun ak=>?_);obtain rfl:=oi ai;exact AP func112 rfl rfl (U V rfl ⟨rfl,rfl⟩ ak)
def Je(fuel:Nat)(p0:Option (Int×Int)):Option Int:=match p0 with
 | none=>f112 fuel
 | some _=>none
theorem NO{v:Value}{p0:Option (Int×Int)}(h:H6 183 v p0){fuel:Nat}{r:Int}(K:Je fuel p0=some r):AR J 112 [v] E [] (fun w E' B'=>w=iV r∧B'= []):=by
 cases p0 with
 | none=>obtain rfl:v= .nilIface:=h;exact VV K
 | some _=>cases K
end Pal
namespace Pal
open Go Go.Conc Go.Proofs
open Go.Proofs.Tryz
variable {J:Judge Tryz.prog}{E:LH}
def f67(fuel:Nat)(p0:BH):Option Int:= (f113 fuel p0).bind fun K=> (Je fuel K).bind fun O=> some O
theorem WU{O:Ao}{c2:Nat}{U:Ao}{V:Nat}{p0:BH}(Y:An (rL rI) E O c2 p0.1)(Z:An (rL rI) E U V p0.2){fuel:Nat}{r:Int}(W:f67 fuel p0=some r):AR J 67 [.agg #[sV O p0.1 c2,sV U p0.2 V]] E [] (fun w E' B'=>w=iV r∧B'= []):=by
 refine Bg func67 fun Q ar cs H aa ab=>?_;unfold f67 at W;refine zg 2 rfl (CI aa fun au av K ae ah=>?_);refine zg 4 rfl (Cd ae Cv Cb rfl rfl ?_);obtain⟨aw,ai,aj⟩:=bs W;refine BM (QY (Y.Ai K) (Z.Ai K) ai) rfl rfl (A5 func113 rfl) ah ?_;rintro ay az _ ak ⟨_,rfl,rfl,al⟩ am;obtain⟨aA,an,ao⟩:=bs aj;refine BI (NO al an) rfl rfl MI am fun aB ap aq=>zg 2 rfl ?_;obtain rfl:=oi ao;exact AP func67 rfl rfl (ab ((K.Ab ak).Ab ap) rfl ⟨rfl,rfl⟩ aq)
def f69(fuel:Nat)(p0:BH)(p1:AT):Option Int:= (f113 fuel p0).bind fun K=> if K.isSome=true then((Je fuel K).bind fun O=> some O) else((f116 fuel p0 p1).bind fun U=> (Je fuel U).bind fun V=> some V)
theorem Kn{U:Ao}{c2:Nat}{V:Ao}{W:Nat}{Y:Ao}{Z:Nat}{p0:BH}{p1:AT}(aa:An (rL rI) E U c2 p0.1)(ab:An (rL rI) E V W p0.2)(al:An By E Y Z p1){fuel:Nat}{r:Int}(ae:f69 fuel p0 p1=some r):AR J 69 [.agg #[sV U p0.1 c2,sV V p0.2 W],sV Y p1 Z] E [] (fun w E' B'=>w=iV r∧B'= []):=by
 refine Bg func69 fun Q aK cs H am ah=>?_;unfold f69 at ae;refine zg 2 rfl (CI am fun aL aM K ai an=>?_);refine zg 5 rfl (Cd ai Cv Cb rfl rfl ?_);obtain⟨ao,ap,aq⟩:=bs ae;refine BM (QY (aa.Ai K) (ab.Ai K) ap) rfl rfl (A5 func113 rfl) an ?_;rintro aN aO _ O ⟨_,rfl,rfl,aj⟩ ak;refine zg 5 rfl (AA (v:= .bool ao.isSome) rfl (fun ρ h=>Nh underlying149 aj (h _ _ rfl) (h _ _ rfl)) ?_);refine JL.done (BP aq (fun ar au=>?_) (fun ar av=>?_))
 ·obtain⟨aP,aw,ay⟩:=bs au;refine zg 3 rfl (BI (NO aj aw) rfl rfl MI ak fun aQ az aA=>?_);refine zg 2 rfl ?_;obtain rfl:=oi ay;exact AP func69 rfl rfl (ah ((K.Ab O).Ab az) rfl ⟨rfl,rfl⟩ aA)
 ·refine zg 3 rfl (Cd (ai.Ai O) Cv Cb rfl rfl ?_);obtain⟨aR,aB,aC⟩:=bs av;refine zg 1 rfl (BM (VA (aa.Ai (K.Ab O)) (ab.Ai (K.Ab O)) (al.Ai (K.Ab O)) aB) rfl rfl (A5 func116 rfl) ak ?_);rintro aS aT _ aD ⟨_,rfl,rfl,aE⟩ aF;obtain⟨aU,aG,aH⟩:=bs aC;refine BI (NO aE aG) rfl rfl MI aF fun aV aI aJ=>zg 2 rfl ?_;obtain rfl:=oi aH;exact AP func69 rfl rfl (ah (((K.Ab O).Ab aD).Ab aI) rfl ⟨rfl,rfl⟩ aJ)
def Qb(fuel:Nat)(p0:BK)(O:(List Int))(K:Nat×Int):Option (Bj (Nat×Int) Nat):= if K.2<(O.length:Int) then((ix O K.2).bind fun U=> (ix p0.1 U).bind fun V=> (f120 fuel V).bind fun W=> (IH K.1 W).bind fun Y=> (Au (K.2+1)).bind fun Z=> some (.more (Y,Z))) else(some (.done K.1))
def f121(fuel:Nat)(p0:BK)(p1:Nat):Option Nat:= (f89 fuel p1).bind fun K=> Option.bind (iter (Qb fuel p0 K) fuel (0,0)) fun O=> some O
theorem WK{k1:Nat}{U:Nat}{Y:Ao}{Z:Nat}{aa:Ao}{ab:Nat}{ae:Lv_}{p0:BK}{p1:Nat}(am:At E k1 U (([sV Y p0.1 Z,sV aa p0.2.1 ab]:Lv_)++ae))(an:An (rL rI) E Y Z p0.1)(a0:An (rL rI) E aa ab p0.2.1)(a1:(rA 13 (rN .u16)).r E ae p0.2.2){fuel:Nat}{r:Nat}(ah:f121 fuel p0 p1=some r):AR J 121 [pV k1 U,uV p1] E [] (fun w E' B'=>w= uV r∧B'= []):=by
 refine Bg func121 fun Q a2 cs H ao ap=>?_;unfold f121 at ah;obtain⟨ai,aq,ar⟩:=bs ah;refine zg 12 rfl (BM (IA aq) rfl rfl Ig ao ?_);rintro _ a3 _ V ⟨au,av,rfl,rfl,aw⟩ ay;refine BA underlying28 rfl rfl rfl ?_;obtain⟨az,aA,aB⟩:=bs ar;refine zg 2 rfl (CB [] [(5,uV az)] (fun a4 aC aD=>?_) (fun aE=>?_))
 ·refine zg 5 rfl ?_;obtain rfl:=oi aB;exact AP func121 rfl rfl (ap (V.Ab aC) rfl ⟨rfl,rfl⟩ aD)
 ·refine JL.block (CC aA (fun O=> []) (fun O=> [(0,pV k1 U),(5,uV O.1),(9,sV au ai av),(10,iV (ai.length:Int)),(11,iV O.2)]) Ap ay ?_);rintro O a5 K aj aF ⟨a6,W⟩ aG;have ak:=W;unfold Qb at ak;refine zg 5 rfl (AX ak (fun aH aI=>?_) (fun aH aJ=>?_))
  ·obtain⟨a7,aK,aL⟩:=bs aI;refine zg 5 rfl (Cj (aw.Ai K) aK underlying28 AU ?_);rintro a8 a9 _ rfl aM;refine B4 0 aM Bq rfl rfl rfl (zg 6 rfl ?_);refine Bz underlying141 Cb rfl rfl rfl (JL.fl 0 (am.Ai (V.Ab K)) underlying24 Cq Da ?_);obtain⟨ba,aN,aO⟩:=bs aL;refine zg 1 rfl (Cj (an.Ai (V.Ab K)) aN underlying22 BL ?_);rintro bb bc _ ⟨bd,be,rfl,aP⟩ aQ;refine B4 0 aQ Df rfl rfl rfl ?_;obtain⟨bf,aR,aS⟩:=bs aO;refine BI (I6 aP aR) rfl rfl II aj fun bg aT aU=>?_;obtain⟨al,aV,aW⟩:=bs aS;refine AA (v:= uV al) rfl (fun ρ h=>JU (h _ _ rfl) (h _ _ rfl) aV) ?_;obtain⟨aX,aY,aZ⟩:=bs aW;refine zg 4 rfl (Bh aY rfl rfl rfl ?_);refine zg 2 rfl ?_;obtain rfl:=oi aZ;exact aG (al,aX) (K.Ab aT) aU rfl W
  ·refine JL.exit rfl ?_;obtain rfl:=oi aJ;obtain rfl:=aF _ W;exact aE K aj rfl
def f130(fuel:Nat)(p0:BU):Option Int:= (f89 fuel p0.2.2).bind fun K=> some (K.length:Int)
theorem VD{K:Ao}{c2:Nat}{p0:BU}(ai:An rI E K c2 p0.2.1){fuel:Nat}{r:Int}(O:f130 fuel p0=some r):AR J 130 [.agg #[iV p0.1,sV K p0.2.1 c2,uV p0.2.2]] E [] (fun w E' B'=>w=iV r∧B'= []):=by
 refine Bg func130 fun Q aj cs H U V=>?_;unfold f130 at O;refine zg 2 rfl (CI U fun ak al W Y Z=>?_);refine zg 4 rfl (JL.fl 2 Y underlying104 DZ Gv ?_);obtain⟨am,aa,ab⟩:=bs O;refine BM (IA aa) rfl rfl Ig Z ?_;rintro _ an _ ae ⟨ao,ap,rfl,rfl,aq⟩ ah;refine BA underlying28 rfl rfl rfl (zg 2 rfl ?_);obtain rfl:=oi ab;exact AP func130 rfl rfl (V (W.Ab ae) rfl ⟨rfl,rfl⟩ ah)
def QN(fuel:Nat)(p0:List BU)(K:Nat×Int):Option (Bj (Nat×Int) Nat):= if K.2<(p0.length:Int) then((ix p0 K.2).bind fun O=> (f90 fuel K.1 O.1).bind fun U=> (Au (K.2+1)).bind fun V=> some (.more (U,V))) else(some (.done K.1))
def f87(fuel:Nat)(p0:List BU):Option Nat:= Option.bind (iter (QN fuel p0) fuel (0,0)) fun K=> some K
theorem W5{O:Ao}{c2:Nat}{p0:List (BU)}(aa:An C8 E O c2 p0){fuel:Nat}{r:Nat}(W:f87 fuel p0=some r):AR J 87 [sV O p0 c2] E [] (fun w E' B'=>w= uV r∧B'= []):=by
 refine Bg func87 fun Q aL cs H ab ae=>?_;unfold f87 at W;refine zg 12 rfl (BA underlying95 rfl rfl rfl ?_);obtain⟨ah,ai,aj⟩:=bs W;refine zg 2 rfl (CB [] [(3,uV ah)] (fun aM ak al=>?_) (fun am=>?_))
 ·refine zg 5 rfl ?_;obtain rfl:=oi aj;exact AP func87 rfl rfl (ae ak rfl ⟨rfl,rfl⟩ al)
 ·refine JL.block (CC ai (fun K=> []) (fun K=> [(3,uV K.1),(6,sV O p0 c2),(7,iV (p0.length:Int)),(8,iV K.2)]) Ap ab ?_);rintro K aN U Y an ⟨aO,V⟩ ao;have Z:=V;unfold QN at Z;refine zg 5 rfl (AX Z (fun ap aq=>?_) (fun ap ar=>?_))
  ·obtain⟨aP,au,av⟩:=bs aq;refine zg 5 rfl (Cj (aa.Ai U) au underlying95 Ca ?_);rintro aQ aR _ ⟨_,_,rfl,rfl,⟨_,_,rfl,⟨aS,aT,rfl,aU⟩,rfl⟩⟩ aw;refine Cd aw FA Ca rfl rfl (Cz Y Gx fun aV ay=>?_);refine BJ 0 ay Ca fun az=>?_;refine C4 0 az rfl fun aW aA aB aC=>zg 3 rfl (JL.fl 0 aB underlying104 AU Bq ?_);obtain⟨aD,aE,aF⟩:=bs av;refine BI (Mv aE) rfl rfl K9 aC fun aX aG aH=>?_;obtain⟨aI,aJ,aK⟩:=bs aF;refine zg 4 rfl (Bh aJ rfl rfl rfl ?_);refine zg 2 rfl ?_;obtain rfl:=oi aK;exact ao (aD,aI) ((U.Ab aA).Ab aG) aH rfl V
  ·refine JL.exit rfl ?_;obtain rfl:=oi ar;obtain rfl:=an _ V;exact am U Y rfl
def QS(fuel:Nat)(p0:BK)(O:Int)(K:Nat×Int):Option (Bj (Nat×Int) Nat):= if K.2<O then((f121 fuel p0 K.1).bind fun U=> (Au (K.2+1)).bind fun V=> some (.more (U,V))) else(some (.done K.1))
def f88(fuel:Nat)(p0:BK)(p1:BU)(p2:Int):Option Nat:= (Au ((p1.2.1.length:Int) - 1)).bind fun K=> if p2≤K then((ix p1.2.1 p2).bind fun O=> (f120 fuel ([O]:List Int)).bind fun U=> some U) else((ix p1.2.1 K).bind fun V=> (f120 fuel ([V]:List Int)).bind fun W=> (Au (p2 - K)).bind fun Y=> Option.bind (iter (QS fuel p0 Y) fuel (W,0)) fun Z=> some Z)
theorem Xi{k1:Nat}{Y:Nat}{ab:Ao}{ae:Nat}{ah:Ao}{ai:Nat}{aj:Lv_}{ak:Ao}{al:Nat}{p0:BK}{p1:BU}{p2:Int}(aw:At E k1 Y (([sV ab p0.1 ae,sV ah p0.2.1 ai]:Lv_)++aj))(ay:An (rL rI) E ab ae p0.1)(az:An (rL rI) E ah ai p0.2.1)(aA:(rA 13 (rN .u16)).r E aj p0.2.2)(am:An rI E ak al p1.2.1){fuel:Nat}{r:Nat}(an:f88 fuel p0 p1 p2=some r):AR J 88 [pV k1 Y,.agg #[iV p1.1,sV ak p1.2.1 al,uV p1.2.2],iV p2] E [] (fun w E' B'=>w= uV r∧B'= []):=by
 refine Bg func88 fun Q bq cs H aB ao=>?_;unfold f88 at an;refine zg 2 rfl (CI aB fun br bu K Z ap=>?_);refine zg 4 rfl (JL.fl 1 Z underlying104 BL Df ?_);refine BA underlying28 rfl rfl rfl ?_;obtain⟨bv,aC,aD⟩:=bs an;refine BX aC rfl rfl rfl (zg 9 rfl ?_);refine AX aD (fun aE aF=>?_) (fun aE aG=>?_)
 ·refine zg 2 rfl (JL.fl 1 Z underlying104 BL Df ?_);obtain⟨aq,aH,aI⟩:=bs aF;refine zg 1 rfl (Cj (am.Ai K) aH underlying28 AU ?_);rintro bw bx _ rfl aJ;refine B4 0 aJ Bq rfl rfl rfl (JS.lit (pp:=rI) [iV aq] [aq] rfl rfl rfl underlying28 AU Cp (by decide) rfl rfl rfl ⟨rfl,trivial⟩ ap fun bz bA aK aL=>?_);refine Cf 2 aK aL rfl fun bB aM aN aO=>?_;obtain⟨bC,aP,aQ⟩:=bs aI;refine BI (I6 aN aP) rfl rfl II aO fun bD aR aS=>zg 2 rfl ?_;obtain rfl:=oi aQ;exact AP func88 rfl rfl (ao ((K.Ab aM).Ab aR) rfl ⟨rfl,rfl⟩ aS)
 ·refine zg 3 rfl (JL.fl 1 Z underlying104 BL Df ?_);obtain⟨ar,aT,aU⟩:=bs aG;refine zg 1 rfl (Cj (am.Ai K) aT underlying28 AU ?_);rintro bE bF _ rfl aV;refine B4 0 aV Bq rfl rfl rfl (JS.lit (pp:=rI) [iV ar] [ar] rfl rfl rfl underlying28 AU Cp (by decide) rfl rfl rfl ⟨rfl,trivial⟩ ap fun bG bH aW aX=>?_);refine Cf 2 aW aX rfl fun bI U aY aZ=>?_;obtain⟨bJ,a0,a1⟩:=bs aU;refine BI (I6 aY a0) rfl rfl II aZ fun bK V a2=>?_;obtain⟨a3,a4,a5⟩:=bs a1;refine zg 7 rfl (BX a4 rfl rfl rfl ?_);obtain⟨a6,a7,a8⟩:=bs a5;refine zg 2 rfl (CB [] [(8,uV a6)] (fun bL a9 ba=>?_) (fun bb=>?_))
  ·refine zg 5 rfl ?_;obtain rfl:=oi a8;exact AP func88 rfl rfl (ao (((K.Ab U).Ab V).Ab a9) rfl ⟨rfl,rfl⟩ ba)
  ·refine JL.block (CC a7 (fun W=> []) (fun W=> [(0,pV k1 Y),(8,uV W.1),(32,iV a3),(33,iV W.2)]) Ap a2 ?_);rintro W bM O au bc ⟨bN,aa⟩ bd;have av:=aa;unfold QS at av;refine zg 5 rfl (AX av (fun be bf=>?_) (fun be bg=>?_))
   ·obtain⟨bh,bi,bj⟩:=bs bf;refine zg 6 rfl (BI (WK (aw.Ai (((K.Ab U).Ab V).Ab O)) (ay.Ai (((K.Ab U).Ab V).Ab O)) (az.Ai (((K.Ab U).Ab V).Ab O)) (Rp.Ai _ (((K.Ab U).Ab V).Ab O) aA) bi) rfl rfl (A5 func121 rfl) au fun bO bl bm=>?_);obtain⟨bn,bo,bp⟩:=bs bj;refine zg 4 rfl (Bh bo rfl rfl rfl ?_);refine zg 2 rfl ?_;obtain rfl:=oi bp;exact bd (bh,bn) (O.Ab bl) bm rfl aa
   ·refine JL.exit rfl ?_;obtain rfl:=oi bg;obtain rfl:=bc _ aa;exact bb O au rfl
end Pal
namespace Pal
open Go Go.Conc Go.Proofs
open Go.Proofs.Tryz
variable {J:Judge Tryz.prog}{E:LH}
def Ls(fuel:Nat)(p0:BK)(O:(List Int))(K:Nat×Int):Option (Bj (Nat×Int) Nat):= if K.2<(O.length:Int) then((ix O K.2).bind fun U=> (ix p0.1 U).bind fun V=> (f120 fuel V).bind fun W=> (IH K.1 W).bind fun Y=> (Au (K.2+1)).bind fun Z=> some (.more (Y,Z))) else(some (.done K.1))
def Kh(fuel:Nat)(p0:BK)(p1:Nat):Option (Nat×(BK)):= (f89 fuel p1).bind fun K=> Option.bind (iter (Ls fuel p0 K) fuel (0,0)) fun O=> some (O,p0)
theorem Vx{bk:Nat}{K:Ao}{c2:Nat}{O:Ao}{U:Nat}{V:Lv_}{p0:BK}{p1:Nat}(ah:An (rL rI) E K c2 p0.1)(ar:An (rL rI) E O U p0.2.1)(au:(rA 13 (rN .u16)).r E V p0.2.2){fuel:Nat}{r:Nat×(BK)}(ai:Kh fuel p0 p1=some r):AR J 121 [pV bk 0,uV p1] E [(bk,.cells (([sV K p0.1 c2,sV O p0.2.1 U]:Lv_)++V).toArray 141 (0,0))] (fun w E' B'=>∃(aj:Ao) (ak:Nat) (al:Ao) (am:Nat) (an:Lv_),w= uV r.1∧B'= [(bk,.cells (([sV aj r.2.1 ak,sV al r.2.2.1 am]:Lv_)++an).toArray 141 (0,0))]∧An (rL rI) E' aj ak r.2.1∧An (rL rI) E' al am r.2.2.1∧(rA 13 (rN .u16)).r E' an r.2.2.2):=by
 refine Bg func121 fun Q a4 cs H av aw=>?_;unfold Kh at ai;obtain⟨ao,ay,az⟩:=bs ai;refine zg 12 rfl (BM (IA ay) rfl rfl Ig av ?_);rintro _ a5 _ W ⟨aA,aB,rfl,rfl,aC⟩ aD;refine BA underlying28 rfl rfl rfl ?_;obtain⟨aE,aF,aG⟩:=bs az;refine zg 2 rfl (CB [bX bk (([sV K p0.1 c2,sV O p0.2.1 U]:Lv_)++V).toArray 141] [(5,uV aE)] (fun a6 Y aH=>?_) (fun aI=>?_))
 ·refine zg 5 rfl ?_;obtain rfl:=oi aG;exact AP func121 rfl rfl (aw (W.Ab Y) rfl ⟨K,c2,O,U,V,rfl,rfl,(ah.Ai (W.Ab Y)),(ar.Ai (W.Ab Y)),(Rp.Ai _ (W.Ab Y) au)⟩ aH)
 ·refine JL.block (CC aF (fun Z=> [bX bk (([sV K p0.1 c2,sV O p0.2.1 U]:Lv_)++V).toArray 141]) (fun Z=> [(0,pV bk 0),(5,uV Z.1),(9,sV aA ao aB),(10,iV (ao.length:Int)),(11,iV Z.2)]) Ap aD ?_);rintro Z a7 aa ab aJ ⟨a8,ae⟩ aK;have ap:=ae;unfold Ls at ap;refine zg 5 rfl (AX ap (fun aL aM=>?_) (fun aL aN=>?_))
  ·obtain⟨a9,aO,aP⟩:=bs aM;refine zg 5 rfl (Cj (aC.Ai aa) aO underlying28 AU ?_);rintro ba bb _ rfl aQ;refine B4 0 aQ Bq rfl rfl rfl (zg 6 rfl ?_);refine Bz underlying141 Cb rfl rfl rfl (Bz underlying24 Cq rfl rfl rfl ?_);refine AA (v:= sV K p0.1 c2) rfl (fun ρ h=>Yl.load Da (h _ _ rfl) (Um (o:=0) (l:= [sV K p0.1 c2,sV O p0.2.1 U]) 0 ab rfl rfl)) ?_;obtain⟨bc,aR,aS⟩:=bs aP;refine zg 1 rfl (Cj (ah.Ai (W.Ab aa)) aR underlying22 BL ?_);rintro bd be _ ⟨bf,bg,rfl,aT⟩ aU;refine B4 0 aU Df rfl rfl rfl ?_;obtain⟨bh,aV,aW⟩:=bs aS;refine BI (I6 aT aV) rfl rfl II ab fun bi aX aY=>?_;obtain⟨aq,aZ,a0⟩:=bs aW;refine AA (v:= uV aq) rfl (fun ρ h=>JU (h _ _ rfl) (h _ _ rfl) aZ) ?_;obtain⟨a1,a2,a3⟩:=bs a0;refine zg 4 rfl (Bh a2 rfl rfl rfl ?_);refine zg 2 rfl ?_;obtain rfl:=oi a3;exact aK (aq,a1) (aa.Ab aX) aY rfl ae
  ·refine JL.exit rfl ?_;obtain rfl:=oi aN;obtain rfl:=aJ _ ae;exact aI aa ab rfl
end Pal
namespace Pal
open Go Go.Conc Go.Proofs
open Go.Proofs.Tryz
variable {J:Judge Tryz.prog}{E:LH}
theorem V1:RD Tryz.prog 138 .u16:=⟨_,underlying138,by decide+kernel,by decide,underlying102,rfl⟩
def Kd(fuel:Nat)(K:(List (List Int))×(List (List Int))×(List Nat)×(List Nat)×Int):Option (Bj ((List (List Int))×(List (List Int))×(List Nat)×(List Nat)×Int) ((List (List Int))×(List (List Int))×(List Nat)×(List Nat))):= if K.2.2.2.2<12 then((Au (K.2.2.2.2+1)).bind fun U=> (ix K.2.2.1 K.2.2.2.2).bind fun V=> (Kh fuel (K.1,K.2.1,K.2.2.1) V).bind fun O=> (ix K.2.2.2.1 U).bind fun Y=> (Au (K.2.2.2.2+1)).bind fun W=> some (.more (O.2.1,O.2.2.1,O.2.2.2,(K.2.2.2.1.set (Int.toNat U) O.1),W))) else(some (.done (K.1,K.2.1,K.2.2.1,K.2.2.2.1)))
def L3(fuel:Nat)(O:BK):Option (Bj BK (((Option BK))⊕Unit)):= Option.bind (iter (Kd fuel) fuel (O.1,O.2.1,O.2.2,O.2.2,0)) fun K=> if K.2.2.2≠K.2.2.1 then(some (.more (K.1,K.2.1,K.2.2.2))) else(some (.done (Sum.inl (some (K.1,K.2.1,K.2.2.1)))))
def f92(fuel:Nat)(p0:BH):Option ((Option BK)):= (ix (List.replicate 13 (0:Nat)) (0)).bind fun O=> Option.bind (iter (L3 fuel) fuel (p0.1,p0.2,((List.replicate 13 (0:Nat)).set (Int.toNat 0) 1))) fun K=> Sum.elim (fun r=>some r) (fun U=>none) K
theorem Mr{ao:Ao}{c2:Nat}{ap:Ao}{aq:Nat}{p0:BH}(bf:An (rL rI) E ao c2 p0.1)(bg:An (rL rI) E ap aq p0.2){fuel:Nat}{r:(Option BK)}(aV:f92 fuel p0=some r):AR J 92 [.agg #[sV ao p0.1 c2,sV ap p0.2 aq]] E [] (fun w E' B'=>∃(aW:Value),w=aW∧B'= []∧Jp (rP (rL (rL rI)) (rP (rL (rL rI)) (rA 13 (rN .u16)))) E' aW r):=by
 refine Bg func92 fun Q cc cs H bh bi=>?_;unfold f92 at aV;refine zg 2 rfl (CI bh fun cd ar aP bj bl=>?_);refine zg 5 rfl (Cd bj Cv Cb rfl rfl ?_);refine AA (v:= .agg (([sV ao p0.1 c2,sV ap p0.2 aq]:Lv_)++(List.replicate 13 (uV 0):Lv_)).toArray) rfl (fun ρ h=>CG [(0,2),(2,13)] h (D6 type141) underlying141 ⟨rfl,Bf type24,rfl,Bf type139,trivial⟩ rfl rfl) (JS.box (v:= .agg (([sV ao p0.1 c2,sV ap p0.2 aq]:Lv_)++(List.replicate 13 (uV 0):Lv_)).toArray) rfl rfl rfl bl rfl fun U bm=>?_);refine zg 6 rfl (Bz underlying141 FT rfl rfl rfl ?_);obtain⟨ce,aQ,bn⟩:=bs aV;obtain⟨_,rfl,_,_,cf⟩:=HO (kk:=13) (pp:=(rN .u16)) (I9 (E:=ar) (pp:=(rN .u16)) rfl) aQ;refine AA (v:= .pointer (some ⟨U,2+Int.toNat (0)*1,none⟩)) rfl (fun ρ h=>IQ (kk:=13) (pp:=(rN .u16)) (I9 (E:=ar) (pp:=(rN .u16)) rfl) aQ underlying139 HH (h _ _ rfl) (h _ _ rfl)) (Bz underlying138 DZ rfl rfl rfl ?_);have aI:=NS (us:= [uV 1]) (y:=1) (I9 (E:=ar) (pp:=(rN .u16)) rfl) aQ rfl;refine JK (v:= uV 1) (l:= [sV ao p0.1 c2,sV ap p0.2 aq]) (ws:=(List.replicate 13 (uV 0):Lv_)) (us:= [uV 1]) (o:=Int.toNat (0)*1) 2 rfl rfl rfl bm rfl rfl rfl DZ (by simp [Value.cells,CK]) rfl aI.2 fun aX=>?_;replace aI:=aI.1;generalize bo:Hh (List.replicate 13 (uV 0):Lv_) (Int.toNat (0)*1) [uV 1]=aY at aX ⊢;have bp:(rA 13 (rN .u16)).r ar aY ((List.replicate 13 (0:Nat)).set (Int.toNat 0) 1):=by rw [← bo];exact aI
 refine zg 2 rfl (JL.label ?_);obtain⟨cg,bq,br⟩:=bs bn;refine HZ [(3,pV U 0)] rfl (T4 bq (fun L s Y=>∃(V:LH) (ay:Ao) (az:Nat) (aA:Ao) (aB:Nat) (Z:Lv_),Jn ar H V [[(U,.cells (([sV ay Y.1 az,sV aA Y.2.1 aB]:Lv_)++Z).toArray 141 (0,0))]] [(3,pV U 0)] L s (An (rL rI) V ay az Y.1∧An (rL rI) V aA aB Y.2.1∧(rA 13 (rN .u16)).r V Z Y.2.2)) ⟨ar,ao,c2,ap,aq,aY,rfl,rfl,Ap,aX,(bf.Ai aP),(bg.Ai aP),bp⟩ ?_);rintro _ _ Y ⟨V,ay,az,aA,aB,Z,rfl,rfl,aZ,a0,bu,bv,ai⟩ bw ⟨ci,aR⟩ bx;have a1:=aR;unfold L3 at a1;refine zg 4 rfl (Bz underlying141 FT rfl rfl rfl ?_);refine AA (v:= .agg Z.toArray) rfl (fun ρ h=>JP (kk:=13) (pp:=(rN .u16)) ai KN FT (h _ _ rfl) (Lu (l:= [sV ay Y.1 az,sV aA Y.2.1 aB]) 0 a0 rfl)) (Cz a0 (D6 type139) fun au bz=>?_);refine JK (v:= .agg Z.toArray) (l:= []) (ws:=(List.replicate 13 (uV 0):Lv_)) (us:=Z) (o:=0) 1 rfl rfl rfl bz rfl rfl rfl (by rw [FZ (kk:=13) (pp:=(rN .u16)) ai];exact Bf type139) ((rA 13 (rN .u16)).one ai) rfl (by rw [FZ (kk:=13) (pp:=(rN .u16)) ai,FZ (kk:=13) (pp:=(rN .u16)) (I9 (E:=V) (pp:=(rN .u16)) rfl)];omega) fun a2=>?_;rw [Pv (by rw [FZ (kk:=13) (pp:=(rN .u16)) ai,FZ (kk:=13) (pp:=(rN .u16)) (I9 (E:=V) (pp:=(rN .u16)) rfl)])] at a2 ⊢;obtain⟨K,bA,bB⟩:=bs a1;refine zg 6 rfl (Bu (fun L s=>∃(aj:LH) (ak:Ao) (al:Nat) (aa:Ao) (ab:Nat) (am:Lv_) (ae:Lv_),Jn V H aj [bX U (([sV ak K.1 al,sV aa K.2.1 ab]:Lv_)++am).toArray 141,bX au (([]:Lv_)++ae).toArray 139] [(3,pV U 0),(4,pV au 0)] L s (An (rL rI) aj ak al K.1∧An (rL rI) aj aa ab K.2.1∧(rA 13 (rN .u16)).r aj am K.2.2.1∧(rA 13 (rN .u16)).r aj ae K.2.2.2)) ?_ ?_)
 ·rintro _ _ ⟨aj,ak,al,aa,ab,am,ae,rfl,rfl,a3,av,a4,a5,aC,ah⟩;refine zg 2 rfl (CY 5 [au,U] ⟨⟨1,_,rfl⟩,⟨0,_,rfl⟩,trivial⟩ av fun ht=>?_);refine Bv (v:= .agg ae.toArray) 0 ht rfl rfl (fun ρ h s' hs=>JP (kk:=13) (pp:=(rN .u16)) ah KN FT (h _ _ rfl) (Nc (l:= []) 1 av rfl (by simp [AZ]) hs)) (Bn ht rfl [1,2] rfl ?_);refine Ce 3 ht underlying141 FT rfl rfl rfl rfl (Bv (v:= .agg am.toArray) 4 ht rfl rfl (fun ρ h s' hs=>JP (kk:=13) (pp:=(rN .u16)) aC KN FT (h _ _ rfl) (Nc (l:= [sV ak K.1 al,sV aa K.2.1 ab]) 0 av rfl (by simp [AZ]) hs)) ?_);refine Cy [5] (AA (v:= .bool (decide (K.2.2.2≠K.2.2.1))) rfl (fun ρ h=>T3 underlying139 (by decide+kernel) V1 HH ah aC (h _ _ rfl) (h _ _ rfl)) ?_);refine JL.done (AX bB (fun bC bD=>?_) (fun bC bE=>?_))
  ·refine zg 3 rfl (AA (v:= .agg ae.toArray) rfl (fun ρ h=>JP (kk:=13) (pp:=(rN .u16)) ah KN FT (h _ _ rfl) (Lu (l:= []) 1 av rfl)) ?_);refine zg 1 rfl (Bz underlying141 FT rfl rfl rfl ?_);refine JK (v:= .agg ae.toArray) (l:= [sV ak K.1 al,sV aa K.2.1 ab]) (ws:=am) (us:=ae) (o:=0) 0 rfl rfl rfl av rfl rfl rfl (by rw [FZ (kk:=13) (pp:=(rN .u16)) ah];exact Bf type139) ((rA 13 (rN .u16)).one ah) rfl (by rw [FZ (kk:=13) (pp:=(rN .u16)) ah,FZ (kk:=13) (pp:=(rN .u16)) aC];omega) fun a6=>?_;rw [Pv (by rw [FZ (kk:=13) (pp:=(rN .u16)) ah,FZ (kk:=13) (pp:=(rN .u16)) aC])] at a6 ⊢;refine JL.done (JL.goto rfl ?_);refine zg 2 rfl (JS.drop 1 a6 rfl fun bF=>?_);obtain rfl:=oi bD;exact Az (bx _ _ (K.1,K.2.1,K.2.2.2) ⟨aj,ak,al,aa,ab,ae,rfl,rfl,(aZ.Ab a3),bF,a4,a5,ah⟩ aR) rfl
  ·refine zg 6 rfl (C4 0 av rfl fun ck aJ bG bH=>?_);refine JS.drop 1 bH rfl fun bI=>?_;obtain rfl:=oi bE;obtain rfl:=bw _ aR;have bJ:=elim_inl br;obtain rfl:=oi bJ;exact AP func92 rfl rfl (bi (((aP.Ab aZ).Ab a3).Ab aJ) rfl ⟨pV U 0,rfl,rfl,⟨_,_,_,rfl,bG,⟨[sV ak K.1 al],(([sV aa K.2.1 ab]:Lv_)++am),rfl,⟨_,_,rfl,(a4.Ai aJ)⟩,⟨[sV aa K.2.1 ab],am,rfl,⟨_,_,rfl,(a5.Ai aJ)⟩,(Rp.Ai _ aJ aC)⟩⟩⟩⟩ bI)
 ·intro bK;refine JL.block (CM bA (fun L s O=>∃(an:LH) (aD:Ao) (aE:Nat) (aF:Ao) (aG:Nat) (aK:Lv_) (aw:Lv_),Jn V H an [bX U (([sV aD O.1 aE,sV aF O.2.1 aG]:Lv_)++aK).toArray 141,bX au (([]:Lv_)++aw).toArray 139] [(3,pV U 0),(4,pV au 0),(18,iV O.2.2.2.2)] L s (An (rL rI) an aD aE O.1∧An (rL rI) an aF aG O.2.1∧(rA 13 (rN .u16)).r an aK O.2.2.1∧(rA 13 (rN .u16)).r an aw O.2.2.2.1)) ⟨V,ay,az,aA,aB,Z,Z,rfl,rfl,Ap,a2,bu,bv,ai,ai⟩ ?_);rintro _ _ O ⟨an,aD,aE,aF,aG,aK,aw,rfl,rfl,a7,aS,a8,a9,aL,aM⟩ bL ⟨cm,aT⟩ bM;have ba:=aT;unfold Kd at ba;refine zg 5 rfl (AX ba (fun bN bO=>?_) (fun bN bP=>?_))
  ·obtain⟨aH,bQ,bR⟩:=bs bO;refine zg 10 rfl (Bh bQ rfl rfl rfl ?_);refine zg 4 rfl (Bz underlying141 FT rfl rfl rfl ?_);obtain⟨bS,bb,bT⟩:=bs bR;obtain⟨_,rfl,_,_,bU⟩:=HO (kk:=13) (pp:=(rN .u16)) aL bb;refine AA (v:= .pointer (some ⟨U,2+Int.toNat (O.2.2.2.2)*1,none⟩)) rfl (fun ρ h=>IQ (kk:=13) (pp:=(rN .u16)) aL bb underlying139 HH (h _ _ rfl) (h _ _ rfl)) (Bz underlying138 DZ rfl rfl rfl ?_);refine AA (v:= uV bS) rfl (fun ρ h=>Yl.load Gv (h _ _ rfl) (Te (l:= [sV aD O.1 aE,sV aF O.2.1 aG]) 0 aS rfl (bU 0 _ rfl))) ?_;obtain⟨W,bV,bW⟩:=bs bT;refine BS 0 (Vx a8 a9 aL bV) rfl rfl (A5 func121 rfl) aS rfl ?_;rintro _ bc _ aN ⟨bY,bZ,b0,b1,Jl,rfl,rfl,b2,b3,b4⟩ b5;obtain⟨cn,aU,b6⟩:=bs bW;obtain⟨_,rfl,_,_,co⟩:=HO (kk:=13) (pp:=(rN .u16)) (Rp.Ai _ aN aM) aU;refine AA (v:= .pointer (some ⟨au,0+Int.toNat (aH)*1,none⟩)) rfl (fun ρ h=>IQ (kk:=13) (pp:=(rN .u16)) (Rp.Ai _ aN aM) aU underlying139 HH (h _ _ rfl) (h _ _ rfl)) (Bz underlying138 DZ rfl rfl rfl ?_);have aO:=NS (us:= [uV W.1]) (y:=W.1) (Rp.Ai _ aN aM) aU rfl;refine JK (v:= uV W.1) (l:= []) (ws:=aw) (us:= [uV W.1]) (o:=Int.toNat (aH)*1) 1 rfl rfl rfl b5 rfl rfl rfl DZ (by simp [Value.cells,CK]) rfl aO.2 fun bd=>?_;replace aO:=aO.1;generalize b7:Hh aw (Int.toNat (aH)*1) [uV W.1]=be at bd ⊢;have b8:(rA 13 (rN .u16)).r bc be (O.2.2.2.1.set (Int.toNat aH) W.1):=by rw [← b7];exact aO
   obtain⟨b9,ca,cb⟩:=bs b6;refine zg 3 rfl (Bh ca rfl rfl rfl ?_);refine zg 2 rfl ?_;obtain rfl:=oi cb;exact Az (bM _ _ (W.2.1,W.2.2.1,W.2.2.2,(O.2.2.2.1.set (Int.toNat aH) W.1),b9) ⟨bc,bY,bZ,b0,b1,Jl,be,rfl,rfl,(a7.Ab aN),bd,b2,b3,b4,b8⟩ aT) rfl
  ·refine JL.exit rfl ?_;obtain rfl:=oi bP;obtain rfl:=bL _ aT;exact Az (bK _ _ ⟨an,aD,aE,aF,aG,aK,aw,rfl,rfl,a7,aS,a8,a9,aL,aM⟩) rfl
end Pal
namespace Pal
open Go Go.Conc Go.Proofs
open Go.Proofs.Tryz
variable {J:Judge Tryz.prog}{E:LH}
def Qi(fuel:Nat)(p1:List Int)(K:Int):Option (Bj Int (((Option BK)×Int)⊕(Unit))):= if K<(p1.length:Int) then((ix p1 K).bind fun O=> (f101 fuel O 0 12).bind fun U=> if U=true then(some (.done (Sum.inl (none,1)))) else((Au (K+1)).bind fun V=> some (.more V))) else(some (.done (Sum.inr ())))
def f106(fuel:Nat)(p0:BH)(p1:List Int):Option ((Option BK)×Int):= (f67 fuel p0).bind fun K=> if K≠0 then(some (none,K)) else(Option.bind (iter (Qi fuel p1) fuel 0) fun O=> Sum.elim (fun r=>some r) (fun V=> (f92 fuel p0).bind fun U=> some (U,0)) O)
theorem Q9{ae:Ao}{c2:Nat}{ah:Ao}{ai:Nat}{Y:Ao}{Z:Nat}{p0:BH}{p1:List Int}(aj:An (rL rI) E ae c2 p0.1)(ak:An (rL rI) E ah ai p0.2)(aC:An rI E Y Z p1){fuel:Nat}{r:(Option BK)×Int}(al:f106 fuel p0 p1=some r):AR J 106 [.agg #[sV ae p0.1 c2,sV ah p0.2 ai],sV Y p1 Z] E [] (fun w E' B'=>∃(am:Value),w= .tuple #[am,iV r.2]∧B'= []∧Jp (rP (rL (rL rI)) (rP (rL (rL rI)) (rA 13 (rN .u16)))) E' am r.1):=by
 refine Bg func106 fun Q bd cs H aD aa=>?_;unfold f106 at al;refine zg 2 rfl (CI aD fun an be K ao aE=>?_);refine zg 6 rfl (Cd ao Cv Cb rfl rfl ?_);obtain⟨bf,aF,aG⟩:=bs al;refine BI (WU (aj.Ai K) (ak.Ai K) aF) rfl rfl (A5 func67 rfl) aE fun aH O ap=>zg 7 rfl (AX aG (fun aI aJ=>?_) (fun aI aK=>?_))
 ·refine zg 6 rfl ?_;obtain rfl:=oi aJ;exact AP func106 rfl rfl (aa (K.Ab O) rfl ⟨.pointer none,rfl,rfl,rfl⟩ ap)
 ·refine zg 5 rfl (BA underlying28 rfl rfl rfl ?_);obtain⟨aq,aL,ar⟩:=bs aK;refine zg 2 rfl (Bu (fun L s=>∃(au:Unit) (av:LH),aq=Sum.inr au∧Jm aH H av [] [(2,pV an 0)] L s) ?_ ?_)
  ·rintro _ _ ⟨au,av,rfl,rfl,rfl,U,aM⟩;have aN:=elim_inr ar;refine zg 2 rfl (Cd (ao.Ai (O.Ab U)) Cv Cb rfl rfl ?_);obtain⟨bg,aO,aP⟩:=bs aN;refine BM (Mr (aj.Ai ((K.Ab O).Ab U)) (ak.Ai ((K.Ab O).Ab U)) aO) rfl rfl K1 aM ?_;rintro aQ bh _ aR ⟨_,rfl,rfl,aS⟩ aT;refine zg 3 rfl ?_;obtain rfl:=oi aP;exact AP func106 rfl rfl (aa (((K.Ab O).Ab U).Ab aR) rfl ⟨aQ,rfl,rfl,aS⟩ aT)
  ·intro aU;refine JL.block (CC aL (fun ab=> []) (fun ab=> [(2,pV an 0),(14,sV Y p1 Z),(15,iV (p1.length:Int)),(16,iV ab)]) Ap ap ?_);rintro ab aV V aw ay ⟨bi,W⟩ aW;have az:=W;unfold Qi at az;refine zg 5 rfl (AX az (fun aX aY=>?_) (fun aX aZ=>?_))
   ·obtain⟨bj,a0,a1⟩:=bs aY;refine zg 5 rfl (Cj (aC.Ai ((K.Ab O).Ab V)) a0 underlying28 AU ?_);rintro bl bm _ rfl a2;refine B4 0 a2 Bq rfl rfl rfl ?_;obtain⟨bn,a3,a4⟩:=bs a1;refine zg 5 rfl (BI (Iz a3) rfl rfl Ie aw fun bo aA aB=>?_);refine JL.done (BP a4 (fun a5 a6=>?_) (fun a5 a7=>?_))
    ·refine zg 5 rfl ?_;obtain rfl:=oi a6;obtain rfl:=ay _ W;have a8:=elim_inl ar;obtain rfl:=oi a8;exact AP func106 rfl rfl (aa (((K.Ab O).Ab V).Ab aA) rfl ⟨.pointer none,rfl,rfl,rfl⟩ aB)
    ·obtain⟨a9,ba,bb⟩:=bs a7;refine zg 3 rfl (Bh ba rfl rfl rfl ?_);refine zg 2 rfl ?_;obtain rfl:=oi bb;exact aW a9 (V.Ab aA) aB rfl W
   ·refine JL.exit rfl ?_;obtain rfl:=oi aZ;have bc:aq=(Sum.inr ()):=(ay _ W).symm;exact Az (aU _ _ ⟨(),aV,bc,rfl,rfl,V,aw⟩) rfl
def f51(fuel:Nat)(p0:BH)(p1:Int):Option ((List Int)×Int):= (f106 fuel p0 ([p1]:List Int)).bind fun K=> if K.2≠0 then(some ([],K.2)) else((K.1).bind fun O=> (ix O.2.2 p1).bind fun U=> (f89 fuel U).bind fun V=> some (V,0))
theorem WQ{U:Ao}{c2:Nat}{V:Ao}{W:Nat}{p0:BH}{p1:Int}(ak:An (rL rI) E U c2 p0.1)(al:An (rL rI) E V W p0.2){fuel:Nat}{r:(List Int)×Int}(Y:f51 fuel p0 p1=some r):AR J 51 [.agg #[sV U p0.1 c2,sV V p0.2 W],iV p1] E [] (fun w E' B'=>∃(Z:Ao) (aa:Nat),w= .tuple #[sV Z r.1 aa,iV r.2]∧B'= []∧An rI E' Z aa r.1):=by
 refine Bg func51 fun Q aU cs H am ab=>?_;unfold f51 at Y;refine zg 2 rfl (CI am fun aV aW K an ao=>?_);refine zg 5 rfl (Cd an Cv Cb rfl rfl ?_);refine zg 1 rfl (JS.lit (pp:=rI) [iV p1] [p1] rfl rfl rfl underlying28 AU Cp (by decide) rfl rfl rfl ⟨rfl,trivial⟩ ao fun aX aY ap aq=>?_);refine Cf 2 ap aq rfl fun aZ O ar au=>?_;obtain⟨a0,av,aw⟩:=bs Y;refine BM (Q9 (ak.Ai (K.Ab O)) (al.Ai (K.Ab O)) ar av) rfl rfl (A5 func106 rfl) au ?_;rintro _ a1 _ ae ⟨a2,rfl,rfl,ay⟩ ah;refine zg 12 rfl (AX aw (fun az aA=>?_) (fun az aB=>?_))
 ·refine zg 6 rfl ?_;obtain rfl:=oi aA;exact AP func51 rfl rfl (ab ((K.Ab O).Ab ae) rfl ⟨none,0,rfl,rfl,An.nil⟩ ah)
 ·obtain⟨ai,aC,aD⟩:=bs aB;have aj:=ay;refine zg 5 rfl ?_;rw [aC] at aj;obtain⟨a3,a4,_,rfl,aE,⟨_,_,rfl,⟨aF,aG,rfl,a5⟩,⟨_,a6,rfl,⟨aH,aI,rfl,a7⟩,aJ⟩⟩⟩:=aj;refine zg 1 rfl (Bz underlying141 FT rfl rfl rfl ?_);obtain⟨a8,aK,aL⟩:=bs aD;refine Nq (l:= [sV aF ai.1 aG,sV aH ai.2.1 aI]) aE aJ aK rfl rfl rfl rfl rfl underlying139 HH ?_;rintro a9 _ rfl aM;refine JL.fl 0 aM underlying138 DZ Gv ?_;obtain⟨ba,aN,aO⟩:=bs aL;refine BM (IA aN) rfl rfl Ig ah ?_;rintro _ bb _ aP ⟨aQ,aR,rfl,rfl,aS⟩ aT;refine zg 3 rfl ?_;obtain rfl:=oi aO;exact AP func51 rfl rfl (ab (((K.Ab O).Ab ae).Ab aP) rfl ⟨aQ,aR,rfl,rfl,aS⟩ aT)
def PV(fuel:Nat)(p0:BK)(O:Nat)(U:(List Int))(K:Int):Option (Bj Int ((Bool)⊕(Unit))):= if K<(U.length:Int) then((ix U K).bind fun V=> (f103 fuel O V).bind fun W=> Option.bind (if W=true then(some true) else((ix p0.2.1 V).bind fun Y=> (f120 fuel Y).bind fun Z=> (Jj O Z).bind fun aa=> some (decide ((((aa):Nat):Int)≠(((0):Nat):Int))))) fun ab=> if ab=true then(some (.done (Sum.inl true))) else((Au (K+1)).bind fun ae=> some (.more ae))) else(some (.done (Sum.inr ())))
def f109(fuel:Nat)(p0:BK)(p1:Int)(p2:Int):Option Bool:= (ix p0.2.2 p2).bind fun K=> (ix p0.2.2 p1).bind fun O=> (f89 fuel O).bind fun U=> Option.bind (iter (PV fuel p0 K U) fuel 0) fun V=> Sum.elim (fun r=>some r) (fun W=> some false) V
theorem VR{k1:Nat}{O:Nat}{U:Ao}{V:Nat}{W:Ao}{Y:Nat}{aj:Lv_}{p0:BK}{p1:Int}{p2:Int}(ai:At E k1 O (([sV U p0.1 V,sV W p0.2.1 Y]:Lv_)++aj))(bC:An (rL rI) E U V p0.1)(aG:An (rL rI) E W Y p0.2.1)(ak:(rA 13 (rN .u16)).r E aj p0.2.2){fuel:Nat}{r:Bool}(al:f109 fuel p0 p1 p2=some r):AR J 109 [pV k1 O,iV p1,iV p2] E [] (fun w E' B'=>w= .bool r∧B'= []):=by
 refine Bg func109 fun Q bD cs H aH am=>?_;unfold f109 at al;refine zg 9 rfl (Bz underlying141 FT rfl rfl rfl ?_);obtain⟨an,aI,aJ⟩:=bs al;refine Nq (l:= [sV U p0.1 V,sV W p0.2.1 Y]) ai ak aI rfl rfl rfl rfl rfl underlying139 HH ?_;rintro bE _ rfl aK;refine JL.fl 0 aK underlying138 DZ Gv ?_;refine zg 8 rfl (Bz underlying141 FT rfl rfl rfl ?_);obtain⟨bF,aL,aM⟩:=bs aJ;refine Nq (l:= [sV U p0.1 V,sV W p0.2.1 Y]) ai ak aL rfl rfl rfl rfl rfl underlying139 HH ?_;rintro bG _ rfl aN;refine JL.fl 0 aN underlying138 DZ Gv ?_;obtain⟨Z,aO,aP⟩:=bs aM;refine BM (IA aO) rfl rfl Ig aH ?_;rintro _ aQ _ aa ⟨ao,ap,rfl,rfl,aR⟩ aS;refine BA underlying28 rfl rfl rfl ?_;obtain⟨aq,aT,ar⟩:=bs aP;refine zg 2 rfl (Bu (fun L s=>∃(au:Unit) (av:LH),aq=Sum.inr au∧Jm aQ H av [] [] L s) ?_ ?_)
 ·rintro _ _ ⟨au,av,rfl,rfl,rfl,aU,aV⟩;have aW:=elim_inr ar;refine zg 4 rfl ?_;obtain rfl:=oi aW;exact AP func109 rfl rfl (am (aa.Ab aU) rfl ⟨rfl,rfl⟩ aV)
 ·intro aX;refine JL.block (CC aT (fun ab=> []) (fun ab=> [(0,pV k1 O),(7,uV an),(24,sV ao Z ap),(25,iV (Z.length:Int)),(26,iV ab)]) Ap aS ?_);rintro ab aY K aw ay ⟨bH,ae⟩ aZ;have az:=ae;unfold PV at az;refine zg 5 rfl (AX az (fun a0 a1=>?_) (fun a0 a2=>?_))
  ·obtain⟨bI,a3,a4⟩:=bs a1;refine zg 5 rfl (Cj (aR.Ai K) a3 underlying28 AU ?_);rintro bJ bK _ rfl a5;refine B4 0 a5 Bq rfl rfl rfl ?_;obtain⟨bL,a6,a7⟩:=bs a4;refine zg 6 rfl (BI (NC a6) rfl rfl MH aw fun aA ah aB=>?_);obtain⟨a8,a9,ba⟩:=bs a7;refine zg 1 rfl (FG [] (fun L s=>∃(aC:LH),Jm aA H aC [] [(0,pV k1 O),(7,uV an),(24,sV ao Z ap),(25,iV (Z.length:Int)),(26,iV ab),(46,.bool a8)] L s) ?_ ?_)
   ·rintro _ _ ⟨aC,rfl,rfl,aD,aE⟩;refine JL.done (BP ba (fun bb bc=>?_) (fun bb bd=>?_))
    ·refine zg 4 rfl ?_;obtain rfl:=oi bc;obtain rfl:=ay _ ae;have be:=elim_inl ar;obtain rfl:=oi be;exact AP func109 rfl rfl (am (((aa.Ab K).Ab ah).Ab aD) rfl ⟨rfl,rfl⟩ aE)
    ·obtain⟨bf,bg,bh⟩:=bs bd;refine zg 3 rfl (Bh bg rfl rfl rfl ?_);refine zg 2 rfl ?_;obtain rfl:=oi bh;exact aZ bf ((K.Ab ah).Ab aD) aE rfl ae
   ·intro aF;refine Dz 33 a9 (fun bi bj=>?_) (fun bi bl=>?_)
    ·refine zg 13 rfl ?_;obtain rfl:=oi bj;exact Az (aF _ _ ⟨aA,rfl,rfl,Ap,aB⟩) rfl
    ·refine zg 3 rfl (Bz underlying141 Cb rfl rfl rfl ?_);refine JL.fl 1 (ai.Ai ((aa.Ab K).Ab ah)) underlying24 Cq Da ?_;obtain⟨bM,bm,bn⟩:=bs bl;refine zg 1 rfl (Cj (aG.Ai ((aa.Ab K).Ab ah)) bm underlying22 BL ?_);rintro bN bO _ ⟨bP,bQ,rfl,bo⟩ bp;refine B4 0 bp Df rfl rfl rfl ?_;obtain⟨bR,bq,br⟩:=bs bn;refine BI (I6 bo bq) rfl rfl II aB fun bu bv bw=>?_;obtain⟨bx,bz,bA⟩:=bs br;refine AA (v:= uV bx) rfl (fun ρ h=>Na (h _ _ rfl) (h _ _ rfl) bz) (zg 2 rfl ?_);obtain rfl:=oi bA;exact Az (aF _ _ ⟨bu,rfl,rfl,bv,bw⟩) rfl
  ·refine JL.exit rfl ?_;obtain rfl:=oi a2;have bB:aq=(Sum.inr ()):=(ay _ ae).symm;exact Az (aX _ _ ⟨(),aY,bB,rfl,rfl,K,aw⟩) rfl
def QO(fuel:Nat)(p1:Int)(O:BK)(K:Int):Option (Bj Int Int):= (f109 fuel O p1 K).bind fun U=> if(!U)=true then((Au (K+1)).bind fun V=> some (.more V)) else(some (.done K))
def f57(fuel:Nat)(p0:BH)(p1:Int):Option (Int×Int):= (f106 fuel p0 ([p1]:List Int)).bind fun K=> if K.2≠0 then(some (0,K.2)) else((K.1).bind fun O=> Option.bind (iter (QO fuel p1 O) fuel 0) fun U=> some (U,0))
theorem W0{Y:Ao}{c2:Nat}{Z:Ao}{aa:Nat}{p0:BH}{p1:Int}(an:An (rL rI) E Y c2 p0.1)(ao:An (rL rI) E Z aa p0.2){fuel:Nat}{r:Int×Int}(ab:f57 fuel p0 p1=some r):AR J 57 [.agg #[sV Y p0.1 c2,sV Z p0.2 aa],iV p1] E [] (fun w E' B'=>w= .tuple #[iV r.1,iV r.2]∧B'= []):=by
 refine Bg func57 fun Q a5 cs H ap ae=>?_;unfold f57 at ab;refine zg 2 rfl (CI ap fun a6 a7 O aq ar=>?_);refine zg 5 rfl (Cd aq Cv Cb rfl rfl ?_);refine zg 1 rfl (JS.lit (pp:=rI) [iV p1] [p1] rfl rfl rfl underlying28 AU Cp (by decide) rfl rfl rfl ⟨rfl,trivial⟩ ar fun a8 a9 au av=>?_);refine Cf 2 au av rfl fun ba U aw ay=>?_;obtain⟨bb,az,aA⟩:=bs ab;refine BM (Q9 (an.Ai (O.Ab U)) (ao.Ai (O.Ab U)) aw az) rfl rfl (A5 func106 rfl) ay ?_;rintro _ bc _ ah ⟨bd,rfl,rfl,aB⟩ ai;refine zg 12 rfl (AX aA (fun aC aD=>?_) (fun aC aE=>?_))
 ·refine zg 6 rfl ?_;obtain rfl:=oi aD;exact AP func57 rfl rfl (ae ((O.Ab U).Ab ah) rfl ⟨rfl,rfl⟩ ai)
 ·obtain⟨be,aF,aG⟩:=bs aE;have aj:=aB;refine zg 6 rfl ?_;rw [aF] at aj;obtain⟨aH,aI,_,rfl,aJ,⟨_,_,rfl,⟨bf,bg,rfl,aK⟩,⟨_,bh,rfl,⟨bi,bj,rfl,aL⟩,aM⟩⟩⟩:=aj;obtain⟨aN,aO,aP⟩:=bs aG;refine CB [] [(8,iV aN)] (fun bl aQ aR=>?_) (fun aS=>?_)
  ·refine zg 6 rfl ?_;obtain rfl:=oi aP;exact AP func57 rfl rfl (ae (((O.Ab U).Ab ah).Ab aQ) rfl ⟨rfl,rfl⟩ aR)
  ·refine JL.block (CC aO (fun V=> []) (fun V=> [(1,iV p1),(6,pV aH aI),(8,iV V)]) Ap ai ?_);rintro V bm K aT aU ⟨bn,W⟩ aV;have ak:=W;unfold QO at ak;obtain⟨aW,aX,aY⟩:=bs ak;refine zg 6 rfl (BI (VR (aJ.Ai K) (aK.Ai K) (aL.Ai K) (Rp.Ai _ K aM) aX) rfl rfl (A5 func109 rfl) aT fun bo al am=>?_);refine AA (v:= .bool (!aW)) rfl (fun ρ h=>Yl.not (h _ _ rfl)) (JL.done ?_);refine BP aY (fun aZ a0=>?_) (fun aZ a1=>?_)
   ·obtain⟨a2,a3,a4⟩:=bs a0;refine zg 4 rfl (Bh a3 rfl rfl rfl ?_);refine zg 3 rfl ?_;obtain rfl:=oi a4;exact aV a2 (K.Ab al) am rfl W
   ·refine JL.exit rfl ?_;obtain rfl:=oi a1;obtain rfl:=aU _ W;exact aS (K.Ab al) am rfl
end Pal
namespace Pal
open Go Go.Conc Go.Proofs
open Go.Proofs.Tryz
variable {J:Judge Tryz.prog}{E:LH}
def LB(fuel:Nat)(p0:List Int)(p1:Int)(K:Int):Option (Bj Int ((Int)⊕(Unit))):= if K<(p0.length:Int) then((ix p0 K).bind fun O=> if p1=O then(some (.done (Sum.inl K))) else((Au (K+1)).bind fun U=> some (.more U))) else(some (.done (Sum.inr ())))
def f201(fuel:Nat)(p0:List Int)(p1:Int):Option Int:= Option.bind (iter (LB fuel p0 p1) fuel 0) fun K=> Sum.elim (fun r=>some r) (fun O=> some (-1)) K
theorem VT{U:Ao}{c2:Nat}{p0:List Int}{p1:Int}(ak:An rI E U c2 p0){fuel:Nat}{r:Int}(Y:f201 fuel p0 p1=some r):AR J 201 [sV U p0 c2,iV p1] E [] (fun w E' B'=>w=iV r∧B'= []):=by
 refine Bg func201 fun Q aK cs H al Z=>?_;unfold f201 at Y;refine zg 8 rfl (BA underlying28 rfl rfl rfl ?_);obtain⟨aa,am,ab⟩:=bs Y;refine zg 2 rfl (Bu (fun L s=>∃(ae:Unit) (ah:LH),aa=Sum.inr ae∧Jm E H ah [] [] L s) ?_ ?_)
 ·rintro _ _ ⟨ae,ah,rfl,rfl,rfl,an,ao⟩;have ap:=elim_inr ab;refine zg 4 rfl ?_;obtain rfl:=oi ap;exact AP func201 rfl rfl (Z an rfl ⟨rfl,rfl⟩ ao)
 ·intro aq;refine JL.block (CC am (fun V=> []) (fun V=> [(0,sV U p0 c2),(1,iV p1),(7,iV (p0.length:Int)),(8,iV V)]) Ap al ?_);rintro V ar K W ai ⟨aL,O⟩ au;have aj:=O;unfold LB at aj;refine zg 5 rfl (AX aj (fun av aw=>?_) (fun av ay=>?_))
  ·obtain⟨aM,az,aA⟩:=bs aw;refine zg 13 rfl (Cj (ak.Ai K) az underlying28 AU ?_);rintro aN aO _ rfl aB;refine B4 0 aB Bq rfl rfl rfl (zg 2 rfl ?_);refine AX aA (fun aC aD=>?_) (fun aC aE=>?_)
   ·refine zg 5 rfl ?_;obtain rfl:=oi aD;obtain rfl:=ai _ O;have aF:=elim_inl ab;obtain rfl:=oi aF;exact AP func201 rfl rfl (Z K rfl ⟨rfl,rfl⟩ W)
   ·obtain⟨aG,aH,aI⟩:=bs aE;refine zg 3 rfl (Bh aH rfl rfl rfl ?_);refine zg 2 rfl ?_;obtain rfl:=oi aI;exact au aG K W rfl O
  ·refine JL.exit rfl ?_;obtain rfl:=oi ay;have aJ:aa=(Sum.inr ()):=(ai _ O).symm;exact Az (aq _ _ ⟨(),ar,aJ,rfl,rfl,K,W⟩) rfl
def f199(fuel:Nat)(p0:List Int)(p1:Int):Option Bool:= (f201 fuel p0 p1).bind fun K=> some (decide (0≤K))
theorem V8{K:Ao}{c2:Nat}{p0:List Int}{p1:Int}(U:An rI E K c2 p0){fuel:Nat}{r:Bool}(O:f199 fuel p0 p1=some r):AR J 199 [sV K p0 c2,iV p1] E [] (fun w E' B'=>w= .bool r∧B'= []):=by
 refine Bg func199 fun Q ae cs H V W=>?_;unfold f199 at O;obtain⟨ah,Y,Z⟩:=bs O;refine zg 8 rfl (BI (VT U Y) rfl rfl (A5 func201 rfl) V fun ai aa ab=>?_);refine zg 3 rfl ?_;obtain rfl:=oi Z;exact AP func199 rfl rfl (W aa rfl ⟨rfl,rfl⟩ ab)
def f192(fuel:Nat)(p0:BK)(p1:Int)(p2:Int):Option ((Option (Int×Option Int))):= if p1=p2 then(some (some (p1,none))) else((ix p0.2.1 p1).bind fun K=> (f199 fuel K p2).bind fun O=> if O=true then(some (some (p1,some p2))) else(some none))
theorem VG{k1:Nat}{O:Nat}{U:Ao}{V:Nat}{W:Ao}{Y:Nat}{Z:Lv_}{p0:BK}{p1:Int}{p2:Int}(aj:At E k1 O (([sV U p0.1 V,sV W p0.2.1 Y]:Lv_)++Z))(aA:An (rL rI) E U V p0.1)(ak:An (rL rI) E W Y p0.2.1)(aB:(rA 13 (rN .u16)).r E Z p0.2.2){fuel:Nat}{r:(Option (Int×Option Int))}(aa:f192 fuel p0 p1 p2=some r):AR J 192 [pV k1 O,iV p1,iV p2] E [] (fun w E' B'=>∃(ab:Value),w=ab∧B'= []∧Oi 257 259 ab r):=by
 refine Bg func192 fun Q aC cs H ae K=>?_;unfold f192 at aa;refine zg 13 rfl (AX aa (fun al am=>?_) (fun al an=>?_))
 ·refine zg 3 rfl (AA (v:= .agg #[iV p1]) rfl (fun ρ h=>CG [(0,1)] h (D6 type257) underlying257 ⟨rfl,Bf type3,trivial⟩ rfl rfl) ?_);refine AA (v:= .iface 257 (.agg #[iV p1])) rfl (fun ρ h=>ES underlying257 (fun _ h=>by cases h) (h _ _ rfl)) (zg 2 rfl ?_);obtain rfl:=oi am;exact AP func192 rfl rfl (K Ap rfl ⟨.iface 257 (.agg #[iV p1]),rfl,rfl,rfl⟩ ae)
 ·refine zg 4 rfl (Bz underlying141 Cb rfl rfl rfl ?_);refine JL.fl 1 aj underlying24 Cq Da ?_;obtain⟨aD,ao,ap⟩:=bs an;refine zg 1 rfl (Cj ak ao underlying22 BL ?_);rintro aE aF _ ⟨aG,aH,rfl,aq⟩ ar;refine B4 0 ar Df rfl rfl rfl ?_;obtain⟨aI,au,av⟩:=bs ap;refine zg 1 rfl (BI (V8 aq au) rfl rfl (A5 func199 rfl) ae fun aJ ah ai=>?_);refine zg 2 rfl (BP av (fun aw ay=>?_) (fun aw az=>?_))
  ·refine zg 4 rfl (AA (v:= .agg #[iV p1,iV p2]) rfl (fun ρ h=>CG [(0,1),(1,1)] h (D6 type259) underlying259 ⟨rfl,Bf type3,rfl,Bf type3,trivial⟩ rfl rfl) ?_);refine AA (v:= .iface 259 (.agg #[iV p1,iV p2])) rfl (fun ρ h=>ES underlying259 (fun _ h=>by cases h) (h _ _ rfl)) (zg 2 rfl ?_);obtain rfl:=oi ay;exact AP func192 rfl rfl (K ah rfl ⟨.iface 259 (.agg #[iV p1,iV p2]),rfl,rfl,rfl⟩ ai)
  ·refine zg 6 rfl ?_;obtain rfl:=oi az;exact AP func192 rfl rfl (K ah rfl ⟨.nilIface,rfl,rfl,rfl⟩ ai)
end Pal
namespace Pal
open Go Go.Conc Go.Proofs
open Go.Proofs.Tryz
variable {J:Judge Tryz.prog}{E:LH}
def Kl(fuel:Nat)(p0:(BK)×(AT)×BU):Option Int:= if(p0.2.1.length:Int)=0 then(some 0) else((Au ((p0.2.1.length:Int) - 1)).bind fun K=> (ix p0.2.1 K).bind fun O=> some O.1)
theorem Vg{bk:Nat}{k1:Nat}{V:Nat}{Z:Ao}{aa:Nat}{ab:Ao}{ae:Nat}{ah:Lv_}{O:Ao}{U:Nat}{W:Ao}{Y:Nat}{p0:(BK)×(AT)×BU}(av:At E k1 V (([sV Z p0.1.1 aa,sV ab p0.1.2.1 ae]:Lv_)++ah))(aw:An (rL rI) E Z aa p0.1.1)(ay:An (rL rI) E ab ae p0.1.2.1)(az:(rA 13 (rN .u16)).r E ah p0.1.2.2)(ak:An By E O U p0.2.1)(aA:An rI E W Y p0.2.2.2.1){fuel:Nat}{r:Int}(ai:Kl fuel p0=some r):AR J 154 [pV bk 0] E [(bk,.cells #[pV k1 V,sV O p0.2.1 U,iV p0.2.2.1,sV W p0.2.2.2.1 Y,uV p0.2.2.2.2] 175 (0,0))] (fun w E' B'=>w=iV r∧B'= [(bk,.cells #[pV k1 V,sV O p0.2.1 U,iV p0.2.2.1,sV W p0.2.2.2.1 Y,uV p0.2.2.2.2] 175 (0,0))]):=by
 refine Bg func154 fun Q aB cs H K aj=>?_;unfold Kl at ai;refine zg 9 rfl (Bz underlying175 La rfl rfl rfl ?_);refine AA (v:= sV O p0.2.1 U) rfl (fun ρ h=>Yl.load Jv (h _ _ rfl) (DF (j:=0) (off:=1) K rfl rfl)) (BA underlying25 rfl rfl rfl ?_);refine zg 2 rfl (AX ai (fun al am=>?_) (fun al an=>?_))
 ·refine zg 4 rfl ?_;obtain rfl:=oi am;exact AP func154 rfl rfl (aj Ap rfl ⟨rfl,rfl⟩ K)
 ·refine zg 2 rfl (CY 10 [bk] ⟨⟨0,_,rfl⟩,trivial⟩ K fun ht=>?_);refine Bn ht rfl [0,1] rfl (Ce 2 ht underlying175 La rfl rfl rfl rfl ?_);refine D2 3 ht 1 0 K Jv ?_;refine Bn ht rfl [4,5] rfl (Ce 6 ht underlying175 La rfl rfl rfl rfl ?_);refine D2 7 ht 1 0 K Jv ?_;refine Bv 8 ht rfl rfl (fun ρ h s' hs=>Yl.len rfl underlying25 (h _ _ rfl)) ?_;obtain⟨aC,ao,ap⟩:=bs an;refine Bv 9 ht rfl rfl (fun ρ h s' hs=>Du (h _ _ rfl) (h _ _ rfl) ao) (Cy [10,11,12,13] ?_);obtain⟨aD,aq,ar⟩:=bs ap;refine Cj ak aq underlying25 CF ?_;rintro aE aF _ ⟨_,_,rfl,rfl,rfl⟩ au;refine JL.fl 0 au underlying27 AU Bq ?_;refine zg 2 rfl ?_;obtain rfl:=oi ar;exact AP func154 rfl rfl (aj Ap rfl ⟨rfl,rfl⟩ K)
def Lp(fuel:Nat)(p0:(BK)×(AT)×BU)(p1:Int)(p2:Int)(K:Nat×Int):Option (Bj (Nat×Int) ((Nat×Bool)⊕(Nat))):= if K.2<(p0.2.1.length:Int) then(Option.bind ((ix p0.2.1 K.2).bind fun O=> if O.1≠p1 then(some (Sum.inr K.1)) else((f192 fuel p0.1 p2 O.2).bind fun U=> Option.bind (if Jh U=true then(some (Sum.inr K.1)) else(if Ku U=true then((f90 fuel K.1 K.2).bind fun V=> some (Sum.inr V)) else(some (Sum.inl (0,false))))) fun W=>Sum.elim (fun r=>some (Sum.inl r)) (fun Y=> some (Sum.inr Y)) W)) fun Z=>Sum.elim (fun r=>some (.done (Sum.inl r))) (fun aa=> (Au (K.2+1)).bind fun ab=> some (.more (aa,ab))) Z) else(some (.done (Sum.inr K.1)))
def Ki(fuel:Nat)(p0:(BK)×(AT)×BU)(p1:Int)(p2:Int):On_:= Option.bind (iter (Lp fuel p0 p1 p2) fuel (0,0)) fun K=> Sum.elim (fun r=>some r) (fun O=> some (O,true)) K
theorem U3{bk:Nat}{k1:Nat}{W:Nat}{an:Ao}{ao:Nat}{ap:Ao}{aq:Nat}{ar:Lv_}{K:Ao}{O:Nat}{Y:Ao}{Z:Nat}{p0:(BK)×(AT)×BU}{p1:Int}{p2:Int}(aO:At E k1 W (([sV an p0.1.1 ao,sV ap p0.1.2.1 aq]:Lv_)++ar))(aP:An (rL rI) E an ao p0.1.1)(aQ:An (rL rI) E ap aq p0.1.2.1)(aR:(rA 13 (rN .u16)).r E ar p0.1.2.2)(aS:An By E K O p0.2.1)(bK:An rI E Y Z p0.2.2.2.1){fuel:Nat}{r:Nat×Bool}(au:Ki fuel p0 p1 p2=some r):AR J 174 [pV bk 0,iV p1,iV p2] E [(bk,.cells #[pV k1 W,sV K p0.2.1 O,iV p0.2.2.1,sV Y p0.2.2.2.1 Z,uV p0.2.2.2.2] 175 (0,0))] (fun w E' B'=>w= .tuple #[uV r.1,.bool r.2]∧B'= [(bk,.cells #[pV k1 W,sV K p0.2.1 O,iV p0.2.2.1,sV Y p0.2.2.2.1 Z,uV p0.2.2.2.2] 175 (0,0))]):=by
 refine Bg func174 fun Q bL cs H av aw=>?_;unfold Ki at au;refine zg 11 rfl (JL.label ?_);refine zg 5 rfl (Bz underlying175 La rfl rfl rfl ?_);refine AA (v:= sV K p0.2.1 O) rfl (fun ρ h=>Yl.load Jv (h _ _ rfl) (DF (j:=0) (off:=1) av rfl rfl)) (BA underlying25 rfl rfl rfl ?_);obtain⟨ay,aT,az⟩:=bs au;refine zg 2 rfl (Bu (fun L s=>∃(ak:Nat) (aA:LH),ay=Sum.inr ak∧Jm E H aA [bX bk #[pV k1 W,sV K p0.2.1 O,iV p0.2.2.1,sV Y p0.2.2.2.1 Z,uV p0.2.2.2.2] 175] [(8,uV ak)] L s) ?_ ?_)
 ·rintro _ _ ⟨ak,aA,rfl,rfl,rfl,aU,aV⟩;have aW:=elim_inr az;refine zg 6 rfl ?_;obtain rfl:=oi aW;exact AP func174 rfl rfl (aw aU rfl ⟨rfl,rfl⟩ aV)
 ·intro aX;refine JL.block (CC aT (fun U=> [bX bk #[pV k1 W,sV K p0.2.1 O,iV p0.2.2.1,sV Y p0.2.2.2.1 Z,uV p0.2.2.2.2] 175]) (fun U=> [(0,pV bk 0),(1,iV p1),(2,iV p2),(8,uV U.1),(14,sV K p0.2.1 O),(15,iV (p0.2.1.length:Int)),(16,iV U.2)]) Ap av ?_);rintro U aB V aC aD ⟨bM,ae⟩ aY;have aE:=ae;unfold Lp at aE;refine zg 5 rfl (AX aE (fun aZ a0=>?_) (fun aZ a1=>?_))
  ·obtain⟨a2,a3,aF⟩:=bs a0;refine zg 2 rfl (Bu (fun L s=>∃(ah:Nat) (aG:LH),a2=Sum.inr ah∧Jm aB H aG [bX bk #[pV k1 W,sV K p0.2.1 O,iV p0.2.2.1,sV Y p0.2.2.2.1 Z,uV p0.2.2.2.2] 175] [(0,pV bk 0),(1,iV p1),(2,iV p2),(8,uV ah),(14,sV K p0.2.1 O),(15,iV (p0.2.1.length:Int)),(16,iV U.2)] L s) ?_ ?_)
   ·rintro _ _ ⟨ah,aG,rfl,rfl,rfl,a4,a5⟩;have a6:=elim_inr aF;obtain⟨a7,a8,a9⟩:=bs a6;refine JL.region (Bh a8 rfl rfl rfl ?_);refine zg 2 rfl ?_;obtain rfl:=oi a9;exact aY (ah,a7) (V.Ab a4) a5 rfl ae
   ·intro aH;obtain⟨bN,ba,bb⟩:=bs a3;refine zg 4 rfl (Cj (aS.Ai V) ba underlying25 CF ?_);rintro bO bP _ ⟨_,_,rfl,rfl,rfl⟩ bc;refine Cd bc Ic CF rfl rfl (Cz aC FC fun bQ bd=>?_);refine zg 1 rfl (BJ 1 bd CF fun be=>?_);refine C4 1 be rfl fun bf aa aI ab=>zg 4 rfl (JL.fl 0 aI underlying27 AU Bq ?_);refine zg 3 rfl (AX bb (fun bg bh=>?_) (fun bg bi=>?_))
    ·exact JL.exit rfl (Az (aH _ _ ⟨U.1,bf,(Option.some.inj bh).symm,rfl,rfl,aa,ab⟩) rfl)
    ·refine zg 2 rfl (CY 7 [bk] ⟨⟨0,_,rfl⟩,trivial⟩ ab fun ht=>?_);refine Bn ht rfl [0,1] rfl (Ce 2 ht underlying175 MP rfl rfl rfl rfl ?_);refine D2 3 ht 0 0 ab KT ?_;refine Cm 4 ht rfl rfl (Ce 5 ht underlying27 AU rfl rfl rfl rfl ?_);refine JG.lp 6 ht 1 aI ab ⟨⟨0,_,rfl⟩,trivial⟩ Bq ?_;refine Cy [7] ?_;obtain⟨ai,bj,bl⟩:=bs bi;refine BM (VG (aO.Ai (V.Ab aa)) (aP.Ai (V.Ab aa)) (aQ.Ai (V.Ab aa)) (Rp.Ai _ (V.Ab aa) aR) bj) rfl rfl (A5 func192 rfl) ab ?_;rintro _ aJ _ aK ⟨bR,rfl,rfl,aL⟩ al;refine zg 4 rfl (AA (v:= .tuple #[(Oh ai),.bool (Jh ai)]) rfl (fun ρ h=>SC (t2:=259) underlying257 (D6 type257) (by decide) aL (h _ _ rfl)) ?_);obtain⟨bm,bn,aM⟩:=bs bl;refine zg 3 rfl (Bu (fun L s=>∃(aj:Nat) (am:LH),bm=Sum.inr aj∧Jm aJ H am [bX bk #[pV k1 W,sV K p0.2.1 O,iV p0.2.2.1,sV Y p0.2.2.2.1 Z,uV p0.2.2.2.2] 175] [(0,pV bk 0),(1,iV p1),(2,iV p2),(8,uV aj),(14,sV K p0.2.1 O),(15,iV (p0.2.1.length:Int)),(16,iV U.2)] L s) ?_ ?_)
     ·rintro _ _ ⟨aj,am,rfl,rfl,rfl,bo,bp⟩;have bq:=elim_inr aM;exact zg 2 rfl (Az (aH _ _ ⟨aj,am,(Option.some.inj bq).symm,rfl,rfl,((aa.Ab aK).Ab bo),bp⟩) rfl)
     ·intro aN;refine BP bn (fun br bu=>?_) (fun br bv=>?_)
      ·exact JL.skip (Az (aN _ _ ⟨U.1,aJ,(Option.some.inj bu).symm,rfl,rfl,Ap,al⟩) rfl)
      ·refine zg 2 rfl (AA (v:= .tuple #[(Og ai),.bool (Ku ai)]) rfl (fun ρ h=>SA (t1:=257) underlying259 (D6 type259) (by decide) aL (h _ _ rfl)) ?_);refine zg 3 rfl (BP bv (fun bw bx=>?_) (fun bw bz=>?_))
       ·obtain⟨bA,bB,bC⟩:=bs bx;refine zg 3 rfl (BI (Mv bB) rfl rfl K9 al fun bD bE bF=>?_);exact zg 2 rfl (Az (aN _ _ ⟨bA,bD,(Option.some.inj bC).symm,rfl,rfl,bE,bF⟩) rfl)
       ·refine zg 5 rfl ?_;obtain rfl:=oi bz;have bG:=elim_inl aM;obtain rfl:=oi bG;have bH:=elim_inl aF;obtain rfl:=oi bH;obtain rfl:=aD _ ae;have bI:=elim_inl az;obtain rfl:=oi bI;exact AP func174 rfl rfl (aw ((V.Ab aa).Ab aK) rfl ⟨rfl,rfl⟩ al)
  ·refine JL.exit rfl ?_;obtain rfl:=oi a1;have bJ:ay=(Sum.inr U.1):=(aD _ ae).symm;exact Az (aX _ _ ⟨U.1,aB,bJ,rfl,rfl,V,aC⟩) rfl
end Pal
namespace Pal
open Go Go.Conc Go.Proofs
open Go.Proofs.Tryz
variable {J:Judge Tryz.prog}{E:LH}
def Kk(fuel:Nat)(p0:List Int):Option ((List Int)):= (DC ([]:List Int) p0).bind fun K=> some K
theorem Uz{ad:Addr}{c2:Nat}{p0:List Int}(V:An rI E (some ad) c2 p0){fuel:Nat}{r:(List Int)}(K:Kk fuel p0=some r):AR J 175 [.slice (some ad) p0.length c2] E [] (fun w E' B'=>∃(O:Ao) (U:Nat) (g0:Seg),w= sV O r U∧B'=g0∧OL 3 rI E' O U g0 r):=by
 refine Bg func175 fun Q am cs H W Y=>?_;unfold Kk at K;refine zg 8 rfl (AA (v:= .bool false) rfl (fun ρ h=>Lo (a:=(some ad)) underlying28 (h _ _ rfl) (h _ _ rfl)) ?_);refine zg 5 rfl (Nt (pp:=rI) rfl rfl rfl underlying28 AU W fun an g2 Z aa=>?_);obtain⟨ao,ab,ae⟩:=bs K;refine zg 1 rfl (Ns (pp:=rI) 1 ab rfl rfl rfl rfl rfl rfl rfl underlying28 underlying28 AU (Cs type3) Cp rfl (by decide) (by decide) Z V aa rfl fun ah ai aj ak al=>?_);refine zg 2 rfl ?_;obtain rfl:=oi ae;exact AP func175 rfl rfl (Y Ap rfl ⟨ah,ai,aj,rfl,(by first | rfl | simp | (simp [Value.cells])),ak⟩ al)
def Ro(fuel:Nat)(p0:List Int):Option ((List Int)):= some ([])
theorem Vp{c2:Nat}{p0:List Int}(Y:An rI E none c2 p0){fuel:Nat}{r:(List Int)}(K:Ro fuel p0=some r):AR J 175 [sV none p0 c2] E [] (fun w E' B'=>∃(O:Ao) (U:Nat) (g0:Seg),w= sV O r U∧B'=g0∧OL 3 rI E' O U g0 r):=by
 refine Bg func175 fun Q Z cs H V W=>?_;unfold Ro at K;refine zg 8 rfl (AA (v:= .bool true) rfl (fun ρ h=>Lo (a:=none) underlying28 (h _ _ rfl) (h _ _ rfl)) ?_);refine zg 6 rfl ?_;obtain rfl:=oi K;exact AP func175 rfl rfl (W Ap rfl ⟨none,0,[],rfl,rfl,OL.nil⟩ V)
def f175(fuel:Nat)(p0:List Int):Option (List Int):=Kk fuel p0
theorem QF{O:Ao}{c2:Nat}{p0:List Int}(U:An rI E O c2 p0){fuel:Nat}{r:List Int}(K:f175 fuel p0=some r):AR J 175 [.slice O p0.length c2] E [] (fun w E' B'=>∃(V:Ao) (W:Nat) (g0:Seg),w= .slice V r.length W∧B'=g0∧OL 3 rI E' V W g0 r):=by
 cases O with
 | some ad=>exact Uz U K
 | none=>
  have Y:p0= []:=by
   rcases U.2 with h | ⟨_,_,h,_⟩
   ·exact h.1
   ·cases h
  subst Y;have Z:r= []:=by
   have aa:Kk fuel []=some []:=rfl;unfold f175 at K;rw [aa] at K;exact(Option.some.inj K).symm
  subst Z;exact Vp (fuel:=fuel) U rfl
end Pal
namespace Pal
open Go Go.Conc Go.Proofs
open Go.Proofs.Tryz
def H3(fuel:Nat)(le:Int)(all:List (BU))(tr:(BU))(O:Int):Option (Int×List (BU)):=
 Option.bind (
  if((all).length:Int)=0 then(
   some true
  ) else(
   some (decide (O<le))
  )
 ) fun U=>
 Option.bind (
  if U=true then(
   some (O,[])
  ) else(
   some (le,all)
  )
 ) fun K=>
 Option.bind (
  if O=K.1 then(
   (DC K.2 ([tr]:List (BU))).bind fun V=>
   some V
  ) else(
   some K.2
  )
 ) fun W=>
 some (K.1,W)
theorem VI{J:Judge Tryz.prog}{E:LH}{bk:Nat}{age:Int}{le:Int}{a:Ao}{c:Nat}{g:Seg}{all:List (BU)}(aE:OL 104 C8 E a c g all){W:Ao}{Y:Nat}{tr:(BU)}(aF:An rI E W Y tr.2.1){Z:Int}{fuel:Nat}{r:Int×List (BU)}(ar:H3 fuel le all tr Z=some r):
  AR J 122 [pV bk 1,.agg #[iV tr.1,.slice W tr.2.1.length Y,uV tr.2.2],iV Z] E ([(bk,.cells #[iV age,iV le,.slice a all.length c] 133 (0,0))]++g) (fun w E' B'=>∃au av g',w= .tuple #[]∧B'= [(bk,.cells #[iV age,iV r.1,.slice au r.2.length av] 133 (0,0))]++g'∧OL 104 C8 E' au av g' r.2):=by
 refine Bg func122 fun Q bh cs H am aG=>?_;refine Ds (S':= [[(bk,.cells #[iV age,iV le,.slice a all.length c] 133 (0,0))],g]) (by simp) am fun am=>?_;unfold H3 at ar;refine zg 2 rfl (CI am fun aw an ao aH aa=>?_);refine zg 6 rfl (Bz underlying97 Dg rfl rfl rfl ?_);refine AA (v:= sV a all c) rfl (fun ρ h=>Yl.load Eu (h _ _ rfl) (DF (j:=0) (off:=2) aa rfl rfl)) (BA underlying95 rfl rfl rfl ?_);obtain⟨aI,aJ,aK⟩:=bs ar;refine zg 2 rfl (FG [] (fun L s=>∃(U:LH),Jm an H U [bX bk #[iV age,iV le,sV a all c] 133,g] [(0,pV bk 1),(2,iV Z),(4,pV aw 0),(19,.bool aI)] L s) ?_ ?_)
 ·rintro _ _ ⟨U,rfl,rfl,ab,ay⟩;obtain⟨V,aL,aM⟩:=bs aK;refine JL.done (Bu (fun L s=>∃(K:LH) (ae:Ao) (ah:Nat) (ai:Seg),Jn U H K [bX bk #[iV age,iV V.1,sV ae V.2 ah] 133,ai] [(0,pV bk 1),(2,iV Z),(4,pV aw 0)] L s (OL 104 C8 K ae ah ai V.2)) ?_ ?_)
  ·rintro _ _ ⟨K,ae,ah,ai,rfl,rfl,ap,O,az⟩;refine zg 5 rfl (Bz underlying97 AU rfl rfl rfl ?_);refine AA (v:=iV V.1) rfl (fun ρ h=>Yl.load Bq (h _ _ rfl) (DF (j:=0) (off:=1) O rfl rfl)) ?_;obtain⟨aA,aN,aO⟩:=bs aM;refine zg 2 rfl (Bu (fun L s=>∃(aq:LH) (aj:Ao) (ak:Nat) (al:Seg),Jn K H aq [bX bk #[iV age,iV V.1,sV aj aA ak] 133,al] [] L s (OL 104 C8 aq aj ak al aA)) ?_ ?_)
   ·rintro _ _ ⟨aq,aj,ak,al,rfl,rfl,aP,aQ,aR⟩;obtain rfl:=oi aO;exact JL.fin (v:= .tuple #[]) rfl rfl (BY.list func122 rfl (vs:= []) trivial) (aG (((ao.Ab ab).Ab ap).Ab aP) rfl ⟨aj,ak,al,rfl,by simp,aR⟩ aQ)
   ·intro aB;refine AX aN (fun aS aT=>?_) (fun aS aU=>?_)
    ·refine CY 8 [bk] ⟨⟨0,_,rfl⟩,trivial⟩ O fun ht=>Bn ht rfl [0,1,2] rfl (Ce 3 ht underlying97 Dg rfl rfl rfl rfl ?_);refine D2 4 ht 2 0 O Eu ?_;refine Bv 5 ht rfl rfl (fun ρ h s' hs=>FH (vs:= [iV tr.1,sV W tr.2.1 Y,uV tr.2.2]) FA Ca (h _ _ rfl) (At.NB (aH.Ai (ab.Ab ap)) (N5 O hs ⟨⟨0,_,rfl⟩,trivial⟩))) ?_;obtain⟨bi,aV,aW⟩:=bs aT;refine JG.one (i:=6) rfl (by decide+kernel) (Take.lit (pp:=C8) (jp:=0) [.agg #[iV tr.1,sV W tr.2.1 Y,uV tr.2.2]] ([tr]:List BU) O rfl rfl rfl rfl underlying95 Ca Gx (by decide) rfl rfl rfl ⟨⟨_,_,rfl,rfl,⟨_,_,rfl,⟨_,_,rfl,(aF.Ai ((ao.Ab ab).Ab ap))⟩,rfl⟩⟩,trivial⟩ fun bj bl aX aY=>?_);refine JG.one (i:=7) rfl (by decide+kernel) (Take.app (pp:=C8) (jp:=0) 1 2 aY rfl aV rfl rfl rfl rfl rfl rfl rfl underlying95 underlying95 Ca (Cs type104) Gx rfl (by decide) (by decide) az aX rfl rfl rfl rfl fun aZ a0 bm a1 a2 a3=>?_);refine Cy [8,9,10] (ET 1 rfl a3 fun a4=>?_);refine JS.drop 1 a4 rfl fun a5=>zg 1 rfl (Bz underlying97 Dg rfl rfl rfl ?_);refine BJ 0 a5 Dg fun a6=>?_;refine JL.done (JS.drop 2 a6 rfl fun a7=>?_);obtain rfl:=oi aW;exact Az (aB _ _ ⟨K,aZ,a0,a1,rfl,rfl,Ap,a7,a2⟩) rfl
    ·refine JL.skip ?_;obtain rfl:=oi aU;exact Az (aB _ _ ⟨K,ae,ah,ai,rfl,rfl,Ap,O,az⟩) rfl
  ·intro aC;refine BP aL (fun a8 a9=>?_) (fun a8 ba=>?_)
   ·refine zg 5 rfl (Bz underlying97 AU rfl rfl rfl ?_);refine BJ 0 ay AU fun bb=>?_;refine zg 1 rfl (Bz underlying97 Dg rfl rfl rfl ?_);refine BJ 0 bb Dg fun bc=>?_;refine JL.done (JS.drop 1 bc rfl fun bd=>?_);obtain rfl:=oi a9;exact Az (aC _ _ ⟨U,none,0,[],rfl,rfl,Ap,bd,OL.nil⟩) rfl
   ·refine JL.skip ?_;obtain rfl:=oi ba;exact Az (aC _ _ ⟨U,a,c,g,rfl,rfl,Ap,ay,(aE.Ai (ao.Ab ab))⟩) rfl
 ·intro aD;refine Ex 12 aJ (fun be bf=>?_) (fun be bg=>?_)
  ·refine zg 7 rfl ?_;obtain rfl:=oi bf;exact Az (aD _ _ ⟨an,rfl,rfl,Ap,aa⟩) rfl
  ·refine zg 3 rfl (Bz underlying97 AU rfl rfl rfl ?_);refine AA (v:=iV le) rfl (fun ρ h=>Yl.load Bq (h _ _ rfl) (DF (j:=0) (off:=1) aa rfl rfl)) (zg 2 rfl ?_);obtain rfl:=oi bg;exact Az (aD _ _ ⟨an,rfl,rfl,Ap,aa⟩) rfl
theorem WC{J:Judge Tryz.prog}{E:LH}{bk:Nat}{age:Int}{le:Int}{a:Ao}{c:Nat}{g:Seg}{all:List (BU)}(aE:OL 104 C8 E a c g all){W:Ao}{Y:Nat}{tr:(BU)}(aF:An rI E W Y tr.2.1){Z:Int}{fuel:Nat}{r:Int×List (BU)}(ar:H3 fuel le all tr Z=some r):
  AR J 122 [pV bk 0,.agg #[iV tr.1,.slice W tr.2.1.length Y,uV tr.2.2],iV Z] E ([(bk,.cells #[iV le,.slice a all.length c] 97 (0,0))]++g) (fun w E' B'=>∃au av g',w= .tuple #[]∧B'= [(bk,.cells #[iV r.1,.slice au r.2.length av] 97 (0,0))]++g'∧OL 104 C8 E' au av g' r.2):=by
 refine Bg func122 fun Q bh cs H am aG=>?_;refine Ds (S':= [[(bk,.cells #[iV le,.slice a all.length c] 97 (0,0))],g]) (by simp) am fun am=>?_;unfold H3 at ar;refine zg 2 rfl (CI am fun aw an ao aH aa=>?_);refine zg 6 rfl (Bz underlying97 Dg rfl rfl rfl ?_);refine AA (v:= sV a all c) rfl (fun ρ h=>Yl.load Eu (h _ _ rfl) (DF (j:=0) (off:=1) aa rfl rfl)) (BA underlying95 rfl rfl rfl ?_);obtain⟨aI,aJ,aK⟩:=bs ar;refine zg 2 rfl (FG [] (fun L s=>∃(U:LH),Jm an H U [bX bk #[iV le,sV a all c] 97,g] [(0,pV bk 0),(2,iV Z),(4,pV aw 0),(19,.bool aI)] L s) ?_ ?_)
 ·rintro _ _ ⟨U,rfl,rfl,ab,ay⟩;obtain⟨V,aL,aM⟩:=bs aK;refine JL.done (Bu (fun L s=>∃(K:LH) (ae:Ao) (ah:Nat) (ai:Seg),Jn U H K [bX bk #[iV V.1,sV ae V.2 ah] 97,ai] [(0,pV bk 0),(2,iV Z),(4,pV aw 0)] L s (OL 104 C8 K ae ah ai V.2)) ?_ ?_)
  ·rintro _ _ ⟨K,ae,ah,ai,rfl,rfl,ap,O,az⟩;refine zg 5 rfl (Bz underlying97 AU rfl rfl rfl ?_);refine AA (v:=iV V.1) rfl (fun ρ h=>Yl.load Bq (h _ _ rfl) (DF (j:=0) (off:=0) O rfl rfl)) ?_;obtain⟨aA,aN,aO⟩:=bs aM;refine zg 2 rfl (Bu (fun L s=>∃(aq:LH) (aj:Ao) (ak:Nat) (al:Seg),Jn K H aq [bX bk #[iV V.1,sV aj aA ak] 97,al] [] L s (OL 104 C8 aq aj ak al aA)) ?_ ?_)
   ·rintro _ _ ⟨aq,aj,ak,al,rfl,rfl,aP,aQ,aR⟩;obtain rfl:=oi aO;exact JL.fin (v:= .tuple #[]) rfl rfl (BY.list func122 rfl (vs:= []) trivial) (aG (((ao.Ab ab).Ab ap).Ab aP) rfl ⟨aj,ak,al,rfl,by simp,aR⟩ aQ)
   ·intro aB;refine AX aN (fun aS aT=>?_) (fun aS aU=>?_)
    ·refine CY 8 [bk] ⟨⟨0,_,rfl⟩,trivial⟩ O fun ht=>Bn ht rfl [0,1,2] rfl (Ce 3 ht underlying97 Dg rfl rfl rfl rfl ?_);refine D2 4 ht 1 0 O Eu ?_;refine Bv 5 ht rfl rfl (fun ρ h s' hs=>FH (vs:= [iV tr.1,sV W tr.2.1 Y,uV tr.2.2]) FA Ca (h _ _ rfl) (At.NB (aH.Ai (ab.Ab ap)) (N5 O hs ⟨⟨0,_,rfl⟩,trivial⟩))) ?_;obtain⟨bi,aV,aW⟩:=bs aT;refine JG.one (i:=6) rfl (by decide+kernel) (Take.lit (pp:=C8) (jp:=0) [.agg #[iV tr.1,sV W tr.2.1 Y,uV tr.2.2]] ([tr]:List BU) O rfl rfl rfl rfl underlying95 Ca Gx (by decide) rfl rfl rfl ⟨⟨_,_,rfl,rfl,⟨_,_,rfl,⟨_,_,rfl,(aF.Ai ((ao.Ab ab).Ab ap))⟩,rfl⟩⟩,trivial⟩ fun bj bl aX aY=>?_);refine JG.one (i:=7) rfl (by decide+kernel) (Take.app (pp:=C8) (jp:=0) 1 2 aY rfl aV rfl rfl rfl rfl rfl rfl rfl underlying95 underlying95 Ca (Cs type104) Gx rfl (by decide) (by decide) az aX rfl rfl rfl rfl fun aZ a0 bm a1 a2 a3=>?_);refine Cy [8,9,10] (ET 1 rfl a3 fun a4=>?_);refine JS.drop 1 a4 rfl fun a5=>zg 1 rfl (Bz underlying97 Dg rfl rfl rfl ?_);refine BJ 0 a5 Dg fun a6=>?_;refine JL.done (JS.drop 2 a6 rfl fun a7=>?_);obtain rfl:=oi aW;exact Az (aB _ _ ⟨K,aZ,a0,a1,rfl,rfl,Ap,a7,a2⟩) rfl
    ·refine JL.skip ?_;obtain rfl:=oi aU;exact Az (aB _ _ ⟨K,ae,ah,ai,rfl,rfl,Ap,O,az⟩) rfl
  ·intro aC;refine BP aL (fun a8 a9=>?_) (fun a8 ba=>?_)
   ·refine zg 5 rfl (Bz underlying97 AU rfl rfl rfl ?_);refine BJ 0 ay AU fun bb=>?_;refine zg 1 rfl (Bz underlying97 Dg rfl rfl rfl ?_);refine BJ 0 bb Dg fun bc=>?_;refine JL.done (JS.drop 1 bc rfl fun bd=>?_);obtain rfl:=oi a9;exact Az (aC _ _ ⟨U,none,0,[],rfl,rfl,Ap,bd,OL.nil⟩) rfl
   ·refine JL.skip ?_;obtain rfl:=oi ba;exact Az (aC _ _ ⟨U,a,c,g,rfl,rfl,Ap,ay,(aE.Ai (ao.Ab ab))⟩) rfl
 ·intro aD;refine Ex 12 aJ (fun be bf=>?_) (fun be bg=>?_)
  ·refine zg 7 rfl ?_;obtain rfl:=oi bf;exact Az (aD _ _ ⟨an,rfl,rfl,Ap,aa⟩) rfl
  ·refine zg 3 rfl (Bz underlying97 AU rfl rfl rfl ?_);refine AA (v:=iV le) rfl (fun ρ h=>Yl.load Bq (h _ _ rfl) (DF (j:=0) (off:=0) aa rfl rfl)) (zg 2 rfl ?_);obtain rfl:=oi bg;exact Az (aD _ _ ⟨an,rfl,rfl,Ap,aa⟩) rfl
end Pal
namespace Pal
open Go Go.Conc Go.Proofs
open Go.Proofs.Tryz
def Kz(fuel:Nat)(O:BK)(U:AT)(age:Int)(ms:List Int)(fl:Nat)(m:Int):Option (Option (List Int×Nat)):=
 (Ki fuel (O,U,age,ms,fl) ((ms).length:Int) m).bind fun K=>
 if(!K.2)=true then(
  some none
 ) else(
  (f175 fuel ms).bind fun V=>
  (DC V ([m]:List Int)).bind fun W=>
  (IH (fl) (K.1)).bind fun Y=>
  some (some (W,Y))
 )
theorem VO{J:Judge Tryz.prog}{A:Type}{I:A→LH→Seg→Prop}(a7:∀x E E' X,Le E E'→I x E X→I x E' X){E:LH}{bk k1 O:Nat}{aM aN U aa:Ao}{aO aP V ab:Nat}{aQ:Lv_}{aj:BK}{K:AT}{age:Int}{ms:List Int}{fl:Nat}(a8:At E k1 O (([sV aM aj.1 aO,sV aN aj.2.1 aP]:Lv_)++aQ))(a9:An (rL rI) E aM aO aj.1)(ba:An (rL rI) E aN aP aj.2.1)(bb:(rA 13 (rN .u16)).r E aQ aj.2.2)(bc:An By E U V K)(aA:An rI E aa ab ms){aR:Value}{X:Seg}{acc acc':A}(hX:I acc E X){m:Int}{fuel:Nat}{r:Option (List Int×Nat)}(aS:Kz fuel aj K age ms fl m=some r)
  (bd:r=none→acc'=acc)
  (aT:∀q,r=some q→∀E' a c,Le E E'→An rI E' a c q.1→EB J aR [] E' ([(bk,.cells #[pV k1 O,.slice U K.length V,iV age,.slice a q.1.length c,uV q.2] 175 (0,0))]++X) (fun w be bf=>∃ao ap aq Z,w= .bool true∧bf= [(bk,.cells #[pV k1 O,.slice U K.length V,ao,ap,aq] 175 (0,0))]++Z∧I acc' be Z)):
  AR J 155 [pV bk 0,iV m,aR] E ([(bk,.cells #[pV k1 O,.slice U K.length V,iV age,.slice aa ms.length ab,uV fl] 175 (0,0))]++X) (fun w E' B'=>∃Z,w= .bool true∧B'= [(bk,.cells #[pV k1 O,.slice U K.length V,iV age,.slice aa ms.length ab,uV fl] 175 (0,0))]++Z∧I acc' E' Z):=by
 refine Bg func155 fun Q aU cs H aB aC=>?_;refine Ds (S':= [[(bk,.cells #[pV k1 O,.slice U K.length V,iV age,.slice aa ms.length ab,uV fl] 175 (0,0))],X]) (by simp) aB fun aB=>?_;unfold Kz at aS;refine zg 2 rfl (CI aB fun ak b4 W ah ar=>?_);refine zg 3 rfl (CY 13 [bk] ⟨⟨0,_,rfl⟩,trivial⟩ ar fun ht=>?_);refine JG.lp 0 ht 0 ah ar ⟨⟨0,_,rfl⟩,trivial⟩ Fo ?_;refine JG.lp 1 ht 0 ah ar ⟨⟨0,_,rfl⟩,trivial⟩ Fo ?_;refine Cm 2 ht rfl rfl (Ce 3 ht underlying175 Ca rfl rfl rfl rfl ?_);refine Ce 4 ht underlying104 BL rfl rfl rfl rfl (D2 5 ht 3 0 ar Df ?_);refine Bv 6 ht rfl rfl (fun ρ h s' hs=>Yl.len rfl underlying28 (h _ _ rfl)) (Cm 7 ht rfl rfl ?_);obtain⟨bg,bh,bi⟩:=bs aS;refine Pf (i:=8) (vs:= [pV bk 0,iV (ms.length:Int),iV m]) 0 ⟨⟨0,_,rfl⟩,trivial⟩ (U3 (a8.Ai W) (a9.Ai W) (ba.Ai W) (Rp.Ai _ W bb) (bc.Ai W) (aA.Ai W) bh) (fun _ _ _ h=>h.2) (by decide+kernel) rfl rfl rfl (A5 func174 rfl) rfl ar rfl ?_;rintro _ b5 Y ⟨rfl,_⟩ aD;refine Bn ht rfl [9,10,11,12] rfl (Cy [13] ?_);refine zg 6 rfl (AA (v:= .bool (!bg.2)) rfl (fun ρ h=>Yl.not (h _ _ rfl)) ?_);refine JL.done (BP bi (fun bj bl=>?_) (fun bj bm=>?_))
 ·refine zg 4 rfl ?_;obtain rfl:=oi bl;exact AP func155 rfl rfl (aC (W.Ab Y) rfl ⟨X,rfl,by simp,by rw [bd rfl];exact a7 _ _ _ _ (W.Ab Y) hX⟩ aD)
 ·refine zg 3 rfl (B4 0 (ah.Ai Y) Fo rfl rfl rfl ?_);refine zg 1 rfl (Bz underlying175 Ca rfl rfl rfl ?_);refine AA rfl (fun ρ h=>FH (vs:= [iV age,sV aa ms ab,uV fl]) FA Ca (h _ _ rfl) (FV (off:=2) 0 aD rfl rfl)) (Cz aD Gx fun al bn=>?_);refine BJ 3 bn Ca fun bo=>?_;refine C4 3 bo rfl fun b6 ae aE bp=>BR (S':= [[(bk,.cells #[pV k1 O,sV U K V,iV age,sV aa ms ab,uV fl] 175 (0,0))],X,[],[]]) rfl bp fun aV=>zg 2 rfl (EV 7 fun ht=>?_);refine EK 0 ht 0 (ah.Ai (Y.Ab ae)) Fo rfl rfl rfl rfl (Ce 1 ht underlying104 BL rfl rfl rfl rfl ?_);refine EK 2 ht 1 aE Df rfl rfl rfl rfl (Cm 4 ht rfl rfl ?_);obtain⟨b7,aW,bq⟩:=bs bm;obtain⟨am,aX,aY⟩:=bs bq;refine Ix (i:=3) (j:=5) rfl (by decide+kernel) ?_ ?_
  ·refine Take.Ri (vs:= [sV aa ms ab]) aV (QF (aA.Ai ((W.Ab Y).Ab ae)) aW) rfl rfl rfl (A5 func175 rfl) rfl ?_;rintro _ b8 _ au ⟨b9,ca,cb,rfl,rfl,br⟩ bu;refine JG.one (i:=5) rfl (by decide+kernel) (Take.RG (pp:=rI) [iV m] ([m]:List Int) bu rfl rfl rfl underlying28 AU Cp (by decide) rfl rfl rfl ⟨rfl,trivial⟩ fun cc aZ bv bw=>?_);refine JG.one (i:=6) rfl (by decide+kernel) (Take.app0 (pp:=rI) 4 5 bw aX rfl rfl rfl rfl rfl rfl rfl underlying28 underlying28 AU (Cs type3) Cp rfl (by decide) (by decide) br bv rfl rfl fun a0 a1 cd bx bz bA=>?_);refine Cy [7,8,9,10] (ET 4 rfl bA fun bB=>?_);refine JS.drop 4 bB rfl fun bC=>BR (S':= [[(bk,.cells #[pV k1 O,sV U K V,iV age,sV aa ms ab,uV fl] 175 (0,0))],X,[],[],[],aZ,bx]) rfl bC fun bD=>zg 1 rfl (Bz underlying175 Ca rfl rfl rfl ?_);refine Bz underlying104 BL rfl rfl rfl (BJ 0 bD BL fun a2=>?_);refine zg 3 rfl (B4 0 (ah.Ai ((Y.Ab ae).Ab au)) Fo rfl rfl rfl ?_);refine zg 1 rfl (Bz underlying175 Ca rfl rfl rfl ?_);refine Bz underlying104 DZ rfl rfl rfl (AA (v:= uV fl) rfl (fun ρ h=>Yl.load Gv (h _ _ rfl) (DF (j:=0) (off:=4) a2 rfl rfl)) ?_);obtain⟨av,bE,bF⟩:=bs aY;refine zg 1 rfl (AA (v:= uV av) rfl (fun ρ h=>JU (h _ _ rfl) (h _ _ rfl) bE) ?_);refine zg 1 rfl (Bz underlying175 Ca rfl rfl rfl ?_);refine Bz underlying104 DZ rfl rfl rfl (BJ 0 a2 DZ fun bG=>?_);refine zg 2 rfl (Cf 6 bz bG rfl fun ce aw bH bI=>?_);refine BR (S':= [[(bk,.cells #[pV k1 O,sV U K V,iV age,sV a0 am a1,uV av] 175 (0,0))],X,[],[],[],aZ,[]]) rfl bI fun bJ=>JS.drop 5 bJ rfl fun bK=>?_;obtain rfl:=oi bF;refine JL.region (AA (v:= .func (.func 176) #[] [pV al 0,pV ak 0].toArray) rfl (fun ρ h=>Ii (by simp) (by simp [h (.tmp 9) _ rfl,h (.tmp 3) _ rfl])) ?_);refine OW (vs:= []) (caps:= [pV al 0,pV ak 0]) rfl rfl rfl rfl rfl rfl (zg 4 rfl ?_);refine Ds (S':= [[(bk,.cells #[pV k1 O,sV U K V,iV age,sV a0 am a1,uV av] 175 (0,0))]++X]) (by simp) bK fun aF=>IS (vs:= []) 0 (aT (am,av) rfl _ _ _ ((((W.Ab Y).Ab ae).Ab au).Ab aw) bH) rfl rfl rfl rfl rfl aF rfl ?_;rintro _ bL _ ai ⟨ao,ap,aq,Z,rfl,rfl,aG⟩ aH;refine zg 2 rfl (GA rfl ?_);refine JO.QH (vs:= []) (caps:= [pV al 0,pV ak 0]) rfl func176 rfl rfl (Nat.le_of_ble_eq_true rfl) fun T aI todo=>Ds (S':= [[(bk,.cells #[pV k1 O,.slice U K.length V,ao,ap,aq] 175 (0,0))],Z]) (by simp) aH fun aJ=>JL.region (B4 0 (ah.Ai ((((Y.Ab ae).Ab au).Ab aw).trans ai)) Fo rfl rfl rfl ?_);refine Cd (aE.Ai ((au.Ab aw).trans ai)) FA Ca rfl rfl (zg 1 rfl ?_);refine Bz underlying175 Ca rfl rfl rfl (BJ 0 aJ Ca fun aK=>?_);refine BR (S':= [[(bk,.cells #[pV k1 O,.slice U K.length V,iV age,.slice aa ms.length ab,uV fl] 175 (0,0))],Z]) rfl aK fun aL=>JL.done (JL.out rfl ?_);refine JO.leaveD rfl func176 rfl (.inl rfl) ?_;refine(?_:JO J Q (base 155) Tryz.f155.ntmps _ [] (aU::cs) _) T aI todo;exact JO.leave (v:= .bool true) rfl (BY.list func155 rfl (vs:= [.bool true]) ⟨rfl,trivial⟩) (aC (((((W.Ab Y).Ab ae).Ab au).Ab aw).trans ai) rfl ⟨Z,rfl,by simp,aG⟩ aL)
  ·refine Take.RG (pp:=rI) [iV m] ([m]:List Int) aV rfl rfl rfl underlying28 AU Cp (by decide) rfl rfl rfl ⟨rfl,trivial⟩ fun cf a3 bM bN=>JG.one (i:=3) rfl (by decide+kernel) (Take.Ri (vs:= [sV aa ms ab]) bN (QF (aA.Ai ((W.Ab Y).Ab ae)) aW) rfl rfl rfl (A5 func175 rfl) rfl ?_);rintro _ cg _ an ⟨ci,ck,cm,rfl,rfl,bO⟩ bP;refine JG.one (i:=6) rfl (by decide+kernel) (Take.app0 (pp:=rI) 5 4 bP aX rfl rfl rfl rfl rfl rfl rfl underlying28 underlying28 AU (Cs type3) Cp rfl (by decide) (by decide) bO (bM.Ai an) rfl rfl fun a4 a5 cn bQ bR bS=>?_);refine Cy [7,8,9,10] (ET 5 rfl bS fun bT=>?_);refine JS.drop 5 bT rfl fun bU=>BR (S':= [[(bk,.cells #[pV k1 O,sV U K V,iV age,sV aa ms ab,uV fl] 175 (0,0))],X,[],[],a3,[],bQ]) rfl bU fun bV=>zg 1 rfl (Bz underlying175 Ca rfl rfl rfl ?_);refine Bz underlying104 BL rfl rfl rfl (BJ 0 bV BL fun a6=>?_);refine zg 3 rfl (B4 0 (ah.Ai ((Y.Ab ae).Ab an)) Fo rfl rfl rfl ?_);refine zg 1 rfl (Bz underlying175 Ca rfl rfl rfl ?_);refine Bz underlying104 DZ rfl rfl rfl (AA (v:= uV fl) rfl (fun ρ h=>Yl.load Gv (h _ _ rfl) (DF (j:=0) (off:=4) a6 rfl rfl)) ?_);obtain⟨ay,bW,bY⟩:=bs aY;refine zg 1 rfl (AA (v:= uV ay) rfl (fun ρ h=>JU (h _ _ rfl) (h _ _ rfl) bW) ?_);refine zg 1 rfl (Bz underlying175 Ca rfl rfl rfl ?_);refine Bz underlying104 DZ rfl rfl rfl (BJ 0 a6 DZ fun bZ=>?_);refine zg 2 rfl (Cf 6 bR bZ rfl fun co az b0 b1=>?_);refine BR (S':= [[(bk,.cells #[pV k1 O,sV U K V,iV age,sV a4 am a5,uV ay] 175 (0,0))],X,[],[],a3,[],[]]) rfl b1 fun b2=>JS.drop 4 b2 rfl fun b3=>?_;obtain rfl:=oi bY;refine JL.region (AA (v:= .func (.func 176) #[] [pV al 0,pV ak 0].toArray) rfl (fun ρ h=>Ii (by simp) (by simp [h (.tmp 9) _ rfl,h (.tmp 3) _ rfl])) ?_);refine OW (vs:= []) (caps:= [pV al 0,pV ak 0]) rfl rfl rfl rfl rfl rfl (zg 4 rfl ?_);refine Ds (S':= [[(bk,.cells #[pV k1 O,sV U K V,iV age,sV a4 am a5,uV ay] 175 (0,0))]++X]) (by simp) b3 fun aF=>IS (vs:= []) 0 (aT (am,ay) rfl _ _ _ ((((W.Ab Y).Ab ae).Ab an).Ab az) b0) rfl rfl rfl rfl rfl aF rfl ?_;rintro _ bL _ ai ⟨ao,ap,aq,Z,rfl,rfl,aG⟩ aH;refine zg 2 rfl (GA rfl ?_);refine JO.QH (vs:= []) (caps:= [pV al 0,pV ak 0]) rfl func176 rfl rfl (Nat.le_of_ble_eq_true rfl) fun T aI todo=>Ds (S':= [[(bk,.cells #[pV k1 O,.slice U K.length V,ao,ap,aq] 175 (0,0))],Z]) (by simp) aH fun aJ=>JL.region (B4 0 (ah.Ai ((((Y.Ab ae).Ab an).Ab az).trans ai)) Fo rfl rfl rfl ?_);refine Cd (aE.Ai ((an.Ab az).trans ai)) FA Ca rfl rfl (zg 1 rfl ?_);refine Bz underlying175 Ca rfl rfl rfl (BJ 0 aJ Ca fun aK=>?_);refine BR (S':= [[(bk,.cells #[pV k1 O,.slice U K.length V,iV age,.slice aa ms.length ab,uV fl] 175 (0,0))],Z]) rfl aK fun aL=>JL.done (JL.out rfl ?_);refine JO.leaveD rfl func176 rfl (.inl rfl) ?_;refine(?_:JO J Q (base 155) Tryz.f155.ntmps _ [] (aU::cs) _) T aI todo;exact JO.leave (v:= .bool true) rfl (BY.list func155 rfl (vs:= [.bool true]) ⟨rfl,trivial⟩) (aC (((((W.Ab Y).Ab ae).Ab an).Ab az).trans ai) rfl ⟨Z,rfl,by simp,aG⟩ aL)
end Pal
namespace Pal
open Go Go.Conc Go.Proofs
open Go.Proofs.Tryz
def Kt(fuel:Nat)(K:BK)(V:AT)(age:Int)(ms:List Int)(fl:Nat)(n:Int):Option (Nat):=
 (ix K.1 (n)).bind fun O=>
 (f120 fuel O).bind fun U=>
 some U
theorem Xl{J:Judge Tryz.prog}{E:LH}{bk k1 U:Nat}{ak al V W:Ao}{am an Y Z:Nat}{ao:Lv_}{aa:BK}{O:AT}{age:Int}{ms:List Int}{fl:Nat}(au:At E k1 U (([sV ak aa.1 am,sV al aa.2.1 an]:Lv_)++ao))(av:An (rL rI) E ak am aa.1)(aT:An (rL rI) E al an aa.2.1)(aU:(rA 13 (rN .u16)).r E ao aa.2.2)(aV:An By E V Y O)(aW:An rI E W Z ms){ab ae:Nat}(aw:At E ab ae [pV bk 0]){ai aj kf ah:Nat}(ay:At E kf ah [.func (.func 153) #[] [pV ab ae,pV ai aj,pV kf ah].toArray]){ap on:Nat}{n:Int}(az:At E ap on [iV n]){X:Seg}{fuel:Nat}{r:Nat}(aq:Kt fuel aa O age ms fl n=some r){R:Value→LH→Seg→Prop}
  (aA:∀E',Le E E'→AR J 153 [uV r,pV ab ae,pV ai aj,pV kf ah] E' ([(bk,.cells #[pV k1 U,.slice V O.length Y,iV age,.slice W ms.length Z,uV fl] 175 (0,0))]++X) R):
  AR J 156 [pV kf ah,pV ab ae,pV ap on] E ([(bk,.cells #[pV k1 U,.slice V O.length Y,iV age,.slice W ms.length Z,uV fl] 175 (0,0))]++X) R:=by
 refine NN func156 rfl rfl fun Q aX cs H K aB=>Ds (S':= [[(bk,.cells #[pV k1 U,.slice V O.length Y,iV age,.slice W ms.length Z,uV fl] 175 (0,0))],X]) (by simp) K fun K=>?_;unfold Kt at aq;refine zg 5 rfl (CY 13 [bk] ⟨⟨0,_,rfl⟩,trivial⟩ K fun ht=>?_);refine JG.lp 0 ht 0 ay K ⟨⟨0,_,rfl⟩,trivial⟩ (D1 underlying201) ?_;refine JG.lp 1 ht 0 aw K ⟨⟨0,_,rfl⟩,trivial⟩ Fo ?_;refine Cm 2 ht rfl rfl (Ce 3 ht underlying175 MP rfl rfl rfl rfl ?_);refine D2 4 ht 0 0 K KT ?_;refine Cm 5 ht rfl rfl (Ce 6 ht underlying141 Cb rfl rfl rfl rfl ?_);refine Ce 7 ht underlying24 Cq rfl rfl rfl rfl (JG.lp 8 ht 0 au K ⟨⟨0,_,rfl⟩,trivial⟩ Da ?_);refine JG.lp 9 ht 0 az K ⟨⟨0,_,rfl⟩,trivial⟩ Bq ?_;obtain⟨aC,aD,aE⟩:=bs aq;refine Ei 10 av aD ht underlying22 BL ?_;rintro aY aZ _ ⟨aF,c4,rfl,aG⟩ aH;refine JG.lp 11 ht 0 aH K ⟨⟨0,_,rfl⟩,trivial⟩ Df ?_;obtain⟨aI,aJ,aK⟩:=bs aE;refine Ly (i:=12) ⟨⟨0,_,rfl⟩,trivial⟩ (vs:= [sV aF aC c4]) (I6 aG aJ) (by decide+kernel) rfl rfl rfl II rfl K ?_;rintro _ aL _ ar ⟨rfl,rfl⟩ aM;refine Cy [13,14] ?_;obtain rfl:=oi aK;refine Ds (S':= [[(bk,.cells #[pV k1 U,.slice V O.length Y,iV age,.slice W ms.length Z,uV fl] 175 (0,0))]++X]) (by simp) aM fun aN=>?_;have aO:EB J (.func (.func 153) #[] [pV ab ae,pV ai aj,pV kf ah].toArray) [uV aI] aL ([(bk,.cells #[pV k1 U,.slice V O.length Y,iV age,.slice W ms.length Z,uV fl] 175 (0,0))]++X) R:=EB.ofFn (caps:= [pV ab ae,pV ai aj,pV kf ah]) (A5 func153 rfl) (aA _ ar);refine IS 0 aO rfl rfl rfl rfl rfl aN rfl ?_;rintro w a0 aP aQ aR aS;refine zg 2 rfl (AP func156 rfl rfl ?_);exact aB _ _ _ aP (ar.Ab aQ) (by simp) aR aS
end Pal
namespace Pal
open Go Go.Conc Go.Proofs
open Go.Proofs.Tryz
def H2(fuel:Nat)(K:BK)(O:AT)(age:Int)(ms:List Int)(fl:Nat)(sm:Nat):Option (Option (List Int)):=
 (Kl fuel (K,O,age,ms,fl)).bind fun U=>
 if U<((ms).length:Int) then(
  some none
 ) else(
  (f89 fuel sm).bind fun V=>
  some (some V)
 )
def Oe(rec:Nat→List Int→Nat→List (List Int×Nat)→Option (List (List Int×Nat)))(fuel:Nat)(K:BK)(O:AT)(age:Int)(ms:List Int)(fl:Nat)(ac:List (List Int×Nat))(n:Int):Option (List (List Int×Nat)):=
 (Kz fuel K O age ms fl n).bind fun r=>match r with
  | none=>some ac
  | some q=>(Kt fuel K O age q.1 q.2 n).bind fun s'=>rec s' q.1 q.2 ac
def Jg(ok:List (List Int×Nat)→Bool)(rec:Nat→List Int→Nat→List (List Int×Nat)→Option (List (List Int×Nat)))(fuel:Nat)(K:BK)(O:AT)(age:Int)(ms:List Int)(fl:Nat)(ac:List (List Int×Nat)):Option (List Int)→Option (List (List Int×Nat))
 | none=>if ok (ac++ [(ms,fl)])=true then some (ac++ [(ms,fl)]) else none
 | some l=>if l.length≤1000 then EU (Oe rec fuel K O age ms fl) l ac else none
def H5(ok:List (List Int×Nat)→Bool)(fuel:Nat)(K:BK)(O:AT)(age:Int):Nat→Nat→List Int→Nat→List (List Int×Nat)→Option (List (List Int×Nat))
 | 0,_,_,_,_=>none
 | g+1,sm,ms,fl,ac=>(H2 fuel K O age ms fl sm).bind fun r=>Jg ok (H5 ok fuel K O age g) fuel K O age ms fl ac r
theorem V0{J:Judge Tryz.prog}{I:List (List Int×Nat)→LH→Seg→Prop}(aq:∀x E E' X,Le E E'→I x E X→I x E' X){E:LH}{bk k1 Y:Nat}{aO aP Z V:Ao}{aQ aR aa W:Nat}{aS:Lv_}{ai:BK}{O:AT}{age:Int}{ms:List Int}{fl:Nat}(aD:At E k1 Y (([sV aO ai.1 aQ,sV aP ai.2.1 aR]:Lv_)++aS))(aE:An (rL rI) E aO aQ ai.1)(aF:An (rL rI) E aP aR ai.2.1)(aG:(rA 13 (rN .u16)).r E aS ai.2.2)(aH:An By E Z aa O)(aI:An rI E V W ms){am an:Nat}(au:At E am an [pV bk 0]){aw ay kf ao:Nat}(a4:At E kf ao [.func (.func 153) #[] [pV am an,pV aw ay,pV kf ao].toArray]){aT:Value}(a5:At E aw ay [aT]){X:Seg}{acc acc':List (List Int×Nat)}{ok:List (List Int×Nat)→Bool}(hX:I acc E X){rec:Nat→List Int→Nat→List (List Int×Nat)→Option (List (List Int×Nat))}(a6:∀s' aj ar ac az,rec s' aj ar ac=some az→∀E' K a c,Le E E'→An rI E' a c aj→I ac E' K→AR J 153 [uV s',pV am an,pV aw ay,pV kf ao] E' ([(bk,.cells #[pV k1 Y,.slice Z O.length aa,iV age,(.slice a aj.length c),(uV ar)] 175 (0,0))]++K) (fun w E' B'=>∃aJ aK aL K,w= .bool true∧B'= [(bk,.cells #[pV k1 Y,.slice Z O.length aa,aJ,aK,aL] 175 (0,0))]++K∧I az E' K))(a7:∀(E':LH) (K:Seg) (ac:List (List Int×Nat)) (aj:List Int) (ar:Nat) (a:Ao) (c:Nat),Le E E'→An rI E' a c aj→I ac E' K→ok (ac++ [(aj,ar)])=true→EB J aT [.agg #[iV age,.slice a aj.length c,uV ar]] E' K (fun w aU a8=>w= .bool true∧I (ac++ [(aj,ar)]) aU a8)){sm:Nat}{fuel:Nat}{r:Option (List Int)}(aV:H2 fuel ai O age ms fl sm=some r)(ab:Jg ok rec fuel ai O age ms fl acc r=some acc'):
  AR J 153 [uV sm,pV am an,pV aw ay,pV kf ao] E ([(bk,.cells #[pV k1 Y,.slice Z O.length aa,iV age,.slice V ms.length W,uV fl] 175 (0,0))]++X) (fun w E' B'=>∃aJ aK aL K,w= .bool true∧B'= [(bk,.cells #[pV k1 Y,.slice Z O.length aa,aJ,aK,aL] 175 (0,0))]++K∧I acc' E' K):=by
 refine Bg func153 fun Q bK cs H ap aW=>?_;refine Ds (S':= [[(bk,.cells #[pV k1 Y,.slice Z O.length aa,iV age,.slice V ms.length W,uV fl] 175 (0,0))],X]) (by simp) ap fun ap=>?_;unfold H2 at aV;refine zg 6 rfl (CY 8 [bk] ⟨⟨0,_,rfl⟩,trivial⟩ ap fun ht=>?_);refine JG.lp 0 ht 0 au ap ⟨⟨0,_,rfl⟩,trivial⟩ Fo ?_;refine Cm 1 ht rfl rfl (Ce 2 ht underlying175 Ca rfl rfl rfl rfl ?_);refine Ce 3 ht underlying104 BL rfl rfl rfl rfl (D2 4 ht 3 0 ap Df ?_);refine Bv 5 ht rfl rfl (fun ρ h s' hs=>Yl.len rfl underlying28 (h _ _ rfl)) (JG.lp 6 ht 0 au ap ⟨⟨0,_,rfl⟩,trivial⟩ Fo ?_);obtain⟨bL,a9,ba⟩:=bs aV;refine Pf (i:=7) (vs:= [pV bk 0]) 0 ⟨⟨0,_,rfl⟩,trivial⟩ (Vg aD aE aF aG aH aI a9) (fun _ _ _ h=>h.2) (by decide+kernel) rfl rfl rfl (A5 func154 rfl) rfl ap rfl ?_;rintro _ aX U ⟨rfl,_⟩ ak;refine Cy [8] (zg 2 rfl ?_);refine AX ba (fun bb bc=>?_) (fun bb bd=>?_)
 ·refine JL.seq (CY 5 [bk] ⟨⟨0,_,rfl⟩,trivial⟩ ak fun ht=>?_);refine JG.lp 0 ht 0 (a5.Ai U) ak ⟨⟨0,_,rfl⟩,trivial⟩ (D1 underlying200) ?_;refine JG.lp 1 ht 0 (au.Ai U) ak ⟨⟨0,_,rfl⟩,trivial⟩ Fo ?_;refine Cm 2 ht rfl rfl (Ce 3 ht underlying175 Ca rfl rfl rfl rfl ?_);refine Bv 4 ht rfl rfl (fun ρ h s' hs=>FH (vs:= [iV age,sV V ms W,uV fl]) FA Ca (h _ _ rfl) (SZ (o:=2) 0 ak rfl (by simp [AZ]) hs rfl)) (Cy [5,6] ?_);obtain rfl:=oi bc;have aY:ok (acc++ [(ms,fl)])=true∧acc++ [(ms,fl)]=acc':=by
   simp only [Jg] at ab;split at ab
   ·exact⟨by assumption,Option.some.inj ab⟩
   ·cases ab
  obtain⟨be,aY⟩:=aY;subst acc';refine IS (vs:= [.agg #[iV age,.slice V ms.length W,uV fl]]) 1 (a7 _ _ _ _ _ _ _ U (aI.Ai U) (aq _ _ _ _ U hX) be) rfl rfl rfl rfl rfl ak rfl ?_;rintro _ bM bf bg ⟨rfl,bh⟩ bi;refine zg 2 rfl (AP func153 rfl rfl ?_);exact aW (U.Ab bg) rfl ⟨iV age,.slice V ms.length W,uV fl,bf,rfl,by simp,bh⟩ bi
 ·obtain⟨ah,bj,bl⟩:=bs bd;refine zg 5 rfl (BM (IA bj) rfl rfl Ig ak ?_);rintro _ bm _ aM ⟨aZ,a0,rfl,rfl,bn⟩ bo;refine BA underlying28 rfl rfl rfl (zg 2 rfl ?_);obtain rfl:=oi bl;have bp:ah.length≤1000∧EU (Oe rec fuel ai O age ms fl) ah acc=some acc':=by
   simp only [Jg] at ab;split at ab
   ·exact⟨by assumption,ab⟩
   ·cases ab
  obtain⟨hlen,ab⟩:=bp;refine JL.block (HZ [(1,pV am an),(3,pV kf ao),(24,sV aZ ah a0),(25,iV (ah.length:Int)),(26,iV 0)] rfl ?_);refine Ds (S':= [[(bk,.cells #[pV k1 Y,.slice Z O.length aa,iV age,.slice V ms.length W,uV fl] 175 (0,0))],X]) (by simp) bo fun bq=>R7 (l:=ah) ab (fun L s i ac=>∃aA X1,Jn bm H aA [[(bk,.cells #[pV k1 Y,.slice Z O.length aa,iV age,.slice V ms.length W,uV fl] 175 (0,0))],X1] [(1,pV am an),(3,pV kf ao),(24,sV aZ ah a0),(25,iV (ah.length:Int)),(26,iV ((i:Nat):Int))] L s (I ac aA X1)) ⟨_,X,rfl,rfl,Le.refl _,bq,aq _ _ _ _ (U.Ab aM) hX⟩ ?_ ?_
  ·rintro _ _ i ac n az ⟨aA,X1,rfl,rfl,av,aN,aB⟩ br bN bu bv;have bw:=(U.Ab aM).Ab av;refine zg 5 rfl ?_;rw [decide_eq_true (show((i:Nat):Int)<(ah.length:Int) by omega)];refine zg 6 rfl ?_;have bx:ix ah ((i:Nat):Int)=some n:=by unfold ix;rw [if_pos (by omega)];exact br
   refine Cj (bn.Ai av) bx underlying28 AU ?_;rintro kk bO _ rfl bz;refine B4 0 bz Bq rfl rfl rfl (Cz aN Cp fun rn bA=>?_);refine BJ 2 bA AU fun bB=>?_;refine C4 2 bB rfl fun bP aC a1 bC=>?_;have al:=bw.trans aC;refine zg 3 rfl (B4 0 (au.Ai al) Fo rfl rfl rfl ?_);refine B4 0 a1 Bq rfl rfl rfl (AA (v:= .func (.func 156) #[] [pV kf ao,pV am an,pV rn 0].toArray) rfl (fun ρ h=>Ii (by simp) (by simp [h (.tmp 3) _ rfl,h (.tmp 1) _ rfl,h (.tmp 7) _ rfl])) ?_);refine Ds (S':= [[(bk,.cells #[pV k1 Y,.slice Z O.length aa,iV age,.slice V ms.length W,uV fl] 175 (0,0))]++X1]) (by simp) bC fun ak=>?_;obtain⟨q,bD,a2⟩:=Option.bind_eq_some_iff.1 bu;refine BS 0 (VO aq (aD.Ai al) (aE.Ai al) (aF.Ai al) (Rp.Ai _ al aG) (aH.Ai al) (aI.Ai al) (acc':=az) (aq _ _ _ _ aC aB) bD (fun e=>by subst e;exact(Option.some.inj a2).symm) (fun p e E' a c hle a3=>?_)) rfl rfl (A5 func155 rfl) ak rfl ?_
   ·subst e;obtain⟨s',bE,bF⟩:=Option.bind_eq_some_iff.1 a2;have ae:=al.trans hle;exact EB.ofFn (A5 func156 rfl) (Xl (aD.Ai ae) (aE.Ai ae) (aF.Ai ae) (Rp.Ai _ ae aG) (aH.Ai ae) a3 (au.Ai ae) (a4.Ai ae) (a1.Ai hle) bE fun aU U=>a6 _ _ _ _ _ bF _ _ _ _ (ae.Ab U) (a3.Ai U) (aq _ _ _ _ (hle.trans U) (aq _ _ _ _ aC aB)))
   rintro _ aX _ ae ⟨K,rfl,rfl,bG⟩ bH;refine AA (v:= .bool (!true)) rfl (fun ρ h=>Yl.not (h _ _ rfl)) (zg 5 rfl ?_);have bI:Au (((i:Nat):Int)+1)=some (((i+1:Nat)):Int):=by unfold Au;rw [if_pos (by omega)];simp
   refine Bh bI rfl rfl rfl (zg 2 rfl ?_);exact Ds (S':= [[(bk,.cells #[pV k1 Y,.slice Z O.length aa,iV age,.slice V ms.length W,uV fl] 175 (0,0))],K]) (by simp) bH fun bJ=>Az (bv _ _ ⟨aX,K,rfl,rfl,(av.Ab aC).Ab ae,bJ,bG⟩) rfl
  ·rintro _ _ ⟨aA,X1,rfl,rfl,av,aN,aB⟩;refine zg 5 rfl ?_;rw [decide_eq_false (Int.lt_irrefl _)];refine zg 6 rfl (AP func153 rfl rfl ?_);exact aW ((U.Ab aM).Ab av) rfl ⟨iV age,.slice V ms.length W,uV fl,X1,rfl,by simp,aB⟩ aN
end Pal
namespace Pal
open Go Go.Conc Go.Proofs
open Go.Proofs.Tryz
theorem UA{J:Judge Tryz.prog}{I:List (List Int×Nat)→LH→Seg→Prop}(az:∀x E E' X,Le E E'→I x E X→I x E' X){E:LH}{bk k1 Z:Nat}{aq ar aa:Ao}{au av ab:Nat}{aw:Lv_}{O:BK}{W:AT}{age:Int}(aA:At E k1 Z (([sV aq O.1 au,sV ar O.2.1 av]:Lv_)++aw))(aB:An (rL rI) E aq au O.1)(aC:An (rL rI) E ar av O.2.1)(aD:(rA 13 (rN .u16)).r E aw O.2.2)(aE:An By E aa ab W){ae ah:Nat}(aF:At E ae ah [pV bk 0]){ai aj kf ak:Nat}(aG:At E kf ak [.func (.func 153) #[] [pV ae ah,pV ai aj,pV kf ak].toArray]){ay:Value}(aH:At E ai aj [ay]){fuel:Nat}{ok:List (List Int×Nat)→Bool}(aI:∀(E':LH) (Y:Seg) (ac:List (List Int×Nat)) (K:List Int) (U:Nat) (a:Ao) (c:Nat),Le E E'→An rI E' a c K→I ac E' Y→ok (ac++ [(K,U)])=true→EB J ay [.agg #[iV age,.slice a K.length c,uV U]] E' Y (fun w aJ aK=>w= .bool true∧I (ac++ [(K,U)]) aJ aK)):
  ∀(g sm:Nat) (ms:List Int) (fl:Nat) (ac V:List (List Int×Nat)),H5 ok fuel O W age g sm ms fl ac=some V→∀E' X a c,Le E E'→An rI E' a c ms→I ac E' X→AR J 153 [uV sm,pV ae ah,pV ai aj,pV kf ak] E' ([(bk,.cells #[pV k1 Z,.slice aa W.length ab,iV age,(.slice a ms.length c),uV fl] 175 (0,0))]++X) (fun w E' B'=>∃aL aM aN Y,w= .bool true∧B'= [(bk,.cells #[pV k1 Z,.slice aa W.length ab,aL,aM,aN] 175 (0,0))]++Y∧I V E' Y):=by
 intro g
 induction g with
 | zero=>intro sm ms fl ac V h;cases h
 | succ g aO=>
  intro sm ms fl ac V h E' X a c hle aP hX;obtain⟨r,aQ,aR⟩:=Option.bind_eq_some_iff.1 h;exact V0 az (aA.Ai hle) (aB.Ai hle) (aC.Ai hle) (Rp.Ai _ hle aD) (aE.Ai hle) aP (aF.Ai hle) (aG.Ai hle) (aH.Ai hle) hX (rec:=H5 ok fuel O W age g) (fun s' K U ac V aS al X2 am c2 an ao ap=>aO s' K U ac V aS al X2 am c2 (hle.trans an) ao ap) (fun al X2 ac K U am c2 an ao ap aT=>aI al X2 ac K U am c2 (hle.trans an) ao ap aT) aQ aR
def Jl(fuel:Nat)(K:BK)(U:AT)(age:Int):Option Nat:=
 (ix K.2.2 (age)).bind fun O=>
 some O
theorem Ps{J:Judge Tryz.prog}{I:List (List Int×Nat)→LH→Seg→Prop}(az:∀x E E' X,Le E E'→I x E X→I x E' X){E:LH}{bk k1 W:Nat}{an ao Z:Ao}{ap aq aa:Nat}{aA:Lv_}{Y:BK}{U:AT}{age:Int}(aB:At E k1 W (([sV an Y.1 ap,sV ao Y.2.1 aq]:Lv_)++aA))(aJ:An (rL rI) E an ap Y.1)(aK:An (rL rI) E ao aq Y.2.1)(ar:(rA 13 (rN .u16)).r E aA Y.2.2)(aL:An By E Z aa U){aj ak:Nat}(au:At E aj ak [pV bk 0]){aC aD:Nat}(aE:At E aC aD [iV age]){ae ah ai:Value}{aF:Go.Fn}{X:Seg}{acc acc':List (List Int×Nat)}(hX:I acc E X){ok:List (List Int×Nat)→Bool}{fuel:Nat}(aM:∀(E':LH) (V:Seg) (ac:List (List Int×Nat)) (al:List Int) (av:Nat) (a:Ao) (c:Nat),Le E E'→An rI E' a c al→I ac E' V→ok (ac++ [(al,av)])=true→EB J (.func aF #[] #[]) [.agg #[iV age,.slice a al.length c,uV av]] E' V (fun w aN aO=>w= .bool true∧I (ac++ [(al,av)]) aN aO)){r:Nat}(aG:Jl fuel Y U age=some r)(aP:H5 ok fuel Y U age fuel r [] 0 acc=some acc'):
  AR J 152 [.func aF #[] #[],pV aC aD,pV aj ak] E ([(bk,.cells #[pV k1 W,.slice Z U.length aa,ae,ah,ai] 175 (0,0))]++X) (fun w E' B'=>∃ae ah ai V,w= .tuple #[]∧B'= [(bk,.cells #[pV k1 W,.slice Z U.length aa,ae,ah,ai] 175 (0,0))]++V∧I acc' E' V):=by
 refine Bg func152 fun Q bh cs H aw aQ=>?_;refine Ds (S':= [[(bk,.cells #[pV k1 W,.slice Z U.length aa,ae,ah,ai] 175 (0,0))],X]) (by simp) aw fun aw=>?_;unfold Jl at aG;refine zg 2 rfl (CI aw fun ay bi K aR aS=>?_);refine zg 3 rfl (B4 0 (au.Ai K) Fo rfl rfl rfl ?_);refine B4 0 (aE.Ai K) Bq rfl rfl rfl (AA (v:= .agg #[iV age,nS,uV 0]) rfl (fun ρ h=>CG [(0,1),(1,1),(2,1)] h Gx underlying104 ⟨rfl,Bf type3,rfl,Bf type28,rfl,Bf type102,trivial⟩ rfl rfl) ?_);refine zg 1 rfl (Bz underlying175 Ca rfl rfl rfl ?_);refine BJ 0 aS Ca fun aT=>?_;refine zg 3 rfl (Cz aT (D6 type201) fun am aU=>?_);refine BR (S':= [[(bk,.cells #[pV k1 W,sV Z U aa,iV age,nS,uV 0] 175 (0,0))],X,[],[(am,.cells #[.nilFunc] 201 (0,0))]]) rfl aU fun aV=>zg 3 rfl (AA (v:= .func (.func 153) #[] ([pV aj ak,pV ay 0,pV am 0]:Lv_).toArray) rfl (fun ρ h=>Ii (by simp) (by simp [h (.tmp 2) _ rfl,h (.tmp 3) _ rfl,h (.tmp 4) _ rfl])) ?_);refine BJ 3 aV (Bf type201) fun aW=>?_;refine C4 3 aW rfl fun aX O aH ab=>JL.done (CY 11 [bk] ⟨⟨0,_,rfl⟩,trivial⟩ ab fun ht=>?_);refine JG.lp 0 ht 0 aH ab ⟨⟨0,_,rfl⟩,trivial⟩ (D1 underlying201) ?_;refine JG.lp 1 ht 0 (au.Ai (K.Ab O)) ab ⟨⟨0,_,rfl⟩,trivial⟩ Fo ?_;refine Cm 2 ht rfl rfl (Ce 3 ht underlying175 MP rfl rfl rfl rfl ?_);refine D2 4 ht 0 0 ab KT ?_;refine JG.lp 5 ht 0 (aE.Ai (K.Ab O)) ab ⟨⟨0,_,rfl⟩,trivial⟩ Bq ?_;refine Cm 6 ht rfl rfl (Ce 7 ht underlying141 FT rfl rfl rfl rfl ?_);obtain⟨aY,aI,aZ⟩:=bs aG;obtain⟨_,rfl,a0,_,_⟩:=Rw (kk:=13) (pp:=(rN .u16)) (Rp.Ai _ (K.Ab O) ar) (At.tail (l:= [sV an Y.1 ap,sV ao Y.2.1 aq]) (aB.Ai (K.Ab O))) aI;refine Bv (v:= .pointer (some ⟨k1,(W+2+Int.toNat (age)*1),none⟩)) 8 ht rfl rfl (fun ρ h s' hs=>IQ (kk:=13) (pp:=(rN .u16)) (Rp.Ai _ (K.Ab O) ar) aI underlying139 HH (h _ _ rfl) (h _ _ rfl)) (Ce 9 ht underlying138 DZ rfl rfl rfl rfl ?_);refine JG.lp 10 ht 0 a0 ab ⟨⟨0,_,rfl⟩,trivial⟩ Gv ?_;refine Cy [11] ?_;obtain rfl:=oi aZ;have a1:EB J (.func (.func 153) #[] [pV aj ak,pV ay 0,pV am 0].toArray) [uV aY] aX ([(bk,.cells #[pV k1 W,.slice Z U.length aa,iV age,nS,uV 0] 175 (0,0))]++X) (fun w E' B'=>∃ae ah ai V,w= .bool true∧B'= [(bk,.cells #[pV k1 W,.slice Z U.length aa,ae,ah,ai] 175 (0,0))]++V∧I acc' E' V):=EB.ofFn (caps:= [pV aj ak,pV ay 0,pV am 0]) (A5 func153 rfl) (UA az (aB.Ai (K.Ab O)) (aJ.Ai (K.Ab O)) (aK.Ai (K.Ab O)) (Rp.Ai _ (K.Ab O) ar) (aL.Ai (K.Ab O)) (au.Ai (K.Ab O)) aH (aR.Ai O) (fun a2 X2 ac a3 a4 a5 c2 a6 a7 a8 a9=>aM a2 X2 ac a3 a4 a5 c2 (((K.Ab O)).Ab a6) a7 a8 a9) _ _ _ _ _ _ aP _ _ _ _ Ap An.nil (az _ _ _ _ (K.Ab O) hX));refine Ds (S':= [[(bk,.cells #[pV k1 W,.slice Z U.length aa,iV age,nS,uV 0] 175 (0,0))]++X]) (by simp) ab fun ba=>IS 0 a1 rfl rfl rfl rfl rfl ba rfl ?_;rintro w bj _ bb ⟨bc,bd,be,V,rfl,rfl,bf⟩ bg;refine JL.done (JL.fin (v:= .tuple #[]) rfl rfl (BY.list func152 rfl (vs:= []) trivial) ?_);exact aQ ((K.Ab O).trans bb) rfl ⟨bc,bd,be,V,rfl,by simp,bf⟩ bg
end Pal
namespace Pal
open Go Go.Conc Go.Proofs
open Go.Proofs.Tryz
noncomputable def HV:Code:=match Tryz.f127.body with | some (.seq _ (.seq _ (.seq (.seq _ (.block _ (.rangeFunc _ _ a _))) _)))=>a | _=> .skip
noncomputable def HU:Code:=match Tryz.f127.body with | some (.seq _ (.seq _ (.seq (.seq _ (.block _ (.rangeFunc _ _ _ b))) _)))=>b | _=> .skip
def add1(fuel:Nat)(age:Int)(q:Int×List (BU))(x:List Int×Nat):Option (Int×List (BU)):=
 (f130 fuel (age,x.1,x.2)).bind fun n=>H3 fuel q.1 q.2 (age,x.1,x.2) n
def G6(fuel:Nat)(age:Int)(ac:List (List Int×Nat)):Option (Int×List (BU)):=EU (add1 fuel age) ac (0,[])
def IP(fuel:Nat)(age:Int)(l K O:Nat)(T:Ay)(ac:List (List Int×Nat))(E:LH)(X:Seg):Prop:=
 ∃q a c g,G6 fuel age ac=some q∧X=(l,.loop ⟨.ready,none,127,T,#[17],HV,HU,O⟩)::([(K,.cells #[iV age,iV q.1,.slice a q.2.length c] 133 (0,0))]++g)∧OL 104 C8 E a c g q.2
theorem IP.Ai{fuel:Nat}{age:Int}{l K O:Nat}{T:Ay}:∀(ac:List (List Int×Nat)) (E E':LH) (X:Seg),Le E E'→IP fuel age l K O T ac E X→IP fuel age l K O T ac E' X:=
 fun ac E E' X hle ⟨q,a,c,g,U,V,W⟩=>⟨q,a,c,g,U,V,W.Ai hle⟩
theorem OQ{α B:Type}{step:B→α→Option B}:∀{l:List α} {x:α} {b:B},EU step (l++ [x]) b=(EU step l b).bind fun K=>step K x
 | [],x,b=>by simp [EU]
 | y::l,x,b=>by
  simp only [List.cons_append,EU]
  cases step b y with
  | none=>rfl
  | some K=>exact OQ
theorem Qn{J:Judge Tryz.prog}{fuel:Nat}{age:Int}{l K O:Nat}{T:Ay}(aj:Has Tryz.f127.ntmps [(6,pV K 0)] T){E:LH}{X:Seg}{ac:List (List Int×Nat)}{ms:List Int}{fl:Nat}{U:Ao}{V:Nat}(ab:An rI E U V ms)(hX:IP fuel age l K O T ac E X)(ak:(G6 fuel age (ac++ [(ms,fl)])).isSome=true):
  EB J (.func (.yield l) #[] #[]) [.agg #[iV age,.slice U ms.length V,uV fl]] E X (fun w E' al=>w= .bool true∧IP fuel age l K O T (ac++ [(ms,fl)]) E' al):=by
 obtain⟨q,a,c,g,ae,rfl,am⟩:=hX;obtain⟨r,he⟩:=Option.isSome_iff_exists.1 ak;have ah:add1 fuel age q (ms,fl)=some r:=by
  have Y:=he;unfold G6 at Y ae;rw [OQ,ae] at Y;exact Y
 refine EB.yield (i:=0) (t:=17) rfl rfl fun Q an cs H Z ao=>?_;refine(?_:JL J Q (Rr l 127) Tryz.f127.ntmps [(17,.agg #[iV age,.slice U ms.length V,uV fl]),(6,pV K 0)] [] [.code HV,.beginRound,.code HU] (an::cs) _) _ (aj.put (d:=some 17) rfl _);refine Ds (S':= [[(l,.loop ⟨.ready,none,127,T,#[17],HV,HU,O⟩)],[(K,.cells #[iV age,iV q.1,.slice a q.2.length c] 133 (0,0))],g]) (by simp) Z fun Z=>?_;unfold add1 at ah;refine JL.region (Cz Z Gx fun aG ap=>?_);refine BJ 3 ap Ca fun aq=>?_;refine C4 3 aq rfl fun aH W ai ar=>JL.done (JL.beginRound 0 rfl rfl ar rfl rfl fun au=>?_);refine JL.block (EV 4 fun ht=>?_);refine Ce 0 ht underlying133 C3 rfl rfl rfl rfl (J8 1 ht ai FA Ca rfl rfl rfl ?_);refine J8 2 ht ai FA Ca rfl rfl rfl ?_;obtain⟨aI,av,aw⟩:=bs ah;refine JG.call (i:=3) (vs:= [.agg #[iV age,sV U ms V,uV fl]]) (VD (p0:=(age,ms,fl)) (ab.Ai W) av) (by decide+kernel) rfl rfl rfl (A5 func130 rfl) rfl au ?_;rintro _ aJ _ aa ⟨rfl,rfl⟩ ay;refine Cy [4] (Ds (S':= [[(l,.loop ⟨.busy,none,127,T,#[17],HV,HU,O⟩)],[(K,.cells #[iV age,iV q.1,.slice a q.2.length c] 133 (0,0))]++g]) (by simp) ay fun az=>?_);refine BS 1 (VI ((am.Ai (W.Ab aa))) (tr:=(age,ms,fl)) (ab.Ai (W.Ab aa)) aw) rfl rfl (A5 func122 rfl) az rfl ?_;rintro _ aK _ aA ⟨aB,aC,g',rfl,rfl,aD⟩ aE;refine zg 2 rfl (JL.endRound 0 rfl rfl aE rfl fun aF=>?_);exact ao _ _ _ _ ((W.Ab aa).trans aA) rfl ⟨rfl,r,aB,aC,g',he,by simp,aD⟩ aF
end Pal
namespace Pal
open Go Go.Conc Go.Proofs
open Go.Proofs.Tryz
open Go.Conc.Lib Go.ConcR.Gen
theorem O0{J:Judge Tryz.prog}{E:LH}{bk:Nat}{age:Int}:AR J 129 [pV bk 0,iV age] E [] (fun w E' B'=>∃K O,w= .func (.func 152) #[] [pV K 0,pV O 0].toArray∧B'= []∧At E' K 0 [iV age]∧At E' O 0 [pV bk 0]):=by
 refine Bg func129 fun Q aj cs H Y Z=>?_;refine zg 2 rfl (CI Y fun U ak aa ab ae=>?_);refine CI ae fun V al W ah ai=>?_;refine zg 4 rfl (AA (v:= .func (.func 152) #[] ([pV V 0,pV U 0]:Lv_).toArray) rfl (fun ρ h=>Ii (by simp) (by simp [h (.tmp 3) _ rfl,h (.tmp 2) _ rfl])) ?_);refine zg 2 rfl (AP func129 rfl rfl ?_);exact Z (aa.Ab W) rfl ⟨V,U,rfl,by simp,ah,(ab.Ai W)⟩ ai
def Gj(fuel:Nat)(K:BK)(O:AT)(age:Int):Option (Int×List (BU)):=
 (Jl fuel K O age).bind fun s=>(H5 (fun ac=>(G6 fuel age ac).isSome) fuel K O age fuel s [] 0 []).bind fun tr=>G6 fuel age tr
theorem TR{L:WgLink}(aA:WgLib Tryz.prog L)(a5:L.done=128){F:Fam}{j:Nat}{E:LH}{k1 U:Nat}{a6 a7 V:Ao}{a8 a9 W:Nat}{ba:Lv_}{aj:BK}{O:AT}{age:Int}(bb:At E k1 U (([sV a6 aj.1 a8,sV a7 aj.2.1 a9]:Lv_)++ba))(bc:An (rL rI) E a6 a8 aj.1)(bd:An (rL rI) E a7 a9 aj.2.1)(be:(rA 13 (rN .u16)).r E ba aj.2.2)(bf:An By E V W O){aB aC aD ol ka ak kc ab:Nat}(bj:At E aB aC [pV k1 U])(bl:At E aD ol [.slice V O.length W])(aG:At E ka ak [iV age])(bg:At E kc ab [.chan (some F.ch)])
  {fuel:Nat} {q:Int×List (BU)} (aE:Gj fuel aj O age=some q) (aF:F.has j=decide (0<q.2.length)) (bh:∀E' a c,Le E E'→An C8 E' a c q.2→F.msg j (.agg #[iV age,iV q.1,.slice a q.2.length c]) E'):
  Way Tryz.prog false (Stop Tryz.prog F (F.start j)) (born Tryz.prog ⟨.fn (.func 127) [.pointer (some F.sA),pV aB aC,pV aD ol,pV ka ak,pV kc ab].toArray,#[]⟩) ⟨E,fun _=>none,false⟩:=by
 refine Po (fn:=Tryz.f127) (vs:= [.pointer (some F.sA),pV aB aC,pV aD ol,pV ka ak,pV kc ab]) func127 rfl rfl (by simp) (Nat.le_of_ble_eq_true rfl) ?_;obtain⟨H,bm⟩:∃H:LH,H=fun _=>none:=⟨_,rfl⟩;rw [← bm];have bi:As E H []:=trivial;refine(?_:JL (Bo Tryz.prog false) (Stop Tryz.prog F (F.start j)) (baseD 127) Tryz.f127.ntmps (Fs 0 [.pointer (some F.sA),pV aB aC,pV aD ol,pV ka ak,pV kc ab]) [] [.code _] [Hu Tryz.prog] (Ak E H []));refine zg 2 rfl (JL.defer (vs:= [.pointer (some F.sA)]) rfl rfl rfl rfl rfl ?_);refine zg 2 rfl (EV 8 fun ht=>?_);refine EK 0 ht 0 bj KT rfl rfl rfl rfl (EK 1 ht 0 bl Jv rfl rfl rfl rfl ?_);refine Bv (v:= .agg #[pV k1 U,sV V O W,iV 0,nS,uV 0]) 2 ht rfl rfl (fun ρ h s' hs=>CG [(0,1),(1,1),(2,3)] h (D6 type175) underlying175 ⟨rfl,Bf type94,rfl,Bf type25,rfl,Bf type104,trivial⟩ rfl rfl) (EK 4 ht 0 aG Bq rfl rfl rfl rfl ?_);refine Bv (v:= .agg #[iV age,iV 0,nS]) 5 ht rfl rfl (fun ρ h s' hs=>CG [(0,1),(1,2)] h HG underlying133 ⟨rfl,Bf type3,rfl,Bf type97,trivial⟩ rfl rfl) (Ix (i:=3) (j:=6) rfl (by decide+kernel) ?_ ?_)
 ·refine Take.RB (v:= .agg #[pV k1 U,sV V O W,iV 0,nS,uV 0]) bi rfl rfl rfl rfl fun al an=>JG.one (i:=6) rfl (by decide+kernel) (Take.Iy an rfl rfl rfl HG fun ae ao=>?_);refine Cm 7 ht rfl rfl (Cy [8] ?_);refine BR (S':= [[(al,.cells #[pV k1 U,sV V O W,iV 0,nS,uV 0] 175 (0,0))],[(ae,.cells #[iV 0,iV 0,nS] 133 (0,0))]]) rfl ao fun ap=>BJ 1 ap AM fun aa=>?_;refine zg 3 rfl (BR (S':= [[(al,.cells #[pV k1 U,.slice V O.length W,iV 0,nS,uV 0] 175 (0,0))],[(ae,.cells #[iV age,iV 0,nS] 133 (0,0))]]) rfl aa fun aH=>?_);refine HZ [(3,pV ka ak),(4,pV kc ab),(5,pV al 0),(6,pV ae 0)] rfl ?_;have aq:Le E E:=Ap;refine zg 2 rfl (B4 0 (aG.Ai aq) Bq rfl rfl rfl ?_);refine BM O0 rfl rfl (A5 func129 rfl) aH ?_;rintro _ bn _ aI ⟨ar,au,rfl,rfl,aJ,aK⟩ an;have Y:=aq.Ab aI;refine zg 2 rfl (Ds (S':= [[(al,.cells #[pV k1 U,.slice V O.length W,iV 0,nS,uV 0] 175 (0,0))],[(ae,.cells #[iV age,iV 0,nS] 133 (0,0))]]) (by simp) an fun aL=>?_);refine JL.rangeFunc (caps:= [pV ar 0,pV au 0]) rfl (by intro e;cases e) rfl (A5 func152 rfl) aL fun Z l T av aM=>Nz (S':= [[(al,.cells #[pV k1 U,.slice V O.length W,iV 0,nS,uV 0] 175 (0,0))]++([(l,.loop ⟨.ready,none,127,T,#[17],HV,HU,Z⟩)]++ [(ae,.cells #[iV age,iV 0,nS] 133 (0,0))]),[(Z,.deferred (some []))]]) QC aM fun ao=>?_;unfold Gj at aE;obtain⟨bo,aN,aO⟩:=Option.bind_eq_some_iff.1 aE;obtain⟨tr,aP,aQ⟩:=Option.bind_eq_some_iff.1 aO;refine PG (vs:= [.func (.yield l) #[] #[],pV ar 0,pV au 0]) 0 (Ps (I:=IP fuel age l ae Z T) (ok:=fun ac=>(G6 fuel age ac).isSome) (acc:= []) IP.Ai (bb.Ai Y) (bc.Ai Y) (bd.Ai Y) (Rp.Ai _ Y be) (bf.Ai Y) aK aJ ⟨(0,[]),none,0,[],rfl,rfl,OL.nil⟩ (fun E' aR ac bp bq a c hle aS hX aT=>Qn (av.sub ⟨rfl,trivial⟩) aS hX aT) aN aP) ao rfl ?_;rintro _ br _ aU ⟨aV,aW,aX,aR,rfl,rfl,K,a,c,g,aY,rfl,aZ⟩ a0;obtain rfl:K=q:=Option.some.inj (aY.symm.trans aQ);refine Qe (S':= [[(al,.cells #[pV k1 U,.slice V O.length W,aV,aW,aX] 175 (0,0))],[(l,.loop ⟨.ready,none,127,T,#[17],HV,HU,Z⟩)],[(ae,.cells #[iV age,iV K.1,.slice a K.2.length c] 133 (0,0))],g,[(Z,.deferred (some []))]]) (by simp) a0 fun ap=>OE 1 ap rfl rfl rfl fun aa=>?_;refine(?_:JL (Bo Tryz.prog false) (Stop Tryz.prog F (F.start j)) (baseD 127) Tryz.f127.ntmps [(4,pV kc ab),(6,pV ae 0)] [⟨.collected Z,#[]⟩,dcall 128 #[.pointer (some F.sA)]] _ [Hu Tryz.prog] _) T (av.sub ⟨rfl,rfl,trivial⟩);have aw:=Y.Ab aU;have a1:dcall 128 #[.pointer (some F.sA)]=dcall L.done #[.pointer (some F.sA)]:=by rw [a5]
  rw [a1];refine zg 3 rfl (Bz underlying133 C3 rfl rfl rfl ?_);refine Bz underlying97 Dg rfl rfl rfl (AA (v:= .slice a K.2.length c) rfl (fun ρ h=>Yl.load Eu (h _ _ rfl) (DF (j:=2) (off:=2) aa rfl rfl)) ?_);refine BA underlying95 rfl rfl rfl (zg 2 rfl ?_);refine NL (p:=0<((K.2).length:Int)) rfl (fun a2=>?_) (fun a2=>?_)
  ·have ai:F.start j= .Cn j:=by unfold Fam.start;rw [aF,decide_eq_true (show 0<K.2.length by omega)];rfl
   rw [ai];refine JL.region (B4 0 (bg.Ai aw) KM rfl rfl rfl ?_);refine Cf 3 aZ aa rfl fun bu a3 a4 ay=>AA rfl (fun ρ h=>FH (vs:= [iV age,iV K.1,.slice a K.2.length c]) B9 AM (h _ _ rfl) (FV (off:=0) 2 ay rfl rfl)) (Pn rfl rfl rfl rfl rfl rfl rfl (bh _ _ _ (aw.Ab a3) a4) ?_);exact JL.done (JL.out rfl (JO.collected 4 rfl ay rfl fun az=>JO.Mn aA rfl rfl (JO.leaveD rfl func127 rfl (.inr rfl) JC)))
  ·have ai:F.start j= .CO:=by unfold Fam.start;rw [aF,decide_eq_false (show ¬0<K.2.length by omega)];rfl
   rw [ai];exact JL.skip (JL.out rfl (JO.collected 4 rfl aa rfl fun az=>JO.Mn aA rfl rfl (JO.leaveD rfl func127 rfl (.inr rfl) JC)))
 ·refine Take.Iy bi rfl rfl rfl HG fun ah az=>JG.one (i:=3) rfl (by decide+kernel) (Take.RB (v:= .agg #[pV k1 U,sV V O W,iV 0,nS,uV 0]) az rfl rfl rfl rfl fun am bv=>?_);refine Cm 7 ht rfl rfl (Cy [8] ?_);refine BR (S':= [[(ah,.cells #[iV 0,iV 0,nS] 133 (0,0))],[(am,.cells #[pV k1 U,sV V O W,iV 0,nS,uV 0] 175 (0,0))]]) rfl bv fun bw=>BJ 0 bw AM fun bx=>?_;refine zg 3 rfl (JS.perm (S':= [[(am,.cells #[pV k1 U,.slice V O.length W,iV 0,nS,uV 0] 175 (0,0))],[(ah,.cells #[iV age,iV 0,nS] 133 (0,0))]]) (List.Perm.swap _ _ _) bx fun aH=>?_);refine HZ [(3,pV ka ak),(4,pV kc ab),(5,pV am 0),(6,pV ah 0)] rfl ?_;have aq:Le E E:=Ap;refine zg 2 rfl (B4 0 (aG.Ai aq) Bq rfl rfl rfl ?_);refine BM O0 rfl rfl (A5 func129 rfl) aH ?_;rintro _ bn _ aI ⟨ar,au,rfl,rfl,aJ,aK⟩ an;have Y:=aq.Ab aI;refine zg 2 rfl (Ds (S':= [[(am,.cells #[pV k1 U,.slice V O.length W,iV 0,nS,uV 0] 175 (0,0))],[(ah,.cells #[iV age,iV 0,nS] 133 (0,0))]]) (by simp) an fun aL=>?_);refine JL.rangeFunc (caps:= [pV ar 0,pV au 0]) rfl (by intro e;cases e) rfl (A5 func152 rfl) aL fun Z l T av aM=>Nz (S':= [[(am,.cells #[pV k1 U,.slice V O.length W,iV 0,nS,uV 0] 175 (0,0))]++([(l,.loop ⟨.ready,none,127,T,#[17],HV,HU,Z⟩)]++ [(ah,.cells #[iV age,iV 0,nS] 133 (0,0))]),[(Z,.deferred (some []))]]) QC aM fun ao=>?_;unfold Gj at aE;obtain⟨bo,aN,aO⟩:=Option.bind_eq_some_iff.1 aE;obtain⟨tr,aP,aQ⟩:=Option.bind_eq_some_iff.1 aO;refine PG (vs:= [.func (.yield l) #[] #[],pV ar 0,pV au 0]) 0 (Ps (I:=IP fuel age l ah Z T) (ok:=fun ac=>(G6 fuel age ac).isSome) (acc:= []) IP.Ai (bb.Ai Y) (bc.Ai Y) (bd.Ai Y) (Rp.Ai _ Y be) (bf.Ai Y) aK aJ ⟨(0,[]),none,0,[],rfl,rfl,OL.nil⟩ (fun E' aR ac bp bq a c hle aS hX aT=>Qn (av.sub ⟨rfl,trivial⟩) aS hX aT) aN aP) ao rfl ?_;rintro _ br _ aU ⟨aV,aW,aX,aR,rfl,rfl,K,a,c,g,aY,rfl,aZ⟩ a0;obtain rfl:K=q:=Option.some.inj (aY.symm.trans aQ);refine Qe (S':= [[(am,.cells #[pV k1 U,.slice V O.length W,aV,aW,aX] 175 (0,0))],[(l,.loop ⟨.ready,none,127,T,#[17],HV,HU,Z⟩)],[(ah,.cells #[iV age,iV K.1,.slice a K.2.length c] 133 (0,0))],g,[(Z,.deferred (some []))]]) (by simp) a0 fun ap=>OE 1 ap rfl rfl rfl fun aa=>?_;refine(?_:JL (Bo Tryz.prog false) (Stop Tryz.prog F (F.start j)) (baseD 127) Tryz.f127.ntmps [(4,pV kc ab),(6,pV ah 0)] [⟨.collected Z,#[]⟩,dcall 128 #[.pointer (some F.sA)]] _ [Hu Tryz.prog] _) T (av.sub ⟨rfl,rfl,trivial⟩);have aw:=Y.Ab aU;have a1:dcall 128 #[.pointer (some F.sA)]=dcall L.done #[.pointer (some F.sA)]:=by rw [a5]
  rw [a1];refine zg 3 rfl (Bz underlying133 C3 rfl rfl rfl ?_);refine Bz underlying97 Dg rfl rfl rfl (AA (v:= .slice a K.2.length c) rfl (fun ρ h=>Yl.load Eu (h _ _ rfl) (DF (j:=2) (off:=2) aa rfl rfl)) ?_);refine BA underlying95 rfl rfl rfl (zg 2 rfl ?_);refine NL (p:=0<((K.2).length:Int)) rfl (fun a2=>?_) (fun a2=>?_)
  ·have ai:F.start j= .Cn j:=by unfold Fam.start;rw [aF,decide_eq_true (show 0<K.2.length by omega)];rfl
   rw [ai];refine JL.region (B4 0 (bg.Ai aw) KM rfl rfl rfl ?_);refine Cf 3 aZ aa rfl fun bu a3 a4 ay=>AA rfl (fun ρ h=>FH (vs:= [iV age,iV K.1,.slice a K.2.length c]) B9 AM (h _ _ rfl) (FV (off:=0) 2 ay rfl rfl)) (Pn rfl rfl rfl rfl rfl rfl rfl (bh _ _ _ (aw.Ab a3) a4) ?_);exact JL.done (JL.out rfl (JO.collected 4 rfl ay rfl fun az=>JO.Mn aA rfl rfl (JO.leaveD rfl func127 rfl (.inr rfl) JC)))
  ·have ai:F.start j= .CO:=by unfold Fam.start;rw [aF,decide_eq_false (show ¬0<K.2.length by omega)];rfl
   rw [ai];exact JL.skip (JL.out rfl (JO.collected 4 rfl aa rfl fun az=>JO.Mn aA rfl rfl (JO.leaveD rfl func127 rfl (.inr rfl) JC)))
end Pal
namespace Go.Proofs
abbrev Tryz.link:Go.Conc.Lib.WgLink:={add:=126,done:=128,wait:=132,relMerge:=139,disable:=140,enable:=141,inBubble:=142,associate:=143,fatal:=144,uOr:=145,uAdd:=146,raceRead:=147,uLoad:=148,uStore:=149,disassociate:=150,semrelease:=151,acquire:=157,isAssociated:=158,uCas:=159,raceWrite:=160,semacquire:=161,orU64:=170,addU64:=171,loadU64:=172,storeU64:=173,casU64:=177,tWgP:=189,tUP:=191,tAssoc:=192,tWg:=171,tAU:=168,tU64:=90,tUint:=156,tU32:=169,tPU32:=196,tPAU:=221,tPU64:=223,tNoCopy:=164,tANoCopy:=165,tAlign64:=166}
theorem Tryz.N3:Go.Conc.Lib.WgLib Tryz.prog Tryz.link:=
 ⟨Tryz.func126,Tryz.func128,Tryz.func132,Tryz.func139,Tryz.func140,Tryz.func141,Tryz.func142,Tryz.func143,Tryz.func144,Tryz.func145,Tryz.func146,Tryz.func147,Tryz.func148,Tryz.func149,Tryz.func150,Tryz.func151,Tryz.func157,Tryz.func158,Tryz.func159,Tryz.func160,Tryz.func161,Tryz.func170,Tryz.func171,Tryz.func172,Tryz.func173,Tryz.func177,Tryz.underlying189,Tryz.runUnderlying189,Tryz.sizeOf189,Tryz.isAgg189,Tryz.zeroValue189,Tryz.underlying191,Tryz.runUnderlying191,Tryz.sizeOf191,Tryz.isAgg191,Tryz.zeroValue191,Tryz.underlying192,Tryz.runUnderlying192,Tryz.sizeOf192,Tryz.isAgg192,Tryz.zeroValue192,Tryz.underlying171,Tryz.runUnderlying171,Tryz.sizeOf171,Tryz.isAgg171,Tryz.zeroValue171,Tryz.underlying168,Tryz.runUnderlying168,Tryz.sizeOf168,Tryz.isAgg168,Tryz.zeroValue168,Tryz.underlying90,Tryz.runUnderlying90,Tryz.sizeOf90,Tryz.isAgg90,Tryz.zeroValue90,Tryz.underlying156,Tryz.runUnderlying156,Tryz.sizeOf156,Tryz.isAgg156,Tryz.zeroValue156,Tryz.underlying169,Tryz.runUnderlying169,Tryz.sizeOf169,Tryz.isAgg169,Tryz.zeroValue169,Tryz.underlying196,Tryz.runUnderlying196,Tryz.sizeOf196,Tryz.isAgg196,Tryz.zeroValue196,Tryz.underlying221,Tryz.runUnderlying221,Tryz.sizeOf221,Tryz.isAgg221,Tryz.zeroValue221,Tryz.underlying223,Tryz.runUnderlying223,Tryz.sizeOf223,Tryz.isAgg223,Tryz.zeroValue223,Tryz.underlying0,Tryz.runUnderlying0,Tryz.sizeOf0,Tryz.isAgg0,Tryz.zeroValue0,Tryz.underlying3,Tryz.runUnderlying3,Tryz.sizeOf3,Tryz.isAgg3,Tryz.zeroValue3,Tryz.underlying4,Tryz.runUnderlying4,Tryz.sizeOf4,Tryz.isAgg4,Tryz.zeroValue4,Tryz.underlying9,Tryz.runUnderlying9,Tryz.sizeOf9,Tryz.isAgg9,Tryz.zeroValue9,Tryz.underlying20,Tryz.runUnderlying20,Tryz.sizeOf20,Tryz.isAgg20,Tryz.zeroValue20,Tryz.underlying21,Tryz.runUnderlying21,Tryz.sizeOf21,Tryz.isAgg21,Tryz.zeroValue21,(by decide+kernel),(by decide+kernel)⟩
end Go.Proofs
namespace Pal
open Go Go.Conc Go.Proofs Go.Conc.Lib Go.ConcR.Gen
theorem TU{F:Fam}(O:F.n<2147483648){E:LH}{kc K:Nat}(U:At E kc K [.chan (some F.ch)]):Way Tryz.prog false (Stop Tryz.prog F .CP) (born Tryz.prog ⟨.fn (.func 131) [.pointer (some F.sA),pV kc K].toArray,#[]⟩) ⟨E,fun _=>none,false⟩:=by
 refine Po (fn:=Tryz.f131) (vs:= [.pointer (some F.sA),pV kc K]) Tryz.func131 rfl rfl (by simp) (Nat.le_of_ble_eq_true rfl) ?_;obtain⟨H,V⟩:∃H:LH,H=fun _=>none:=⟨_,rfl⟩;rw [← V];refine(?_:JL (Bo Tryz.prog false) (Stop Tryz.prog F .CP) (baseD 131) Tryz.f131.ntmps (Fs 0 [.pointer (some F.sA),pV kc K]) [] [.code _] [Hu Tryz.prog] (Ak E H []));refine zg 2 rfl (JL.wait Tryz.N3 O rfl rfl rfl rfl rfl ?_);refine zg 2 rfl (B4 0 U KM rfl rfl rfl ?_);refine S3 rfl rfl rfl rfl rfl rfl rfl (JL.done ?_);exact JL.out rfl (JO.leaveD rfl Tryz.func131 rfl (.inr rfl) JC)
end Pal
namespace Pal
open Go Go.Conc Go.Proofs
open Go.Proofs.Tryz
open Go.Conc.Lib Go.ConcR.Gen
noncomputable def IC:Code:=match Tryz.f102.body with | some (.seq _ (.seq _ (.seq _ (.seq (.seq _ (.block _ (.loop c))) _))))=>c | _=> .skip
theorem SF{F:Fam}(aN:F.n=13){E:LH}{k1 ah:Nat}{ai aj ak:Ao}{al am an:Nat}{ao:Lv_}{O:BK}{aa:AT}(aq:At E k1 ah (([sV ai O.1 al,sV aj O.2.1 am]:Lv_)++ao))(ar:An (rL rI) E ai al O.1)(au:An (rL rI) E aj am O.2.1)(av:(rA 13 (rN .u16)).r E ao O.2.2)(aw:An By E ak an aa){V W Y ol kc Z:Nat}(ay:At E V W [pV k1 ah])(az:At E Y ol [.slice ak aa.length an])(aA:At E kc Z [.chan (some F.ch)]){fuel:Nat}{qs:Nat→Int×List (BU)}(aB:∀j,j<13→Gj fuel O aa ((j:Nat):Int)=some (qs j))(aC:∀j,j<13→F.has j=decide (0<(qs j).2.length))(aD:∀j,j<13→∀E' a c,An C8 E' a c (qs j).2→F.msg j (.agg #[iV ((j:Nat):Int),iV (qs j).1,.slice a (qs j).2.length c]) E'){j:Nat}(ab:j<13){ae H:LH}(hle:Le E ae)(aE:As ae H []){k:Li_}{cs:Lf_}
  (h:∀U,Le E U→As U H []→JL (Bo Tryz.prog true) (Stop Tryz.prog F (F.Dy j)) (base 102) Tryz.f102.ntmps [(2,pV V W),(3,pV Y ol),(5,pV kc Z),(6,.pointer (some F.sA)),(11,iV ((j+1:Nat):Int))] [] (.inLoop IC::k) cs (Ak U H [])):
  JL (Bo Tryz.prog true) (Stop Tryz.prog F (.EX j)) (base 102) Tryz.f102.ntmps [(2,pV V W),(3,pV Y ol),(5,pV kc Z),(6,.pointer (some F.sA)),(11,iV ((j:Nat):Int))] [] (.code IC:: .inLoop IC::k) cs (Ak ae H []):=by
 refine zg 5 rfl ?_;rw [decide_eq_true (show((j:Nat):Int)<13 by omega)];refine zg 7 rfl (Cz aE Cp fun rn aF=>?_);refine BJ 0 aF AU fun aG=>?_;refine C4 0 aG rfl fun U aH aI aJ=>Ds (S':= []) (by simp) aJ fun aK=>?_;have K:=hle.trans aH;refine zg 3 rfl (Ts Tryz.N3 rfl rfl rfl rfl rfl rfl ?_);refine zg 2 rfl (AA (v:= .func (.func 127) #[] ([.pointer (some F.sA),pV V W,pV Y ol,pV rn 0,pV kc Z]:Lv_).toArray) rfl (fun ρ h=>Ii (by simp) (by simp [h (.tmp 6) _ rfl,h (.tmp 2) _ rfl,h (.tmp 3) _ rfl,h (.tmp 7) _ rfl,h (.tmp 5) _ rfl])) ?_);have ap:=TR Tryz.N3 rfl (F:=F) (j:=j) (aq.Ai K) (ar.Ai K) (au.Ai K) (Rp.Ai _ K av) (aw.Ai K) (ay.Ai K) (az.Ai K) aI (aA.Ai K) (aB j ab) (aC j ab) (fun E' a c _ aL=>aD j ab E' a c aL);refine VC (fi:= #[]) rfl rfl rfl rfl rfl rfl rfl (by first | exact ap | (simp only [List.append_toArray,List.nil_append,Array.append_empty,Array.empty_append];exact ap)) ?_
 refine zg 3 rfl ?_;have aM:Au (((j:Nat):Int)+1)=some (((j+1:Nat)):Int):=by unfold Au;rw [if_pos (by omega)];simp
 refine Bh aM rfl rfl rfl (zg 2 rfl ?_);exact Az (h U K aK) rfl
theorem Tj{F:Fam}(V:F.n=13){E:LH}{k1 ae:Nat}{ah ai aj:Ao}{ak al am:Nat}{an:Lv_}{K:BK}{W:AT}(aq:At E k1 ae (([sV ah K.1 ak,sV ai K.2.1 al]:Lv_)++an))(ar:An (rL rI) E ah ak K.1)(au:An (rL rI) E ai al K.2.1)(av:(rA 13 (rN .u16)).r E an K.2.2)(aw:An By E aj am W){Y Z aa ol kc ab:Nat}(ay:At E Y Z [pV k1 ae])(az:At E aa ol [.slice aj W.length am])(aA:At E kc ab [.chan (some F.ch)]){fuel:Nat}{qs:Nat→Int×List (BU)}(aB:∀j,j<13→Gj fuel K W ((j:Nat):Int)=some (qs j))(aC:∀j,j<13→F.has j=decide (0<(qs j).2.length))(aD:∀j,j<13→∀E' a c,An C8 E' a c (qs j).2→F.msg j (.agg #[iV ((j:Nat):Int),iV (qs j).1,.slice a (qs j).2.length c]) E'){H:LH}{k:Li_}{cs:Lf_}
  (h:∀O,Le E O→As O H []→JL (Bo Tryz.prog true) (Stop Tryz.prog F .Ft) (base 102) Tryz.f102.ntmps [(2,pV Y Z),(3,pV aa ol),(5,pV kc ab),(6,.pointer (some F.sA)),(11,iV 13)] [] (.code IC:: .inLoop IC::k) cs (Ak O H [])):
  ∀(m j:Nat),j+m=13→0<m→∀U,Le E U→As U H []→JL (Bo Tryz.prog true) (Stop Tryz.prog F (.EX j)) (base 102) Tryz.f102.ntmps [(2,pV Y Z),(3,pV aa ol),(5,pV kc ab),(6,.pointer (some F.sA)),(11,iV ((j:Nat):Int))] [] (.code IC:: .inLoop IC::k) cs (Ak U H []):=by
 intro m
 induction m with
 | zero=>intro j _ aE;cases aE
 | succ m aF=>
  intro j aI _ U hle aG;refine SF V aq ar au av aw ay az aA aB aC aD (by omega) hle aG fun O ao ap=>JL.again ?_;by_cases hm:m=0
  ·subst hm;have aH:j=12:=by omega
   subst aH;have e:F.Dy 12= .Ft:=by unfold Fam.Dy;rw [V];rfl
   rw [e];exact h O ao ap
  ·have e:F.Dy j= .EX (j+1):=by unfold Fam.Dy;rw [V,if_neg (by omega)]
   rw [e];exact aF (j+1) (by omega) (by omega) O ao ap
end Pal
namespace Pal
open Go Go.Conc Go.Proofs
open Go.Proofs.Tryz
open Go.Conc.Lib Go.ConcR.Gen
noncomputable def Rq:Code:=match Tryz.f102.body with | some (.seq _ (.seq _ (.seq _ (.seq _ (.seq _ (.seq _ (.seq (.seq _ (.block _ (.loop c))) _)))))))=>c | _=> .skip
def partOf(qs:Nat→Int×List (BU))(k:Nat):(Bl):=(((k:Nat):Int),(qs k).1,(qs k).2)
theorem VE{K:List Nat}{kk n:Nat}(O:kk<n)(U:kk ∉ K):((List.range n).filter (fun x=> !(K++ [kk]).contains x)).length<((List.range n).filter (fun x=> !K.contains x)).length:=by
 have e:(List.range n).filter (fun x=> !(K++ [kk]).contains x)=((List.range n).filter (fun x=> !K.contains x)).filter (fun x=>x != kk):=by
  rw [List.filter_filter];apply List.filter_congr;intro x _;by_cases V:x∈K <;> by_cases e2:x=kk <;> simp [V,e2]
 rw [e];apply List.length_filter_lt_length_iff_exists.2;exact⟨kk,by simp [O,U],by simp⟩
theorem Tr{F:Fam}(Z:F.n=13){Q:GP}(ao:∀g s,(Dt Tryz.prog).ok Q g s→F.fin g s){qs:Nat→Int×List (BU)}(ap:∀kk v E',F.msg kk v E'→∃a c,v= .agg #[iV ((kk:Nat):Int),iV (qs kk).1,.slice a (qs kk).2.length c]∧An C8 E' a c (qs kk).2)
  {E H:LH} {k:Li_} {cs:Lf_}
  (aq:∀(K:List Nat) (V:LH) (a:Ao) (c:Nat) (g:Seg),Le E V→K.Nodup→(∀x∈K,x<13∧F.has x=true)→(∀x,x<13→F.has x=true→x∈K)→OL 133 Cg V a c g (K.map (partOf qs))→As V H [g]→JL (Dt Tryz.prog) Q (base 102) Tryz.f102.ntmps [(8,.slice a (K.map (partOf qs)).length c)] [] k cs (Ak V H [g])):
  ∀(m:Nat) (K:List Nat) (vs:Lv_) (U:LH) (a:Ao) (c:Nat) (g:Seg),((List.range 13).filter (fun x=> !K.contains x)).length=m→K.Nodup→(∀x∈K,x<13∧F.has x=true)→K.length+m≤13→Le E U→OL 133 Cg U a c g (K.map (partOf qs))→As U H [g]→
   JL (Bo Tryz.prog true) (Stop Tryz.prog F (.B7 K vs)) (base 102) Tryz.f102.ntmps [(8,.slice a (K.map (partOf qs)).length c),(18,.chan (some F.ch))] [] (.code Rq:: .inLoop Rq:: .inBlock 2::k) cs (Ak U H [g]):=by
 intro m
 induction m using Nat.strongRecOn with
 | _ m ar=>
  intro K vs U a c g hm aa ab hlen hle ae ah;refine zg 2 rfl (TF rfl rfl rfl rfl rfl rfl underlying162 HG ?_ ?_)
  ·intro kk v E' W au ai aj av aw;rw [Z] at W;obtain⟨aL,aM,rfl,ay⟩:=ap kk v E' aw;have az:As E' H [g]:=ah.up av;refine(?_:JL (Bo Tryz.prog true) (Stop Tryz.prog F (.B7 (K++ [kk]) (vs++ [_]))) (base 102) Tryz.f102.ntmps _ [] _ cs (Ak E' H [g]));refine zg 9 rfl (JS.alloc rfl rfl rfl az HG fun aN aA=>?_);refine BJ 1 aA AM fun aB=>?_;refine C4 1 aB rfl fun aC Y aD aE=>Ds (S':= [g]) (by simp) aE fun aF=>zg 3 rfl (Cd aD B9 AM rfl rfl ?_);have aG:(K.map (partOf qs)).length+1≤2 ^ 40:=by rw [List.length_map];omega
   refine OT (pp:=Cg) (xv:=partOf qs kk) 0 rfl rfl rfl rfl (fun w=>rfl) rfl (fun w=>rfl) rfl rfl rfl underlying130 underlying130 underlying130 AM (Cs type133) HG rfl (by decide) (by decide) (by decide) (by decide) aG (ae.Ai (aj.trans Y)) ⟨_,_,rfl,rfl,⟨_,_,rfl,rfl,⟨_,_,rfl,ay.Ai Y⟩⟩⟩ aF rfl fun w ak al g' am aH=>?_;have em:K.map (partOf qs)++ [partOf qs kk]=(K++ [kk]).map (partOf qs):=by simp
   rw [em] at am;refine A1 (v:= .slice ak ((K++ [kk]).map (partOf qs)).length al) rfl rfl rfl (fun ρ h=>by rw [← em];exact Yl.assign (h _ _ rfl)) (zg 2 rfl ?_);refine JL.again ?_;have aI:((List.range 13).filter (fun x=> !(K++ [kk]).contains x)).length<m:=by rw [← hm];exact VE W ai
   exact Az (ar _ aI (K++ [kk]) (vs++ [_]) aC ak al g' rfl (by rw [List.nodup_append];exact⟨aa,by simp,by intro x O y an;simp at an;subst an;intro e;exact ai (e▸O)⟩) (by intro x O;simp at O;rcases O with O | rfl;exact ab x O;exact⟨W,au⟩) (by simp only [List.length_append,List.length_cons,List.length_nil];omega) ((hle.trans aj).Ab Y) am aH) rfl
  ·intro aJ T aK;refine ao _ _ ?_;refine(?_:JL (Dt Tryz.prog) Q (base 102) Tryz.f102.ntmps _ [] _ cs (Ak U H [g])) T aK;exact zg 5 rfl (Az (aq K U a c g hle aa ab (fun x O hh=>aJ x (by rw [Z];exact O) hh) ae ah) rfl)
end Pal
namespace Pal
open Go Go.Conc Go.Proofs
open Go.Proofs.Tryz
variable {J:Judge Tryz.prog}{E:LH}
def QZ:List Nat:= [0,1,2,2,3,3,3,3,4,4,4,4,4,4,4,4,5,5,5,5,5,5,5,5,5,5,5,5,5,5,5,5,6,6,6,6,6,6,6,6,6,6,6,6,6,6,6,6,6,6,6,6,6,6,6,6,6,6,6,6,6,6,6,6,7,7,7,7,7,7,7,7,7,7,7,7,7,7,7,7,7,7,7,7,7,7,7,7,7,7,7,7,7,7,7,7,7,7,7,7,7,7,7,7,7,7,7,7,7,7,7,7,7,7,7,7,7,7,7,7,7,7,7,7,7,7,7,7,8,8,8,8,8,8,8,8,8,8,8,8,8,8,8,8,8,8,8,8,8,8,8,8,8,8,8,8,8,8,8,8,8,8,8,8,8,8,8,8,8,8,8,8,8,8,8,8,8,8,8,8,8,8,8,8,8,8,8,8,8,8,8,8,8,8,8,8,8,8,8,8,8,8,8,8,8,8,8,8,8,8,8,8,8,8,8,8,8,8,8,8,8,8,8,8,8,8,8,8,8,8,8,8,8,8,8,8,8,8,8,8,8,8,8,8,8,8,8,8,8,8,8,8,8,8,8,8]
def f187(fuel:Nat)(p0:Nat):Option Int:= Option.bind (if(((4294967296):Nat):Int)≤(((p0):Nat):Int) then(some (p0>>>32,32)) else(some (p0,0))) fun K=> Option.bind (if(((65536):Nat):Int)≤(((K.1):Nat):Int) then((Au (K.2+16)).bind fun V=> some (K.1>>>16,V)) else(some K)) fun O=> Option.bind (if(((256):Nat):Int)≤(((O.1):Nat):Int) then((Au (O.2+8)).bind fun W=> some (O.1>>>8,W)) else(some O)) fun U=> (Kw QZ (((((U.1) % 256):Nat):Int))).bind fun Y=> (Au (((Y):Nat):Int)).bind fun Z=> (Au (U.2+Z)).bind fun aa=> some aa
theorem Wd{p0:Nat}{fuel:Nat}{r:Int}(V:f187 fuel p0=some r):AR J 187 [.int .u64 ((p0:Nat):Int)] E [] (fun w E' B'=>w=iV r∧B'= []):=by
 refine Bg func187 fun Q aQ cs H W ah=>?_;unfold f187 at V;obtain⟨K,ai,aj⟩:=bs V;refine zg 10 rfl (CB [] [(0,.int .u64 ((K.1:Nat):Int)),(2,iV K.2)] (fun aR ak Y=>?_) (fun Z=>?_))
 ·obtain⟨O,al,am⟩:=bs aj;refine zg 6 rfl (CB [] [(0,.int .u64 ((O.1:Nat):Int)),(2,iV O.2)] (fun aS an aa=>?_) (fun ab=>?_))
  ·obtain⟨U,ao,ap⟩:=bs am;refine zg 6 rfl (CB [] [(0,.int .u64 ((U.1:Nat):Int)),(2,iV U.2)] (fun aT aq ar=>?_) (fun ae=>?_))
   ·refine zg 4 rfl (AA (v:= .int .u8 (((U.1) % 256:Nat):Int)) rfl (fun ρ h=>Vs underlying90 underlying5 (h _ _ rfl)) ?_);obtain⟨au,av,aw⟩:=bs ap;refine AA (v:= .int .u8 ((au:Nat):Int)) rfl (fun ρ h=>M9 (l:=QZ) (by decide+kernel) underlying9 (h _ _ rfl) (h _ _ rfl) av) ?_;obtain⟨ay,az,aA⟩:=bs aw;refine AA (v:=iV ay) rfl (fun ρ h=>P1 underlying5 underlying3 (h _ _ rfl) az) ?_;obtain⟨aU,aB,aC⟩:=bs aA;refine Bh aB rfl rfl rfl (zg 2 rfl ?_);obtain rfl:=oi aC;exact AP func187 rfl rfl (ah ((ak.Ab an).Ab aq) rfl ⟨rfl,rfl⟩ ar)
   ·refine AX ao (fun aD aE=>?_) (fun aD aF=>?_)
    ·refine zg 3 rfl (AA (v:= .int .u64 ((O.1>>>8:Nat):Int)) rfl (fun ρ h=>I0 8 (h _ _ rfl) (h _ _ rfl) (by decide)) ?_);obtain⟨aV,aG,aH⟩:=bs aE;refine zg 4 rfl (Bh aG rfl rfl rfl ?_);refine zg 2 rfl ?_;obtain rfl:=oi aH;exact ae Ap aa rfl
    ·refine JL.skip ?_;obtain rfl:=oi aF;exact ae Ap aa rfl
  ·refine AX al (fun aI aJ=>?_) (fun aI aK=>?_)
   ·refine zg 3 rfl (AA (v:= .int .u64 ((K.1>>>16:Nat):Int)) rfl (fun ρ h=>I0 16 (h _ _ rfl) (h _ _ rfl) (by decide)) ?_);obtain⟨aW,aL,aM⟩:=bs aJ;refine zg 4 rfl (Bh aL rfl rfl rfl ?_);refine zg 2 rfl ?_;obtain rfl:=oi aM;exact ab Ap Y rfl
   ·refine JL.skip ?_;obtain rfl:=oi aK;exact ab Ap Y rfl
 ·refine AX ai (fun aN aO=>?_) (fun aN aP=>?_)
  ·refine zg 3 rfl (AA (v:= .int .u64 ((p0>>>32:Nat):Int)) rfl (fun ρ h=>I0 32 (h _ _ rfl) (h _ _ rfl) (by decide)) ?_);refine zg 5 rfl ?_;obtain rfl:=oi aO;exact Z Ap W rfl
  ·refine JL.skip ?_;obtain rfl:=oi aP;exact Z Ap W rfl
def f163(fuel:Nat)(p0:Nat):Option Int:= (f187 fuel p0).bind fun K=> some K
theorem QB{p0:Nat}{fuel:Nat}{r:Int}(K:f163 fuel p0=some r):AR J 163 [.int .u64 ((p0:Nat):Int)] E [] (fun w E' B'=>w=iV r∧B'= []):=by
 refine Bg func163 fun Q aa cs H O U=>?_;unfold f163 at K;obtain⟨ab,V,W⟩:=bs K;refine zg 10 rfl (BI (Wd V) rfl rfl (A5 func187 rfl) O fun ae Y Z=>?_);refine zg 2 rfl ?_;obtain rfl:=oi W;exact AP func163 rfl rfl (U Y rfl ⟨rfl,rfl⟩ Z)
def f134(fuel:Nat)(p0:Bl)(p1:Bl):Option Int:= (Au (p0.1 - p1.1)).bind fun K=> some K
theorem GH{K:Ao}{c2:Nat}{O:Ao}{U:Nat}{p0:Bl}{p1:Bl}(al:An C8 E K c2 p0.2.2)(am:An C8 E O U p1.2.2){fuel:Nat}{r:Int}(V:f134 fuel p0 p1=some r):AR J 134 [.agg #[iV p0.1,iV p0.2.1,sV K p0.2.2 c2],.agg #[iV p1.1,iV p1.2.1,sV O p1.2.2 U]] E [] (fun w E' B'=>w=iV r∧B'= []):=by
 refine Bg func134 fun Q an cs H Y Z=>?_;unfold f134 at V;refine zg 2 rfl (CI Y fun ao ap aa ab ae=>?_);refine CI ae fun aq ar W ah ai=>?_;refine zg 4 rfl (JL.fl 0 (ab.Ai W) underlying133 AU Bq ?_);refine JL.fl 0 ah underlying133 AU Bq ?_;obtain⟨au,aj,ak⟩:=bs V;refine BX aj rfl rfl rfl (zg 2 rfl ?_);obtain rfl:=oi ak;exact AP func134 rfl rfl (Z (aa.Ab W) rfl ⟨rfl,rfl⟩ ai)
def IX(fuel:Nat)(p1:Int)(K:Int×(List Bl)):Option (Bj (Int×(List Bl)) ((List Bl))):= Option.bind (if p1<K.1 then((ix K.2 K.1).bind fun V=> (Au (K.1 - 1)).bind fun W=> (ix K.2 W).bind fun Y=> (f134 fuel V Y).bind fun Z=> some (decide (Z<0))) else(some false)) fun aa=> if aa=true then((Au (K.1 - 1)).bind fun O=> (Au (K.1 - 1)).bind fun ab=> (ix K.2 ab).bind fun U=> (ix K.2 K.1).bind fun ae=> (ix (K.2.set (Int.toNat K.1) U) O).bind fun ai=> (Au (K.1 - 1)).bind fun ah=> some (.more (ah,((K.2.set (Int.toNat K.1) U).set (Int.toNat O) ae)))) else(some (.done K.2))
def Iu(fuel:Nat)(p1:Int)(p2:Int)(K:Int×(List Bl)):Option (Bj (Int×(List Bl)) ((List Bl))):= if K.1<p2 then(Option.bind (iter (IX fuel p1) fuel K) fun O=> (Au (K.1+1)).bind fun U=> some (.more (U,O))) else(some (.done K.2))
def f178(fuel:Nat)(p0:List Bl)(p1:Int)(p2:Int):Option ((List Bl)):= (Au (p1+1)).bind fun K=> Option.bind (iter (Iu fuel p1 p2) fuel (K,p0)) fun O=> some O
theorem QU{K:Nat}{U:Nat}{V:Nat}{aq:Ay}{p0:List (Bl)}{p1:Int}{p2:Int}(hW:WL 133 Cg E K U V aq p0){fuel:Nat}{r:(List Bl)}(aD:f178 fuel p0 p1 p2=some r):AR J 178 [.slice (AV K) V U,iV p1,iV p2,(fV 134)] E [(K,.cells aq 133 (0,0))] (fun w E' B'=>∃(aE:Ay),w= .tuple #[]∧B'= [(K,.cells aE 133 (0,0))]∧WL 133 Cg E' K U V aE r):=by
 refine Bg func178 fun Q b3 cs H aX aY=>?_;unfold f178 at aD;obtain⟨b4,aZ,a0⟩:=bs aD;refine zg 3 rfl (Bh aZ rfl rfl rfl ?_);obtain⟨a1,a2,a3⟩:=bs a0;refine zg 2 rfl (Bu (fun L s=>∃(ar:LH) (f17:Ay),Jn E H ar [bX K f17 133] [] L s (WL 133 Cg ar K U V f17 a1)) ?_ ?_)
 ·rintro _ _ ⟨ar,f17,rfl,rfl,a4,a5,a6⟩;obtain rfl:=oi a3;exact JL.fin (v:= .tuple #[]) rfl rfl (BY.list func178 rfl (vs:= []) trivial) (aY a4 rfl ⟨f17,rfl,(by first | rfl | simp | (simp [Value.cells])),a6⟩ a5)
 ·intro a7;refine JL.block (CM a2 (fun L s ab=>∃(aa:LH) (f25:Ay),Jn E H aa [bX K f25 133] [(0,.slice (AV K) V U),(1,iV p1),(2,iV p2),(3,(fV 134)),(8,iV ab.1)] L s (WL 133 Cg aa K U V f25 ab.2)) ⟨E,aq,rfl,rfl,Ap,aX,hW⟩ ?_);rintro _ _ ab ⟨aa,f25,rfl,rfl,aF,aG,aH⟩ a8 ⟨b5,au⟩ a9;have aI:=au;unfold Iu at aI;refine zg 7 rfl (AX aI (fun ba bb=>?_) (fun ba bc=>?_))
  ·obtain⟨aJ,bd,be⟩:=bs bb;refine zg 8 rfl (Bu (fun L s=>∃(am:LH) (f48:Ay),Jn aa H am [bX K f48 133] [(0,.slice (AV K) V U),(1,iV p1),(2,iV p2),(3,(fV 134)),(8,iV ab.1)] L s (WL 133 Cg am K U V f48 aJ)) ?_ ?_)
   ·rintro _ _ ⟨am,f48,rfl,rfl,bf,bg,bh⟩;obtain⟨bi,bj,bl⟩:=bs be;refine zg 3 rfl (Bh bj rfl rfl rfl ?_);refine zg 2 rfl ?_;obtain rfl:=oi bl;exact Az (a9 _ _ (bi,aJ) ⟨am,f48,rfl,rfl,(aF.Ab bf),bg,bh⟩ au) rfl
   ·intro bm;refine JL.block (CM bd (fun L s Z=>∃(aj:LH) (f58:Ay),Jn aa H aj [bX K f58 133] [(0,.slice (AV K) V U),(1,iV p1),(2,iV p2),(3,(fV 134)),(8,iV ab.1),(9,iV Z.1)] L s (WL 133 Cg aj K U V f58 Z.2)) ⟨aa,f25,rfl,rfl,Ap,aG,aH⟩ ?_);rintro _ _ Z ⟨aj,f58,rfl,rfl,aK,ak,O⟩ bn ⟨b6,av⟩ bo;have aL:=av;unfold IX at aL;refine zg 2 rfl (CY 17 [K] ⟨⟨0,_,rfl⟩,trivial⟩ ak fun ht=>?_);refine Bn ht rfl [0,1,2,3] rfl ?_;obtain⟨bp,aM,bq⟩:=bs aL;refine FX 0 #[true,true,true,true,true,true,true,true,true,true,true,true,true,true,true,true,true] (fun L s=>∃(an:LH),Jm aj H an [bX K f58 133] [(0,.slice (AV K) V U),(1,iV p1),(2,iV p2),(3,(fV 134)),(8,iV ab.1),(9,iV Z.1),(34,.bool bp)] L s) ?_ ?_
    ·rintro _ _ ⟨an,rfl,rfl,ae,ao⟩;refine AQ.fin (by decide+kernel) (BP bq (fun br bu=>?_) (fun br bv=>?_))
     ·refine zg 3 rfl (GF [15,17] [K] mixed rfl ?_);refine Bi 0 rfl rfl (Bi 1 rfl rfl ?_);refine Bi 2 rfl rfl (Bi 3 rfl rfl ?_);obtain⟨aN,bw,bx⟩:=bs bu;refine Gm 4 true rfl rfl (fun ρ h s' hs=>Du (h _ _ rfl) (h _ _ rfl) bw) (Bi 5 rfl rfl ?_);refine Bi 6 rfl rfl ?_;obtain⟨b7,bz,bA⟩:=bs bx;refine Gm 7 true rfl rfl (fun ρ h s' hs=>Du (h _ _ rfl) (h _ _ rfl) bz) ?_;obtain⟨W,aO,bB⟩:=bs bA;obtain⟨_,⟨_,_,rfl,rfl,⟨_,_,rfl,rfl,⟨aw,ay,rfl,bC⟩⟩⟩,bD⟩:=WL.at (O.Ai ae) aO;refine Ck 8 O.2 aO underlying130 AM ?_;refine DW 9 [iV W.1,iV W.2.1,sV aw W.2.2 ay] 0 ao bD B9 AM ?_;refine Bi 10 rfl rfl (Bi 11 rfl rfl ?_);obtain⟨Y,ap,bE⟩:=bs bB;obtain⟨_,⟨_,_,rfl,rfl,⟨_,_,rfl,rfl,⟨az,aA,rfl,bF⟩⟩⟩,bG⟩:=WL.at (O.Ai ae) ap;refine Ck 12 O.2 ap underlying130 AM ?_;refine DW 13 [iV Y.1,iV Y.2.1,sV az Y.2.2 aA] 0 ao bG B9 AM ?_;refine Ck 14 O.2 ap underlying130 AM ?_;have al:=WL.put (x':=W) (ws':= [iV W.1,iV W.2.1,sV aw W.2.2 ay]) (O.Ai ae) O.2 ap ⟨_,_,rfl,rfl,⟨_,_,rfl,rfl,⟨_,_,rfl,bC⟩⟩⟩;refine DU 15 0 ao AM al.2 fun bH=>?_;obtain⟨b8,aB,bI⟩:=bs bE;obtain⟨_,⟨_,_,rfl,rfl,⟨_,_,rfl,rfl,⟨b9,ca,rfl,cb⟩⟩⟩,cc⟩:=WL.at al.1 aB;refine Ck 16 (al.1).2 aB underlying130 AM ?_;have aP:=WL.put (x':=Y) (ws':= [iV Y.1,iV Y.2.1,sV az Y.2.2 aA]) al.1 (al.1).2 aB ⟨_,_,rfl,rfl,⟨_,_,rfl,rfl,⟨_,_,rfl,bF⟩⟩⟩;refine DU 17 0 bH AM aP.2 fun bJ=>?_;refine JB.fin (by decide+kernel) ?_;obtain⟨bK,bL,bM⟩:=bs bI;refine zg 3 rfl (BX bL rfl rfl rfl ?_);refine zg 2 rfl ?_;obtain rfl:=oi bM;exact Az (bo _ _ (bK,((Z.2.set (Int.toNat Z.1) W).set (Int.toNat aN) Y)) ⟨an,(Ba (Ba f58 (Int.toNat (Z.1)*3) [iV W.1,iV W.2.1,sV aw W.2.2 ay]) (Int.toNat (aN)*3) [iV Y.1,iV Y.2.1,sV az Y.2.2 aA]),rfl,rfl,(aK.Ab ae),bJ,aP.1⟩ av) rfl
     ·refine JL.exit rfl ?_;obtain rfl:=oi bv;obtain rfl:=bn _ av;exact Az (bm _ _ ⟨an,f58,rfl,rfl,(aK.Ab ae),ao,(O.Ai ae)⟩) rfl
    ·intro aQ;refine F9 (q:=p1<Z.1) (i:=21) rfl (fun aC=>?_) (fun aC=>?_)
     ·have bN:=ip aM aC;refine Bn ht rfl [4,5,6] rfl ?_;obtain⟨ah,aR,bO⟩:=bs bN;obtain⟨_,⟨_,_,rfl,rfl,⟨_,_,rfl,rfl,⟨aS,aT,rfl,bP⟩⟩⟩,bQ⟩:=WL.at O aR;refine FK 7 ht (O).2 aR underlying130 AM ?_;refine DI 8 ht [iV ah.1,iV ah.2.1,sV aS ah.2.2 aT] 0 ak bQ B9 AM ?_;refine Bn ht rfl [9,10] rfl ?_;obtain⟨cd,bR,bS⟩:=bs bO;refine Bv 11 ht rfl rfl (fun ρ h s' hs=>Du (h _ _ rfl) (h _ _ rfl) bR) ?_;obtain⟨ai,aU,bT⟩:=bs bS;obtain⟨_,⟨_,_,rfl,rfl,⟨_,_,rfl,rfl,⟨aV,aW,rfl,bU⟩⟩⟩,bV⟩:=WL.at O aU;refine FK 12 ht (O).2 aU underlying130 AM ?_;refine DI 13 ht [iV ai.1,iV ai.2.1,sV aV ai.2.2 aW] 0 ak bV B9 AM ?_;obtain⟨ce,bW,bY⟩:=bs bT;refine Hm (i:=14) ⟨⟨0,_,rfl⟩,trivial⟩ (vs:= [.agg #[iV ah.1,iV ah.2.1,sV aS ah.2.2 aT],.agg #[iV ai.1,iV ai.2.1,sV aV ai.2.2 aW]]) (GH bP bU bW) (by decide+kernel) rfl rfl rfl rfl Gw rfl ak ?_;rintro _ bZ _ b0 ⟨rfl,rfl⟩ b1;refine Bn ht rfl [15,16] rfl ?_;obtain rfl:=oi bY;refine DM ?_ (aQ _ _ ⟨bZ,rfl,rfl,b0,b1⟩);exact⟨rfl,rfl,rfl,rfl,rfl,rfl,rfl,trivial⟩
     ·have b2:=im aM aC;refine Bn ht rfl [4,5,6,7,8,9,10,11,12,13,14,15,16] rfl ?_;obtain rfl:=oi b2;refine DM ?_ (aQ _ _ ⟨aj,rfl,rfl,Ap,ak⟩);exact⟨rfl,rfl,rfl,rfl,rfl,rfl,rfl,trivial⟩
  ·refine JL.exit rfl ?_;obtain rfl:=oi bc;obtain rfl:=a8 _ au;exact Az (a7 _ _ ⟨aa,f25,rfl,rfl,aF,aG,aH⟩) rfl
def f200(fuel:Nat)(p0:List Bl)(p1:Int)(p2:Int)(p3:Int):Option (Int×Int×Int):= (ix p0 p2).bind fun K=> (ix p0 p1).bind fun O=> (f134 fuel K O).bind fun U=> if U<0 then((Au (p3+1)).bind fun V=> some (p2,p1,V)) else(some (p1,p2,p3))
theorem NH{K:Nat}{Z:Nat}{aa:Nat}{W:Ay}{bk:Nat}{p0:List (Bl)}{p1:Int}{p2:Int}{p3:Int}(hW:WL 133 Cg E K Z aa W p0){fuel:Nat}{r:Int×Int×Int}(ab:f200 fuel p0 p1 p2 p3=some r):AR J 200 [.slice (AV K) aa Z,iV p1,iV p2,pV bk 0,(fV 134)] E ([(bk,.cells #[iV p3] 3 (0,0))]++ [(K,.cells W 133 (0,0))]) (fun w E' B'=>w= .tuple #[iV r.1,iV r.2.1]∧B'= [(bk,.cells #[iV r.2.2] 3 (0,0))]++ [(K,.cells W 133 (0,0))]):=by
 refine Bg func200 fun Q aE cs H O ae=>?_;unfold f200 at ab;refine Ds (S':= [[(bk,.cells #[iV p3] 3 (0,0))],[(K,.cells W 133 (0,0))]]) (by simp) O fun O=>zg 7 rfl (CY 9 [K] ⟨⟨1,_,rfl⟩,trivial⟩ O fun ht=>?_);refine Bn ht rfl [0,1,2] rfl ?_;obtain⟨U,ah,an⟩:=bs ab;obtain⟨_,⟨_,_,rfl,rfl,⟨_,_,rfl,rfl,⟨ai,c4,rfl,ao⟩⟩⟩,ap⟩:=WL.at hW ah;refine FK 3 ht (hW).2 ah underlying130 AM ?_;refine DI 4 ht [iV U.1,iV U.2.1,sV ai U.2.2 c4] 1 O ap B9 AM ?_;refine Bn ht rfl [5,6] rfl ?_;obtain⟨V,aj,aq⟩:=bs an;obtain⟨_,⟨_,_,rfl,rfl,⟨_,_,rfl,rfl,⟨ak,al,rfl,ar⟩⟩⟩,au⟩:=WL.at hW aj;refine FK 7 ht (hW).2 aj underlying130 AM ?_;refine DI 8 ht [iV V.1,iV V.2.1,sV ak V.2.2 al] 1 O au B9 AM ?_;refine Cy [9,10] ?_;obtain⟨aF,av,aw⟩:=bs aq;refine JV (vs:= [.agg #[iV U.1,iV U.2.1,sV ai U.2.2 c4],.agg #[iV V.1,iV V.2.1,sV ak V.2.2 al]]) (GH ao ar av) rfl rfl rfl rfl Gw rfl O ?_;rintro _ aG _ am ⟨rfl,rfl⟩ Y;refine zg 2 rfl (AX aw (fun ay az=>?_) (fun ay aA=>?_))
 ·refine zg 4 rfl (AA (v:=iV p3) rfl (fun ρ h=>Yl.load Bq (h _ _ rfl) (DF (j:=0) (off:=0) Y rfl rfl)) ?_);obtain⟨aH,aB,aC⟩:=bs az;refine Bh aB rfl rfl rfl (zg 1 rfl ?_);refine BJ 0 Y AU fun aD=>?_;refine zg 8 rfl ?_;obtain rfl:=oi aC;exact AP func200 rfl rfl (ae am rfl ⟨rfl,(by first | rfl | simp | (simp [Value.cells]))⟩ aD)
 ·refine zg 8 rfl ?_;obtain rfl:=oi aA;exact AP func200 rfl rfl (ae am rfl ⟨rfl,(by first | rfl | simp | (simp [Value.cells]))⟩ Y)
def f197(fuel:Nat)(p0:List Bl)(p1:Int)(p2:Int)(p3:Int)(p4:Int):Option (Int×Int):= (f200 fuel p0 p1 p2 p4).bind fun K=> (f200 fuel p0 K.2.1 p3 K.2.2).bind fun O=> (f200 fuel p0 K.1 O.1 O.2.2).bind fun U=> some U.2
theorem VY{K:Nat}{W:Nat}{Y:Nat}{O:Ay}{bk:Nat}{p0:List (Bl)}{p1:Int}{p2:Int}{p3:Int}{p4:Int}(hW:WL 133 Cg E K W Y O p0){fuel:Nat}{r:Int×Int}(Z:f197 fuel p0 p1 p2 p3 p4=some r):AR J 197 [.slice (AV K) Y W,iV p1,iV p2,iV p3,pV bk 0,(fV 134)] E ([(bk,.cells #[iV p4] 3 (0,0))]++ [(K,.cells O 133 (0,0))]) (fun w E' B'=>w=iV r.1∧B'= [(bk,.cells #[iV r.2] 3 (0,0))]++ [(K,.cells O 133 (0,0))]):=by
 refine Bg func197 fun Q aG cs H U ae=>?_;unfold f197 at Z;refine Ds (S':= [[(bk,.cells #[iV p4] 3 (0,0))],[(K,.cells O 133 (0,0))]]) (by simp) U fun U=>?_;obtain⟨ah,ai,aj⟩:=bs Z;refine zg 11 rfl (JR 0 1 rfl rfl U fun ak=>?_);refine BS 0 (NH hW ai) rfl rfl MG ak rfl ?_;rintro _ aH _ V ⟨rfl,rfl⟩ al;refine ET 0 rfl al fun am=>BR (S':= [[(bk,.cells #[iV ah.2.2] 3 (0,0))],[],[(K,.cells O 133 (0,0))]]) rfl am fun an=>?_;obtain⟨ao,ap,aq⟩:=bs aj;refine zg 13 rfl (JR 0 2 rfl rfl an fun ar=>?_);refine BS 0 (NH (hW.Ai V) ap) rfl rfl MG ar rfl ?_;rintro _ aI _ aa ⟨rfl,rfl⟩ au;refine ET 0 rfl au fun av=>BR (S':= [[(bk,.cells #[iV ao.2.2] 3 (0,0))],[],[],[(K,.cells O 133 (0,0))]]) rfl av fun aw=>?_;obtain⟨ab,ay,az⟩:=bs aq;refine zg 13 rfl (JR 0 3 rfl rfl aw fun aA=>?_);refine BS 0 (NH (hW.Ai (V.Ab aa)) ay) rfl rfl MG aA rfl ?_;rintro _ aJ _ aB ⟨rfl,rfl⟩ aC;refine ET 0 rfl aC fun aD=>BR (S':= [[(bk,.cells #[iV ab.2.2] 3 (0,0))],[],[],[],[(K,.cells O 133 (0,0))]]) rfl aD fun aE=>zg 11 rfl (BR (S':= [[(bk,.cells #[iV ab.2.2] 3 (0,0))],[],[],[],[(K,.cells O 133 (0,0))]]) rfl aE fun aF=>?_);obtain rfl:=oi az;exact AP func197 rfl rfl (ae ((V.Ab aa).Ab aB) rfl ⟨rfl,(by first | rfl | simp | (simp [Value.cells]))⟩ aF)
def f181(fuel:Nat)(p0:List Bl)(p1:Int)(p2:Int):Option (Int×Int):= (Au (p2 - p1)).bind fun K=> (He K (4)).bind fun V=> (Au (V*1)).bind fun W=> (Au (p1+W)).bind fun Y=> (He K (4)).bind fun Z=> (Au (Z*2)).bind fun aa=> (Au (p1+aa)).bind fun U=> (He K (4)).bind fun ab=> (Au (ab*3)).bind fun ae=> (Au (p1+ae)).bind fun ah=> Option.bind (if 8≤K then(Option.bind (if 50≤K then(none) else(some ())) fun aj=> (f197 fuel p0 Y U ah 0).bind fun ai=> some ai) else(some (U,0))) fun O=> if O.2=0 then(some (O.1,1)) else(if O.2=12 then(some (O.1,2)) else(some (O.1,0)))
theorem QX{K:Nat}{W:Nat}{Y:Nat}{O:Ay}{p0:List (Bl)}{p1:Int}{p2:Int}(hW:WL 133 Cg E K W Y O p0){fuel:Nat}{r:Int×Int}(ae:f181 fuel p0 p1 p2=some r):AR J 181 [.slice (AV K) Y W,iV p1,iV p2,(fV 134)] E [(K,.cells O 133 (0,0))] (fun w E' B'=>w= .tuple #[iV r.1,iV r.2]∧B'= [(K,.cells O 133 (0,0))]):=by
 refine Bg func181 fun Q bi cs H ak Z=>?_;unfold f181 at ae;obtain⟨bj,al,am⟩:=bs ae;refine zg 9 rfl (BX al rfl rfl rfl ?_);refine zg 4 rfl (Cz ak Cp fun U ah=>?_);obtain⟨an,ao,ap⟩:=bs am;refine zg 5 rfl (AA (v:=iV an) rfl (fun ρ h=>J3 (h _ _ rfl) (h _ _ rfl) ao) ?_);obtain⟨bl,aq,ar⟩:=bs ap;refine AA rfl (fun ρ h=>Ip (h _ _ rfl) (h _ _ rfl) aq) ?_;obtain⟨au,av,aw⟩:=bs ar;refine Bh av rfl rfl rfl ?_;obtain⟨ay,az,aA⟩:=bs aw;refine zg 6 rfl (AA (v:=iV ay) rfl (fun ρ h=>J3 (h _ _ rfl) (h _ _ rfl) az) ?_);obtain⟨bm,aB,aC⟩:=bs aA;refine AA rfl (fun ρ h=>Ip (h _ _ rfl) (h _ _ rfl) aB) ?_;obtain⟨aD,aE,aF⟩:=bs aC;refine Bh aE rfl rfl rfl ?_;obtain⟨aG,aH,aI⟩:=bs aF;refine zg 6 rfl (AA (v:=iV aG) rfl (fun ρ h=>J3 (h _ _ rfl) (h _ _ rfl) aH) ?_);obtain⟨bn,aJ,aK⟩:=bs aI;refine AA rfl (fun ρ h=>Ip (h _ _ rfl) (h _ _ rfl) aJ) ?_;obtain⟨aL,aM,aN⟩:=bs aK;refine Bh aM rfl rfl rfl ?_;obtain⟨aa,aO,aP⟩:=bs aN;refine zg 8 rfl (CB [bX K O 133,bX U #[iV aa.2] 3] [(11,pV U 0),(13,iV aa.1)] (fun bo ab V=>?_) (fun ai=>?_))
 ·refine zg 2 rfl (AA (v:=iV aa.2) rfl (fun ρ h=>Yl.load Bq (h _ _ rfl) (DF (j:=1) (off:=0) V rfl rfl)) ?_);refine zg 7 rfl (AX aP (fun aQ aR=>?_) (fun aQ aS=>?_))
  ·refine zg 6 rfl (JS.drop 1 V rfl fun aT=>?_);obtain rfl:=oi aR;exact AP func181 rfl rfl (Z ab rfl ⟨rfl,(by first | rfl | simp | (simp [Value.cells]))⟩ aT)
  ·refine zg 5 rfl (AX aS (fun aU aV=>?_) (fun aU aW=>?_))
   ·refine zg 6 rfl (JS.drop 1 V rfl fun aX=>?_);obtain rfl:=oi aV;exact AP func181 rfl rfl (Z ab rfl ⟨rfl,(by first | rfl | simp | (simp [Value.cells]))⟩ aX)
   ·refine zg 6 rfl (JS.drop 1 V rfl fun aY=>?_);obtain rfl:=oi aW;exact AP func181 rfl rfl (Z ab rfl ⟨rfl,(by first | rfl | simp | (simp [Value.cells]))⟩ aY)
 ·refine AX aO (fun aZ a0=>?_) (fun aZ a1=>?_)
  ·obtain⟨bp,a2,a3⟩:=bs a0;refine zg 6 rfl (CB [bX K O 133,bX U #[iV 0] 3] [(0,.slice (AV K) Y W),(3,(fV 134)),(8,iV 0),(9,iV 0),(11,pV U 0),(12,iV au),(13,iV aD),(14,iV aL)] (fun bq aj a4=>?_) (fun a5=>?_))
   ·obtain⟨a6,a7,a8⟩:=bs a3;refine zg 6 rfl (JR 1 0 rfl rfl a4 fun a9=>?_);refine BS 1 (VY (hW.Ai aj) a7) rfl rfl (A5 func197 rfl) a9 rfl ?_;rintro _ br _ ba ⟨rfl,rfl⟩ bb;refine ET 1 rfl bb fun bc=>BR (S':= [[],[(U,.cells #[iV a6.2] 3 (0,0))],[(K,.cells O 133 (0,0))]]) rfl bc fun bd=>zg 2 rfl (JS.swap 1 2 rfl rfl rfl bd fun be=>?_);obtain rfl:=oi a8;exact ai (aj.Ab ba) be rfl
   ·refine AX a2 (fun bf bg=>?_) (fun bf bh=>?_)
    ·refine zg 5 rfl ?_;cases bg
    ·refine JL.skip ?_;obtain rfl:=oi bh;exact a5 Ap ah rfl
  ·refine JL.skip ?_;obtain rfl:=oi a1;exact ai Ap ah rfl
end Pal
