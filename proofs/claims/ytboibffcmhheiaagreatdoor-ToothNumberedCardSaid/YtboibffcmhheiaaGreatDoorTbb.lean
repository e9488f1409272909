/- ToothNumbered: with other numbers of the mouths all answers are the same Part 2 of 8. -/
import Derived.Test.YtboibffcmhheiaaGreatDoorTba
import Derived.Conc.CrowdComm
import Derived.Conc.TokenWalk
import Derived.Conc.MarkLaws
import Derived.Conc.AtomicLaws2
import Derived.Conc.WgLib
import Derived.Conc.WgArith
import Derived.Conc.WgGenW
set_option linter.all false
set_option maxRecDepth 100000
namespace Pal
open Go Go.Conc
open Go.ConcN (sumTo upd sumTo_upd upd_ne upd_same)
abbrev St.none:St:=St.quiet
def lone(s:St):Nat→St:=fun i=>if i=0 then s else St.none
structure F5 (P:Program) (gs:Array Goroutine) (w:World) (t:Trace) (q:Nat→Nat) (Sh:Nat→Prop) (g:Goroutine) (s:St):Prop where
 main:gs[0]? =some g
 lv:Leavers P t gs q
 CE:B8 t w gs.size (lone s) Sh
 over:t.HandedOver
 hears:Deaf t 0=0
def Reaches(P:Program)(gs:Array Goroutine)(w:World)(sl:Option (Nat×Nat))(t:Trace)(s:St)(K:Gs_):Prop:=
 ∃(n:Nat) (gs':Array Goroutine) (w':World) (U:Option (Nat×Nat)) (O:Trace) (V:Nat→Nat) (W:Nat→Prop) (g':Goroutine) (s':St),
  runNT P n (crowd gs w sl) t=(.next (crowd gs' w' U),O)∧F5 P gs' w' O V W g' s'∧K g' s'∧Le' s s'∧w'.tape=w.tape∧w'.os=w.os∧w'.output=w.output
 where
  Le' (s s' : St) : Prop := ∀ b o, s.E b = some o → s'.E b = some o
theorem PO{s s':St}:upd (lone s) 0 s'=lone s':=by
 funext i;unfold upd lone;split <;> rfl
theorem Li{P:Program}{m m':Machine}{t ops:Trace}{k:Nat}{r:Stepped×Trace}(h:stepT P m=(.next m',ops))(K:runNT P k m' (t++ops)=r):runNT P (k+1) m t=r:=by
 simp only [runNT,h];exact K
theorem F5.at_{P:Program}{gs:Array Goroutine}{w:World}{t:Trace}{q:Nat→Nat}{Sh:Nat→Prop}{g:Goroutine}{s:St}(h:F5 P gs w t q Sh g s)(d:Nat):F5 P gs (w.at d) t q Sh g s:=
 ⟨h.main,h.lv,by
  have:=h.CE.mute (u:= #[]) (w':=w.at d) (g:=0) (by simp) (by simp) (by simp) rfl
  simpa using this,h.over,h.hears⟩
theorem S2{P:Program}{g:Goroutine}{s:St}{K:Gs_}(aw:Q8 P true g s K):
  ∀(M:Nat) (gs:Array Goroutine) (w:World) (sl:Option (Nat×Nat)) (t:Trace) (q:Nat→Nat) (Sh:Nat→Prop),sumTo gs.size q≤M→F5 P gs w t q Sh g s→Reaches P gs w sl t s K:=by
 intro M
 induction M with
 | zero=>?_
 | succ M aC=>?_
 all_goals
  intro gs w sl t q Sh aS hC;have aj:=aw.1;have aD:∀x∈gs,awake x:=by
   intro x aa;obtain⟨i,hi,rfl⟩:=Array.mem_iff_getElem.1 aa;rcases Nat.eq_zero_or_pos i with rfl | ak
   ·have:gs[0]=g:=by simpa [Array.getElem?_eq_getElem hi] using hC.main
    rw [this];exact awake_of (.inl aj)
   ·exact awake_of ((hC.lv.old i _ ak (Array.getElem?_eq_getElem hi)).status.elim .inl fun x=> .inr (.inr x))
  obtain⟨i,x,d,ab,hi,aa,ay⟩:=crowd_pick (P:=P) (w:=w) (sl:=sl) aD ⟨0,g,hC.main,aj⟩;have al:=hC.at_ d;have am:0<gs.size:=(Array.getElem?_eq_some_iff.1 hC.main).1;rcases Nat.eq_zero_or_pos i with rfl | ak
  ·obtain rfl:x=g:=by rw [hC.main] at hi;exact(Option.some.inj hi).symm
   have aE:Fits s (w.at d):=al.CE.fits 0 am;obtain⟨g',s',w',es,an,ao,ap,W,ae⟩:=aw.2.1 (w.at d) aE;have aq:=runT_crowd_go (P:=P) (sl:=ab) (i:=0) hi (show stepG P (0==0) x (w.at d)=_ from an);have ah:((gs.map (woken P x g' w')).setIfInBounds 0 g').size=gs.size:=by simp
   have V:∀op∈MemOp.ofEvents 0 x.frame.fn x.frame.place es,op.g=0:=fun op O=>by obtain⟨e,_,rfl⟩:=mem_ofEvents O;rfl
   have aF:deafBehind (Deaf t 0) es=Deaf t 0:=deafBehind_still (fun e he=>by
    have:=ae e he
    unfold Ev at this
    constructor <;> intro aG <;> rw [aG] at this <;> exact this) _
   refine⟨1,_,w',ab,t++MemOp.ofEvents 0 x.frame.fn x.frame.place es,q,Sh,g',s',Li (ay.trans aq) rfl,⟨by simp [am],⟨fun j y U Y=>?_,fun j U=>?_⟩,?_,?_,?_⟩,ao,W.ext,W.tape,W.os,W.output⟩
   ·have ar:0≠j:=by omega
    rw [Array.getElem?_setIfInBounds_ne ar,Array.getElem?_map] at Y;obtain⟨z,au,rfl⟩:=Option.map_eq_some_iff.1 Y;have Z:=hC.lv.old j z U au;rw [woken_quitsD Z,Deaf_other t (by omega) _ V];exact Z
   ·rw [Deaf_other t (g':=0) (by simp at U;omega) _ V];exact hC.lv.above j (by simpa using U)
   ·rw [ah,← PO (s:=s)];exact al.CE.own am ap (by simpa [lone] using W) (by simpa [lone] using ae)
   ·exact handedOver_app hC.over fun op O=> .inl (V op O)
   ·rw [Deaf_own,aF];exact hC.hears
  ·
   have Z:=hC.lv.old i x ak hi;have aH:(i==0)=false:=by simp;omega
   have az:i<gs.size:=(Array.getElem?_eq_some_iff.1 hi).1;cases av:q i with
   | zero=>rw [av] at Z;rw [Z.1] at aa;cases aa
   | succ k=>
    rw [av] at Z;rcases Z with⟨aI,_⟩ | ⟨_,x',es,hm,aJ,aK⟩
    ·rw [aI] at aa;cases aa
    have aT:sumTo gs.size (upd q i k)+(k+1)=sumTo gs.size q+k:=by
     have:=sumTo_upd q k id az;simpa [av] using this
    first
     | (exfalso;omega)
     | (
      have aq:=runT_crowd_go (P:=P) (sl:=ab) (i:=i) hi (by rw [aH];exact aJ (w.at d))
      have ah:((gs.map (woken P x x' (w.at d))).setIfInBounds i x').size=gs.size:=by simp
      have V:∀op∈MemOp.ofEvents i x.frame.fn x.frame.place es,op.g=i:=fun op O=>by obtain⟨e,_,rfl⟩:=mem_ofEvents O;rfl
      have aA:∀op∈MemOp.ofEvents i x.frame.fn x.frame.place es,op.act.touch? =none:=fun op O=>by obtain⟨e,he,rfl⟩:=mem_ofEvents O;exact touch_mute (hm e he)
      have aL:F5 P ((gs.map (woken P x x' (w.at d))).setIfInBounds i x') (w.at d) (t++MemOp.ofEvents i x.frame.fn x.frame.place es) (upd q i k) Sh g s:=by
       refine⟨?_,⟨fun j y U Y=>?_,fun j U=>?_⟩,?_,?_,?_⟩
       ·have ar:i≠0:=by omega
        rw [Array.getElem?_setIfInBounds_ne ar,Array.getElem?_map,hC.main]
        simp [woken_run aj]
       ·by_cases ai:i=j
        ·subst ai
         rw [Array.getElem?_setIfInBounds_self_of_lt (by simpa using az)] at Y
         obtain rfl:=Option.some.inj Y
         rw [upd_same,Deaf_own]
         exact aK
        ·rw [Array.getElem?_setIfInBounds_ne ai,Array.getElem?_map] at Y
         obtain⟨z,au,rfl⟩:=Option.map_eq_some_iff.1 Y
         have aB:=hC.lv.old j z U au
         rw [woken_quitsD aB,upd_ne q k (Ne.symm ai),Deaf_other t ai _ V]
         exact aB
       ·rw [Deaf_other t (g':=i) (by simp at U;omega) _ V]
        exact hC.lv.above j (by simpa using U)
       ·rw [ah]
        exact al.CE.mute V aA (fun op O=>by obtain⟨e,he,rfl⟩:=mem_ofEvents O;exact low_mute (hm e he) _) rfl
       ·exact handedOver_app hC.over fun op O=> .inr (aA op O)
       ·rw [Deaf_other t (by omega) _ V];exact hC.hears
      obtain⟨n,gs',w',aM,aN,aO,aP,g',s',an,ao,ap,W,ae,aQ,aR⟩:=aC _ (w.at d) ab _ _ Sh (by rw [ah];omega) aL
      exact⟨n+1,gs',w',aM,aN,aO,aP,g',s',Li (ay.trans aq) an,ao,ap,W,ae,aQ,aR⟩)
def Dt(P:Program):Judge P where
 main:=true
 ok Q g s:=∀gs w sl t q Sh,F5 P gs w t q Sh g s→Reaches P gs w sl t s Q
 stop {Q g s} h:=fun gs w sl t q Sh hC=>⟨0,gs,w,sl,t,q,Sh,g,s,rfl,hC,h,fun _ _ h=>h,rfl,rfl,rfl⟩
 step {Q g s} h:=fun gs w sl t q Sh hC=>by
  obtain⟨n,gs',w',K,O,U,V,g',s',W,Y,Z,aa,ab,ae,ah⟩:=S2 h _ gs w sl t q Sh (Nat.le_refl _) hC
  obtain⟨ai,aj,ak,al,am,an,ao,ap,aq,k1,ar,au,av,aw,ay,az⟩:=Z gs' w' K O U V Y
  refine⟨n+ai,aj,ak,al,am,an,ao,ap,aq,?_,ar,au,fun b o h=>av b o (aa b o h),aw.trans ab,ay.trans ae,az.trans ah⟩
  rw [runNT_add,W];exact k1
 trans {Q R g s} h k:=fun gs w sl t q Sh hC=>by
  obtain⟨n,gs',w',K,O,U,V,g',s',W,Y,Z,aa,ab,ae,ah⟩:=h gs w sl t q Sh hC
  obtain⟨ai,aj,ak,al,am,an,ao,ap,aq,k1,ar,au,av,aw,ay,az⟩:=k g' s' Z gs' w' K O U V Y
  refine⟨n+ai,aj,ak,al,am,an,ao,ap,aq,?_,ar,au,fun b o h=>av b o (aa b o h),aw.trans ab,ay.trans ae,az.trans ah⟩
  rw [runNT_add,W];exact k1
 ghost {Q g s s₀} aA h:=fun gs w sl t q Sh hC=>by
  have aB:0<gs.size:=(Array.getElem?_eq_some_iff.1 hC.main).1
  have aC:F5 P gs w t q Sh g s₀:=⟨hC.main,hC.lv,by
   rw [← PO (s:=s)];exact hC.CE.ghost aB (by simpa [lone] using aA),hC.over,hC.hears⟩
  obtain⟨n,gs',w',K,O,U,V,g',s',W,Y,Z,aa,ab,ae,ah⟩:=h gs w sl t q Sh aC
  exact⟨n,gs',w',K,O,U,V,g',s',W,Y,Z,fun b o h=>aa b o (aA.ext b o h),ab,ae,ah⟩
end Pal
namespace Pal
open Go Go.Conc
open Go.ConcN (upd upd_same upd_ne)
section
variable {t u:Trace}{w w':World}{N:Nat}{S:Nat→St}{Sh:Nat→Prop}
theorem B8.ext(h:B8 t w N S Sh)(Y:∀said,¬Race said (t++u))(hu:∀op∈u,∀a,op.act.touch? =some a→∀b,Dv a.loc=some b→Sh b)
  (Z:∀op∈u,op.act.low w.heap.size) (hs:w'.heap.size=w.heap.size) (hw:∀b,¬Sh b→w'.heap[b]? =w.heap[b]?):B8 (t++u) w' N S Sh:=by
 have hold:∀x a b,touchAt (t++u) x=some a→Dv a.loc=some b→¬Sh b→touchAt t x=some a:=by
  intro x a b U hb O;obtain⟨op,K,W⟩:=touch_of U;rcases getElem?_append_cases K with⟨ai,aa⟩ | ⟨_,ab⟩
  ·rw [touchAt_of aa];exact W
  ·exact absurd (hu op ab a W b hb) O
 have O:∀i,i<N→∀b,((S i).H b≠none∨(S i).E b≠none)→¬Sh b:=by
  intro i hi b hb ae;have:=h.sh i hi b ae;exact hb.elim (fun x=>x this.1) (fun x=>x this.2)
 refine⟨fun i hi=>⟨fun b o K=>?_,fun b o K=>?_,(h.fits i hi).d⟩,h.hh,h.sh,fun b hb=>by rw [hs];exact h.EZ b hb,Y,fun op K=>?_,fun i hi b hb x a U V=>?_,fun i hi b hb x a U V ah=>?_⟩
 ·rw [hw b (O i hi b (.inr (by rw [K];simp)))];exact(h.fits i hi).e b o K
 ·rw [hw b (O i hi b (.inl (by rw [K];simp)))];exact(h.fits i hi).h b o K
 ·rcases Array.mem_append.1 K with K | K
  ·rw [hs];exact h.low op K
  ·rw [hs];exact Z op K
 ·exact(h.kH i hi b hb x a (hold x a b U V (O i hi b (.inl hb))) V).app _
 ·exact(h.kE i hi b hb x a (hold x a b U V (O i hi b (.inr hb))) V ah).app _
theorem B8.congr{S':Nat→St}(h:B8 t w N S Sh)(K:∀i,i<N→(S' i).E=(S i).E∧(S' i).H=(S i).H):B8 t w N S' Sh:=by
 refine⟨fun i hi=>⟨by rw [(K i hi).1];exact(h.fits i hi).e,by rw [(K i hi).2];exact(h.fits i hi).h,by rw [(K i hi).1,(K i hi).2];exact(h.fits i hi).d⟩,fun i j hi O U b=>?_,fun i hi b=>?_,h.EZ,h.clean,h.low,fun i hi b=>?_,fun i hi b=>?_⟩
 ·rw [(K i hi).2,(K j O).1,(K j O).2];exact h.hh i j hi O U b
 ·rw [(K i hi).1,(K i hi).2];exact h.sh i hi b
 ·rw [(K i hi).2];exact h.kH i hi b
 ·rw [(K i hi).1];exact h.kE i hi b
theorem B8.less(h:B8 t w N S Sh){i:Nat}{s':St}(ab:∀b o,s'.E b=some o→(S i).E b=some o)(ae:∀b o,s'.H b=some o→(S i).H b=some o):B8 t w N (upd S i s') Sh:=by
 have W:∀j b o,(upd S i s' j).E b=some o→(S j).E b=some o:=by
  intro j b o K;by_cases e:j=i
  ·subst e;rw [upd_same] at K;exact ab b o K
  ·rwa [upd_ne _ _ e] at K
 have e2:∀j b o,(upd S i s' j).H b=some o→(S j).H b=some o:=by
  intro j b o K;by_cases e:j=i
  ·subst e;rw [upd_same] at K;exact ae b o K
  ·rwa [upd_ne _ _ e] at K
 have n1:∀j b,(S j).E b=none→(upd S i s' j).E b=none:=by
  intro j b hb;cases V:(upd S i s' j).E b with
  | none=>rfl
  | some o=>rw [W j b o V] at hb;cases hb
 have U:∀j b,(S j).H b=none→(upd S i s' j).H b=none:=by
  intro j b hb;cases V:(upd S i s' j).H b with
  | none=>rfl
  | some o=>rw [e2 j b o V] at hb;cases hb
 have p1:∀j b,(upd S i s' j).E b≠none→(S j).E b≠none:=fun j b hb x=>hb (n1 j b x);have p2:∀j b,(upd S i s' j).H b≠none→(S j).H b≠none:=fun j b hb x=>hb (U j b x);exact⟨fun j O=>⟨fun b o K=>(h.fits j O).e b o (W j b o K),fun b o K=>(h.fits j O).h b o (e2 j b o K),fun b hb=>U j b ((h.fits j O).d b (p1 j b hb))⟩,
  fun a c Y Z aa b hb=>⟨U c b (h.hh a c Y Z aa b (p2 a b hb)).1,n1 c b (h.hh a c Y Z aa b (p2 a b hb)).2⟩,
  fun j O b hb=>⟨U j b (h.sh j O b hb).1,n1 j b (h.sh j O b hb).2⟩,h.EZ,h.clean,h.low,
  fun j O b hb=>h.kH j O b (p2 j b hb),fun j O b hb=>h.kE j O b (p1 j b hb)⟩
theorem B8.grow(h:B8 t w N S Sh){i:Nat}(hi:i<N){E':LH}{q:Bool}
  (Z:∀b o,E' b=some o→(S i).E b=some o∨∃j,j<N∧(S j).E b=some o∧∀x a,touchAt t x=some a→Dv a.loc=some b→a.write=true→Knows t i x):
  B8 t w N (upd S i ⟨E',(S i).H,q⟩) Sh:=by
 have ah:∀{b},E' b≠none→∃j,j<N∧∃o,(S j).E b=some o:=by
  intro b hb;obtain⟨o,V⟩:=G0 hb;rcases Z b o V with x | ⟨j,K,x,_⟩
  ·exact⟨i,hi,o,x⟩
  ·exact⟨j,K,o,x⟩
 have ai:∀a,a<N→∀b,(S a).H b≠none→E' b=none:=by
  intro a U b hb;cases O:E' b with
  | none=>rfl
  | some o=>
   obtain⟨j,K,o',W⟩:=ah (b:=b) (by rw [O];simp);by_cases e:a=j
   ·subst e;have:=(h.fits a U).d b (by rw [W];simp);exact absurd this hb
   ·have:=(h.hh a j U K e b hb).2;rw [W] at this;cases this
 constructor
 ·intro j K;by_cases e:j=i
  ·subst e;rw [upd_same];refine⟨fun b o V=>?_,(h.fits j K).h,fun b hb=>?_⟩
   ·rcases Z b o V with x | ⟨k,Y,x,_⟩
    ·exact(h.fits j K).e b o x
    ·exact(h.fits k Y).e b o x
   ·cases O:(S j).H b with
    | none=>rfl
    | some o=>exact absurd (ai j K b (by rw [O];simp)) hb
  ·rw [upd_ne _ _ e];exact h.fits j K
 ·intro a c U aj ak b hb;have aa:(S a).H b≠none:=by
   by_cases e:a=i
   ·subst e;rwa [upd_same] at hb
   ·rwa [upd_ne _ _ e] at hb
  by_cases e:c=i
  ·subst e;rw [upd_same];exact⟨(h.hh a c U aj ak b aa).1,ai a U b aa⟩
  ·rw [upd_ne _ _ e];exact h.hh a c U aj ak b aa
 ·intro j K b hb;by_cases e:j=i
  ·subst e;rw [upd_same];refine⟨(h.sh j K b hb).1,?_⟩;cases O:E' b with
   | none=>exact O
   | some o=>
    obtain⟨k,Y,o',W⟩:=ah (b:=b) (by rw [O];simp);rw [(h.sh k Y b hb).2] at W;cases W
  ·rw [upd_ne _ _ e];exact h.sh j K b hb
 ·exact h.EZ
 ·exact h.clean
 ·exact h.low
 ·intro j K b hb;by_cases e:j=i
  ·subst e;rw [upd_same] at hb;exact h.kH j K b hb
  ·rw [upd_ne _ _ e] at hb;exact h.kH j K b hb
 ·intro j K b hb x a O ab ae;by_cases e:j=i
  ·subst e;rw [upd_same] at hb;obtain⟨o,V⟩:=G0 hb;rcases Z b o V with y | ⟨k,Y,y,al⟩
   ·exact h.kE j K b (by rw [y];simp) x a O ab ae
   ·exact al x a O ab ae
  ·rw [upd_ne _ _ e] at hb;exact h.kE j K b hb x a O ab ae
theorem B8.push(h:B8 t w N S Sh){i:Nat}(hi:i<N){E:LH}(Y:∀b o,E b=some o→(S i).E b=some o)
  (ab:∀b,E b≠none→∀x a,touchAt t x=some a→Dv a.loc=some b→a.write=true→Knows t N x):B8 t w (N+1) (upd S N ⟨E,fun _=>none,false⟩) Sh:=by
 have O:∀j,j<N→upd S N ⟨E,fun _=>none,false⟩ j=S j:=fun j K=>upd_ne _ _ (by omega);have ah:∀b,E b≠none→(S i).E b≠none:=fun b hb=>by obtain⟨o,V⟩:=G0 hb;rw [Y b o V];simp
 have aa:∀b,(S i).E b=none→E b=none:=fun b hb=>by
  cases Z:E b with
  | none=>rfl
  | some o=>rw [Y b o Z] at hb;cases hb
 have cs:∀j,j<N+1→j<N∨j=N:=fun j K=>by omega
 constructor
 ·intro j K;rcases cs j K with K | rfl
  ·rw [O j K];exact h.fits j K
  ·rw [upd_same];exact⟨fun b o V=>(h.fits i hi).e b o (Y b o V),fun b o V=>(by cases V),fun b _=>rfl⟩
 ·intro a c U W ae b hb;rcases cs a U with U | rfl
  ·rw [O a U] at hb;rcases cs c W with W | rfl
   ·rw [O c W];exact h.hh a c U W ae b hb
   ·rw [upd_same];refine⟨rfl,aa b ?_⟩;by_cases e:a=i
    ·subst e;cases Z:(S a).E b with
     | none=>rfl
     | some o=>exact absurd ((h.fits a U).d b (by rw [Z];simp)) hb
    ·exact(h.hh a i U hi e b hb).2
  ·rw [upd_same] at hb;exact absurd rfl hb
 ·intro j K b hb;rcases cs j K with K | rfl
  ·rw [O j K];exact h.sh j K b hb
  ·rw [upd_same];exact⟨rfl,aa b (h.sh i hi b hb).2⟩
 ·exact h.EZ
 ·exact h.clean
 ·exact h.low
 ·intro j K b hb;rcases cs j K with K | rfl
  ·rw [O j K] at hb;exact h.kH j K b hb
  ·rw [upd_same] at hb;exact absurd rfl hb
 ·intro j K b hb;rcases cs j K with K | rfl
  ·rw [O j K] at hb;exact h.kE j K b hb
  ·rw [upd_same] at hb;exact ab b hb
theorem B8.share(h:B8 t w N S Sh){i:Nat}(hi:i<N){b₀:Nat}{o₀:Obj}(U:(S i).H b₀=some o₀):
  B8 t w N (upd S i {S i with H:=fun b=>if b=b₀ then none else(S i).H b}) (fun b=>Sh b∨b=b₀):=by
 have K:B8 t w N (upd S i {S i with H:=fun b=>if b=b₀ then none else(S i).H b}) Sh:=
  h.less (fun b o O=>O) (fun b o O=>by simp only at O;split at O <;> first | (cases O;done) | exact O)
 have Y:b₀<w.heap.size:=by
  have:=(h.fits i hi).h b₀ o₀ U;rcases Nat.lt_or_ge b₀ w.heap.size with V | V
  ·exact V
  ·simp [Array.getElem?_eq_none V] at this
 refine⟨K.fits,K.hh,fun j W b hb=>?_,fun b hb=>hb.elim (K.EZ b) (fun e=>e▸Y),K.clean,K.low,K.kH,K.kE⟩;rcases hb with hb | rfl
 ·exact K.sh j W b hb
 ·by_cases e:j=i
  ·subst e;rw [upd_same];refine⟨by simp,?_⟩;cases Z:(S j).E b with
   | none=>rfl
   | some o=>have:=(h.fits j W).d b (by rw [Z];simp);rw [U] at this;cases this
  ·rw [upd_ne _ _ e];exact h.hh i j hi W (Ne.symm e) b (by rw [U];simp)
end
end Pal
namespace Pal
open Go Go.Conc
open Go.ConcN (upd upd_same upd_ne sumTo sumTo_upd)
abbrev GP:=Gs_
inductive Ph where
 | Cn (k:Nat) | F3 | Hy | GM | F1 | Gf | El
 | CP | Fq (m:Nat) | GN (v:Nat) | GO | Dc | Gg | Fc | Gl | Dw
 | EX (j:Nat) | Hg (j:Nat) | Gk (j:Nat) | FQ (j:Nat) | EN (j:Nat) | Ft | B7 (K:List Nat) (vs:Lv_)
 | CO | Hi | Hf | GQ (j:Nat)
inductive Nx where
 | ph (p:Ph) | gone (d:Nat)
structure Fam where
 wg:Nat
 ch:Nat
 ty:TypeId
 n:Nat
 has:Nat→Bool
 msg:Nat→Value→LH→Prop
 fin:GP
namespace Fam
variable (F:Fam)
def KK:Int:=4294967296
def Gq(st sm:Int):Obj:= .cells #[.int .u64 st,.int .u32 sm] F.ty (0,0)
def word(v wt:Nat):Int:=(v:Int)*KK+wt
def WG(w:World)(v wt sm:Nat):Prop:=w.heap[F.wg]? =some (F.Gq (word v wt) sm)
def put(w:World)(v wt sm:Nat):World:={w with heap:=w.heap.setIfInBounds F.wg (F.Gq (word v wt) sm)}
def sA:Addr:=⟨F.wg,0,none⟩
def mA:Addr:=⟨F.wg,1,none⟩
def EM(a:Addr):Event:=⟨.cell a,false,true⟩
def H8(a:Addr):Event:=⟨.cell a,true,true⟩
def Ef(m:Mark):Event:=⟨.mark m,false,true⟩
def ChanAt(w:World)(closed:Bool)(k:Nat):Prop:=w.heap[F.ch]? =some (.chan 0 #[] closed k k false)
def act:Ph→Nat→Nat→Nat→Option ((Nat×Nat×Nat)×Array Event×Nx)
 | .F3,v,wt,sm=>some ((v,wt,sm),#[Ef (.releaseMerge F.sA)],.ph .Hy)
 | .Hy,v,wt,sm=>some ((v,wt,sm),#[Ef .disable],.ph .GM)
 | .GM,v,wt,sm=>if 1≤v∧v<2147483648∧wt≤1 then some ((v - 1,wt,sm),#[EM F.sA,H8 F.sA],if v=1∧wt=1 then .ph .F1 else .gone 1) else none
 | .F1,v,wt,sm=>if v=0∧wt=1 then some ((0,1,sm),#[EM F.sA],.ph .Gf) else none
 | .Gf,v,wt,sm=>if v=0∧wt=1 then some ((0,0,sm),#[H8 F.sA],.ph .El) else none
 | .El,v,wt,sm=>if sm=0 then some ((v,wt,1),semEvents F.mA,.gone 1) else none
 | .CP,v,wt,sm=>some ((v,wt,sm),#[Ef .disable],.ph (.Fq F.n))
 | .Fq m,v,wt,sm=>if v≤m∧wt=0 then some ((v,0,sm),#[EM F.sA],if v=0 then .ph .Fc else .ph (.GN v)) else none
 | .GN m,v,wt,sm=>if v≤m∧1≤m∧wt=0 then some (if v=m then((v,1,sm),#[EM F.sA,H8 F.sA],.ph .Hi) else((v,0,sm),#[EM F.sA],.ph (.Fq (m - 1)))) else none
 | .GO,v,wt,sm=>some ((v,wt,sm),#[Ef (.write F.mA)],.ph .Dc)
 | .Dc,v,wt,sm=>if sm=1 then some ((v,wt,0),semEvents F.mA,.ph .Gg) else none
 | .Gg,v,wt,sm=>if v=0∧wt=0 then some ((0,0,sm),#[EM F.sA],.ph .Fc) else none
 | .Fc,v,wt,sm=>some ((v,wt,sm),#[Ef .enable],.ph .Hf)
 | .CO,v,wt,sm=>some ((v,wt,sm),#[],.ph .F3)
 | .Hi,v,wt,sm=>some ((v,wt,sm),#[],.ph .GO)
 | .Hf,v,wt,sm=>some ((v,wt,sm),#[],.ph .Gl)
 | .GQ j,v,wt,sm=>some ((v,wt,sm),#[],.ph (.Gk j))
 | .Gl,v,wt,sm=>some ((v,wt,sm),#[Ef (.acquire F.sA)],.ph .Dw)
 | .EX j,v,wt,sm=>some ((v,wt,sm),#[Ef .disable],.ph (.Hg j))
 | .Hg j,v,wt,sm=>if v<2147483647∧wt=0 then some ((v+1,0,sm),#[EM F.sA,H8 F.sA],if v=0 then .ph (.GQ j) else .ph (.FQ j)) else none
 | .Gk j,v,wt,sm=>some ((v,wt,sm),#[Ef (.read F.mA)],.ph (.FQ j))
 | .FQ j,v,wt,sm=>some ((v,wt,sm),#[Ef .enable],.ph (.EN j))
 | _,_,_,_=>none
def Dj:Ph→Bool
 | .EX _ | .Hg _ | .Gk _ | .FQ _ | .EN _ | .Ft | .B7 _ _ | .GQ _=>true
 | _=>false
def DR:Ph→Bool
 | .Hy | .GM | .F1 | .Gf | .El=>true
 | _=>false
def Gp:Ph→St→St
 | .F3,_=> .quiet
 | _,s=>s
def start(k:Nat):Ph:=if F.has k then .Cn k else .CO
def Dy(j:Nat):Ph:=if j+1=F.n then .Ft else .EX (j+1)
end Fam
def Way(P:Program)(main:Bool)(X:GP):GP:=(Bo P main).ok X
theorem Jr.Ai{P:Program}{main:Bool}{Q K:GP}(h:∀g s,Q g s→K g s):∀{r:Rk} {g:Goroutine} {s:St},Jr P main Q r g s→Jr P main K r g s
 | .leaf,_,_,x=>h _ _ x
 | .node _,_,_,.inl x=> .inl (h _ _ x)
 | .node _,_,_,.inr ⟨O,x⟩=> .inr ⟨O,fun w f=>let ⟨g',s',w',es,U,V,W⟩:=x w f;⟨g',s',w',es,U,Jr.Ai h V,W⟩⟩
theorem Way.Ai{P:Program}{main:Bool}{Q K:GP}(h:∀g s,Q g s→K g s){g:Goroutine}{s:St}(x:Way P main Q g s):Way P main K g s:=
 let ⟨r,O⟩:=x;⟨r,Jr.Ai (fun g s ⟨s₀,a,b⟩=>⟨s₀,a,h g s₀ b⟩) O⟩
section
variable (P:Program)(F:Fam)
def KB(X:Ph→GP)(main:Bool):Nx→GP
 | .ph p,g,s=>Way P main (X p) g s
 | .gone d,g,_=>∃q,QuitsD P q d g
structure Fw (X:Ph→GP) (p:Ph) (g:Goroutine) (s:St):Prop where
 run:g.status= .running
 offers:g.offers=none
 quiet:Fam.DR p=true→s= .quiet
 live:Fam.DR p=false→s.q=false
 act:∀v wt sm v' wt' sm' es nx,F.act p v wt sm=some ((v',wt',sm'),es,nx)→
  ∃g',(∀w,F.WG w v wt sm→stepG P (Fam.Dj p) g w= .go g' (F.put w v' wt' sm') es)∧g'.status= .running∧KB P X (Fam.Dj p) nx g' (Fam.Gp p s)
 GK:p= .El∨p= .Dw→mayWake P g=true
 Em:p= .Dc→∀w v wt,F.WG w v wt 0→stepG P false g w= .go {g with status:= .blocked} w #[]
 close:p= .Dw→∃g',g'.status= .running∧(∀w k,F.ChanAt w false k→stepG P false g w= .go g' (w.setChan F.ch 0 #[] true k k false) (closeEvents F.ch))∧∃q,QuitsD P q 0 g'
 send:∀k,p= .Cn k→∃v z,F.msg k v s.E∧(∀w,stepG P false g w= .comm g #[scase F.ch v z] true .send w #[])∧Way P false (X .CO) (served g undef) s
 go:∀j,p= .EN j→∃g' child,g'.status= .running∧child.status= .running∧(∀w,stepG P true g w= .spawn g' child w #[])∧Way P false (X (F.start j)) child ⟨s.E,fun _=>none,false⟩∧Way P true (X (F.Dy j)) g' s
 Gs:p= .Ft→∃g' child,g'.status= .running∧child.status= .running∧(∀w,stepG P true g w= .spawn g' child w #[])∧Way P false (X .CP) child ⟨s.E,fun _=>none,false⟩∧Way P true (X (.B7 [] [])) g' s
 recv:∀K vs,p= .B7 K vs→∃z,(∀w,stepG P true g w= .comm g #[rcase F.ch z] true (.recv true) w #[])∧
  (∀k v E',k<F.n→F.has k=true→k ∉ K→Le s.E E'→(∀b,E' b≠none→s.H b=none)→F.msg k v E'→Way P true (X (.B7 (K++ [k]) (vs++ [v]))) (served g (.tuple #[v,.bool true])) ⟨E',s.H,false⟩)∧
  ((∀k,k<F.n→F.has k=true→k∈K)→F.fin (served g (.tuple #[z,.bool false])) s)
theorem KB.Ai{X K:Ph→GP}(h:∀p g s,X p g s→K p g s){main:Bool}{nx:Nx}{g:Goroutine}{s:St}(x:KB P X main nx g s):KB P K main nx g s:=by
 cases nx with
 | ph p=>exact Way.Ai (h p) x
 | gone d=>exact x
theorem Fw.Ai{X Y:Ph→GP}(h:∀p g s,X p g s→Y p g s){p:Ph}{g:Goroutine}{s:St}(x:Fw P F X p g s):Fw P F Y p g s where
 run:=x.run
 offers:=x.offers
 quiet:=x.quiet
 live:=x.live
 act v wt sm v' wt' sm' es nx e:=let ⟨g',K,O,U⟩:=x.act v wt sm v' wt' sm' es nx e;⟨g',K,O,U.Ai P h⟩
 GK:=x.GK
 Em:=x.Em
 close:=x.close
 send k e:=let ⟨v,z,K,O,U⟩:=x.send k e;⟨v,z,K,O,U.Ai (h _)⟩
 go j e:=let ⟨g',c,K,O,U,V,W⟩:=x.go j e;⟨g',c,K,O,U,V.Ai (h _),W.Ai (h _)⟩
 Gs e:=let ⟨g',c,K,O,U,V,W⟩:=x.Gs e;⟨g',c,K,O,U,V.Ai (h _),W.Ai (h _)⟩
 recv Z vs e:=let ⟨z,K,O,U⟩:=x.recv Z vs e;⟨z,K,fun k v E' a b c d e f=>(O k v E' a b c d e f).Ai (h _),U⟩
def Stop(p:Ph)(g:Goroutine)(s:St):Prop:=∃X:Ph→GP,(∀p g s,X p g s→Fw P F X p g s)∧X p g s
variable {P F}
theorem Stop.law{p:Ph}{g:Goroutine}{s:St}(h:Stop P F p g s):Fw P F (Stop P F) p g s:=by
 obtain⟨X,hX,K⟩:=h;exact(hX p g s K).Ai P F fun p g s K=>⟨X,hX,K⟩
theorem Fw.stop{p:Ph}{g:Goroutine}{s:St}(h:Fw P F (Stop P F) p g s):Stop P F p g s:=
 ⟨fun p g s=>Fw P F (Stop P F) p g s,fun _ _ _ x=>x.Ai P F fun _ _ _ y=>y.law,h⟩
end
end Pal
namespace Pal
open Go Go.Conc
open Go.ConcN (upd upd_same upd_ne sumTo sumTo_upd sumTo_upd_out sumTo_congr le_sumTo sumTo_le)
def cU:Nx→Nat
 | .ph (.Cn _) | .ph .CO | .ph .F3 | .ph .Hy | .ph .GM=>1
 | _=>0
def cL:Nx→Nat
 | .ph .F1 | .ph .Gf=>1
 | _=>0
def cS:Nx→Nat
 | .ph .El=>1
 | _=>0
def pend:Nx→Nat
 | .ph (.GQ _) | .ph (.Gk _) | .ph (.FQ _) | .ph (.EN _)=>1
 | _=>0
def got:Nx→List Nat
 | .ph (.B7 K _)=>K
 | _=> []
def EJ:Nx→Prop
 | .gone _=>True
 | _=>False
def G5(n j:Nat)(c:Bool):Ph→Prop
 | .EX K | .Hg K | .GQ K | .Gk K | .FQ K | .EN K=>K=j∧j<n∧c=false
 | .Ft=>j=n∧c=false
 | .B7 _ _=>j=n∧c=true
 | _=>False
def Hs(F:Fam)(k:Nat):Nx→Prop
 | .gone _=>True
 | .ph (.Cn k')=>k'=k∧F.has k=true
 | .ph .CO | .ph .F3 | .ph .Hy | .ph .GM | .ph .F1 | .ph .Gf | .ph .El=>True
 | _=>False
def G9:Nx→Prop
 | .gone _=>True
 | .ph .CP | .ph (.Fq _) | .ph (.GN _) | .ph .Hi | .ph .GO | .ph .Dc | .ph .Gg | .ph .Fc | .ph .Hf | .ph .Gl | .ph .Dw=>True
 | _=>False
def CN(x:Nx)(v wt sm L S:Nat)(cl:Bool):Prop:=
 match x with
 | .ph .CP=>L=0∧S=0∧sm=0∧wt=0∧cl=false
 | .ph (.Fq m)=>L=0∧S=0∧sm=0∧wt=0∧cl=false∧v≤m
 | .ph (.GN m)=>L=0∧S=0∧sm=0∧wt=0∧cl=false∧v≤m∧1≤m
 | .ph .Hi | .ph .GO | .ph .Dc=>L+S+sm+min v 1=1∧wt=L+min v 1∧cl=false
 | .ph .Gg | .ph .Fc | .ph .Hf | .ph .Gl | .ph .Dw=>L=0∧S=0∧sm=0∧wt=0∧v=0∧cl=false
 | .gone _=>L=0∧S=0∧sm=0∧wt=0∧v=0∧cl=true
 | _=>False
structure B6 (F:Fam) (N0 N j:Nat) (c:Bool) (φ:Nat→Nx) (v wt sm:Nat) (cl:Bool):Prop where
 pos:0<N0
 n1:1≤F.n
 H9:F.n<2147483647
 size:N=N0+j+c.toNat
 jn:j≤F.n
 cj:c=true→j=F.n
 main:∃p,φ 0= .ph p∧G5 F.n j c p
 old:∀i,0<i→i<N0→EJ (φ i)
 work:∀k,k<j→Hs F k (φ (N0+k))
 cls:c=true→G9 (φ (N0+F.n))
 cnt:v=sumTo N (fun i=>cU (φ i))+pend (φ 0)
 HA:v≤j+pend (φ 0)
 mode:CN (if c=true then φ (N0+F.n) else .ph .CP) v wt sm (sumTo N fun i=>cL (φ i)) (sumTo N fun i=>cS (φ i)) cl
 GR:∀k,k<j→F.has k=true→(φ (N0+k)= .ph (.Cn k)↔k ∉ got (φ 0))
 nd:(got (φ 0)).Nodup
 sub:∀k∈got (φ 0),k<j∧F.has k=true
section
variable {F:Fam}{N0 N j:Nat}{c:Bool}{φ:Nat→Nx}{v wt sm v' wt' sm':Nat}{cl cl':Bool}
theorem B6.Fe(h:B6 F N0 N j c φ v wt sm cl){i:Nat}(hi:i<N):i=0∨(0<i∧i<N0)∨(∃k,k<j∧i=N0+k)∨(c=true∧i=N0+F.n):=by
 have:=h.size;rcases Nat.eq_zero_or_pos i with K | K
 ·exact .inl K
 rcases Nat.lt_or_ge i N0 with U | U
 ·exact .inr (.inl ⟨K,U⟩)
 rcases Nat.lt_or_ge i (N0+j) with V | V
 ·exact .inr (.inr (.inl ⟨i - N0,by omega,by omega⟩))
 ·cases O:c with
  | false=>rw [O] at this;simp at this;omega
  | true=>have e:=h.cj O;rw [O] at this;simp at this;exact .inr (.inr (.inr ⟨rfl,by omega⟩))
theorem B6.RA(h:B6 F N0 N j c φ v wt sm cl):v≤F.n:=by
 have K:=h.HA;obtain⟨p,O,hm⟩:=h.main;have:=h.jn;rw [O] at K;cases p <;> simp [G5] at hm <;> simp [pend] at K <;> omega
theorem B6.Hz(h:B6 F N0 N j c φ v wt sm cl){k:Nat}(aa:k<j){x:Nx}(ab:Hs F k x)(hs:∀k',φ (N0+k)≠ .ph (.Cn k'))(ae:∀k',x≠ .ph (.Cn k'))
  (ap:v'+cU (φ (N0+k))=v+cU x)
  (hm:∀L S,L+cL (φ (N0+k))=(sumTo N fun i=>cL (φ i))+cL x→S+cS (φ (N0+k))=(sumTo N fun i=>cS (φ i))+cS x→CN (if c=true then φ (N0+F.n) else .ph .CP) v' wt' sm' L S cl'):
  B6 F N0 N j c (upd φ (N0+k) x) v' wt' sm' cl':=by
 have aq:=h.size;have ar:=h.jn;have au:=h.pos;have V:N0+k<N:=by omega
 have K:upd φ (N0+k) x 0=φ 0:=upd_ne _ _ (by omega);have ah:(if c=true then upd φ (N0+k) x (N0+F.n) else .ph .CP)=(if c=true then φ (N0+F.n) else .ph .CP):=by
  cases O:c with
  | false=>rfl
  | true=>have:=h.cj O;simp only [if_true];exact upd_ne _ _ (by omega)
 have s1:=sumTo_upd φ x cU V;have s2:=sumTo_upd φ x cL V;have ai:=sumTo_upd φ x cS V;have av:=h.cnt;have aw:=h.HA;refine⟨h.pos,h.n1,h.H9,h.size,h.jn,h.cj,by rw [K];exact h.main,fun i aj ak=>by rw [upd_ne _ _ (by omega)];exact h.old i aj ak,fun k' U=>?_,fun O=>?_,by rw [K];omega,?_,?_,fun k' U hh=>?_,by rw [K];exact h.nd,by rw [K];exact h.sub⟩
 ·by_cases e:k'=k
  ·subst e;rw [upd_same];exact ab
  ·rw [upd_ne _ _ (by omega)];exact h.work k' U
 ·have:=h.cj O;rw [upd_ne _ _ (by omega)];exact h.cls O
 ·rw [K];have:cU x≤1:=by cases x with
   | gone d=>simp [cU]
   | ph p=>cases p <;> simp [cU]
  have hw:=h.work k aa;have key:cU x≤cU (φ (N0+k))∨cU (φ (N0+k))<cU x:=by omega
  rcases key with hle | ay
  ·omega
  ·
   have:(sumTo N fun a=>cU (upd φ (N0+k) x a))≤j:=by
    have hb:∀M,M≤N→(sumTo M fun a=>cU (upd φ (N0+k) x a))≤min (M - N0) j:=by
     intro M
     induction M with
     | zero=>intro _;simp [sumTo]
     | succ M al=>
      intro az;have:=al (by omega);simp only [sumTo];have aA:cU (upd φ (N0+k) x M)≤1:=by
       generalize upd φ (N0+k) x M=y;cases y with
       | gone d=>simp [cU]
       | ph p=>cases p <;> simp [cU]
      have Y:(M<N0∨N0+j≤M)→cU (upd φ (N0+k) x M)=0:=by
       intro aB;rw [upd_ne _ _ (by omega)];rcases h.Fe (i:=M) (by omega) with rfl | ⟨a,b⟩ | ⟨k',a,rfl⟩ | ⟨a,rfl⟩
       ·obtain⟨p,am,hm⟩:=h.main;rw [am];cases p <;> simp [G5] at hm <;> rfl
       ·have:=h.old M a b;cases W:φ M with
        | gone d=>rfl
        | ph p=>rw [W] at this;exact this.elim
       ·omega
       ·have:=h.cls a;cases W:φ (N0+F.n) with
        | gone d=>rfl
        | ph p=>rw [W] at this;cases p <;> simp [G9] at this <;> rfl
      rcases Nat.lt_or_ge M N0 with q | q
      ·rw [Y (.inl q)];omega
      ·rcases Nat.lt_or_ge M (N0+j) with Z | Z
       ·omega
       ·rw [Y (.inr Z)];omega
    have:=hb N (Nat.le_refl _);omega
   omega
 ·rw [ah];exact hm _ _ s2 ai
 ·rw [K];by_cases e:k'=k
  ·subst e;rw [upd_same];have:=h.GR k' U hh;constructor
   ·intro an;exact absurd an (ae k')
   ·intro ao;exact absurd (this.2 ao) (hs k')
  ·rw [upd_ne _ _ (by omega)];exact h.GR k' U hh
theorem B6.FO(h:B6 F N0 N j c φ v wt sm cl)(O:c=true){x:Nx}(W:G9 x)
  (hm:CN x v wt' sm' (sumTo N fun i=>cL (φ i)) (sumTo N fun i=>cS (φ i)) cl'):
  B6 F N0 N j c (upd φ (N0+F.n) x) v wt' sm' cl':=by
 have Y:=h.size;have ah:=h.pos;have ai:=h.cj O;have U:N0+F.n<N:=by rw [O] at Y;simp at Y;omega
 have K:upd φ (N0+F.n) x 0=φ 0:=upd_ne _ _ (by omega);have z:∀y,G9 y→cU y=0∧cL y=0∧cS y=0:=by
  intro y Z;cases y with
  | gone d=>exact⟨rfl,rfl,rfl⟩
  | ph p=>cases p <;> simp [G9] at Z <;> exact⟨rfl,rfl,rfl⟩
 have z1:=z _ (h.cls O);have aj:=z x W;have s1:=sumTo_upd φ x cU U;have s2:=sumTo_upd φ x cL U;have ak:=sumTo_upd φ x cS U;have al:=h.cnt;refine⟨h.pos,h.n1,h.H9,h.size,h.jn,h.cj,by rw [K];exact h.main,fun i aa ab=>by rw [upd_ne _ _ (by omega)];exact h.old i aa ab,fun k' V=>?_,fun O=>?_,by rw [K];omega,by rw [K];exact h.HA,?_,fun k' V hh=>?_,by rw [K];exact h.nd,by rw [K];exact h.sub⟩
 ·rw [upd_ne _ _ (by omega)];exact h.work k' V
 ·rw [upd_same];exact W
 ·rw [if_pos O,upd_same];have e2:(sumTo N fun i=>cL (upd φ (N0+F.n) x i))=sumTo N fun i=>cL (φ i):=by omega
  have ae:(sumTo N fun i=>cS (upd φ (N0+F.n) x i))=sumTo N fun i=>cS (φ i):=by omega
  rw [e2,ae];exact hm
 ·rw [K,upd_ne _ _ (by omega)];exact h.GR k' V hh
theorem O6{n j:Nat}{c:Bool}{p:Ph}(h:G5 n j c p):cU (.ph p)=0∧cL (.ph p)=0∧cS (.ph p)=0:=by
 cases p <;> simp [G5] at h <;> exact⟨rfl,rfl,rfl⟩
theorem B6.Jf(h:B6 F N0 N j c φ v wt sm cl){p:Ph}(V:G5 F.n j c p)(K:got (.ph p)=got (φ 0))(aj:v'+pend (φ 0)=v+pend (.ph p))(W:v'≤j+pend (.ph p))
  (hm:CN (if c=true then φ (N0+F.n) else .ph .CP) v' wt' sm' (sumTo N fun i=>cL (φ i)) (sumTo N fun i=>cS (φ i)) cl'):
  B6 F N0 N j c (upd φ 0 (.ph p)) v' wt' sm' cl':=by
 have ak:=h.size;have al:=h.pos;have O:0<N:=by omega
 obtain⟨am,Y,Z⟩:=h.main;have z1:=O6 Z;have an:=O6 V;rw [← Y] at z1;have s1:=sumTo_upd φ (.ph p) cU O;have s2:=sumTo_upd φ (.ph p) cL O;have ao:=sumTo_upd φ (.ph p) cS O;have ap:=h.cnt;have aa:(if c=true then upd φ 0 (.ph p) (N0+F.n) else .ph .CP)=(if c=true then φ (N0+F.n) else .ph .CP):=by rw [upd_ne _ _ (by omega)]
 refine⟨h.pos,h.n1,h.H9,h.size,h.jn,h.cj,⟨p,upd_same _ _ _,V⟩,fun i ab ae=>by rw [upd_ne _ _ (by omega)];exact h.old i ab ae,fun k' U=>by rw [upd_ne _ _ (by omega)];exact h.work k' U,fun ah=>by rw [upd_ne _ _ (by omega)];exact h.cls ah,by rw [upd_same];omega,by rw [upd_same];exact W,?_,fun k' U hh=>?_,by rw [upd_same,K];exact h.nd,by rw [upd_same,K];exact h.sub⟩
 ·rw [aa];have e2:(sumTo N fun i=>cL (upd φ 0 (.ph p) i))=sumTo N fun i=>cL (φ i):=by omega
  have ai:(sumTo N fun i=>cS (upd φ 0 (.ph p) i))=sumTo N fun i=>cS (φ i):=by omega
  rw [e2,ai];exact hm
 ·rw [upd_same,K,upd_ne _ _ (by omega)];exact h.GR k' U hh
theorem B6.act(h:B6 F N0 N j c φ v wt sm cl){i:Nat}(hi:i<N){p:Ph}(U:φ i= .ph p){es:Array Event}{nx:Nx}(K:F.act p v wt sm=some ((v',wt',sm'),es,nx)):
  B6 F N0 N j c (upd φ i nx) v' wt' sm' cl:=by
 have O:=h.mode;have ar:=h.RA;rcases h.Fe hi with rfl | ⟨a,b⟩ | ⟨k,ai,rfl⟩ | ⟨Y,rfl⟩
 ·
  obtain⟨am,aq,aj⟩:=h.main;have:am=p:=by rw [aq] at U;exact Nx.ph.inj U
  subst this;have av:∀q,G5 F.n j c q→(∀au vs,q≠ .B7 au vs)→c=false:=by
   intro q an ao;cases q <;> simp [G5] at an <;> first | exact an.2.2 | exact an.2 | exact absurd rfl (ao _ _)
  have ae:=h.HA;cases am <;> simp only [G5] at aj <;> (try exact aj.elim) <;> simp only [Fam.act] at K <;> (try (cases K;done))
  ·cases K;obtain⟨rfl,ah,rfl⟩:=aj;exact h.Jf (p:= .Hg _) ⟨rfl,ah,rfl⟩ (by rw [U];rfl) (by rw [U];rfl) (by rw [U] at ae;exact ae) (by simpa [CN] using O)
  ·split at K
   ·rename_i Z;cases K;obtain⟨rfl,ah,rfl⟩:=aj;rw [U] at ae;simp only [pend,Nat.add_zero] at ae;simp only [Bool.false_eq_true,if_false,CN] at O;split
    ·exact h.Jf (p:= .GQ _) ⟨rfl,ah,rfl⟩ (by rw [U];rfl) (by rw [U];simp [pend]) (by simp [pend];omega) ⟨O.1,O.2.1,O.2.2.1,rfl,O.2.2.2.2⟩
    ·exact h.Jf (p:= .FQ _) ⟨rfl,ah,rfl⟩ (by rw [U];rfl) (by rw [U];simp [pend]) (by simp [pend];omega) ⟨O.1,O.2.1,O.2.2.1,rfl,O.2.2.2.2⟩
   ·cases K
  ·cases K;obtain⟨rfl,ah,rfl⟩:=aj;exact h.Jf (p:= .FQ _) ⟨rfl,ah,rfl⟩ (by rw [U];rfl) (by rw [U];rfl) (by rw [U] at ae;exact ae) (by simpa [CN] using O)
  ·cases K;obtain⟨rfl,ah,rfl⟩:=aj;exact h.Jf (p:= .EN _) ⟨rfl,ah,rfl⟩ (by rw [U];rfl) (by rw [U];rfl) (by rw [U] at ae;exact ae) (by simpa [CN] using O)
  ·cases K;obtain⟨rfl,ah,rfl⟩:=aj;exact h.Jf (p:= .Gk _) ⟨rfl,ah,rfl⟩ (by rw [U];rfl) (by rw [U];rfl) (by rw [U] at ae;exact ae) (by simpa [CN] using O)
 ·have:=h.old i a b;rw [U] at this;exact this.elim
 ·
  have hw:=h.work k ai;rw [U] at hw;have aw:∀q k',q=Nx.ph p→(∀k',p≠ .Cn k')→q≠ .ph (.Cn k'):=by
   rintro q k' rfl ao e;exact ao k' (Nx.ph.inj e)
  cases p <;> simp only [Hs] at hw <;> (try exact hw.elim) <;> simp only [Fam.act] at K <;> (try (cases K;done))
  ·cases K;refine h.Hz ai (x:= .ph .Hy) trivial (fun k'=>by rw [U];simp) (by simp) (by rw [U];rfl) fun L S V W=>?_;rw [U] at V W;simp only [cL,cS,Nat.add_zero] at V W;subst V W;exact O
  ·cases K;refine h.Hz ai (x:= .ph .GM) trivial (fun k'=>by rw [U];simp) (by simp) (by rw [U];rfl) fun L S V W=>?_;rw [U] at V W;simp only [cL,cS,Nat.add_zero] at V W;subst V W;exact O
  ·split at K
   ·rename_i Z;cases K;have al:∀y aa ab L S,y=(if c=true then φ (N0+F.n) else .ph .CP)→CN y v wt sm aa ab cl→(if v=1∧wt=1 then L=aa+1 else L=aa)→S=ab→CN y (v - 1) wt sm L S cl:=by
     intro y aa ab L S ay hm V W;cases y with
     | gone d=>simp only [CN] at hm ⊢;split at V <;> omega
     | ph q=>
      cases q <;> simp only [CN] at hm ⊢ <;> (try exact hm) <;> (try (split at V <;> omega))
      ·split at V
       ·exfalso;omega
       ·exact⟨by omega,by omega,by omega,by omega,hm.2.2.2.2⟩
      ·split at V
       ·exfalso;omega
       ·exact⟨by omega,by omega,by omega,by omega,hm.2.2.2.2.1,by omega⟩
      ·split at V
       ·exfalso;omega
       ·exact⟨by omega,by omega,by omega,by omega,hm.2.2.2.2.1,by omega,by omega⟩
      ·split at V
       ·exact⟨by omega,by omega,hm.2.2⟩
       ·exact⟨by omega,by omega,hm.2.2⟩
      ·split at V
       ·exact⟨by omega,by omega,hm.2.2⟩
       ·exact⟨by omega,by omega,hm.2.2⟩
      ·split at V
       ·exact⟨by omega,by omega,hm.2.2⟩
       ·exact⟨by omega,by omega,hm.2.2⟩
    split
    ·rename_i ak;refine h.Hz ai (x:= .ph .F1) trivial (fun k'=>by rw [U];simp) (by simp) (by rw [U];simp [cU];omega) fun L S V W=>?_;rw [U] at V W;simp only [cL,cS,Nat.add_zero] at V W;exact al _ _ _ L S rfl O (by rw [if_pos ak];exact V) W
    ·rename_i ak;refine h.Hz ai (x:= .gone 1) trivial (fun k'=>by rw [U];simp) (by simp) (by rw [U];simp [cU];omega) fun L S V W=>?_;rw [U] at V W;simp only [cL,cS,Nat.add_zero] at V W;exact al _ _ _ L S rfl O (by rw [if_neg ak];exact V) W
   ·cases K
  ·split at K
   ·rename_i Z;cases K;refine h.Hz ai (x:= .ph .Gf) trivial (fun k'=>by rw [U];simp) (by simp) (by rw [U];simp [cU];omega) fun L S V W=>?_;rw [U] at V W;simp only [cL,cS,Nat.add_zero] at V W;have e:L=sumTo N fun i=>cL (φ i):=by
     have az:L+1=(sumTo N fun i=>cL (φ i))+1:=V;omega
    obtain⟨ak,ap⟩:=Z;subst e W ak ap;exact O
   ·cases K
  ·split at K
   ·rename_i Z;cases K;obtain⟨ak,ap⟩:=Z;subst ak ap;refine h.Hz ai (x:= .ph .El) trivial (fun k'=>by rw [U];simp) (by simp) (by rw [U];simp [cU]) fun L S V W=>?_;rw [U] at V W;simp only [cL,cS,Nat.add_zero] at V W;have al:∀y aa ab,CN y 0 1 sm aa ab cl→L+1=aa→S=ab+1→CN y 0 0 sm L S cl:=by
     intro y aa ab hm V W;cases y with
     | gone d=>simp only [CN] at hm ⊢;omega
     | ph q=>
      cases q <;> simp only [CN] at hm ⊢ <;> (try exact hm) <;> (try (exfalso;omega))
      ·exact⟨by omega,by omega,hm.2.2⟩
      ·exact⟨by omega,by omega,hm.2.2⟩
      ·exact⟨by omega,by omega,hm.2.2⟩
    exact al _ _ _ O V W
   ·cases K
  ·split at K
   ·rename_i Z;cases K;subst Z;refine h.Hz ai (x:= .gone 1) trivial (fun k'=>by rw [U];simp) (by simp) (by rw [U];simp [cU]) fun L S V W=>?_;rw [U] at V W;simp only [cL,cS,Nat.add_zero] at V W;have al:∀y aa ab,CN y v wt 0 aa ab cl→L=aa→S+1=ab→CN y v wt 1 L S cl:=by
     intro y aa ab hm V W;cases y with
     | gone d=>simp only [CN] at hm ⊢;omega
     | ph q=>
      cases q <;> simp only [CN] at hm ⊢ <;> (try exact hm) <;> (try (exfalso;omega))
      ·exact⟨by omega,by omega,hm.2.2⟩
      ·exact⟨by omega,by omega,hm.2.2⟩
      ·exact⟨by omega,by omega,hm.2.2⟩
    exact al _ _ _ O V W
   ·cases K
  ·cases K;refine h.Hz ai (x:= .ph .F3) trivial (fun k'=>by rw [U];simp) (by simp) (by rw [U];rfl) fun L S V W=>?_;rw [U] at V W;simp only [cL,cS,Nat.add_zero] at V W;subst V W;exact O
 ·
  have hw:=h.cls Y;rw [if_pos Y,U] at O;rw [U] at hw;obtain⟨am,aq,aj⟩:=h.main;cases p <;> simp only [G9] at hw <;> (try exact hw.elim) <;> simp only [Fam.act] at K <;> (try (cases K;done)) <;> simp only [CN] at O
  ·cases K;exact h.FO Y (x:= .ph (.Fq F.n)) trivial ⟨O.1,O.2.1,O.2.2.1,O.2.2.2.1,O.2.2.2.2,ar⟩
  ·split at K
   ·rename_i m Z;cases K;split
    ·exact h.FO Y (x:= .ph .Fc) trivial ⟨O.1,O.2.1,O.2.2.1,rfl,by assumption,O.2.2.2.2.1⟩
    ·exact h.FO Y (x:= .ph (.GN _)) trivial ⟨O.1,O.2.1,O.2.2.1,rfl,O.2.2.2.2.1,Nat.le_refl _,by omega⟩
   ·cases K
  ·split at K
   ·rename_i m Z;split at K
    ·cases K;exact h.FO Y (x:= .ph .Hi) trivial ⟨by omega,by omega,O.2.2.2.2.1⟩
    ·cases K;exact h.FO Y (x:= .ph (.Fq _)) trivial ⟨O.1,O.2.1,O.2.2.1,rfl,O.2.2.2.2.1,by omega⟩
   ·cases K
  ·cases K;exact h.FO Y (x:= .ph .Dc) trivial O
  ·split at K
   ·rename_i Z;cases K;exact h.FO Y (x:= .ph .Gg) trivial ⟨by omega,by omega,rfl,by omega,by omega,O.2.2⟩
   ·cases K
  ·split at K
   ·rename_i Z;obtain⟨rfl,rfl⟩:=Z;cases K;exact h.FO Y (x:= .ph .Fc) trivial O
   ·cases K
  ·cases K;exact h.FO Y (x:= .ph .Hf) trivial O
  ·cases K;exact h.FO Y (x:= .ph .Dw) trivial O
  ·cases K;exact h.FO Y (x:= .ph .GO) trivial O
  ·cases K;exact h.FO Y (x:= .ph .Gl) trivial O
end
end Pal
namespace Pal
open Go Go.Conc
open Go.ConcN (upd upd_same upd_ne sumTo sumTo_upd sumTo_upd_out sumTo_congr le_sumTo sumTo_le fork_knows)
section
variable {F:Fam}{N0 N j:Nat}{c:Bool}{φ:Nat→Nx}{v wt sm:Nat}{cl:Bool}
theorem B6.spawn(h:B6 F N0 N j c φ v wt sm cl)(U:φ 0= .ph (.EN j)):
  B6 F N0 (N+1) (j+1) c (upd (upd φ N (.ph (F.start j))) 0 (.ph (F.Dy j))) v wt sm cl:=by
 obtain⟨aj,ak,al⟩:=h.main;obtain rfl:aj= .EN j:=by rw [ak] at U;exact Nx.ph.inj U
 obtain⟨_,aq,rfl⟩:=al;have am:=h.size;have ar:=h.pos;simp only [Bool.toNat_false,Nat.add_zero] at am;have W:cU (.ph (F.start j))=1∧cL (.ph (F.start j))=0∧cS (.ph (F.start j))=0:=by
  unfold Fam.start;split <;> exact⟨rfl,rfl,rfl⟩
 have K:cU (.ph (F.Dy j))=0∧cL (.ph (F.Dy j))=0∧cS (.ph (F.Dy j))=0∧pend (.ph (F.Dy j))=0∧got (.ph (F.Dy j))= []:=by
  unfold Fam.Dy;split <;> exact⟨rfl,rfl,rfl,rfl,rfl⟩
 have Y:cU (φ 0)=0∧cL (φ 0)=0∧cS (φ 0)=0:=by rw [U];exact⟨rfl,rfl,rfl⟩
 let V:Nat→Nx:=upd (upd φ N (.ph (F.start j))) 0 (.ph (F.Dy j));have O:V 0= .ph (F.Dy j):=upd_same _ _ _;have Z:V N= .ph (F.start j):=by show upd _ _ _ _=_;rw [upd_ne _ _ (by omega),upd_same]
 have aa:∀i,0<i→i≠N→V i=φ i:=fun i ab ae=>by show upd _ _ _ _=_;rw [upd_ne _ _ (by omega),upd_ne _ _ ae]
 have sum:∀f:Nx→Nat,f (φ 0)=0→f (.ph (F.Dy j))=0→(sumTo (N+1) fun i=>f (V i))=(sumTo N fun i=>f (φ i))+f (.ph (F.start j)):=by
  intro f f0 f1;simp only [sumTo,Z];congr 1;have an:0<N:=by omega
  have:=sumTo_upd (upd φ N (.ph (F.start j))) (.ph (F.Dy j)) f an;have e2:upd φ N (.ph (F.start j)) 0=φ 0:=upd_ne _ _ (by omega);rw [e2,f0,f1] at this;have au:=sumTo_upd_out φ (.ph (F.start j)) f (i:=N) (j:=N) (Nat.le_refl _);show sumTo N (fun i=>f (upd (upd φ N (.ph (F.start j))) 0 (.ph (F.Dy j)) i))=_;omega
 have ah:=h.cnt;have ai:=h.HA;rw [U] at ah ai;simp only [pend] at ah ai;show B6 F N0 (N+1) (j+1) false V v wt sm cl;have ao:got (φ 0)= []:=by rw [U];rfl
 refine⟨h.pos,h.n1,h.H9,by simp;omega,by omega,by simp,⟨F.Dy j,O,?_⟩,fun i ab ae=>by rw [aa i ab (by omega)];exact h.old i ab ae,fun k ap=>?_,by simp,?_,?_,?_,fun k ap hh=>?_,by rw [O,K.2.2.2.2];exact .nil,by rw [O,K.2.2.2.2];simp⟩
 ·unfold Fam.Dy;split
  ·exact⟨by assumption,rfl⟩
  ·exact⟨rfl,by omega,rfl⟩
 ·by_cases e:k=j
  ·subst e;rw [show N0+k=N by omega,Z];unfold Fam.start;split
   ·exact⟨rfl,by assumption⟩
   ·trivial
  ·rw [aa _ (by omega) (by omega)];exact h.work k (by omega)
 ·rw [O,K.2.2.2.1,sum cU Y.1 K.1,W.1];exact ah
 ·rw [O,K.2.2.2.1];exact ai
 ·have hm:=h.mode;simp only [Bool.false_eq_true,if_false] at hm ⊢;rw [sum cL Y.2.1 K.2.1,sum cS Y.2.2 K.2.2.1,W.2.1,W.2.2];exact hm
 ·rw [O,K.2.2.2.2];by_cases e:k=j
  ·subst e;rw [show N0+k=N by omega,Z];unfold Fam.start;simp [hh]
  ·rw [aa _ (by omega) (by omega)];have:=h.GR k (by omega) hh
   rwa [ao] at this
theorem B6.V5(h:B6 F N0 N j c φ v wt sm cl)(O:φ 0= .ph .Ft):
  B6 F N0 (N+1) j true (upd (upd φ N (.ph .CP)) 0 (.ph (.B7 [] []))) v wt sm cl:=by
 obtain⟨aj,ak,al⟩:=h.main;obtain rfl:aj= .Ft:=by rw [ak] at O;exact Nx.ph.inj O
 obtain⟨ai,rfl⟩:=al;have am:=h.size;have ap:=h.pos;simp only [Bool.toNat_false,Nat.add_zero] at am;have V:cU (φ 0)=0∧cL (φ 0)=0∧cS (φ 0)=0:=by rw [O];exact⟨rfl,rfl,rfl⟩
 let U:Nat→Nx:=upd (upd φ N (.ph .CP)) 0 (.ph (.B7 [] []));have K:U 0= .ph (.B7 [] []):=upd_same _ _ _;have W:U N= .ph .CP:=by show upd _ _ _ _=_;rw [upd_ne _ _ (by omega),upd_same]
 have Y:∀i,0<i→i≠N→U i=φ i:=fun i Z aa=>by show upd _ _ _ _=_;rw [upd_ne _ _ (by omega),upd_ne _ _ aa]
 have sum:∀f:Nx→Nat,f (φ 0)=0→f (.ph (.B7 [] []))=0→f (.ph .CP)=0→(sumTo (N+1) fun i=>f (U i))=(sumTo N fun i=>f (φ i)):=by
  intro f f0 f1 f2;simp only [sumTo,W,f2];have an:0<N:=by omega
  have:=sumTo_upd (upd φ N (.ph .CP)) (.ph (.B7 [] [])) f an;have e2:upd φ N (.ph .CP) 0=φ 0:=upd_ne _ _ (by omega);rw [e2,f0,f1] at this;have aq:=sumTo_upd_out φ (.ph .CP) f (i:=N) (j:=N) (Nat.le_refl _);show sumTo N (fun i=>f (upd (upd φ N (.ph .CP)) 0 (.ph (.B7 [] [])) i))+0=_;omega
 have ab:=h.cnt;have ae:=h.HA;rw [O] at ab ae;simp only [pend] at ab ae;show B6 F N0 (N+1) j true U v wt sm cl;have ao:got (φ 0)= []:=by rw [O];rfl
 refine⟨h.pos,h.n1,h.H9,by simp;omega,h.jn,fun _=>ai,⟨.B7 [] [],K,ai,rfl⟩,fun i Z aa=>by rw [Y i Z (by omega)];exact h.old i Z aa,fun k ah=>?_,fun _=>by rw [show N0+F.n=N by omega,W];trivial,?_,?_,?_,fun k ah hh=>?_,by rw [K];exact .nil,by rw [K];simp [got]⟩
 ·rw [Y _ (by omega) (by omega)];exact h.work k ah
 ·rw [K,sum cU V.1 rfl rfl];exact ab
 ·rw [K];exact ae
 ·have hm:=h.mode;simp only [Bool.false_eq_true,if_false,if_true] at hm ⊢;rw [show N0+F.n=N by omega,W,sum cL V.2.1 rfl rfl,sum cS V.2.2 rfl rfl];exact hm
 ·rw [K];rw [Y _ (by omega) (by omega)];have:=h.GR k ah hh
  rwa [ao] at this
theorem B6.meet(h:B6 F N0 N j c φ v wt sm cl){K:List Nat}{vs:Lv_}{k:Nat}{x:Value}(O:φ 0= .ph (.B7 K vs))(ab:k<j)(hw:φ (N0+k)= .ph (.Cn k)):
  B6 F N0 N j c (upd (upd φ (N0+k) (.ph .CO)) 0 (.ph (.B7 (K++ [k]) (vs++ [x])))) v wt sm cl:=by
 obtain⟨ak,al,am⟩:=h.main;obtain rfl:ak= .B7 K vs:=by rw [al] at O;exact Nx.ph.inj O
 obtain⟨an,rfl⟩:=am;have ao:=h.size;have av:=h.pos;have ae:F.has k=true:=by have:=h.work k ab;rw [hw] at this;exact this.2
 have ap:k ∉ K:=by have:=(h.GR k ab ae).1 hw;rwa [O] at this
 let V:Nat→Nx:=upd (upd φ (N0+k) (.ph .CO)) 0 (.ph (.B7 (K++ [k]) (vs++ [x])));have U:V 0= .ph (.B7 (K++ [k]) (vs++ [x])):=upd_same _ _ _;have ah:V (N0+k)= .ph .CO:=by show upd _ _ _ _=_;rw [upd_ne _ _ (by omega),upd_same]
 have W:∀i,0<i→i≠N0+k→V i=φ i:=fun i Y Z=>by show upd _ _ _ _=_;rw [upd_ne _ _ (by omega),upd_ne _ _ Z]
 have sum:∀f:Nx→Nat,f (φ 0)=f (.ph (.B7 (K++ [k]) (vs++ [x])))→f (.ph (.Cn k))=f (.ph .CO)→(sumTo N fun i=>f (V i))=(sumTo N fun i=>f (φ i)):=by
  intro f f0 f1;have aq:0<N:=by omega
  have Y:=sumTo_upd (upd φ (N0+k) (.ph .CO)) (.ph (.B7 (K++ [k]) (vs++ [x]))) f aq;have e2:upd φ (N0+k) (.ph .CO) 0=φ 0:=upd_ne _ _ (by omega);have Z:=sumTo_upd φ (.ph .CO) f (show N0+k<N by omega);rw [e2] at Y;rw [hw] at Z;show sumTo N (fun i=>f (upd (upd φ (N0+k) (.ph .CO)) 0 (.ph (.B7 (K++ [k]) (vs++ [x]))) i))=_;omega
 have ai:=h.cnt;have aj:=h.HA;rw [O] at ai aj;show B6 F N0 N j true V v wt sm cl;refine⟨h.pos,h.n1,h.H9,ao,h.jn,h.cj,⟨_,U,an,rfl⟩,fun i Y Z=>by rw [W i Y (by omega)];exact h.old i Y Z,fun k' aa=>?_,fun ar=>?_,?_,?_,?_,fun k' aa hh=>?_,?_,?_⟩
 ·by_cases e:k'=k
  ·subst e;rw [ah];trivial
  ·rw [W _ (by omega) (by omega)];exact h.work k' aa
 ·rw [W _ (by omega) (by omega)];exact h.cls ar
 ·rw [U,sum cU (by rw [O];rfl) rfl];exact ai
 ·rw [U];exact aj
 ·have hm:=h.mode;simp only [if_true] at hm ⊢;rw [W _ (by omega) (by omega),sum cL (by rw [O];rfl) rfl,sum cS (by rw [O];rfl) rfl];exact hm
 ·rw [U];show _↔k' ∉ K++ [k];by_cases e:k'=k
  ·subst e;rw [ah];simp
  ·rw [W _ (by omega) (by omega)];have:=h.GR k' aa hh;rw [O] at this;rw [this];show k' ∉ K↔_;simp [e]
 ·rw [U];have:=h.nd;rw [O] at this;show(K++ [k]).Nodup;rw [List.nodup_append];exact⟨this,by simp,fun a au b hb=>by simp at hb;subst hb;exact fun e=>ap (e▸au)⟩
 ·rw [U];intro k' aa;have hs:=h.sub;rw [O] at hs;rcases List.mem_append.1 aa with q | q
  ·exact hs k' q
  ·simp at q;subst q;exact⟨ab,ae⟩
theorem B6.close(h:B6 F N0 N j c φ v wt sm cl)(K:c=true)(O:φ (N0+F.n)= .ph .Dw):B6 F N0 N j c (upd φ (N0+F.n) (.gone 0)) v wt sm true:=by
 have hm:=h.mode;rw [if_pos K,O] at hm;exact h.FO K (x:= .gone 0) trivial ⟨hm.1,hm.2.1,hm.2.2.1,hm.2.2.2.1,hm.2.2.2.2.1,rfl⟩
theorem B6.leave(h:B6 F N0 N j c φ v wt sm cl){i d K:Nat}(hi:i<N)(O:φ i= .gone d):B6 F N0 N j c (upd φ i (.gone K)) v wt sm cl:=by
 rcases h.Fe hi with rfl | ⟨a,b⟩ | ⟨k,V,rfl⟩ | ⟨W,rfl⟩
 ·obtain⟨p,Y,_⟩:=h.main;rw [O] at Y;cases Y
 ·have ae:=hi;have z:∀f:Nx→Nat,f (.gone d)=0→f (.gone K)=0→(sumTo N fun a=>f (upd φ i (.gone K) a))=sumTo N fun a=>f (φ a):=by
   intro f f0 f1;have:=sumTo_upd φ (.gone K) f ae;rw [O] at this;omega
  have ak:=h.size;have U:upd φ i (.gone K) 0=φ 0:=upd_ne _ _ (by omega);refine⟨h.pos,h.n1,h.H9,h.size,h.jn,h.cj,by rw [U];exact h.main,fun Z ah ai=>?_,fun k V=>by rw [upd_ne _ _ (by omega)];exact h.work k V,fun W=>by rw [upd_ne _ _ (by omega)];exact h.cls W,by rw [U,z cU rfl rfl];exact h.cnt,by rw [U];exact h.HA,?_,fun k V hh=>by rw [U,upd_ne _ _ (by omega)];exact h.GR k V hh,by rw [U];exact h.nd,by rw [U];exact h.sub⟩
  ·by_cases e:Z=i
   ·subst e;rw [upd_same];trivial
   ·rw [upd_ne _ _ e];exact h.old Z ah ai
  ·rw [z cL rfl rfl,z cS rfl rfl,upd_ne _ _ (by omega)];exact h.mode
 ·refine h.Hz V (x:= .gone K) trivial (by rw [O];simp) (by simp) (by rw [O];rfl) fun L S aa ab=>?_;rw [O] at aa ab;have aj:L=sumTo N fun i=>cL (φ i):=aa;have e2:S=sumTo N fun i=>cS (φ i):=ab;subst aj e2;exact h.mode
 ·have hm:=h.mode;rw [if_pos W,O] at hm;exact h.FO W (x:= .gone K) trivial hm
theorem B6.Ny(h:B6 F N0 N j c φ v wt sm cl)(O:c=true)(U:φ (N0+F.n)= .ph .Gg∨φ (N0+F.n)= .ph .Fc∨φ (N0+F.n)= .ph .Gl∨φ (N0+F.n)= .ph .Dw∨EJ (φ (N0+F.n))):∀k,k<j→EJ (φ (N0+k)):=by
 intro k V;have hm:=h.mode;rw [if_pos O] at hm;have W:=h.size;have Y:=h.cnt;have Z:cU (φ (N0+k))≤sumTo N fun i=>cU (φ i):=le_sumTo (f:=fun i=>cU (φ i)) (show N0+k<N by omega);have aa:cL (φ (N0+k))≤sumTo N fun i=>cL (φ i):=le_sumTo (f:=fun i=>cL (φ i)) (show N0+k<N by omega);have ab:cS (φ (N0+k))≤sumTo N fun i=>cS (φ i):=le_sumTo (f:=fun i=>cS (φ i)) (show N0+k<N by omega);have ae:v=0∧(sumTo N fun i=>cL (φ i))=0∧(sumTo N fun i=>cS (φ i))=0:=by
  rcases U with e | e | e | e | e
  ·rw [e] at hm;exact⟨hm.2.2.2.2.1,hm.1,hm.2.1⟩
  ·rw [e] at hm;exact⟨hm.2.2.2.2.1,hm.1,hm.2.1⟩
  ·rw [e] at hm;exact⟨hm.2.2.2.2.1,hm.1,hm.2.1⟩
  ·rw [e] at hm;exact⟨hm.2.2.2.2.1,hm.1,hm.2.1⟩
  ·cases K:φ (N0+F.n) with
   | gone d=>rw [K] at hm;exact⟨hm.2.2.2.2.1,hm.1,hm.2.1⟩
   | ph p=>rw [K] at e;exact e.elim
 have hw:=h.work k V;cases K:φ (N0+k) with
 | gone d=>trivial
 | ph p=>
  have ah:1≤cU (φ (N0+k))+cL (φ (N0+k))+cS (φ (N0+k)):=by
   rw [K] at hw ⊢;cases p <;> simp only [Hs] at hw <;> simp [cU,cL,cS]
  exfalso;omega
end
open Go.ConcN (RelBy)
def D4:Nx→Nat
 | .gone d=>d
 | .ph .GM | .ph .F1 | .ph .Gf | .ph .El=>1
 | .ph (.Fq _) | .ph (.GN _) | .ph .Hi | .ph .GO | .ph .Dc | .ph .Gg | .ph .Fc=>1
 | .ph (.Hg _) | .ph (.GQ _) | .ph (.Gk _) | .ph (.FQ _)=>1
 | _=>0
def late:Nx→Prop
 | .ph (.Cn _) | .ph .CO | .ph .F3=>False
 | _=>True
def IG(F:Fam)(N0 t0:Nat)(t:Trace)(q:Nat):Prop:=
 t.act? q=some (.mark (.acquire F.sA))∧t.g? q=some (N0+F.n)∧t.heard q∧∀k,k<F.n→∃ρ,t0≤ρ∧ρ<q∧RelBy F.sA t (N0+k) ρ
def Ky(F:Fam)(N0 t0:Nat)(t:Trace)(p:Nat):Prop:=
 t.act? p=some (.close F.ch)∧t.g? p=some (N0+F.n)∧t.heard p∧(∃q,q<p∧IG F N0 t0 t q)∧∀x,p<x→t.g? x=some (N0+F.n)→¬t.counts x
structure DK (F:Fam) (N0 t0 N j:Nat) (c:Bool) (φ:Nat→Nx) (t:Trace):Prop where
 deaf:∀i,i<N→Deaf t i=D4 (φ i)
 above:∀i,N≤i→Deaf t i=0
 plain:∀x a b,touchAt t x=some a→Dv a.loc=some b→(b=F.wg∨b=F.ch)→a.kind= .plain→∀i,i<N→(i=0∨N0≤i)→Knows t i x
 said:∀x a b,touchAt t x=some a→Dv a.loc=some b→(b=F.wg∨b=F.ch)→a.kind= .said→Knows t (if c=true then N0+F.n else 0) x
 over:∀x g,t.g? x=some g→g≠0→t.counts x→(∃y,t.g? y=some 0∧HappensBefore t x y)∨(N0≤g∧g<N)
 norel:∀x,t0≤x→t.act? x≠some (.mark (.release F.sA))
 Kq:t0≤t.size
 rel:∀k,k<j→late (φ (N0+k))→∃ρ,t0≤ρ∧RelBy F.sA t (N0+k) ρ
 acq:c=true→(φ (N0+F.n)= .ph .Dw∨EJ (φ (N0+F.n)))→∃q,IG F N0 t0 t q
 Jo:c=true→EJ (φ (N0+F.n))→∃p,Ky F N0 t0 t p
section
variable {F:Fam}{N0 t0 N j:Nat}{c:Bool}{φ:Nat→Nx}{t u:Trace}
def EvS(F:Fam)(K:Prop)(e:Event):Prop:=
 (∀a,(MemAct.ofEvent e).touch? =some a→(∃b,Dv a.loc=some b∧(b=F.wg∨b=F.ch))∧a.kind≠ .plain∧(a.kind= .said→K))∧e.loc≠ .mark (.release F.sA)
theorem DK.noRace(h:DK F N0 t0 N j c φ t)(W:∀said,¬Race said t){i:Nat}(hi:i<N)(Y:i=0∨N0≤i){fn:FuncId}{pos:String}{es:Array Event}
  (Z:∀e∈es,EvS F (i=if c=true then N0+F.n else 0) e):∀said,¬Race said (t++MemOp.ofEvents i fn pos es):=by
 intro said;refine noRace_append (g:=i) (W said) (fun op K=>by obtain⟨e,_,rfl⟩:=mem_ofEvents K;rfl) fun x a O op K d aa ab=>?_;obtain⟨e,he,rfl⟩:=mem_ofEvents K;obtain⟨⟨b,hb,U⟩,ae,hs⟩:=(Z e he).1 d aa;obtain⟨ah,hm,ak,ai⟩:=ab;have V:Dv a.loc=some b:=by rw [ah];exact hb
 rcases ai with q | q | ⟨_,q,aj⟩
 ·exact h.plain x a b O V U q i hi Y
 ·exact absurd q ae
 ·have:=h.said x a b O V U q
  rwa [← hs aj] at this
theorem IG.app{q:Nat}(h:IG F N0 t0 t q)(V:∀k ρ,k<F.n→RelBy F.sA t (N0+k) ρ→RelBy F.sA (t++u) (N0+k) ρ):IG F N0 t0 (t++u) q:=by
 obtain⟨O,W,Y,Z⟩:=h;have K:=lt_of_act? O;exact⟨by rw [act?_old K];exact O,by rw [g?_old K];exact W,(heard_old K).2 Y,fun k U=>let ⟨ρ,a,b,d⟩:=Z k U;⟨ρ,a,b,V k ρ U d⟩⟩
theorem Ky.app{p:Nat}(h:Ky F N0 t0 t p)(W:∀k ρ,k<F.n→RelBy F.sA t (N0+k) ρ→RelBy F.sA (t++u) (N0+k) ρ)(Y:∀x,t.size≤x→(t++u).g? x=some (N0+F.n)→¬(t++u).counts x):Ky F N0 t0 (t++u) p:=by
 obtain⟨O,Z,aa,⟨q,ab,ae⟩,ah⟩:=h;have K:=lt_of_act? O;refine⟨by rw [act?_old K];exact O,by rw [g?_old K];exact Z,(heard_old K).2 aa,⟨q,ab,ae.app W⟩,fun x ai U V=>?_⟩;rcases Nat.lt_or_ge x t.size with q | q
 ·exact ah x ai (by rw [← g?_old (u:=u) q];exact U) ((counts_old q).1 V)
 ·exact Y x q U V
theorem Pu(h:∀x g,t.g? x=some g→g≠0→t.counts x→(∃y,t.g? y=some 0∧HappensBefore t x y)∨(N0≤g∧g<N))(hu:∀op∈u,op.g=0∨(N0≤op.g∧op.g<N)∨op.act.touch? =none):
  ∀x g,(t++u).g? x=some g→g≠0→(t++u).counts x→(∃y,(t++u).g? y=some 0∧HappensBefore (t++u) x y)∨(N0≤g∧g<N):=by
 intro x g O U V;rcases Nat.lt_or_ge x t.size with q | q
 ·rcases h x g (by rw [← g?_old (u:=u) q];exact O) U ((counts_old q).1 V) with⟨y,K,hb⟩ | hh
  ·have aa:y<t.size:=by
    unfold Trace.g? at K;obtain⟨z,ab,_⟩:=Option.map_eq_some_iff.1 K;exact lt_size_of_getElem? ab
   exact .inl ⟨y,by rw [g?_old aa];exact K,hb_app u hb⟩
  ·exact .inr hh
 ·obtain⟨a,ae,_⟩:=V;obtain⟨op,W,Y⟩:=touch_of ae;have Z:op.g=g:=by simpa [Trace.g?,W] using O
  rcases getElem?_append_cases W with⟨ai,_⟩ | ⟨_,ah⟩
  ·omega
  ·rcases hu op ah with z | z | z
   ·exact absurd (Z▸z) U
   ·exact .inr (Z▸z)
   ·rw [z] at Y;cases Y
theorem Pe(h:∀x,t0≤x→t.act? x≠some (.mark (.release F.sA)))(hu:∀op∈u,op.act≠ .mark (.release F.sA)):∀x,t0≤x→(t++u).act? x≠some (.mark (.release F.sA)):=by
 intro x O e;obtain⟨op,U,K⟩:=Option.map_eq_some_iff.1 e;rcases getElem?_append_cases U with⟨_,V⟩ | ⟨_,W⟩
 ·exact h x O (by rw [act?_of V,K])
 ·exact hu op W K
theorem RO{i g:Nat}(hu:∀op∈u,op.g=i)(K:i≠g):∀x,t.size≤x→(t++u).g? x=some g→¬(t++u).counts x:=by
 intro x Y O;obtain⟨op,U,V⟩:=Option.map_eq_some_iff.1 O;rcases getElem?_append_cases U with⟨Z,_⟩ | ⟨_,W⟩
 ·omega
 ·exact absurd ((hu op W).symm.trans V) K
theorem On{g:Nat}(hu:∀op∈u,op.g=g→op.act.touch? =none):∀x,t.size≤x→(t++u).g? x=some g→¬(t++u).counts x:=by
 intro x Z U V;obtain⟨a,W,_⟩:=V;obtain⟨op,K,O⟩:=touch_of W;rcases getElem?_append_cases K with⟨aa,_⟩ | ⟨_,Y⟩
 ·omega
 ·rw [hu op Y (by simpa [Trace.g?,K] using U)] at O;cases O
theorem DK.app(h:DK F N0 t0 N j c φ t){i:Nat}(hi:i<N){x:Nx}{fn:FuncId}{pos:String}{es:Array Event}(aG:j≤F.n)
  (av:deafBehind (D4 (φ i)) es=D4 x)
  (al:∀e∈es,(∀a b,(MemAct.ofEvent e).touch? =some a→Dv a.loc=some b→(b=F.wg∨b=F.ch)→a.kind≠ .plain∧(a.kind= .said→i=if c=true then N0+F.n else 0))∧e.loc≠ .mark (.release F.sA))
  (aw:(i=0∨N0≤i)∨∀e∈es,(MemAct.ofEvent e).touch? =none)
  (am:c=true→(φ (N0+F.n)= .ph .Dw∨EJ (φ (N0+F.n)))→∀k,k<F.n→late (φ (N0+k)))
  (ay:∀k,k<F.n→i=N0+k→late (φ i)→∀ρ,RelBy F.sA t i ρ→RelBy F.sA (t++MemOp.ofEvents i fn pos es) i ρ)
  (az:∀k,k<j→i=N0+k→late x→¬late (φ i)→∃ρ,t0≤ρ∧RelBy F.sA (t++MemOp.ofEvents i fn pos es) i ρ)
  (aA:c=true→i=N0+F.n→(x= .ph .Dw∨EJ x)→(∃q,IG F N0 t0 (t++MemOp.ofEvents i fn pos es) q)∨(φ i= .ph .Dw∨EJ (φ i)))
  (aB:c=true→i=N0+F.n→EJ x→(∃p,Ky F N0 t0 (t++MemOp.ofEvents i fn pos es) p)∨(EJ (φ i)∧∀e∈es,(MemAct.ofEvent e).touch? =none)):
  DK F N0 t0 N j c (upd φ i x) (t++MemOp.ofEvents i fn pos es):=by
 generalize hu:MemOp.ofEvents i fn pos es=u at*;have Y:∀op∈u,op.g=i:=fun op O=>by rw [← hu] at O;obtain⟨e,_,rfl⟩:=mem_ofEvents O;rfl
 have aj:∀op∈u,∃e∈es,op.act=MemAct.ofEvent e:=fun op O=>by rw [← hu] at O;obtain⟨e,he,rfl⟩:=mem_ofEvents O;exact⟨e,he,rfl⟩
 have hold:∀{y a},touchAt (t++u) y=some a→touchAt t y=some a∨(Knows (t++u) i y∧∃e∈es,(MemAct.ofEvent e).touch? =some a):=by
  intro y a U;obtain⟨op,O,ar⟩:=touch_of U;rcases getElem?_append_cases O with⟨aH,aC⟩ | ⟨_,au⟩
  ·left;rw [touchAt_of aC];exact ar
  ·right;obtain⟨e,he,Z⟩:=aj op au;exact⟨by have:=knows_own O;rwa [Y op au] at this,e,he,by rw [← Z];exact ar⟩
 have ak:∀k ρ,k<F.n→late (φ (N0+k))→RelBy F.sA t (N0+k) ρ→RelBy F.sA (t++u) (N0+k) ρ:=by
  intro k ρ K ab W;by_cases e:i=N0+k
  ·have:=ay k K e (e▸ab) ρ (e▸W)
   rwa [e] at this
  ·exact W.appOther Y e
 refine⟨fun aa ae=>?_,fun aa ae=>?_,fun y a b an hb ah K aa ae ai=>?_,fun y a b an hb ah K=>?_,Pu h.over fun op O=>?_,Pe h.norel fun op O e=>?_,by simp;have:=h.Kq;omega,fun k K ab=>?_,fun V U=>?_,fun V U=>?_⟩
 ·by_cases e:aa=i
  ·subst e;rw [upd_same,← hu,Deaf_own,h.deaf aa hi,av]
  ·rw [upd_ne _ _ e,Deaf_other t (Ne.symm e) u Y];exact h.deaf aa ae
 ·rw [Deaf_other t (by omega) u Y];exact h.above aa ae
 ·rcases hold an with q | ⟨_,e,he,ao⟩
  ·exact(h.plain y a b q hb ah K aa ae ai).app _
  ·exact absurd K ((al e he).1 a b ao hb ah).1
 ·rcases hold an with q | ⟨aD,e,he,ao⟩
  ·exact(h.said y a b q hb ah K).app _
  ·rw [← ((al e he).1 a b ao hb ah).2 K];exact aD
 ·rw [Y op O];rcases aw with(q | q) | q
  ·exact .inl q
  ·exact .inr (.inl ⟨q,hi⟩)
  ·obtain⟨e,he,Z⟩:=aj op O;rw [Z];exact .inr (.inr (q e he))
 ·obtain⟨ev,ap,Z⟩:=aj op O;rw [Z] at e;exact(al ev ap).2 (by
   obtain⟨loc,wr,aE⟩:=ev
   cases loc with
   | mark m=>simp only [MemAct.ofEvent,MemAct.mark.injEq] at e;rw [e]
   | obj r=>cases wr <;> cases aE <;> simp [MemAct.ofEvent] at e
   | _=>simp [MemAct.ofEvent] at e)
 ·by_cases e:i=N0+k
  ·subst e;rw [upd_same] at ab;by_cases aq:late (φ (N0+k))
   ·obtain⟨ρ,a,b⟩:=h.rel k K aq;exact⟨ρ,a,ak k ρ (by omega) aq b⟩
   ·exact az k K rfl ab aq
  ·rw [upd_ne _ _ (Ne.symm e)] at ab;obtain⟨ρ,a,b⟩:=h.rel k K ab;exact⟨ρ,a,b.appOther Y e⟩
 ·have old:(φ (N0+F.n)= .ph .Dw∨EJ (φ (N0+F.n)))→∃q,IG F N0 t0 (t++u) q:=by
   intro U;obtain⟨q,aF⟩:=h.acq V U;exact⟨q,aF.app fun k ρ K W=>ak k ρ K (am V U k K) W⟩
  by_cases e:i=N0+F.n
  ·subst e;rw [upd_same] at U;rcases aA V rfl U with q | q
   ·exact q
   ·exact old q
  ·rw [upd_ne _ _ (Ne.symm e)] at U;exact old U
 ·by_cases e:i=N0+F.n
  ·subst e;rw [upd_same] at U;rcases aB V rfl U with q | ⟨q,hm⟩
   ·exact q
   ·obtain⟨p,ai⟩:=h.Jo V q;exact⟨p,ai.app (fun k ρ K W=>ak k ρ K (am V (.inr q) k K) W) (On fun op O _=>by obtain⟨ev,ap,Z⟩:=aj op O;rw [Z];exact hm ev ap)⟩
  ·rw [upd_ne _ _ (Ne.symm e)] at U;obtain⟨p,ai⟩:=h.Jo V U;exact⟨p,ai.app (fun k ρ K W=>ak k ρ K (am V (.inr U) k K) W) (RO Y e)⟩
end
end Pal
namespace Pal
open Go Go.Conc
open Go.ConcN (upd upd_same upd_ne sumTo sumTo_upd sumTo_upd_out sumTo_congr le_sumTo sumTo_le fork_knows RelBy)
section
variable {F:Fam}{N0 t0 N j:Nat}{c:Bool}{φ:Nat→Nx}{t u:Trace}{v wt sm v' wt' sm':Nat}{cl:Bool}
theorem Oy{x:Nx}(h:EJ x):late x:=by
 cases x with
 | gone d=>trivial
 | ph p=>exact h.elim
theorem Ng{α:Type}(f:Nat→α)(i:Nat):upd f i (f i)=f:=by
 funext a;unfold upd;split
 ·rename_i e;rw [e]
 ·rfl
theorem B6.LA(K:B6 F N0 N j c φ v wt sm cl)(O:c=true)(h:φ (N0+F.n)= .ph .Dw∨EJ (φ (N0+F.n))):∀k,k<F.n→late (φ (N0+k)):=fun k U=>
 Oy (K.Ny O (h.elim (fun e=> .inr (.inr (.inr (.inl e)))) fun e=> .inr (.inr (.inr (.inr e)))) k (by rw [K.cj O];exact U))
theorem SO{m:Mark}(K:∀a,m≠ .read a)(O:∀a,m≠ .write a):(MemAct.ofEvent (Fam.Ef m)).touch? =none:=by
 cases m <;> first | rfl | exact absurd rfl (K _) | exact absurd rfl (O _)
theorem QJ(p:Ph){es:Array Event}{nx:Nx}(K:F.act p v wt sm=some ((v',wt',sm'),es,nx)):
  (∀e∈es,EvS F (p= .GO∨∃j,p= .Gk j) e)∧deafBehind (D4 (.ph p)) es=D4 nx∧(∀e∈es,∀B,F.wg<B→(MemAct.ofEvent e).low B):=by
 have am:∀b w,(MemAct.ofEvent ⟨.cell F.sA,w,b⟩).touch? =some ⟨.cell F.sA,w,if b then .atomic else .plain⟩:=by intro b w;cases b <;> cases w <;> rfl
 have Z:∀(a:Addr) w (T:Prop),a.block=F.wg→EvS F T ⟨.cell a,w,true⟩:=by
  intro a w T hb;refine⟨fun x U=>?_,by simp⟩;have:x=⟨.cell a,w,.atomic⟩:=by cases w <;> (simp [MemAct.ofEvent,MemAct.touch?] at U;exact U.symm)
  subst this;exact⟨⟨F.wg,by simp [Dv,hb],.inl rfl⟩,by simp,by simp⟩
 have aa:∀(a:Addr) w B,a.block=F.wg→F.wg<B→(MemAct.ofEvent ⟨.cell a,w,true⟩).low B:=by
  intro a w B hb O;cases w <;> simp [MemAct.ofEvent,MemAct.low,Loc.low,hb,O]
 have Y:∀(m:Mark) (T:Prop),(∀a,m≠ .read a)→(∀a,m≠ .write a)→(∀a,m≠ .release a)→EvS F T (Fam.Ef m):=by
  intro m T aj ak al;exact⟨fun x U=>(by rw [SO aj ak] at U;cases U),fun e=>al _ (Loc.mark.inj e)⟩
 have ab:F.mA.block=F.wg:=rfl;have W:F.sA.block=F.wg:=rfl;have Em:∀(T:Prop),∀e∈semEvents F.mA,EvS F T e:=by
  intro T e he;simp only [semEvents,List.mem_toArray,List.mem_cons,List.not_mem_nil,or_false] at he;rcases he with rfl | rfl | rfl | rfl
  ·exact Y .disable T (by simp) (by simp) (by simp)
  ·exact Z _ _ _ ab
  ·exact Z _ _ _ ab
  ·exact Y .enable T (by simp) (by simp) (by simp)
 have ai:∀e∈semEvents F.mA,∀B,F.wg<B→(MemAct.ofEvent e).low B:=by
  intro e he B O;simp only [semEvents,List.mem_toArray,List.mem_cons,List.not_mem_nil,or_false] at he;rcases he with rfl | rfl | rfl | rfl
  ·trivial
  ·exact aa _ _ _ ab O
  ·exact aa _ _ _ ab O
  ·trivial
 have ae:∀(T:Prop),∀e∈(#[Fam.EM F.sA,Fam.H8 F.sA]:Array Event),EvS F T e:=by
  intro T e he;simp only [List.mem_toArray,List.mem_cons,List.not_mem_nil,or_false] at he;rcases he with rfl | rfl <;> exact Z _ _ _ W
 have ah:∀e∈(#[Fam.EM F.sA,Fam.H8 F.sA]:Array Event),∀B,F.wg<B→(MemAct.ofEvent e).low B:=by
  intro e he B O;simp only [List.mem_toArray,List.mem_cons,List.not_mem_nil,or_false] at he;rcases he with rfl | rfl <;> exact aa _ _ _ W O
 have one:∀{e:Event} {T:Prop},EvS F T e→∀x∈(#[e]:Array Event),EvS F T x:=by
  intro e T h x U;simp at U;subst U;exact h
 have V:∀{e:Event},(∀B,F.wg<B→(MemAct.ofEvent e).low B)→∀x∈(#[e]:Array Event),∀B,F.wg<B→(MemAct.ofEvent x).low B:=by
  intro e h x U;simp at U;subst U;exact h
 cases p <;> simp only [Fam.act] at K <;> (try (cases K;done))
 ·cases K;exact⟨one (Y _ _ (by simp) (by simp) (by simp)),rfl,V fun B O=>O⟩
 ·cases K;exact⟨one (Y _ _ (by simp) (by simp) (by simp)),rfl,V fun B O=>trivial⟩
 ·split at K
  ·cases K;exact⟨ae _,by split <;> rfl,ah⟩
  ·cases K
 ·split at K
  ·cases K;exact⟨one (Z _ _ _ W),rfl,V fun B O=>aa _ _ _ W O⟩
  ·cases K
 ·split at K
  ·cases K;exact⟨one (Z _ _ _ W),rfl,V fun B O=>aa _ _ _ W O⟩
  ·cases K
 ·split at K
  ·cases K;exact⟨Em _,rfl,ai⟩
  ·cases K
 ·cases K;exact⟨one (Y _ _ (by simp) (by simp) (by simp)),rfl,V fun B O=>trivial⟩
 ·split at K
  ·cases K;exact⟨one (Z _ _ _ W),by split <;> rfl,V fun B O=>aa _ _ _ W O⟩
  ·cases K
 ·split at K
  ·split at K
   ·cases K;exact⟨ae _,rfl,ah⟩
   ·cases K;exact⟨one (Z _ _ _ W),rfl,V fun B O=>aa _ _ _ W O⟩
  ·cases K
 ·cases K;refine⟨one ⟨fun x U=>?_,by simp [Fam.Ef]⟩,rfl,V fun B O=>O⟩;simp [Fam.Ef,MemAct.ofEvent,MemAct.touch?] at U;subst U;exact⟨⟨F.wg,rfl,.inl rfl⟩,by simp,fun _=> .inl rfl⟩
 ·split at K
  ·cases K;exact⟨Em _,rfl,ai⟩
  ·cases K
 ·split at K
  ·cases K;exact⟨one (Z _ _ _ W),rfl,V fun B O=>aa _ _ _ W O⟩
  ·cases K
 ·cases K;exact⟨one (Y _ _ (by simp) (by simp) (by simp)),rfl,V fun B O=>trivial⟩
 ·cases K;exact⟨one (Y _ _ (by simp) (by simp) (by simp)),rfl,V fun B O=>O⟩
 ·cases K;exact⟨one (Y _ _ (by simp) (by simp) (by simp)),rfl,V fun B O=>trivial⟩
 ·split at K
  ·cases K;exact⟨ae _,by split <;> rfl,ah⟩
  ·cases K
 ·cases K;refine⟨one ⟨fun x U=>?_,by simp [Fam.Ef]⟩,rfl,V fun B O=>O⟩;simp [Fam.Ef,MemAct.ofEvent,MemAct.touch?] at U;subst U;exact⟨⟨F.wg,rfl,.inl rfl⟩,by simp,fun _=> .inr ⟨_,rfl⟩⟩
 ·cases K;exact⟨one (Y _ _ (by simp) (by simp) (by simp)),rfl,V fun B O=>trivial⟩
 all_goals
  cases K;exact⟨by simp,rfl,by simp⟩
theorem TH(p:Ph){es:Array Event}{nx:Nx}(K:F.act p v wt sm=some ((v',wt',sm'),es,nx)){k:Nat}(hw:Hs F k (.ph p))(O:late (.ph p)):
  ∀m e,es[m]? =some e→(MemAct.ofEvent e).touch? =none∨((∃ad wr,e=⟨.cell ad,wr,true⟩)∧0<deafBehind (D4 (.ph p)) (es.extract 0 m)):=by
 have two:∀m e,(#[Fam.EM F.sA,Fam.H8 F.sA]:Array Event)[m]? =some e→(∃ad wr,e=⟨.cell ad,wr,true⟩)∧0<deafBehind 1 ((#[Fam.EM F.sA,Fam.H8 F.sA]:Array Event).extract 0 m):=by
  intro m e h
  match m with
  | 0=>simp at h;subst h;exact⟨⟨_,_,rfl⟩,by simp [deafBehind]⟩
  | 1=>simp at h;subst h;exact⟨⟨_,_,rfl⟩,by simp [deafBehind,Fam.EM]⟩
  | m+2=>simp at h
 cases p <;> simp only [Hs] at hw <;> (try exact hw.elim) <;> simp only [late] at O <;> (try exact O.elim) <;> simp only [Fam.act] at K <;> (try (cases K;done))
 ·cases K;intro m e h
  match m with
  | 0=>simp at h;subst h;exact .inl rfl
  | m+1=>simp at h
 ·split at K
  ·cases K;exact fun m e h=> .inr (two m e h)
  ·cases K
 ·split at K
  ·cases K;intro m e h
   match m with
   | 0=>simp at h;subst h;exact .inr ⟨⟨_,_,rfl⟩,by simp [deafBehind,D4]⟩
   | m+1=>simp at h
  ·cases K
 ·split at K
  ·cases K;intro m e h
   match m with
   | 0=>simp at h;subst h;exact .inr ⟨⟨_,_,rfl⟩,by simp [deafBehind,D4]⟩
   | m+1=>simp at h
  ·cases K
 ·split at K
  ·cases K;intro m e h
   match m with
   | 0=>simp [semEvents] at h;subst h;exact .inl rfl
   | 1=>simp [semEvents] at h;subst h;exact .inr ⟨⟨_,_,rfl⟩,by simp [deafBehind,D4,semEvents]⟩
   | 2=>simp [semEvents] at h;subst h;exact .inr ⟨⟨_,_,rfl⟩,by simp [deafBehind,D4,semEvents]⟩
   | 3=>simp [semEvents] at h;subst h;exact .inl rfl
   | m+4=>simp [semEvents] at h
  ·cases K
theorem DK.act(h:DK F N0 t0 N j c φ t)(O:B6 F N0 N j c φ v wt sm cl){i:Nat}(hi:i<N){p:Ph}(U:φ i= .ph p){es:Array Event}{nx:Nx}(K:F.act p v wt sm=some ((v',wt',sm'),es,nx))(fn:FuncId)(pos:String):
  DK F N0 t0 N j c (upd φ i nx) (t++MemOp.ofEvents i fn pos es)∧(∀e∈es,EvS F (i=if c=true then N0+F.n else 0) e)∧(i=0∨N0≤i):=by
 obtain⟨ah,al,_⟩:=QJ p K;have aw:=O.size;have am:=O.jn;have an:(p= .GO∨∃j,p= .Gk j)→i=if c=true then N0+F.n else 0:=by
  rintro(rfl | ⟨ay,rfl⟩)
  ·rcases O.Fe hi with rfl | ⟨a,b⟩ | ⟨k,W,rfl⟩ | ⟨V,rfl⟩
   ·obtain⟨q,aa,hm⟩:=O.main;rw [U] at aa;cases aa;exact hm.elim
   ·have:=O.old i a b;rw [U] at this;exact this.elim
   ·have:=O.work k W;rw [U] at this;exact this.elim
   ·rw [if_pos V]
  ·rcases O.Fe hi with rfl | ⟨a,b⟩ | ⟨k,W,rfl⟩ | ⟨V,rfl⟩
   ·obtain⟨q,aa,hm⟩:=O.main;rw [U] at aa;cases aa;obtain⟨_,_,rfl⟩:=hm;rfl
   ·have:=O.old i a b;rw [U] at this;exact this.elim
   ·have:=O.work k W;rw [U] at this;exact this.elim
   ·have:=O.cls V;rw [U] at this;exact this.elim
 have ai:∀e∈es,EvS F (i=if c=true then N0+F.n else 0) e:=fun e he=>⟨fun a ab=>let ⟨x,y,z⟩:=(ah e he).1 a ab;⟨x,y,fun q=>an (z q)⟩,(ah e he).2⟩
 have aj:i=0∨N0≤i:=by
  rcases O.Fe hi with rfl | ⟨a,b⟩ | ⟨k,W,rfl⟩ | ⟨V,rfl⟩
  ·exact .inl rfl
  ·have:=O.old i a b;rw [U] at this;exact this.elim
  ·exact .inr (by omega)
  ·exact .inr (by omega)
 refine⟨h.app hi am (by rw [U];exact al) (fun e he=>⟨fun a b ab hb az=>⟨((ai e he).1 a ab).2.1,((ai e he).1 a ab).2.2⟩,(ah e he).2⟩) (.inl aj) (fun V Y=>O.LA V Y) (fun k W e ae ρ ao=>?_) (fun k W e ae ak=>?_) (fun V e Y=>?_) (fun V e Y=>?_),ai,aj⟩
 ·subst e;rw [U] at ae;refine ao.appOwn fn pos es fun m e he=>?_;have Z:k<j∨(c=true∧F.n=k):=by
   rcases O.Fe hi with q | ⟨a,b⟩ | ⟨k',aA,q⟩ | ⟨V,q⟩
   ·have:=O.pos;omega
   ·omega
   ·left;omega
   ·omega
  rcases Z with Z | ⟨_,q⟩
  ·have hw:=O.work k Z;rw [U] at hw;rw [h.deaf _ hi,U];exact TH p K hw ae m e he
  ·omega
 ·subst e;rw [U] at ak;have hw:=O.work k W;rw [U] at hw;have ap:p= .F3:=by
   cases p <;> simp only [Hs] at hw <;> (try exact hw.elim) <;> simp [late] at ak
   ·simp [Fam.act] at K
   ·rfl
   ·simp only [Fam.act] at K;cases K;exact ae.elim
  subst ap;simp only [Fam.act] at K;cases K;exact⟨t.size,h.Kq,.new (by rw [h.deaf _ hi,U];rfl) fn pos⟩
 ·subst e;left;have hw:=O.cls V;rw [U] at hw;have aq:p= .Gl∧nx= .ph .Dw:=by
   rcases Y with rfl | Y
   ·cases p <;> simp only [G9] at hw <;> (try exact hw.elim) <;> simp only [Fam.act] at K <;> (try (cases K;done))
    ·split at K
     ·split at K <;> cases K
     ·cases K
    ·split at K
     ·split at K <;> cases K
     ·cases K
    ·split at K <;> cases K
    ·split at K <;> cases K
    ·exact⟨rfl,rfl⟩
   ·cases nx with
    | ph q=>exact Y.elim
    | gone d=>
     exfalso;cases p <;> simp only [G9] at hw <;> (try exact hw.elim) <;> simp only [Fam.act] at K <;> (try (cases K;done))
     ·split at K
      ·split at K <;> cases K
      ·cases K
     ·split at K
      ·split at K <;> cases K
      ·cases K
     ·split at K <;> cases K
     ·split at K <;> cases K
  obtain⟨rfl,rfl⟩:=aq;simp only [Fam.act] at K;cases K;have ar:MemOp.ofEvents (N0+F.n) fn pos #[Fam.Ef (.acquire F.sA)]= #[{g:=N0+F.n,fn,pos,act:= .mark (.acquire F.sA)}]:=by rw [ofEvents_eq];simp [Fam.Ef,MemAct.ofEvent]
  rw [ar];have au:(t++ #[({g:=N0+F.n,fn,pos,act:= .mark (.acquire F.sA)}:MemOp)])[t.size]? =some {g:=N0+F.n,fn,pos,act:= .mark (.acquire F.sA)}:=by simp
  refine⟨t.size,by rw [act?_of au],by simp [Trace.g?],⟨N0+F.n,by simp [Trace.g?],by rw [deaf_old (Nat.le_refl _)];have:=h.deaf _ hi;rw [U] at this;exact this⟩,fun k W=>?_⟩;have av:=O.Ny V (.inr (.inr (.inl U)));have Z:k<j:=by rw [O.cj V];exact W
  obtain⟨ρ,a,b⟩:=h.rel k Z (Oy (av k Z));exact⟨ρ,a,lt_of_act? b.act,b.appOther (g:=N0+F.n) (by simp) (by omega)⟩
 ·subst e;exfalso;have hw:=O.cls V;rw [U] at hw;cases nx with
  | ph q=>exact Y.elim
  | gone d=>
   cases p <;> simp only [G9] at hw <;> (try exact hw.elim) <;> simp only [Fam.act] at K <;> (try (cases K;done))
   ·split at K
    ·split at K <;> cases K
    ·cases K
   ·split at K
    ·split at K <;> cases K
    ·cases K
   ·split at K <;> cases K
   ·split at K <;> cases K
theorem DK.C6(h:DK F N0 t0 N j c φ t)(aq:B6 F N0 N j c φ v wt sm cl)(hu:∀op∈u,op.act.touch? =none∧∀m,op.act≠ .mark m):DK F N0 t0 N j c φ (t++u):=by
 have ah:∀g,Deaf (t++u) g=Deaf t g:=by
  intro g;obtain⟨l⟩:=u;rw [Deaf_append]
  induction l generalizing t with
  | nil=>rfl
  | cons y l ar=>
   have U:=(hu y (by simp)).2;have aj:deafStep g (Deaf t g) y=Deaf t g:=by
    unfold deafStep;split <;> first | (rename_i e;exact absurd e (U _)) | rfl
   rw [List.foldl_cons,aj];have key:∀(l:List MemOp) (d:Nat),(∀op∈l,∀m,op.act≠ .mark m)→l.foldl (deafStep g) d=d:=by
    intro l
    induction l with
    | nil=>intro d _;rfl
    | cons z l ak=>
     intro d Y;have al:=Y z (by simp);have e2:deafStep g d z=d:=by
      unfold deafStep;split <;> first | (rename_i e;exact absurd e (al _)) | rfl
     rw [List.foldl_cons,e2];exact ak d fun op K=>Y op (by simp [K])
   exact key l _ fun op K=>(hu op (by simp at K ⊢;exact .inr K)).2
 have hold:∀{y a},touchAt (t++u) y=some a→touchAt t y=some a:=by
  intro y a O;obtain⟨op,K,Z⟩:=touch_of O;rcases getElem?_append_cases K with⟨au,am⟩ | ⟨_,an⟩
  ·rw [touchAt_of am];exact Z
  ·rw [(hu op an).1] at Z;cases Z
 have ai:∀g x,t.size≤x→(t++u).g? x=some g→¬(t++u).counts x:=fun g=>On fun op K _=>(hu op K).1;have V:∀g ρ,RelBy F.sA t g ρ→RelBy F.sA (t++u) g ρ:=fun g ρ V=>V.app fun x O ao=>ai g x O ao;refine⟨fun i hi=>by rw [ah];exact h.deaf i hi,fun i hi=>by rw [ah];exact h.above i hi,fun y a b U hb aa W i hi ab=>(h.plain y a b (hold U) hb aa W i hi ab).app _,fun y a b U hb aa W=>(h.said y a b (hold U) hb aa W).app _,
  Pu h.over fun op K=> .inr (.inr (hu op K).1),Pe h.norel fun op K=>(hu op K).2 _,by simp;have:=h.Kq;omega,fun k W Y=>let ⟨ρ,a,b⟩:=h.rel k W Y;⟨ρ,a,V _ _ b⟩,
  fun ae O=>let ⟨q,ap⟩:=h.acq ae O;⟨q,ap.app fun k ρ _=>V _ ρ⟩,fun ae O=>let ⟨p,ab⟩:=h.Jo ae O;⟨p,ab.app (fun k ρ _=>V _ ρ) (ai _)⟩⟩
theorem DK.US(h:DK F N0 t0 N j c φ t){U:Nat→Nx}(Y:∀i,i<N→D4 (U i)=D4 (φ i))(Z:∀k,k<j→late (U (N0+k))→late (φ (N0+k)))(V:c=true→U (N0+F.n)=φ (N0+F.n)):DK F N0 t0 N j c U t:=
 ⟨fun i hi=>by rw [Y i hi];exact h.deaf i hi,h.above,h.plain,h.said,h.over,h.norel,h.Kq,fun k W K=>h.rel k W (Z k W K),fun O K=>h.acq O (by rwa [V O] at K),fun O K=>h.Jo O (by rwa [V O] at K)⟩
theorem DK.spawn(h:DK F N0 t0 N j c φ t)(Z:B6 F N0 N j c φ v wt sm cl)(am:c=false){W:Nat→Nx}{ae:Nat}{ah:Bool}(an:∀i,i<N→D4 (W i)=D4 (φ i))(ao:D4 (W N)=0)(ap:D4 (φ 0)=0)
  (aq:∀k,k<ae→late (W (N0+k))→k<j∧late (φ (N0+k))) (aa:ah=true→N0+F.n=N∧W (N0+F.n)= .ph .CP)
  {x y:MemOp} (K:x.g=0∧x.act= .go N) (ai:y.g=N∧y.act= .start):DK F N0 t0 (N+1) ae ah W (t++ #[x,y]):=by
 have aj:0<N:=by have:=Z.size;have:=Z.pos;omega
 have hu:∀op∈(#[x,y]:Array MemOp),op.act.touch? =none∧∀m,op.act≠ .mark m:=by
  intro op ak;simp only [List.mem_toArray,List.mem_cons,List.not_mem_nil,or_false] at ak;rcases ak with rfl | rfl
  ·rw [K.2];exact⟨rfl,by simp⟩
  ·rw [ai.2];exact⟨rfl,by simp⟩
 have O:=h.C6 Z hu;have al:∀z,Knows t 0 z→Knows (t++ #[x,y]) N z:=fun z U=>fork_knows K ai (by rw [h.deaf 0 aj];exact ap) (h.above N (Nat.le_refl _)) U;have hold:∀{z a},touchAt (t++ #[x,y]) z=some a→touchAt t z=some a:=by
  intro z a U;obtain⟨op,ar,ab⟩:=touch_of U;rcases getElem?_append_cases ar with⟨aB,au⟩ | ⟨_,av⟩
  ·rw [touchAt_of au];exact ab
  ·rw [(hu op av).1] at ab;cases ab
 refine⟨fun i hi=>?_,fun i hi=>O.above i (by omega),fun z a b U hb Y V i hi aw=>?_,fun z a b U hb Y V=>?_,fun z g ay az aA=>?_,O.norel,O.Kq,fun k V K=>?_,fun e K=>?_,fun e K=>?_⟩
 ·rcases Nat.lt_or_ge i N with q | q
  ·rw [an i q];exact O.deaf i q
  ·obtain rfl:i=N:=by omega
   rw [ao];exact O.above i (Nat.le_refl _)
 ·rcases Nat.lt_or_ge i N with q | q
  ·exact O.plain z a b U hb Y V i q aw
  ·obtain rfl:i=N:=by omega
   exact al z (h.plain z a b (hold U) hb Y V 0 aj (.inl rfl))
 ·have:=h.said z a b (hold U) hb Y V;rw [am] at this;simp only [Bool.false_eq_true,if_false] at this;split
  ·rename_i e;rw [(aa e).1];exact al z this
  ·exact this.app _
 ·rcases O.over z g ay az aA with q | q
  ·exact .inl q
  ·exact .inr ⟨q.1,by omega⟩
 ·obtain⟨a,b⟩:=aq k V K;exact O.rel k a b
 ·have:=(aa e).2;rw [this] at K;rcases K with q | q
  ·cases q
  ·exact q.elim
 ·have:=(aa e).2;rw [this] at K;exact K.elim
end
end Pal
namespace Pal
open Go Go.Conc
open Go.ConcN (upd upd_same upd_ne sumTo sumTo_upd sumTo_upd_out sumTo_congr le_sumTo sumTo_le fork_knows RelBy)
def Dn(N:Nat)(K r:Nat→Rk):Prop:=∃i,i<N∧Rk.sub (K i) (r i)∧∀j,j≠i→K j=r j
theorem Dn.wf:∀N,WellFounded (Dn N)
 | 0=>⟨fun _=>⟨_,fun _ ⟨_,h,_⟩=>by omega⟩⟩
 | N+1=>⟨by
  have key:∀x:Rk,∀r:Nat→Rk,r N=x→Acc (Dn (N+1)) r:=by
   intro x
   induction x using Rk.wf.induction with
   | _ x V=>
    intro r
    induction r using (Dn.wf N).induction with
    | _ r W=>
     intro e
     refine⟨_,fun K ⟨i,hi,hs,O⟩=>?_⟩
     by_cases U:i=N
     ·subst U;exact V (K i) (by rw [← e];exact hs) K rfl
     ·exact W K ⟨i,by omega,hs,O⟩ (by rw [O N (Ne.symm U),e])
  exact fun r=>key _ r rfl⟩
def chain:Nat→Rk
 | 0=> .leaf
 | n+1=> .node fun _=>chain n
theorem S8(n:Nat)(w:World):Rk.sub (chain n) (chain (n+1)):=⟨_,w,rfl,rfl⟩
def Mu:=Nat×(Nat×((Nat→Rk)×Nat))
def Mu.lt(a b:Mu):Prop:=a.1<b.1∨(a.1=b.1∧a.2.1=b.2.1∧(Dn b.2.1 a.2.2.1 b.2.2.1∨(a.2.2.1=b.2.2.1∧a.2.2.2<b.2.2.2)))
theorem Mu.wf:WellFounded Mu.lt:=⟨by
 have key:∀(A:Nat) (N:Nat) (r:Nat→Rk) (B:Nat),Acc Mu.lt (A,N,r,B):=by
  intro A
  induction A using Nat.strongRecOn with
  | _ A Y=>
   intro N r
   induction r using (Dn.wf N).induction with
   | _ r Z=>
    intro B
    induction B using Nat.strongRecOn with
    | _ B aa=>
     refine⟨_,fun⟨ab,ae,U,B'⟩ h=>?_⟩
     rcases h with h | ⟨K,O,h | ⟨V,W⟩⟩
     ·exact Y ab h ae U B'
     ·simp only at K O h;subst K O;exact Z U h B'
     ·simp only at K O V W;subst K O V;exact aa B' W
 exact fun⟨A,N,r,B⟩=>key A N r B⟩
def wt(n:Nat):Nx→Nat
 | .gone _=>0
 | .ph p=>match p with
  | .Cn _=>10 | .CO=>9 | .F3=>8 | .Hy=>7 | .GM=>6 | .F1=>5 | .Gf=>4 | .El=>3
  | .CP=>3*n+25 | .Fq m=>3*m+20 | .GN m=>3*m+19 | .Hi=>14 | .GO=>13 | .Dc=>12 | .Gg=>11 | .Fc=>10 | .Hf=>9 | .Gl=>8 | .Dw=>7
  | .EX j=>5*n+60+20*(n - j) | .Hg j=>5*n+59+20*(n - j) | .GQ j=>5*n+58+20*(n - j) | .Gk j=>5*n+57+20*(n - j) | .FQ j=>5*n+56+20*(n - j) | .EN j=>5*n+55+20*(n - j)
  | .Ft=>5*n+60 | .B7 _ _=>2
theorem Q4{F:Fam}{p:Ph}{v w sm v' w' sm':Nat}{es:Array Event}{nx:Nx}(h:F.act p v w sm=some ((v',w',sm'),es,nx)):wt F.n nx<wt F.n (.ph p):=by
 cases p <;> simp only [Fam.act] at h <;> (try (cases h;done))
 ·cases h;simp [wt]
 ·cases h;simp [wt]
 ·split at h
  ·cases h;split <;> simp [wt]
  ·cases h
 ·split at h
  ·cases h;simp [wt]
  ·cases h
 ·split at h
  ·cases h;simp [wt]
  ·cases h
 ·split at h
  ·cases h;simp [wt]
  ·cases h
 ·cases h;simp [wt]
 ·split at h
  ·cases h;split <;> simp [wt] <;> omega
  ·cases h
 ·split at h
  ·split at h <;> cases h <;> simp [wt] <;> omega
  ·cases h
 ·cases h;simp [wt]
 ·split at h
  ·cases h;simp [wt]
  ·cases h
 ·split at h
  ·cases h;simp [wt]
  ·cases h
 ·cases h;simp [wt]
 ·cases h;simp [wt]
 ·cases h;simp [wt]
 ·split at h
  ·cases h;split <;> simp [wt]
  ·cases h
 ·cases h;simp [wt]
 ·cases h;simp [wt]
 all_goals cases h;simp [wt]
inductive Dl (P:Program) (F:Fam) (main:Bool):Nx→Rk→Bool→Gs_
 | walk {p:Ph} {r:Rk} {g:Goroutine} {s:St}:main=Fam.Dj p→(Fam.DR p=true→s= .quiet)→Jr P main (JQ (Stop P F p)) r g s→Dl P F main (.ph p) r true g s
 | again {K:List Nat} {vs:Lv_} {r:Rk} {g:Goroutine} {s:St} {z:Value}:main=true→Stop P F (.B7 K vs) g s→Dl P F main (.ph (.B7 K vs)) r true {parked g #[rcase F.ch z] (.recv true) with status:= .running} s
 | Fp {K:List Nat} {vs:Lv_} {r:Rk} {g:Goroutine} {s:St} {z:Value}:main=true→Stop P F (.B7 K vs) g s→Dl P F main (.ph (.B7 K vs)) r false (parked g #[rcase F.ch z] (.recv true)) s
 | FM {k:Nat} {r:Rk} {g:Goroutine} {s:St} {v z:Value}:main=false→F.msg k v s.E→s.q=false→Way P false (Stop P F .CO) (served g undef) s→Dl P F main (.ph (.Cn k)) r false (parked g #[scase F.ch v z] .send) s
 | blk {r:Rk} {g:Goroutine} {s:St}:main=false→Stop P F .Dc g s→Dl P F main (.ph .Dc) r false {g with status:= .blocked} s
 | gone {q d:Nat} {g:Goroutine}:main=false→QuitsD P q d g→Dl P F main (.gone d) (chain q) true g .quiet
section
variable {P:Program}{F:Fam}{main:Bool}
theorem Jr.running{p:Ph}{r:Rk}{g:Goroutine}{s:St}(h:Jr P main (JQ (Stop P F p)) r g s):g.status= .running:=by
 cases r with
 | leaf=>obtain⟨s₀,_,hs⟩:=h;exact hs.law.run
 | node f=>
  rcases h with⟨s₀,_,hs⟩ | ⟨K,_⟩
  ·exact hs.law.run
  ·exact K
theorem Jr.at_{Q:GP}{r:Rk}{g:Goroutine}{s:St}(h:Q g s):Jr P main Q r g s:=by
 cases r with
 | leaf=>exact h
 | node f=>exact .inl h
theorem Dl.awake{x:Nx}{r:Rk}{b:Bool}{g:Goroutine}{s:St}(h:Dl P F main x r b g s):Go.Conc.awake g:=by
 cases h with
 | walk _ _ K=>exact awake_of (.inl K.running)
 | again _ _=>exact awake_of (.inl rfl)
 | Fp _ _=>exact awake_of (.inr (.inl rfl))
 | FM _ _ _ _=>exact awake_of (.inr (.inl rfl))
 | blk _ _=>exact awake_of (.inr (.inl rfl))
 | gone _ O=>exact awake_of (O.status.elim .inl fun x=> .inr (.inr x))
theorem R0{g:Goroutine}(h:g.status= .running):{({g with status:= .blocked}:Goroutine) with status:= .running}=g:=by
 obtain⟨a,b,c,d,e⟩:=g;simp only at h;subst h;rfl
theorem Dl.woken{x:Nx}{r:Rk}{b:Bool}{o:Goroutine}{s:St}(h:Dl P F main x r b o s){g g':Goroutine}{w':World}{cl:Bool}{k:Nat}(W:F.ChanAt w' cl k)(aj:cl=true→∀k,x≠ .ph (.Cn k)):
  ∃Y,Dl P F main x r Y (Go.Conc.woken P g g' w' o) s∧(b=true→Y=true)∧(mayWake P g=true→g'.status= .running→(x= .ph .Dc∨cl=true)→Y=true):=by
 have hw:∀(o:Goroutine),mayWake P g=true→g'.status= .running→Go.Conc.woken P g g' w' o=o.again w':=by
  intro o K U;unfold Go.Conc.woken;rw [if_pos (by simp [K,U])]
 have V:∀(o:Goroutine),Go.Conc.woken P g g' w' o=o.again w'∨Go.Conc.woken P g g' w' o=o:=by
  intro o;unfold Go.Conc.woken;split
  ·exact .inl rfl
  ·exact .inr rfl
 cases h with
 | walk K U Z=>exact⟨true,by rw [woken_run Z.running];exact .walk K U Z,fun _=>rfl,fun _ _ _=>rfl⟩
 | again K hs=>exact⟨true,by rw [woken_run rfl];exact .again K hs,fun _=>rfl,fun _ _ _=>rfl⟩
 | @Fp al vs _ go _ z K hs=>
  cases cl with
  | false=>
   have:=again_recv_open (g:=go) (z:=z) (sh:= .recv true) (w:=w') W;rcases V (parked go #[rcase F.ch z] (.recv true)) with e | e
   ·exact⟨false,by rw [e,this];exact .Fp K hs,fun e=>e,fun _ _ h=>by simp at h⟩
   ·exact⟨false,by rw [e];exact .Fp K hs,fun e=>e,fun _ _ h=>by simp at h⟩
  | true=>
   have:=again_recv_closed (g:=go) (z:=z) (sh:= .recv true) (w:=w') W;by_cases O:mayWake P g=true∧g'.status= .running
   ·exact⟨true,by rw [hw _ O.1 O.2,this];exact .again K hs,fun e=>rfl,fun _ _ _=>rfl⟩
   ·rcases V (parked go #[rcase F.ch z] (.recv true)) with e | e
    ·exact⟨true,by rw [e,this];exact .again K hs,fun _=>rfl,fun a b=>absurd ⟨a,b⟩ O⟩
    ·exact⟨false,by rw [e];exact .Fp K hs,fun e=>e,fun a b=>absurd ⟨a,b⟩ O⟩
 | @FM k' _ go _ v z K U aa ab=>
  cases cl with
  | true=>exact absurd rfl (aj rfl k')
  | false=>
   have:=again_send_open (g:=go) (v:=v) (z:=z) (sh:= .send) (w:=w') W;rcases V (parked go #[scase F.ch v z] .send) with e | e
   ·exact⟨false,by rw [e,this];exact .FM K U aa ab,fun e=>e,fun _ _ h=>by simp at h⟩
   ·exact⟨false,by rw [e];exact .FM K U aa ab,fun e=>e,fun _ _ h=>by simp at h⟩
 | @blk _ go _ K hs=>
  have ae:({go with status:= .blocked}:Goroutine).again w'=go:=by
   have:=hs.law.offers;have ak:({go with status:= .blocked}:Goroutine).again w'={({go with status:= .blocked}:Goroutine) with status:= .running}:=by simp [Goroutine.again,this]
   rw [ak];exact R0 hs.law.run
  have ah:Dl P F main (.ph .Dc) r true go s:= .walk (p:= .Dc) (by rw [K];rfl) (by simp [Fam.DR]) (Jr.at_ ⟨s,.refl _,hs⟩);by_cases O:mayWake P g=true∧g'.status= .running
  ·exact⟨true,by rw [hw _ O.1 O.2,ae];exact ah,fun _=>rfl,fun _ _ _=>rfl⟩
  ·rcases V ({go with status:= .blocked}:Goroutine) with e | e
   ·exact⟨true,by rw [e,ae];exact ah,fun _=>rfl,fun a b=>absurd ⟨a,b⟩ O⟩
   ·exact⟨false,by rw [e];exact .blk K hs,fun e=>e,fun a b=>absurd ⟨a,b⟩ O⟩
 | gone K ai=>exact⟨true,by rw [woken_quitsD ai];exact .gone K ai,fun _=>rfl,fun _ _ _=>rfl⟩
end
structure Base where
 N0:Nat
 t0:Nat
 E0:LH
 w0:World
structure Inv (P:Program) (F:Fam) (B:Base) (gs:Array Goroutine) (w:World) (t:Trace) (φ:Nat→Nx) (r:Nat→Rk) (bt:Nat→Bool) (S:Nat→St) (Sh:Nat→Prop) (j:Nat) (c:Bool) (v wt sm:Nat) (cl:Bool) (k:Nat):Prop where
 Bp:B6 F B.N0 gs.size j c φ v wt sm cl
 Ek:DK F B.N0 B.t0 gs.size j c φ t
 Ep:∀i g,gs[i]? =some g→Dl P F (i==0) (φ i) (r i) (bt i) g (S i)
 CE:B8 t w gs.size S Sh
 HB:Sh F.wg
 F8:Sh F.ch
 ne:F.wg≠F.ch
 wg:F.WG w v wt sm
 GU:F.ChanAt w cl k
 Mz:bt 0=false→cl=false∧∀i k',i<gs.size→φ i= .ph (.Cn k')→bt i=true
 blk:c=true→bt (B.N0+F.n)=false→sm=0
 le:Le B.E0 (S 0).E
 tape:w.tape=B.w0.tape
 os:w.os=B.w0.os
 output:w.output=B.w0.output
def bit(b:Bool):Nat:=if b then 1 else 0
def mu(F:Fam)(N:Nat)(φ:Nat→Nx)(r:Nat→Rk)(bt:Nat→Bool):Mu:=(sumTo N fun i=>wt F.n (φ i),N,r,sumTo N fun i=>bit (bt i))
section
variable {P:Program}{F:Fam}{B:Base}{gs:Array Goroutine}{w w':World}{t:Trace}{φ:Nat→Nx}{r:Nat→Rk}{bt:Nat→Bool}{S:Nat→St}{Sh:Nat→Prop}{j:Nat}{c:Bool}{v wt' sm v₁ wt₁ sm₁:Nat}{cl cl₁:Bool}{k k₁:Nat}
theorem Inv.at_(h:Inv P F B gs w t φ r bt S Sh j c v wt' sm cl k)(d:Nat):Inv P F B gs (w.at d) t φ r bt S Sh j c v wt' sm cl k:=
 have K:B8 t (w.at d) gs.size S Sh:=by
  have:=h.CE.mute (u:= #[]) (w':=w.at d) (g:=0) (by simp) (by simp) (by simp) rfl;simpa using this
 {h with CE:=K}
theorem Inv.go(h:Inv P F B gs w t φ r bt S Sh j c v wt' sm cl k){i:Nat}{g g':Goroutine}{es:Array Event}{x:Nx}{ρ:Rk}{s':St}(hi:gs[i]? =some g)
  (ao:B6 F B.N0 gs.size j c (upd φ i x) v₁ wt₁ sm₁ cl₁)
  (ap:DK F B.N0 B.t0 gs.size j c (upd φ i x) (t++MemOp.ofEvents i g.frame.fn g.frame.place es))
  (aq:Dl P F (i==0) x ρ true g' s')
  (hC:B8 (t++MemOp.ofEvents i g.frame.fn g.frame.place es) w' gs.size (upd S i s') Sh)
  (ar:F.WG w' v₁ wt₁ sm₁) (ai:F.ChanAt w' cl₁ k₁)
  (au:cl₁=cl∨(mayWake P g=true∧g'.status= .running))
  (av:cl₁=true→∀aj k',aj<gs.size→φ aj≠ .ph (.Cn k'))
  (aw:sm₁=sm∨sm₁=0∨(mayWake P g=true∧g'.status= .running∧φ (B.N0+F.n)= .ph .Dc)∨(c=true→bt (B.N0+F.n)=true))
  (ay:i=0→Le (S 0).E s'.E) (az:w'.tape=w.tape) (aA:w'.os=w.os) (aB:w'.output=w.output) (aL:∀k',x= .ph (.Cn k')→φ i= .ph (.Cn k')):
  ∃O,Inv P F B ((gs.map (woken P g g' w')).setIfInBounds i g') w' (t++MemOp.ofEvents i g.frame.fn g.frame.place es) (upd φ i x) (upd r i ρ) O (upd S i s') Sh j c v₁ wt₁ sm₁ cl₁ k₁:=by
 have aC:i<gs.size:=(Array.getElem?_eq_some_iff.1 hi).1;have Z:((gs.map (woken P g g' w')).setIfInBounds i g').size=gs.size:=by simp
 have ak:∀a,∃Y,(a=i→Y=true)∧(a≠i→∀o,gs[a]? =some o→Dl P F (a==0) (φ a) (r a) Y (woken P g g' w' o) (S a)∧(bt a=true→Y=true)∧(mayWake P g=true→g'.status= .running→(φ a= .ph .Dc∨cl₁=true)→Y=true)):=by
  intro a;by_cases e:a=i
  ·exact⟨true,fun _=>rfl,fun q=>absurd e q⟩
  ·cases K:gs[a]? with
   | none=>exact⟨true,fun _=>rfl,fun _ o q=>by cases q⟩
   | some o=>
    have V:a<gs.size:=(Array.getElem?_eq_some_iff.1 K).1;obtain⟨Y,aD,aE,aF⟩:=(h.Ep a o K).woken (g:=g) (g':=g') ai fun q k'=>av q a k' V;exact⟨Y,fun q=>absurd q e,fun _ o' q=>by cases q;exact⟨aD,aE,aF⟩⟩
 let O:Nat→Bool:=fun a=>Classical.choose (ak a);have hb:∀a,(a=i→O a=true)∧(a≠i→∀o,gs[a]? =some o→Dl P F (a==0) (φ a) (r a) (O a) (woken P g g' w' o) (S a)∧(bt a=true→O a=true)∧(mayWake P g=true→g'.status= .running→(φ a= .ph .Dc∨cl₁=true)→O a=true)):=fun a=>Classical.choose_spec (ak a);have aa:∀a,a<gs.size→bt a=true→O a=true:=by
  intro a V aG;by_cases e:a=i
  ·exact(hb a).1 e
  ·exact((hb a).2 e _ (Array.getElem?_eq_getElem V)).2.1 aG
 refine⟨O,by rw [Z];exact ao,by rw [Z];exact ap,fun a o K=>?_,by rw [Z];exact hC,h.HB,h.F8,h.ne,ar,ai,fun U=>⟨?_,fun a k' V al=>?_⟩,fun ab U=>?_,fun b o K=>?_,az.trans h.tape,aA.trans h.os,aB.trans h.output⟩
 ·by_cases e:a=i
  ·subst e;rw [Array.getElem?_setIfInBounds_self_of_lt (by simpa using aC)] at K;obtain rfl:=Option.some.inj K;rw [upd_same,upd_same,upd_same,(hb a).1 rfl];exact aq
  ·rw [Array.getElem?_setIfInBounds_ne (Ne.symm e),Array.getElem?_map] at K;obtain⟨o',aH,rfl⟩:=Option.map_eq_some_iff.1 K;rw [upd_ne _ _ e,upd_ne _ _ e,upd_ne _ _ e];exact((hb a).2 e o' aH).1
 ·have ae:0<gs.size:=by omega
  have aI:0≠i:=fun e=>by have:=(hb 0).1 e;rw [U] at this;cases this
  have W:bt 0=false:=by
   cases q:bt 0 with
   | false=>rfl
   | true=>have:=aa 0 ae q;rw [U] at this;cases this
  cases am:cl₁ with
  | false=>rfl
  | true=>
   rcases au with e | ⟨ah,e2⟩
   ·have:=(h.Mz W).1;rw [← e,am] at this;cases this
   ·have:=((hb 0).2 aI _ (Array.getElem?_eq_getElem ae)).2.2 ah e2 (.inr am);rw [U] at this;cases this
 ·rw [Z] at V;have ae:0<gs.size:=by omega
  have W:bt 0=false:=by
   cases q:bt 0 with
   | false=>rfl
   | true=>have:=aa 0 ae q;rw [U] at this;cases this
  by_cases e:a=i
  ·exact(hb a).1 e
  ·rw [upd_ne _ _ e] at al;exact aa a V ((h.Mz W).2 a k' V al)
 ·have an:B.N0+F.n<gs.size:=by have:=h.Bp.size;have:=h.Bp.cj ab;rw [ab] at*;simp at*;omega
  have aJ:B.N0+F.n≠i:=fun e=>by have:=(hb _).1 e;rw [U] at this;cases this
  have W:bt (B.N0+F.n)=false:=by
   cases q:bt (B.N0+F.n) with
   | false=>rfl
   | true=>have:=aa _ an q;rw [U] at this;cases this
  rcases aw with e | e | ⟨ah,e2,aK⟩ | e
  ·rw [e];exact h.blk ab W
  ·exact e
  ·have:=((hb _).2 aJ _ (Array.getElem?_eq_getElem an)).2.2 ah e2 (.inl aK);rw [U] at this;cases this
  ·rw [e ab] at W;cases W
 ·by_cases e:i=0
  ·subst e;rw [upd_same];exact ay rfl b o (h.le b o K)
  ·rw [upd_ne _ _ (Ne.symm e)];exact h.le b o K
end
end Pal
namespace Pal
open Go Go.Conc
open Go.ConcN (upd upd_same upd_ne sumTo sumTo_upd sumTo_upd_out sumTo_congr le_sumTo sumTo_le fork_knows RelBy)
def Over(P:Program)(F:Fam)(B:Base)(gs:Array Goroutine)(w:World)(t:Trace):Prop:=
 ∃q Sh g s,F5 P gs w t q Sh g s∧F.fin g s∧Le B.E0 s.E∧w.tape=B.w0.tape∧w.os=B.w0.os∧w.output=B.w0.output
def Hd(P:Program)(F:Fam)(B:Base)(gs:Array Goroutine)(w:World)(sl:Option (Nat×Nat))(t:Trace)(i:Nat)(K:Mu):Prop:=
 ∃gs' w' O u,runT P (crowd gs w sl) i=(.next (crowd gs' w' O),u)∧
  ((∃φ r bt S Sh j c v wt' sm cl k,Inv P F B gs' w' (t++u) φ r bt S Sh j c v wt' sm cl k∧Mu.lt (mu F gs'.size φ r bt) K)∨Over P F B gs' w' (t++u))
section
variable {P:Program}{F:Fam}{B:Base}{gs:Array Goroutine}{w w':World}{sl:Option (Nat×Nat)}{t:Trace}{φ:Nat→Nx}{r:Nat→Rk}{bt:Nat→Bool}{S:Nat→St}{Sh:Nat→Prop}{j:Nat}{c:Bool}{v wt' sm v₁ wt₁ sm₁:Nat}{cl cl₁:Bool}{k k₁:Nat}
theorem Ru{N:Nat}{φ K:Nat→Nx}{r U:Nat→Rk}{b V:Nat→Bool}{O:Nat}(h:(sumTo O fun i=>wt F.n (K i))<sumTo N fun i=>wt F.n (φ i)):Mu.lt (mu F O K U V) (mu F N φ r b):= .inl h
theorem VX{N i:Nat}{x:Nx}{ρ:Rk}{K:Nat→Bool}(hi:i<N)(h:wt F.n x<wt F.n (φ i)∨(wt F.n x=wt F.n (φ i)∧Rk.sub ρ (r i))):Mu.lt (mu F N (upd φ i x) (upd r i ρ) K) (mu F N φ r bt):=by
 have:=sumTo_upd φ x (wt F.n) hi;rcases h with h | ⟨V,O⟩
 ·exact .inl (by show(sumTo N fun a=>wt F.n (upd φ i x a))<sumTo N fun a=>wt F.n (φ a);omega)
 ·exact .inr ⟨by show(sumTo N fun a=>wt F.n (upd φ i x a))=sumTo N fun a=>wt F.n (φ a);omega,rfl,.inl ⟨i,hi,by show Rk.sub (upd r i ρ i) _;rw [upd_same];exact O,fun a U=>upd_ne _ _ U⟩⟩
theorem Inv.go'(h:Inv P F B gs w t φ r bt S Sh j c v wt' sm cl k){i:Nat}{g g':Goroutine}{es:Array Event}{x:Nx}{ρ:Rk}{s':St}(hi:gs[i]? =some g)(O:stepG P (i==0) g w= .go g' w' es)
  (U:B6 F B.N0 gs.size j c (upd φ i x) v₁ wt₁ sm₁ cl₁)
  (V:DK F B.N0 B.t0 gs.size j c (upd φ i x) (t++MemOp.ofEvents i g.frame.fn g.frame.place es))
  (W:Dl P F (i==0) x ρ true g' s')
  (hC:B8 (t++MemOp.ofEvents i g.frame.fn g.frame.place es) w' gs.size (upd S i s') Sh)
  (Y:F.WG w' v₁ wt₁ sm₁) (Z:F.ChanAt w' cl₁ k₁)
  (aa:cl₁=cl∨(mayWake P g=true∧g'.status= .running))
  (ab:cl₁=true→∀K k',K<gs.size→φ K≠ .ph (.Cn k'))
  (ae:sm₁=sm∨sm₁=0∨(mayWake P g=true∧g'.status= .running∧φ (B.N0+F.n)= .ph .Dc)∨(c=true→bt (B.N0+F.n)=true))
  (ah:i=0→Le (S 0).E s'.E) (ai:w'.tape=w.tape) (aj:w'.os=w.os) (ak:w'.output=w.output) (al:∀k',x= .ph (.Cn k')→φ i= .ph (.Cn k'))
  (hm:wt F.n x<wt F.n (φ i)∨(wt F.n x=wt F.n (φ i)∧Rk.sub ρ (r i))):Hd P F B gs w sl t i (mu F gs.size φ r bt):=by
 obtain⟨ao,am⟩:=h.go hi U V W hC Y Z aa ab ae ah ai aj ak al;refine⟨_,_,_,_,runT_crowd_go hi O,.inl ⟨_,_,_,_,_,_,_,_,_,_,_,_,am,?_⟩⟩;have an:((gs.map (woken P g g' w')).setIfInBounds i g').size=gs.size:=by simp
 rw [an];exact VX (Array.getElem?_eq_some_iff.1 hi).1 hm
theorem Inv.noSend(h:Inv P F B gs w t φ r bt S Sh j c v wt' sm cl k)(W:cl=true):∀K k',K<gs.size→φ K≠ .ph (.Cn k'):=by
 intro K k' U e;have hm:=h.Bp.mode;subst W;have Y:v=0:=by
  split at hm
  ·cases V:φ (B.N0+F.n) with
   | gone d=>rw [V] at hm;exact hm.2.2.2.2.1
   | ph p=>rw [V] at hm;cases p <;> simp [CN] at hm
  ·simp [CN] at hm
 have Z:=h.Bp.cnt;have:=le_sumTo (f:=fun a=>cU (φ a)) U;simp only [e,cU] at this;have aa:(sumTo gs.size fun a=>cU (φ a))=0:=by omega
 have O:cU (φ K)≤sumTo gs.size fun a=>cU (φ a):=le_sumTo (f:=fun a=>cU (φ a)) U;rw [e] at O;simp only [cU] at O;have ab:1≤sumTo gs.size fun a=>cU (φ a):=O;omega
theorem DK.Uq{F:Fam}{N0 t0 N j:Nat}{c:Bool}{φ:Nat→Nx}{t:Trace}(h:DK F N0 t0 N j c φ t)(K:B6 F N0 N j c φ v wt' sm cl){i:Nat}(hi:i<N){fn:FuncId}{pos:String}{es:Array Event}{p:Ph}(V:φ i= .ph p)
  (W:∀e∈es,(∀a b,(MemAct.ofEvent e).touch? =some a→Dv a.loc=some b→b≠F.wg∧b≠F.ch)∧e.loc≠ .mark (.release F.sA)∧e.loc≠ .mark .disable∧e.loc≠ .mark .enable)
  (aa:Fam.DR p=true→es= #[]):DK F N0 t0 N j c φ (t++MemOp.ofEvents i fn pos es):=by
 have ab:i=0∨N0≤i:=by
  rcases K.Fe hi with rfl | ⟨a,b⟩ | ⟨k,Z,rfl⟩ | ⟨U,rfl⟩
  ·exact .inl rfl
  ·have:=K.old i a b;rw [V] at this;exact this.elim
  ·exact .inr (by omega)
  ·exact .inr (by omega)
 have:=h.app (x:=φ i) (fn:=fn) (pos:=pos) (es:=es) hi K.jn (deafBehind_still (fun e he=>⟨(W e he).2.2.1,(W e he).2.2.2⟩) _) (fun e he=>⟨fun a b ae hb ah=>absurd ah (by have:=(W e he).1 a b ae hb;rintro(q | q);exact this.1 q;exact this.2 q),(W e he).2.1⟩) (.inl ab)
  (fun U O=>K.LA U O) (fun k Z e Y ρ ai=>?_) (fun k Z e Y aj=>absurd Y aj) (fun U e O=> .inr O) (fun U e O=>by rw [V] at O;exact O.elim)
 ·rwa [Ng] at this
 ·
  have al:=K.size;have am:=K.jn;have ak:k<j:=by
   rcases K.Fe hi with q | ⟨a,b⟩ | ⟨k',an,q⟩ | ⟨U,q⟩
   ·have:=K.pos;omega
   ·omega
   ·omega
   ·omega
  have hw:=K.work k ak;rw [← e,V] at hw;rw [V] at Y;have:es= #[]:=aa (by cases p <;> simp only [Hs] at hw <;> (try exact hw.elim) <;> first | rfl | exact Y.elim)
  subst this;have:MemOp.ofEvents i fn pos #[]= #[]:=by rw [ofEvents_eq];simp
  rw [this];simpa using ai
theorem Inv.own(h:Inv P F B gs w t φ r bt S Sh j c v wt' sm cl k){i:Nat}{g g':Goroutine}{es:Array Event}{p:Ph}{ρ:Rk}{s':St}(hi:gs[i]? =some g)(O:φ i= .ph p)(ae:(i==0)=Fam.Dj p)(Z:Fam.DR p=true→S i= .quiet)
  (ah:stepG P (i==0) g w= .go g' w' es) (ai:Jr P (i==0) (JQ (Stop P F p)) ρ g' s') (aj:Fits s' w') (K:Fr (S i) w s' w') (V:∀e∈es,Ev (S i) w w' e) (aa:S i= .quiet→s'= .quiet∧w'=w∧es= #[]) (ak:Rk.sub ρ (r i)):
  Hd P F B gs w sl t i (mu F gs.size φ r bt):=by
 have U:i<gs.size:=(Array.getElem?_eq_some_iff.1 hi).1;have ab:upd φ i (.ph p)=φ:=by rw [← O];exact Ng _ _
 have W:=h.CE.sh i U F.wg h.HB;have Y:=h.CE.sh i U F.ch h.F8;have al:=h.CE.EZ F.wg h.HB;have am:=h.CE.EZ F.ch h.F8;have an:∀b wr,FI (S i) w w' b wr→b≠F.wg∧b≠F.ch:=by
  intro b wr ht;constructor
  ·rintro rfl;rcases ht.2 with q | q | ⟨q,_⟩
   ·exact q W.1
   ·omega
   ·exact q W.2
  ·rintro rfl;rcases ht.2 with q | q | ⟨q,_⟩
   ·exact q Y.1
   ·omega
   ·exact q Y.2
 refine h.go' hi ah (k₁:=k) (x:= .ph p) (ρ:=ρ) (s':=s') (by rw [ab];exact h.Bp) (by
   rw [ab]
   refine h.Ek.Uq h.Bp U O (fun e he=>⟨fun a b ao hb=>an b a.write (Lx (V e he) ao hb),?_,?_,?_⟩) fun q=>(aa (Z q)).2.2
   all_goals
    intro ap
    have:=V e he
    unfold Ev at this
    rw [ap] at this
    exact this)
  (.walk ae (fun q=>(aa (Z q)).1) ai) (h.CE.own U aj K V) ?_ ?_ (.inl rfl) (fun q=>h.noSend q) (.inl rfl) (fun e=>by subst e;exact fun b o aq=>K.ext b o aq) K.tape K.os K.output (fun k' e=>by rw [O];exact e) (.inr ⟨by rw [O],ak⟩)
 ·show w'.heap[F.wg]? =_;rw [K.keep _ al W.1];exact h.wg
 ·show w'.heap[F.ch]? =_;rw [K.keep _ am Y.1];exact h.GU
theorem Inv.slip(h:Inv P F B gs w t φ r bt S Sh j c v wt' sm cl k){i:Nat}{g:Goroutine}(hi:gs[i]? =some g)(U:g.status= .running){d q:Nat}(K:φ i= .gone d)(V:r i=chain q)(W:(i==0)=false)(aa:QuitsD P q d g)(aj:S i= .quiet):
  Hd P F B gs w sl t i (mu F gs.size φ r bt):=by
 have ab:i<gs.size:=(Array.getElem?_eq_some_iff.1 hi).1;cases q with
 | zero=>rw [aa.1] at U;cases U
 | succ q=>
  rcases aa with⟨ak,_⟩ | ⟨_,g',es,hm,al,am⟩
  ·rw [ak] at U;cases U
  have an:∀op∈MemOp.ofEvents i g.frame.fn g.frame.place es,op.act.touch? =none:=fun op O=>by obtain⟨e,he,rfl⟩:=mem_ofEvents O;exact touch_mute (hm e he)
  have ao:∀e∈es,e.loc≠ .mark (.release F.sA):=by
   intro e he ae;have:=hm e he;obtain⟨loc,wr,au⟩:=e;simp only at ae;subst ae;simp [Event.mute] at this
  refine h.go' hi (by rw [W];exact al w) (x:= .gone (deafBehind d es)) (ρ:=chain q) (s':= .quiet) (h.Bp.leave ab K) ?_ (.gone W am) ?_ h.wg h.GU (.inl rfl) (fun q=>h.noSend q) (.inl rfl) (fun e=>by subst e;simp at W) rfl rfl rfl (by simp) (.inr ⟨by rw [K];rfl,by rw [V];exact S8 q w⟩)
  ·refine h.Ek.app ab h.Bp.jn (by rw [K];rfl) (fun e he=>⟨fun a b ah=>(by rw [touch_mute (hm e he)] at ah;cases ah),ao e he⟩) (.inr fun e he=>touch_mute (hm e he)) (fun Y Z=>h.Bp.LA Y Z) (fun k ap e aq ρ V=>?_) (fun k ap e aq ai=>by rw [K] at ai;exact absurd trivial ai) (fun Y e Z=> .inr (.inr (by rw [K];trivial))) (fun Y e Z=> .inr ⟨by rw [K];trivial,fun e he=>touch_mute (hm e he)⟩);exact V.appOwn _ _ es fun m e he=> .inl (touch_mute (hm e (Array.mem_of_getElem? he)))
  ·have ar:upd S i .quiet=S:=by rw [← aj];exact Ng _ _
   rw [ar];exact h.CE.mute (g:=i) (fun op O=>by obtain⟨e,_,rfl⟩:=mem_ofEvents O;rfl) an (fun op O=>by obtain⟨e,he,rfl⟩:=mem_ofEvents O;exact low_mute (hm e he) _) rfl
theorem B6.enabled{N0 N:Nat}(h:B6 F N0 N j c φ v wt' sm cl){i:Nat}(hi:i<N){p:Ph}(K:φ i= .ph p)(al:∀k,p≠ .Cn k)(am:∀k,p≠ .EN k)(an:p≠ .Ft)(ao:∀ap vs,p≠ .B7 ap vs)(aq:p≠ .Dw)(ar:p= .Dc→sm=1):
  ∃v' w' sm' es nx,F.act p v wt' sm=some ((v',w',sm'),es,nx):=by
 have hm:=h.mode;have ay:=h.RA;have az:=h.H9;have O:=h.cnt;have Y:cU (φ i)≤sumTo N fun a=>cU (φ a):=le_sumTo (f:=fun a=>cU (φ a)) hi;have Z:cL (φ i)≤sumTo N fun a=>cL (φ a):=le_sumTo (f:=fun a=>cL (φ a)) hi;have ah:cS (φ i)≤sumTo N fun a=>cS (φ a):=le_sumTo (f:=fun a=>cS (φ a)) hi;rw [K] at Y Z ah;have au:wt'≤1:=by
  generalize (if c=true then φ (N0+F.n) else Nx.ph .CP)=y at hm
  cases y with
  | gone d=>simp only [CN] at hm;omega
  | ph q=>cases q <;> simp only [CN] at hm <;> (try exact hm.elim) <;> omega
 have aa:1≤(sumTo N fun a=>cL (φ a))+(sumTo N fun a=>cS (φ a))→v=0∧sm=0∧wt'=sumTo N fun a=>cL (φ a):=by
  intro hh;generalize (if c=true then φ (N0+F.n) else Nx.ph .CP)=y at hm
  cases y with
  | gone d=>simp only [CN] at hm;omega
  | ph q=>cases q <;> simp only [CN] at hm <;> (try exact hm.elim) <;> omega
 have ab:∀x,φ i= .ph x→G9 (.ph x)→c=true∧(if c=true then φ (N0+F.n) else Nx.ph .CP)= .ph x:=by
  intro x V ai;rcases h.Fe hi with rfl | ⟨a,b⟩ | ⟨k,ae,rfl⟩ | ⟨O,rfl⟩
  ·obtain⟨q,U,W⟩:=h.main;rw [V] at U;cases U;cases x <;> simp [G5] at W <;> exact ai.elim
  ·have:=h.old i a b;rw [V] at this;exact this.elim
  ·have:=h.work k ae;rw [V] at this;cases x <;> simp [Hs] at this <;> exact ai.elim
  ·exact⟨O,by rw [if_pos O];exact V⟩
 cases p <;> simp only [Fam.act]
 ·exact absurd rfl (al _)
 ·exact⟨_,_,_,_,_,rfl⟩
 ·exact⟨_,_,_,_,_,rfl⟩
 ·simp only [cU] at Y;have:1≤v:=by
   have aA:1≤sumTo N fun a=>cU (φ a):=Y;omega
  rw [if_pos ⟨this,by omega,au⟩];exact⟨_,_,_,_,_,rfl⟩
 ·have av:1≤sumTo N fun a=>cL (φ a):=Z;have:=aa (by omega);rw [if_pos ⟨this.1,by omega⟩];exact⟨_,_,_,_,_,rfl⟩
 ·have av:1≤sumTo N fun a=>cL (φ a):=Z;have:=aa (by omega);rw [if_pos ⟨this.1,by omega⟩];exact⟨_,_,_,_,_,rfl⟩
 ·have aB:1≤sumTo N fun a=>cS (φ a):=ah;have:=aa (by omega);rw [if_pos this.2.1];exact⟨_,_,_,_,_,rfl⟩
 ·exact⟨_,_,_,_,_,rfl⟩
 ·obtain⟨aj,e⟩:=ab _ K trivial;rw [e] at hm;rw [if_pos ⟨hm.2.2.2.2.2,hm.2.2.2.1⟩];exact⟨_,_,_,_,_,rfl⟩
 ·obtain⟨aj,e⟩:=ab _ K trivial;rw [e] at hm;rw [if_pos ⟨hm.2.2.2.2.2.1,hm.2.2.2.2.2.2,hm.2.2.2.1⟩];split <;> exact⟨_,_,_,_,_,rfl⟩
 ·exact⟨_,_,_,_,_,rfl⟩
 ·rw [if_pos (ar rfl)];exact⟨_,_,_,_,_,rfl⟩
 ·obtain⟨aj,e⟩:=ab _ K trivial;rw [e] at hm;rw [if_pos ⟨hm.2.2.2.2.1,hm.2.2.2.1⟩];exact⟨_,_,_,_,_,rfl⟩
 ·exact⟨_,_,_,_,_,rfl⟩
 ·exact⟨_,_,_,_,_,rfl⟩
 ·exact absurd rfl aq
 ·exact⟨_,_,_,_,_,rfl⟩
 ·have aw:c=false∧v≤j∧j<F.n:=by
   rcases h.Fe hi with rfl | ⟨a,b⟩ | ⟨k,ae,rfl⟩ | ⟨O,rfl⟩
   ·obtain⟨q,U,W⟩:=h.main;rw [K] at U;cases U;have ak:=h.HA;rw [K] at ak;exact⟨W.2.2,by simpa [pend] using ak,W.2.1⟩
   ·have:=h.old i a b;rw [K] at this;exact this.elim
   ·have:=h.work k ae;rw [K] at this;exact this.elim
   ·have:=h.cls O;rw [K] at this;exact this.elim
  rw [aw.1] at hm;simp only [Bool.false_eq_true,if_false,CN] at hm;rw [if_pos ⟨by omega,hm.2.2.2.1⟩];exact⟨_,_,_,_,_,rfl⟩
 ·exact⟨_,_,_,_,_,rfl⟩
 ·exact⟨_,_,_,_,_,rfl⟩
 ·exact absurd rfl (am _)
 ·exact absurd rfl an
 ·exact absurd rfl (ao _ _)
 all_goals exact⟨_,_,_,_,_,rfl⟩
end
end Pal
namespace Pal
open Go Go.Conc
open Go.ConcN (upd upd_same upd_ne sumTo sumTo_upd sumTo_upd_out sumTo_congr le_sumTo sumTo_le fork_knows RelBy)
theorem Nu{α:Type}(f:Nat→α)(i:Nat)(x y:α):upd (upd f i x) i y=upd f i y:=by
 funext a;unfold upd;split <;> rfl
section
variable {P:Program}{F:Fam}{B:Base}{gs:Array Goroutine}{w w':World}{sl:Option (Nat×Nat)}{t:Trace}{φ:Nat→Nx}{r:Nat→Rk}{bt:Nat→Bool}{S:Nat→St}{Sh:Nat→Prop}{j:Nat}{c:Bool}{v wt' sm v₁ wt₁ sm₁:Nat}{cl cl₁:Bool}{k k₁:Nat}
theorem WA{p:Ph}{es:Array Event}{nx:Nx}(K:F.act p v wt' sm=some ((v₁,wt₁,sm₁),es,nx)):
  (∀q,nx= .ph q→Fam.Dj q=Fam.Dj p∧(Fam.DR q=true→p= .F3∨Fam.DR p=true))∧(∀k,nx≠ .ph (.Cn k))∧(sm₁=sm∨sm₁=0∨p= .El)∧(∀d,nx= .gone d→Fam.Dj p=false):=by
 cases p <;> simp only [Fam.act] at K <;> (try (cases K;done))
 ·cases K;exact⟨fun q e=>by cases e;exact⟨rfl,fun _=> .inl rfl⟩,by simp,.inl rfl,by simp⟩
 ·cases K;exact⟨fun q e=>by cases e;exact⟨rfl,fun _=> .inr rfl⟩,by simp,.inl rfl,by simp⟩
 ·split at K
  ·cases K;refine⟨fun q e=>?_,?_,.inl rfl,fun _ _=>rfl⟩
   ·split at e
    ·cases e;exact⟨rfl,fun _=> .inr rfl⟩
    ·cases e
   ·intro k;split <;> simp
  ·cases K
 ·split at K
  ·cases K;exact⟨fun q e=>by cases e;exact⟨rfl,fun _=> .inr rfl⟩,by simp,.inl rfl,by simp⟩
  ·cases K
 ·split at K
  ·cases K;exact⟨fun q e=>by cases e;exact⟨rfl,fun _=> .inr rfl⟩,by simp,.inl rfl,by simp⟩
  ·cases K
 ·split at K
  ·cases K;exact⟨fun q e=>(by cases e),by simp,.inr (.inr rfl),fun _ _=>rfl⟩
  ·cases K
 ·cases K;exact⟨fun q e=>by cases e;exact⟨rfl,fun h=>by cases h⟩,by simp,.inl rfl,by simp⟩
 ·split at K
  ·cases K;refine⟨fun q e=>?_,?_,.inl rfl,?_⟩
   ·split at e <;> cases e <;> exact⟨rfl,fun h=>by cases h⟩
   ·intro k;split <;> simp
   ·intro d;split <;> simp
  ·cases K
 ·split at K
  ·split at K
   ·cases K;exact⟨fun q e=>by cases e;exact⟨rfl,fun h=>by cases h⟩,by simp,.inl rfl,by simp⟩
   ·cases K;exact⟨fun q e=>by cases e;exact⟨rfl,fun h=>by cases h⟩,by simp,.inl rfl,by simp⟩
  ·cases K
 ·cases K;exact⟨fun q e=>by cases e;exact⟨rfl,fun h=>by cases h⟩,by simp,.inl rfl,by simp⟩
 ·split at K
  ·cases K;exact⟨fun q e=>by cases e;exact⟨rfl,fun h=>by cases h⟩,by simp,.inr (.inl rfl),by simp⟩
  ·cases K
 ·split at K
  ·cases K;exact⟨fun q e=>by cases e;exact⟨rfl,fun h=>by cases h⟩,by simp,.inl rfl,by simp⟩
  ·cases K
 ·cases K;exact⟨fun q e=>by cases e;exact⟨rfl,fun h=>by cases h⟩,by simp,.inl rfl,by simp⟩
 ·cases K;exact⟨fun q e=>by cases e;exact⟨rfl,fun h=>by cases h⟩,by simp,.inl rfl,by simp⟩
 ·cases K;exact⟨fun q e=>by cases e;exact⟨rfl,fun h=>by cases h⟩,by simp,.inl rfl,by simp⟩
 ·split at K
  ·cases K;refine⟨fun q e=>?_,?_,.inl rfl,?_⟩
   ·split at e <;> cases e <;> exact⟨rfl,fun h=>by cases h⟩
   ·intro k;split <;> simp
   ·intro d;split <;> simp
  ·cases K
 ·cases K;exact⟨fun q e=>by cases e;exact⟨rfl,fun h=>by cases h⟩,by simp,.inl rfl,by simp⟩
 all_goals
  cases K;exact⟨fun q e=>by cases e;exact⟨rfl,fun h=>by cases h⟩,by simp,.inl rfl,by simp⟩
theorem T9(w:World)(v wt sm:Nat):(F.put w v wt sm).heap.size=w.heap.size:=by simp [Fam.put]
theorem Qy(w:World)(v wt sm:Nat){b:Nat}(h:b≠F.wg):(F.put w v wt sm).heap[b]? =w.heap[b]? :=by simp [Fam.put,Array.getElem?_setIfInBounds_ne (Ne.symm h)]
theorem Q2(w:World)(v wt sm:Nat)(h:F.wg<w.heap.size):F.WG (F.put w v wt sm) v wt sm:=by simp [Fam.WG,Fam.put,h]
theorem Inv.act(h:Inv P F B gs w t φ r bt S Sh j c v wt' sm cl k){i:Nat}{g:Goroutine}(hi:gs[i]? =some g){p:Ph}(W:φ i= .ph p)(U:(i==0)=Fam.Dj p){s₀:St}(ak:CV (S i) s₀)(hs:Stop P F p g s₀)
  {es:Array Event} {nx:Nx} (O:F.act p v wt' sm=some ((v₁,wt₁,sm₁),es,nx)):Hd P F B gs w sl t i (mu F gs.size φ r bt):=by
 have Y:i<gs.size:=(Array.getElem?_eq_some_iff.1 hi).1;obtain⟨g',az,aA,al⟩:=hs.law.act _ _ _ _ _ _ _ _ O;obtain⟨n1,am,aB,aC⟩:=WA O;have Z:=h.CE.EZ F.wg h.HB;have an:=h.Bp.act Y W O;obtain⟨ao,ap,aD⟩:=h.Ek.act h.Bp Y W O g.frame.fn g.frame.place;have aE:B8 t w gs.size (upd S i s₀) Sh:=h.CE.ghost Y ak;have aa:B8 (t++MemOp.ofEvents i g.frame.fn g.frame.place es) (F.put w v₁ wt₁ sm₁) gs.size (upd S i s₀) Sh:=by
  refine aE.ext (h.Ek.noRace h.CE.clean Y aD ap) (fun op ab a aF b hb=>?_) (fun op ab=>?_) (T9 ..) (fun b hb=>Qy _ _ _ _ fun e=>hb (e▸h.HB))
  ·obtain⟨e,he,rfl⟩:=mem_ofEvents ab;obtain⟨⟨aM,aq,aG⟩,_⟩:=(ap e he).1 a aF;rw [hb] at aq;cases aq;rcases aG with rfl | rfl
   ·exact h.HB
   ·exact h.F8
  ·obtain⟨e,he,rfl⟩:=mem_ofEvents ab;exact(QJ p O).2.2 e he _ Z
 have ar:stepG P (i==0) g w= .go g' (F.put w v₁ wt₁ sm₁) es:=by rw [U];exact az w h.wg
 have au:F.ChanAt (F.put w v₁ wt₁ sm₁) cl k:=by show(F.put w v₁ wt₁ sm₁).heap[F.ch]? =_;rw [Qy _ _ _ _ (Ne.symm h.ne)];exact h.GU
 have av:sm₁=sm∨sm₁=0∨(mayWake P g=true∧g'.status= .running∧φ (B.N0+F.n)= .ph .Dc)∨(c=true→bt (B.N0+F.n)=true):=by
  rcases aB with q | q | q
  ·exact .inl q
  ·exact .inr (.inl q)
  ·subst q;have aH:=hs.law.GK (.inl rfl);by_cases e:φ (B.N0+F.n)= .ph .Dc
   ·exact .inr (.inr (.inl ⟨aH,aA,e⟩))
   ·refine .inr (.inr (.inr fun ae=>?_));have aI:B.N0+F.n<gs.size:=by have aw:=h.Bp.size;have aN:=h.Bp.cj ae;rw [ae] at aw;simp at aw;omega
    obtain⟨o,K⟩:∃o,gs[B.N0+F.n]? =some o:=⟨_,Array.getElem?_eq_getElem aI⟩;have V:=h.Ep _ _ K;generalize r (B.N0+F.n)=aO at V;generalize S (B.N0+F.n)=aP at V;have ah:=h.Bp.cls ae;generalize hb:bt (B.N0+F.n)=b at V ⊢;generalize aQ:φ (B.N0+F.n)=x at V ah e;cases V with
    | walk _ _ _=>rfl
    | again _ _=>rfl
    | Fp _ _=>exact ah.elim
    | FM _ _ _ _=>exact ah.elim
    | blk _ _=>exact absurd rfl e
    | gone _ _=>rfl
 cases nx with
 | ph q=>
  obtain⟨aJ,aK⟩:=n1 q rfl;obtain⟨ρ,aL⟩:=al;have ai:B8 (t++MemOp.ofEvents i g.frame.fn g.frame.place es) (F.put w v₁ wt₁ sm₁) gs.size (upd S i (Fam.Gp p s₀)) Sh:=by
   by_cases e:p= .F3
   ·subst e;have:=aa.less (i:=i) (s':= .quiet) (fun b o K=>by cases K) (fun b o K=>by cases K)
    rwa [Nu] at this
   ·have:Fam.Gp p s₀=s₀:=by cases p <;> first | rfl | exact absurd rfl e
    rw [this];exact aa
  refine h.go' hi ar an ao (x:= .ph q) (ρ:=ρ) (s':=Fam.Gp p s₀) (.walk (by rw [U,aJ]) (fun aj=>?_) (by rw [U];exact aL)) ai (Q2 _ _ _ _ Z) au (.inl rfl) (fun e=>h.noSend e) av (fun e=>?_) rfl rfl rfl (fun k' e=>absurd e (am k')) (.inl (by rw [W];exact Q4 O))
  ·rcases aK aj with e | e
   ·subst e;rfl
   ·have:Fam.Gp p s₀=s₀:=by cases p <;> first | rfl | cases e
    rw [this];exact hs.law.quiet e
  ·have:Fam.Gp p s₀=s₀:=by
    cases p <;> first | rfl | (subst e;simp [Fam.Dj] at U)
   rw [this];subst e;exact fun b o K=>ak.ext b o K
 | gone d=>
  obtain⟨q,aj⟩:=al;have ay:(i==0)=false:=by rw [U];exact aC d rfl
  have ai:B8 (t++MemOp.ofEvents i g.frame.fn g.frame.place es) (F.put w v₁ wt₁ sm₁) gs.size (upd S i .quiet) Sh:=by
   have:=aa.less (i:=i) (s':= .quiet) (fun b o K=>by cases K) (fun b o K=>by cases K)
   rwa [Nu] at this
  exact h.go' hi ar an ao (x:= .gone d) (ρ:=chain q) (s':= .quiet) (.gone ay aj) ai (Q2 _ _ _ _ Z) au (.inl rfl) (fun e=>h.noSend e) av (fun e=>by subst e;simp at ay) rfl rfl rfl (fun k' e=>absurd e (am k')) (.inl (by rw [W];exact Q4 O))
theorem R2{g g' o:Goroutine}(h:g'.status= .blocked):woken P g g' w o=o:=by
 unfold woken;rw [if_neg (by simp [h])]
theorem Inv.rest(h:Inv P F B gs w t φ r bt S Sh j c v wt' sm cl k){i:Nat}{g':Goroutine}{u:Trace}{s₀:St}(aa:i<gs.size)(al:bt i=true)(ah:CV (S i) s₀)(am:Dl P F (i==0) (φ i) (r i) false g' s₀)(hu:u= #[])
  (an:i=0→cl=false∧∀a k',a<gs.size→φ a= .ph (.Cn k')→bt a=true) (hsend:∀k',φ i= .ph (.Cn k')→bt 0=true) (ao:c=true→i=B.N0+F.n→sm=0):
  ∃ai,Inv P F B (gs.setIfInBounds i g') w (t++u) φ r ai (upd S i s₀) Sh j c v wt' sm cl k∧Mu.lt (mu F (gs.setIfInBounds i g').size φ r ai) (mu F gs.size φ r bt):=by
 subst hu;have O:(gs.setIfInBounds i g').size=gs.size:=by simp
 have ap:t++(#[]:Trace)=t:=by simp
 have Z:∀{a},a≠i→upd bt i false a=bt a:=fun e=>upd_ne _ _ e;rw [ap];refine⟨upd bt i false,⟨by rw [O];exact h.Bp,by rw [O];exact h.Ek,fun a o U=>?_,by rw [O];exact h.CE.ghost aa ah,h.HB,h.F8,h.ne,h.wg,h.GU,fun K=>?_,fun aj K=>?_,?_,h.tape,h.os,h.output⟩,?_⟩
 ·by_cases e:a=i
  ·subst e;rw [Array.getElem?_setIfInBounds_self_of_lt aa] at U;obtain rfl:=Option.some.inj U;rw [upd_same,upd_same];exact am
  ·rw [Array.getElem?_setIfInBounds_ne (Ne.symm e)] at U;rw [upd_ne _ _ e,upd_ne _ _ e];exact h.Ep a o U
 ·by_cases e:0=i
  ·subst e;obtain⟨ab,ae⟩:=an rfl;refine⟨ab,fun a k' V W=>?_⟩;rw [O] at V;by_cases Y:a=0
   ·subst Y;obtain⟨p,ak,hm⟩:=h.Bp.main;rw [W] at ak;cases ak;exact hm.elim
   ·rw [Z Y];exact ae a k' V W
  ·rw [Z e] at K;obtain⟨ab,ae⟩:=h.Mz K;refine⟨ab,fun a k' V W=>?_⟩;rw [O] at V;by_cases Y:a=i
   ·subst Y;rw [hsend k' W] at K;cases K
   ·rw [Z Y];exact ae a k' V W
 ·by_cases e:B.N0+F.n=i
  ·exact ao aj e.symm
  ·rw [Z e] at K;exact h.blk aj K
 ·by_cases e:0=i
  ·subst e;rw [upd_same];exact fun b o U=>ah.ext b o (h.le b o U)
  ·rw [upd_ne _ _ e];exact h.le
 ·rw [O];have:=sumTo_upd bt false bit aa;rw [al] at this;exact .inr ⟨rfl,rfl,.inr ⟨rfl,by show(sumTo gs.size fun a=>bit (upd bt i false a))<sumTo gs.size fun a=>bit (bt a);simp only [bit] at this ⊢;simp only [if_true,Bool.false_eq_true,if_false] at this;omega⟩⟩
theorem Inv.block(h:Inv P F B gs w t φ r bt S Sh j c v wt' sm cl k){i:Nat}{g:Goroutine}(hi:gs[i]? =some g)(O:φ i= .ph .Dc)(V:bt i=true)(K:(i==0)=false){s₀:St}(W:CV (S i) s₀)(hs:Stop P F .Dc g s₀)(Y:sm=0):
  Hd P F B gs w sl t i (mu F gs.size φ r bt):=by
 have Z:i<gs.size:=(Array.getElem?_eq_some_iff.1 hi).1;subst Y;have aa:=hs.law.Em rfl w v wt' h.wg;have U:=runT_crowd_go (P:=P) (sl:=sl) (i:=i) hi (by rw [K];exact aa);have ab:(gs.map (woken P g {g with status:= .blocked} w)).setIfInBounds i {g with status:= .blocked}=gs.setIfInBounds i {g with status:= .blocked}:=by
  have:(woken P g {g with status:= .blocked} w)=id:=by funext o;exact R2 rfl
  rw [this,Array.map_id]
 rw [ab] at U;obtain⟨ai,ae,ah⟩:=h.rest (g':={g with status:= .blocked}) (u:=MemOp.ofEvents i g.frame.fn g.frame.place #[]) Z V W (by rw [O];exact .blk K hs) (by rw [ofEvents_eq];simp) (fun e=>by subst e;simp at K) (fun k' e=>by rw [O] at e;cases e) (fun _ _=>rfl);exact⟨_,_,_,_,U,.inl ⟨_,_,_,_,_,_,_,_,_,_,_,_,ae,ah⟩⟩
theorem Inv.close(h:Inv P F B gs w t φ r bt S Sh j c v wt' sm cl k){i:Nat}{g:Goroutine}(hi:gs[i]? =some g)(K:φ i= .ph .Dw)(aa:(i==0)=false){s₀:St}(hs:Stop P F .Dw g s₀):
  Hd P F B gs w sl t i (mu F gs.size φ r bt):=by
 have W:i<gs.size:=(Array.getElem?_eq_some_iff.1 hi).1;have ap:c=true∧i=B.N0+F.n:=by
  rcases h.Bp.Fe W with rfl | ⟨a,b⟩ | ⟨k',aq,rfl⟩ | q
  ·simp at aa
  ·have:=h.Bp.old i a b;rw [K] at this;exact this.elim
  ·have:=h.Bp.work k' aq;rw [K] at this;exact this.elim
  ·exact q
 obtain⟨O,rfl⟩:=ap;have ar:cl=false:=by
  have hm:=h.Bp.mode;rw [if_pos O,K] at hm;exact hm.2.2.2.2.2
 subst ar;have aI:v=0:=by
  have hm:=h.Bp.mode;rw [if_pos O,K] at hm;exact hm.2.2.2.2.1
 obtain⟨g',au,av,q,aw⟩:=hs.law.close rfl;have ah:=h.CE.EZ F.ch h.F8;have ay:=hs.law.GK (.inr rfl);have az:MemOp.ofEvents (B.N0+F.n) g.frame.fn g.frame.place (closeEvents F.ch)= #[{g:=B.N0+F.n,fn:=g.frame.fn,pos:=g.frame.place,act:= .access ⟨.obj F.ch,false,true⟩},{g:=B.N0+F.n,fn:=g.frame.fn,pos:=g.frame.place,act:= .close F.ch}]:=by
  simp [MemOp.ofEvents,closeEvents,MemAct.ofEvent]
 have ai:∀b,b≠F.ch→(w.setChan F.ch 0 #[] true k k false).heap[b]? =w.heap[b]? :=fun b hb=>by simp [World.setChan,Array.getElem?_setIfInBounds_ne (Ne.symm hb)]
 have aj:∀e∈closeEvents F.ch,∀a,(MemAct.ofEvent e).touch? =some a→a=⟨.obj F.ch,false,.atomic⟩:=by
  intro e he a U;simp only [closeEvents,List.mem_toArray,List.mem_cons,List.not_mem_nil,or_false] at he;rcases he with rfl | rfl
  ·simp [MemAct.ofEvent,MemAct.touch?] at U;exact U.symm
  ·simp [MemAct.ofEvent,MemAct.touch?] at U
 have Y:∀e∈closeEvents F.ch,EvS F (B.N0+F.n=if c=true then B.N0+F.n else 0) e:=by
  intro e he;refine⟨fun a U=>?_,?_⟩
  ·have:=aj e he a U;subst this;exact⟨⟨F.ch,rfl,.inr rfl⟩,by simp,by simp⟩
  ·simp only [closeEvents,List.mem_toArray,List.mem_cons,List.not_mem_nil,or_false] at he;rcases he with rfl | rfl <;> simp
 have aJ:=h.Bp.n1;have aK:=h.Bp.pos;refine h.go' hi (w':=w.setChan F.ch 0 #[] true k k false) (by rw [aa];exact av w k h.GU) (x:= .gone 0) (ρ:=chain q) (s':= .quiet) (cl₁:=true) (k₁:=k) (h.Bp.close O K) ?_ (.gone aa aw) ?_ ?_ ?_ (.inr ⟨ay,au⟩) (fun _ aA k' aB e=>?_) (.inl rfl) (fun e=>absurd e (by omega)) rfl rfl rfl (by simp) (.inl (by rw [K];simp [wt]))
 ·refine h.Ek.app W h.Bp.jn (by rw [K];rfl) (fun e he=>⟨fun a b U hb aL=>⟨((Y e he).1 a U).2.1,((Y e he).1 a U).2.2⟩,(Y e he).2⟩) (.inl (.inr (by omega))) (fun O Z=>h.Bp.LA O Z) (fun k' ak e aC ρ al=>by omega) (fun k' ak e aC aM=>by have:=h.Bp.cj O;omega) (fun O e Z=> .inr (.inl K)) (fun aN e Z=> .inl ?_);obtain⟨am,an⟩:=h.Ek.acq O (.inl K);have aO:am<t.size:=lt_of_act? an.1;rw [az];generalize hu:(#[({g:=B.N0+F.n,fn:=g.frame.fn,pos:=g.frame.place,act:= .access ⟨.obj F.ch,false,true⟩}:MemOp),{g:=B.N0+F.n,fn:=g.frame.fn,pos:=g.frame.place,act:= .close F.ch}]:Trace)=u;have aD:(t++u)[t.size]? =some {g:=B.N0+F.n,fn:=g.frame.fn,pos:=g.frame.place,act:= .access ⟨.obj F.ch,false,true⟩}:=by subst hu;simp
  have ab:(t++u)[t.size+1]? =some {g:=B.N0+F.n,fn:=g.frame.fn,pos:=g.frame.place,act:= .close F.ch}:=by
   subst hu;rw [Array.getElem?_append_right (by omega)];simp
  refine⟨t.size+1,by rw [act?_of ab],by simp [Trace.g?,ab],⟨B.N0+F.n,by simp [Trace.g?,ab],?_⟩,⟨am,by omega,an.app fun k' ρ ak al=>al.appOther (g:=B.N0+F.n) (by subst hu;simp) (by omega)⟩,fun x Z aE aF=>?_⟩
  ·rw [deaf_succ aD,deaf_old (Nat.le_refl _)];have:=h.Ek.deaf _ W;rw [K] at this;show deafStep _ (Deaf t _) _=0;rw [this];rfl
  ·obtain⟨op,V,_⟩:=Option.map_eq_some_iff.1 aE;have:=lt_size_of_getElem? V;subst hu;simp at this;omega
 ·have aG:B8 (t++MemOp.ofEvents (B.N0+F.n) g.frame.fn g.frame.place (closeEvents F.ch)) (w.setChan F.ch 0 #[] true k k false) gs.size S Sh:=by
   refine h.CE.ext (h.Ek.noRace h.CE.clean W (.inr (by omega)) Y) (fun op ae a aH b hb=>?_) (fun op ae=>?_) (by simp [World.setChan]) (fun b hb=>ai b fun e=>hb (e▸h.F8))
   ·obtain⟨e,he,rfl⟩:=mem_ofEvents ae;have:=aj e he a aH;subst this;simp [Dv] at hb;subst hb;exact h.F8
   ·obtain⟨e,he,rfl⟩:=mem_ofEvents ae;simp only [closeEvents,List.mem_toArray,List.mem_cons,List.not_mem_nil,or_false] at he;rcases he with rfl | rfl <;> simpa [MemAct.ofEvent,MemAct.low,Loc.low] using ah
  exact aG.less (i:=B.N0+F.n) (s':= .quiet) (fun b o V=>by cases V) (fun b o V=>by cases V)
 ·show(w.setChan F.ch 0 #[] true k k false).heap[F.wg]? =_;rw [ai _ h.ne];exact h.wg
 ·show(w.setChan F.ch 0 #[] true k k false).heap[F.ch]? =_;simp [World.setChan,ah]
 ·have aF:=h.Bp.cnt;have ao:cU (φ aA)≤sumTo gs.size fun a=>cU (φ a):=le_sumTo (f:=fun a=>cU (φ a)) aB;rw [e] at ao;have aP:1≤sumTo gs.size fun a=>cU (φ a):=ao;omega
end
end Pal
namespace Pal
open Go Go.Conc
open Go.ConcN (upd upd_same upd_ne sumTo sumTo_upd sumTo_upd_out sumTo_congr le_sumTo sumTo_le fork_knows RelBy)
section
variable {P:Program}{F:Fam}{B:Base}{gs gs':Array Goroutine}{w w':World}{sl:Option (Nat×Nat)}{t:Trace}{φ:Nat→Nx}{r:Nat→Rk}{bt:Nat→Bool}{S:Nat→St}{Sh:Nat→Prop}{j:Nat}{c:Bool}{v wt' sm v₁ wt₁ sm₁:Nat}{cl cl₁:Bool}{k k₁:Nat}{main:Bool}
theorem Dl.QP{x:Nx}{r:Rk}{b:Bool}{o:Goroutine}{s:St}(h:Dl P F main x r b o s)(hb:main=true→b=true):offersAt o F.ch false= []:=by
 cases h with
 | walk _ _ K=>exact offersAt_of_not_blocked (by rw [K.running];simp) _ _
 | again _ _=>exact offersAt_of_not_blocked (by simp) _ _
 | Fp O _=>cases hb O
 | FM _ _ _ _=>exact offersAt_parked_send' _ _ _ _ _ _
 | blk _ hs=>simp [offersAt,hs.law.offers]
 | gone _ U=>exact offersAt_of_not_blocked (by rcases U.status with e | e <;> rw [e] <;> simp) _ _
theorem Dl.NM{k:Nat}{r:Rk}{o:Goroutine}{s:St}(h:Dl P F main (.ph (.Cn k)) r false o s):∃g v z,o=parked g #[scase F.ch v z] .send∧F.msg k v s.E∧s.q=false∧Way P false (Stop P F .CO) (served g undef) s:=by
 generalize K:Nx.ph (.Cn k)=x at h;generalize hb:false=b at h;cases h with
 | walk _ _ _=>cases hb
 | again _ _=>cases K
 | Fp _ _=>cases K
 | FM _ O U V=>cases K;exact⟨_,_,_,rfl,O,U,V⟩
 | blk _ _=>cases K
 | gone _ _=>cases K
theorem Dl.M5{x:Nx}{r:Rk}{b:Bool}{o:Goroutine}{s:St}(h:Dl P F main x r b o s)(K:offersAt o F.ch true≠ []):∃k,x= .ph (.Cn k)∧b=false:=by
 cases h with
 | walk _ _ O=>exact absurd (offersAt_of_not_blocked (by rw [O.running];simp) _ _) K
 | again _ _=>exact absurd (offersAt_of_not_blocked (by simp) _ _) K
 | Fp V _=>exact absurd (offersAt_parked_recv' _ _ _ _ _) K
 | FM _ _ _ _=>exact⟨_,rfl,rfl⟩
 | blk _ hs=>exact absurd (by simp [offersAt,hs.law.offers]) K
 | gone _ U=>exact absurd (offersAt_of_not_blocked (by rcases U.status with e | e <;> rw [e] <;> simp) _ _) K
theorem Dl.receiver{p:Ph}{r:Rk}{b:Bool}{o:Goroutine}{s:St}(h:Dl P F main (.ph p) r b o s)(hb:b=false)(hm:main=true):∃O vs g z,p= .B7 O vs∧o=parked g #[rcase F.ch z] (.recv true)∧Stop P F (.B7 O vs) g s:=by
 generalize U:Nx.ph p=x at h;cases h with
 | walk _ _ _=>cases hb
 | again _ _=>cases hb
 | Fp _ V=>cases U;exact⟨_,_,_,_,rfl,rfl,V⟩
 | FM K _ _ _=>rw [K] at hm;cases hm
 | blk K _=>rw [K] at hm;cases hm
 | gone _ _=>cases U
theorem So{g g':Goroutine}{cs K:Array CommCase}{sh O:CommShape}(h:parked g cs sh=parked g' K O):cs=K∧sh=O∧∀x,served g x=served g' x:=by
 obtain⟨a,b,c,d,e⟩:=g;obtain⟨U,V,W,Y,Z⟩:=g';simp only [parked,Goroutine.mk.injEq,Option.some.injEq,Prod.mk.injEq,true_and] at h;obtain⟨rfl,rfl,rfl,rfl,rfl⟩:=h;exact⟨rfl,rfl,fun _=>rfl⟩
theorem OJ(w:World)(c cap:Nat)(buf:Ay)(cl:Bool)(s r:Nat)(K:Bool){b:Nat}(h:b≠c):(w.setChan c cap buf cl s r K).heap[b]? =w.heap[b]? :=by simp [World.setChan,Array.getElem?_setIfInBounds_ne (Ne.symm h)]
def Hc(E E':LH):LH:=fun b=>match E b with | some o=>some o | none=>E' b
def FY(i s:Nat)(c:Nat)(f1 f2:FuncId)(p1 p2:String):Trace:=
 #[{g:=i,fn:=f1,pos:=p1,act:= .send c s},{g:=0,fn:=f2,pos:=p2,act:= .recv c s 0},{g:=i,fn:=f1,pos:=p1,act:= .sendDone c s},{g:=0,fn:=f2,pos:=p2,act:= .recvDone c s}]
theorem SH{i s K:Nat}{f1 f2:FuncId}{p1 p2:String}(hi:i≠0)(V:Deaf t i=0)(W:Deaf t 0=0){x:Nat}(Y:Knows t i x):Knows (t++FY i s K f1 f2 p1 p2) 0 x:=by
 generalize hu:FY i s K f1 f2 p1 p2=u;have O:(t++u)[t.size]? =some {g:=i,fn:=f1,pos:=p1,act:= .send K s}:=by subst hu;rw [Array.getElem?_append_right (by omega)];simp [FY]
 have Z:(t++u)[t.size+1]? =some {g:=0,fn:=f2,pos:=p2,act:= .recv K s 0}:=by subst hu;rw [Array.getElem?_append_right (by omega)];simp [FY]
 have aa:(t++u)[t.size+2]? =some {g:=i,fn:=f1,pos:=p1,act:= .sendDone K s}:=by subst hu;rw [Array.getElem?_append_right (by omega)];simp [FY]
 have U:(t++u)[t.size+3]? =some {g:=0,fn:=f2,pos:=p2,act:= .recvDone K s}:=by subst hu;rw [Array.getElem?_append_right (by omega)];simp [FY]
 have ab:=Y.hb_new (Nat.le_refl _) O rfl;have ae:(t++u).heard t.size:=⟨i,by simp [Trace.g?,O],by rw [deaf_old (Nat.le_refl _)];exact V⟩;have ah:(t++u).heard (t.size+3):=⟨0,by simp [Trace.g?,U],by
  rw [deaf_succ aa,deaf_succ Z,deaf_succ O,deaf_old (Nat.le_refl _)]
  simp only [deafStep];exact W⟩
 exact⟨t.size+3,_,U,rfl,.inr (ab.trans (.single (.inr ⟨.handOver (by rw [act?_of O]) (by rw [act?_of U]),ae,ah⟩)))⟩
theorem Inv.meet(h:Inv P F B gs w t φ r bt S Sh j c v wt' sm cl k)(aM:∀k v E E',Le E E'→F.msg k v E→F.msg k v E'){i k':Nat}(aj:k'<j)(ak:i=B.N0+k')(Y:φ i= .ph (.Cn k')){U:List Nat}{vs:Lv_}(ah:φ 0= .ph (.B7 U vs))
  {aA aB:Goroutine} {s₀ K:St} (aC:CV (S 0) s₀) (aN:CV (S i) K) (aO:Stop P F (.B7 U vs) aA s₀) {x:Value} (aP:F.msg k' x K.E) (aQ:Way P false (Stop P F .CO) (served aB undef) K)
  (al:gs'.size=gs.size) (aR:gs'[0]? =some (served aA (.tuple #[x,.bool true]))) (hi:gs'[i]? =some (served aB undef)) (V:∀a,a≠0→a≠i→gs'[a]? =gs[a]?) (aS:cl=false) {f1 f2:FuncId} {p1 p2:String}:
  ∃aD aE aF S',Inv P F B gs' (w.setChan F.ch 0 #[] false (k+1) (k+1) false) (t++FY i k F.ch f1 f2 p1 p2) aD aE aF S' Sh j c v wt' sm false (k+1)∧Mu.lt (mu F gs'.size aD aE aF) (mu F gs.size φ r bt):=by
 subst aS;have bd:=h.Bp.pos;have be:=h.Bp.size;have Z:i<gs.size:=by omega
 have aa:0<gs.size:=by omega
 have ai:i≠0:=by omega
 have aG:F.has k'=true:=by have:=h.Bp.work k' aj;rw [← ak,Y] at this;exact this.2
 have aT:k' ∉ U:=by have:=(h.Bp.GR k' aj aG).1 (by rw [← ak];exact Y);rwa [ah] at this
 have aH:=h.Bp.meet (x:=x) ah aj (by rw [← ak];exact Y);rw [← ak] at aH;have hu:∀op∈FY i k F.ch f1 f2 p1 p2,op.act.touch? =none∧∀m,op.act≠ .mark m:=by
  intro op O;simp only [FY,List.mem_toArray,List.mem_cons,List.not_mem_nil,or_false] at O;rcases O with rfl | rfl | rfl | rfl <;> exact⟨rfl,by simp⟩
 have aU:=h.Ek.C6 h.Bp hu;have aI:=h.CE.EZ F.ch h.F8;have am:B8 t w gs.size (upd (upd S i K) 0 s₀) Sh:=by
  have:=(h.CE.ghost Z aN).ghost (i:=0) (s₀:=s₀) aa (by rw [upd_ne _ _ (Ne.symm ai)];exact aC);exact this
 have ar:upd (upd S i K) 0 s₀ 0=s₀:=upd_same _ _ _;have au:upd (upd S i K) 0 s₀ i=K:=by rw [upd_ne _ _ ai,upd_same]
 have aV:B8 (t++FY i k F.ch f1 f2 p1 p2) (w.setChan F.ch 0 #[] false (k+1) (k+1) false) gs.size (upd (upd S i K) 0 s₀) Sh:=by
  refine am.ext (fun said=>?_) (fun op O a an=>by rw [(hu op O).1] at an;cases an) (fun op O=>?_) (by simp [World.setChan]) (fun b hb=>OJ _ _ _ _ _ _ _ _ fun e=>hb (e▸h.F8))
  ·have key:∀(l:List MemOp) (t:Trace),¬Race said t→(∀op∈l,op.act.touch? =none)→¬Race said (t++l.toArray):=by
    intro l
    induction l with
    | nil=>intro t ht _;simpa using ht
    | cons y l aW=>
     intro t ht ab;have e:t++(y::l).toArray=(t++ #[y])++l.toArray:=by apply Array.ext';simp
     rw [e];exact aW _ (noRace_append (g:=y.g) ht (by simp) fun z a _ op O b hb _=>by simp at O;subst O;rw [ab op (by simp)] at hb;cases hb) fun op O=>ab op (by simp [O])
   exact key _ t (h.CE.clean said) fun op O=>(hu op (by simpa [FY] using O)).1
  ·simp only [FY,List.mem_toArray,List.mem_cons,List.not_mem_nil,or_false] at O;rcases O with rfl | rfl | rfl | rfl <;> exact aI
 have aX:∀b o o',s₀.E b=some o→K.E b=some o'→o=o':=by
  intro b o o' av aw;have ay:=(am.fits 0 aa).e b o (by rw [ar];exact av);have ao:=(am.fits i Z).e b o' (by rw [au];exact aw);rw [ay] at ao;exact Option.some.inj ao
 have aJ:Le s₀.E (Hc s₀.E K.E):=fun b o V=>by simp [Hc,V]
 have aY:Le K.E (Hc s₀.E K.E):=fun b o V=>by
  unfold Hc;cases ap:s₀.E b with
  | none=>exact V
  | some o'=>simp only;rw [aX b o' o ap V]
 have aZ:Deaf t 0=0:=by rw [h.Ek.deaf 0 aa,ah];rfl
 have a0:Deaf t i=0:=by rw [h.Ek.deaf i Z,Y];rfl
 have aK:B8 (t++FY i k F.ch f1 f2 p1 p2) (w.setChan F.ch 0 #[] false (k+1) (k+1) false) gs.size (upd (upd S i K) 0 ⟨Hc s₀.E K.E,s₀.H,false⟩) Sh:=by
  have:=aV.grow (i:=0) (E':=Hc s₀.E K.E) (q:=false) aa (fun b o hb=>by
   rw [ar]
   unfold Hc at hb
   cases ap:s₀.E b with
   | some o'=>rw [ap] at hb;exact .inl hb
   | none=>
    rw [ap] at hb
    have aL:K.E b=some o:=hb
    refine .inr ⟨i,Z,by rw [au];exact aL,fun y a a1 a2 a3=>?_⟩
    have hold:touchAt t y=some a:=by
     obtain⟨op,V,az⟩:=touch_of a1
     rcases getElem?_append_cases V with⟨_,a4⟩ | ⟨_,a5⟩
     ·rw [touchAt_of a4];exact az
     ·rw [(hu op a5).1] at az;cases az
    exact SH ai a0 aZ (am.kE i Z b (by rw [au,aL];simp) y a hold a2 a3))
  rw [ar,Nu] at this;exact this
 have a6:∀b,Hc s₀.E K.E b≠none→s₀.H b=none:=by
  intro b hb;have:=(aK.fits 0 aa).d b (by rw [upd_same];exact hb)
  rwa [upd_same] at this
 have a7:k'<F.n:=Nat.lt_of_lt_of_le aj h.Bp.jn;obtain⟨z,_,a8,_⟩:=aO.law.recv U vs rfl;obtain⟨a9,ba⟩:=a8 k' x (Hc s₀.E K.E) a7 aG aT aJ a6 (aM _ _ _ _ aY aP);obtain⟨bb,bc⟩:=aQ;have f0:∀a,a≠0→a≠i→upd (upd φ i (.ph .CO)) 0 (.ph (.B7 (U++ [k']) (vs++ [x]))) a=φ a:=fun a av aw=>by rw [upd_ne _ _ av,upd_ne _ _ aw]
 have fi:upd (upd φ i (.ph .CO)) 0 (.ph (.B7 (U++ [k']) (vs++ [x]))) i= .ph .CO:=by rw [upd_ne _ _ ai,upd_same]
 refine⟨upd (upd φ i (.ph .CO)) 0 (.ph (.B7 (U++ [k']) (vs++ [x]))),upd (upd r i bb) 0 a9,upd (upd bt i true) 0 true,upd (upd S i K) 0 ⟨Hc s₀.E K.E,s₀.H,false⟩,⟨by rw [al];exact aH,?_,fun a o ae=>?_,by rw [al];exact aK,h.HB,h.F8,h.ne,?_,?_,fun hb=>(by rw [upd_same] at hb;cases hb),fun aq hb=>?_,?_,h.tape,h.os,h.output⟩,?_⟩
 ·rw [al];refine aU.US (fun a an=>?_) (fun a an ab=>?_) (fun aq=>?_)
  ·by_cases q:a=0
   ·subst q;rw [upd_same,ah];rfl
   ·by_cases W:a=i
    ·subst W;rw [fi,Y];rfl
    ·rw [f0 a q W]
  ·by_cases q:B.N0+a=i
   ·rw [q,fi] at ab;exact ab.elim
   ·rwa [f0 _ (by omega) q] at ab
  ·have:=h.Bp.cj aq;exact f0 _ (by omega) (by omega)
 ·by_cases q:a=0
  ·subst q;rw [aR] at ae;obtain rfl:=Option.some.inj ae;rw [upd_same,upd_same,upd_same,upd_same];exact .walk rfl (fun q=>by cases q) ba
  ·by_cases W:a=i
   ·subst W;rw [hi] at ae;obtain rfl:=Option.some.inj ae;rw [fi,upd_ne _ _ q,upd_same,upd_ne _ _ q,upd_same,upd_ne _ _ q,upd_same];have hm:(a==0)=false:=by simp [q]
    exact .walk (by rw [hm];rfl) (fun q=>by cases q) (by rw [hm];exact bc)
   ·rw [V a q W] at ae;rw [f0 a q W,upd_ne _ _ q,upd_ne _ _ W,upd_ne _ _ q,upd_ne _ _ W,upd_ne _ _ q,upd_ne _ _ W];exact h.Ep a o ae
 ·show(w.setChan F.ch 0 #[] false (k+1) (k+1) false).heap[F.wg]? =_;rw [OJ _ _ _ _ _ _ _ _ h.ne];exact h.wg
 ·show(w.setChan F.ch 0 #[] false (k+1) (k+1) false).heap[F.ch]? =_;simp [World.setChan,aI]
 ·have bf:=h.Bp.cj aq;rw [upd_ne _ _ (by omega),upd_ne _ _ (by omega)] at hb;exact h.blk aq hb
 ·rw [upd_same];exact(h.le.trans fun b o V=>aC.ext b o V).trans aJ
 ·rw [al];refine Ru ?_;have ay:=sumTo_upd (upd φ i (.ph .CO)) (.ph (.B7 (U++ [k']) (vs++ [x]))) (wt F.n) aa;have ao:=sumTo_upd φ (.ph .CO) (wt F.n) Z;rw [upd_ne _ _ (Ne.symm ai),ah] at ay;rw [Y] at ao;have bg:wt F.n (.ph (.B7 U vs))=2:=rfl;have bh:wt F.n (.ph (.B7 (U++ [k']) (vs++ [x])))=2:=rfl;have bi:wt F.n (.ph (.Cn k'))=10:=rfl;have bj:wt F.n (.ph .CO)=9:=rfl;omega
theorem Inv.send(h:Inv P F B gs w t φ r bt S Sh j c v wt' sm cl k)(ay:∀k v E E',Le E E'→F.msg k v E→F.msg k v E'){i k':Nat}{g:Goroutine}(hi:gs[i]? =some g)(K:φ i= .ph (.Cn k'))(az:bt i=true)(Z:(i==0)=false){s₀:St}(al:CV (S i) s₀)(hs:Stop P F (.Cn k') g s₀):
  Hd P F B gs w sl t i (mu F gs.size φ r bt):=by
 have V:i<gs.size:=(Array.getElem?_eq_some_iff.1 hi).1;have am:0<gs.size:=by omega
 have O:i≠0:=by simpa using Z
 have aA:k'<j∧i=B.N0+k':=by
  rcases h.Bp.Fe V with rfl | ⟨a,b⟩ | ⟨aB,W,rfl⟩ | ⟨aa,rfl⟩
  ·exact absurd rfl O
  ·have:=h.Bp.old i a b;rw [K] at this;exact this.elim
  ·have:=h.Bp.work aB W;rw [K] at this;obtain⟨rfl,_⟩:=this;exact⟨W,rfl⟩
  ·have:=h.Bp.cls aa;rw [K] at this;exact this.elim
 obtain⟨W,aC⟩:=aA;have aD:cl=false:=by
  cases aE:cl with
  | false=>rfl
  | true=>exact absurd K (h.noSend aE i k' V)
 subst aD;obtain⟨x,z,an,aF,ao⟩:=hs.law.send k' rfl;have ap:stepG P (i==0) g w= .comm g #[scase F.ch x z] true .send w #[]:=by rw [Z];exact aF w
 have aq:∀(a:Nat) (fn:FuncId) (pos:String),MemOp.ofEvents a fn pos #[]= #[]:=fun a fn pos=>by rw [ofEvents_eq];simp
 cases ab:bt 0 with
 | true=>
  have aG:partners (gs.setIfInBounds i ph) F.ch false= []:=by
   refine partners_nil fun a o ae=>?_;rcases getElem?_stand gs i a o ae with⟨_,rfl⟩ | ⟨_,ah⟩
   ·exact offersAt_ph _ _
   ·exact(h.Ep a o ah).QP fun e=>by
     have:a=0:=by simpa using e
     subst this;exact ab
  have Y:=crowd_waits (sl:=sl) hi ap fun aR ar=>by
   simp at ar;subst ar;exact ways_send_none (v:=x) (z:=z) h.GU (Nat.le_refl _) aG
  obtain⟨au,ai,aj⟩:=h.rest (g':=parked g #[scase F.ch x z] .send) (u:=MemOp.ofEvents i g.frame.fn g.frame.place #[]) V az al (by rw [K];exact .FM Z an (hs.law.live rfl) ao) (aq _ _ _) (fun e=>absurd e O) (fun _ _=>ab) (fun aa e=>by have:=h.Bp.cj aa;omega);exact⟨_,_,_,_,Y,.inl ⟨_,_,_,_,_,_,_,_,_,_,_,_,ai,aj⟩⟩
 | false=>
  obtain⟨aH,ak⟩:∃o,gs[0]? =some o:=⟨_,Array.getElem?_eq_getElem am⟩;obtain⟨p0,av,hm⟩:=h.Bp.main;have aw:=h.Ep 0 aH ak;rw [ab,av] at aw;obtain⟨aS,vs,U,aI,rfl,rfl,aJ⟩:=aw.receiver rfl rfl;have aK:partners (gs.setIfInBounds i ph) F.ch false= [(0,0)]:=by
   rw [partners_one (j:=0) (g:=parked U #[rcase F.ch aI] (.recv true)) (stand_get (Ne.symm O) ak) fun a o aL ae=>?_]
   ·rw [offersAt_parked_recv];simp
   ·rcases getElem?_stand gs i a o ae with⟨_,rfl⟩ | ⟨_,ah⟩
    ·exact offersAt_ph _ _
    ·exact(h.Ep a o ah).QP fun e=>by
      have:a=0:=by simpa using e
      exact absurd this aL
  have Y:=crowd_send_meets (sl:=sl) hi ap h.GU (Ne.symm O) ak aK;rw [finishComm_recv,finishComm_send,aq] at Y;have aM:((gs.setIfInBounds 0 (served U (recvd true x true))).setIfInBounds i (served g undef)).size=gs.size:=by simp
  obtain⟨aN,aO,au,S',ai,aj⟩:=h.meet ay W aC K av (.refl _) al aJ an ao (gs':=(gs.setIfInBounds 0 (served U (recvd true x true))).setIfInBounds i (served g undef)) aM
   (by rw [Array.getElem?_setIfInBounds_ne O,Array.getElem?_setIfInBounds_self_of_lt am];rfl) (by rw [Array.getElem?_setIfInBounds_self_of_lt (by simpa using V)]) (fun a aP aQ=>by rw [Array.getElem?_setIfInBounds_ne (Ne.symm aQ),Array.getElem?_setIfInBounds_ne (Ne.symm aP)]) rfl
   (f1:=g.frame.fn) (f2:=U.frame.fn) (p1:=g.frame.place) (p2:=U.frame.place)
  refine⟨_,_,_,_,Y,.inl ⟨aN,aO,au,S',Sh,j,c,v,wt',sm,false,k+1,?_,aj⟩⟩;rw [Array.empty_append];exact ai
end
end Pal
namespace Pal
open Go Go.Conc
open Go.ConcN (upd upd_same upd_ne sumTo sumTo_upd sumTo_upd_out sumTo_congr le_sumTo sumTo_le fork_knows RelBy)
section
variable {P:Program}{F:Fam}{B:Base}{gs gs':Array Goroutine}{w w':World}{sl:Option (Nat×Nat)}{t:Trace}{φ:Nat→Nx}{r:Nat→Rk}{bt:Nat→Bool}{S:Nat→St}{Sh:Nat→Prop}{j:Nat}{c:Bool}{v wt' sm v₁ wt₁ sm₁:Nat}{cl cl₁:Bool}{k k₁:Nat}{main:Bool}
theorem Inv.Qu(h:Inv P F B gs w t φ r bt S Sh j c v wt' sm true k):c=true∧EJ (φ (B.N0+F.n))∧∀i,0<i→i<gs.size→∃d,φ i= .gone d:=by
 have hm:=h.Bp.mode;have K:c=true∧EJ (φ (B.N0+F.n)):=by
  split at hm
  ·rename_i K;refine⟨K,?_⟩;cases O:φ (B.N0+F.n) with
   | gone d=>trivial
   | ph p=>rw [O] at hm;cases p <;> simp [CN] at hm
  ·simp [CN] at hm
 refine⟨K.1,K.2,fun i hi U=>?_⟩;have:EJ (φ i):=by
  rcases h.Bp.Fe U with rfl | ⟨a,b⟩ | ⟨k',V,rfl⟩ | ⟨_,rfl⟩
  ·omega
  ·exact h.Bp.old i a b
  ·exact h.Bp.Ny K.1 (.inr (.inr (.inr (.inr K.2)))) k' V
  ·exact K.2
 cases O:φ i with
 | gone d=>exact⟨d,rfl⟩
 | ph p=>rw [O] at this;exact this.elim
theorem Inv.over(h:Inv P F B gs w t φ r bt S Sh j c v wt' sm true k){aD:List Nat}{vs:Lv_}(ap:φ 0= .ph (.B7 aD vs)){s₀:St}(aq:CV (S 0) s₀){g':Goroutine}(aE:F.fin g' s₀)
  (ar:gs'.size=gs.size) (aF:gs'[0]? =some g') (Z:∀a,a≠0→gs'[a]? =gs[a]?) {f1:FuncId} {p1:String}:
  Over P F B gs' w (t++ #[{g:=0,fn:=f1,pos:=p1,act:= .recvClosed F.ch}]):=by
 obtain⟨ae,au,aG⟩:=h.Qu;have aY:=h.Bp.pos;have av:=h.Bp.size;have aj:0<gs.size:=by omega
 have aH:F.ch<w.heap.size:=h.CE.EZ F.ch h.F8;generalize hu:(#[{g:=0,fn:=f1,pos:=p1,act:= .recvClosed F.ch}]:Trace)=u;have aw:∀op∈u,op.act.touch? =none∧∀m,op.act≠ .mark m:=by
  intro op O;subst hu;simp at O;subst O;exact⟨rfl,by simp⟩
 have aa:=h.Ek.C6 h.Bp aw;have aI:Deaf t 0=0:=by rw [h.Ek.deaf 0 aj,ap];rfl
 have ay:∀i g,0<i→gs[i]? =some g→∃q d,φ i= .gone d∧QuitsD P q d g∧S i= .quiet:=by
  intro i g hi K;obtain⟨d,az⟩:=aG i hi (Array.getElem?_eq_some_iff.1 K).1;have hs:=h.Ep i g K;rw [az] at hs;generalize V:Nx.gone d=x at hs;generalize S i=s at hs ⊢;generalize r i=ρ at hs;generalize bt i=aZ at hs;cases hs with
  | gone _ ah=>cases V;exact⟨_,_,az,ah,rfl⟩
  | _=>cases V
 have ah:∀i,∃q,∀g,0<i→gs[i]? =some g→QuitsD P q (Deaf t i) g:=by
  intro i;by_cases hi:0<i∧i<gs.size
  ·obtain⟨q,d,U,Y,_⟩:=ay i _ hi.1 (Array.getElem?_eq_getElem hi.2);refine⟨q,fun g _ K=>?_⟩;rw [Array.getElem?_eq_getElem hi.2] at K;obtain rfl:=Option.some.inj K;rw [h.Ek.deaf i hi.2,U];exact Y
  ·exact⟨0,fun g U Y=>absurd ⟨U,(Array.getElem?_eq_some_iff.1 Y).1⟩ hi⟩
 have aA:∀op∈u,op.g=0:=by intro op O;subst hu;simp at O;subst O;rfl
 have aJ:B8 t w gs.size (lone s₀) Sh:=by
  have U:=h.CE.ghost aj aq;refine U.congr fun i hi=>?_;by_cases e:i=0
  ·subst e;rw [upd_same];exact⟨rfl,rfl⟩
  ·rw [upd_ne _ _ e];obtain⟨_,_,_,_,aK⟩:=ay i _ (by omega) (Array.getElem?_eq_getElem hi);rw [aK];simp [lone,e]
 have aL:B8 (t++u) w gs.size (lone s₀) Sh:=aJ.mute (g:=0) aA (fun op Z=>(aw op Z).1) (fun op O=>by subst hu;simp at O;subst O;exact aH) rfl;refine⟨fun i=>Classical.choose (ah i),Sh,g',s₀,⟨aF,⟨fun i g hi K=>?_,fun i hi=>?_⟩,by rw [ar];exact aL,fun x g K aM ak=>?_,?_⟩,aE,h.le.trans fun b o Z=>aq.ext b o Z,h.tape,h.os,h.output⟩
 ·rw [Deaf_other t (by omega) u aA];rw [Z i (by omega)] at K;exact Classical.choose_spec (ah i) g hi K
 ·exact aa.above i (by rw [← ar];exact hi)
 ·rcases aa.over x g K aM ak with q | ⟨q1,q2⟩
  ·exact q
  obtain⟨p,W⟩:=aa.Jo ae au;have a0:p<t.size:=by
   obtain⟨a1,a2⟩:=h.Ek.Jo ae au;rcases Nat.lt_or_ge p t.size with q | q
   ·exact q
   ·have U:=W.1;obtain⟨op,O,aN⟩:=Option.map_eq_some_iff.1 U;rcases getElem?_append_cases O with⟨aO,_⟩ | ⟨_,hm⟩
    ·exact aO
    ·subst hu;simp at hm;subst hm;cases aN
  have al:(t++u)[t.size]? =some {g:=0,fn:=f1,pos:=p1,act:= .recvClosed F.ch}:=by subst hu;simp
  have aP:(t++u).heard t.size:=⟨0,by simp [Trace.g?,al],by rw [deaf_old (Nat.le_refl _)];exact aI⟩;have ai:HappensBefore (t++u) p t.size:= .single (.inr ⟨.closed W.1 (by rw [act?_of al]),W.2.2.1,aP⟩);have aB:(t++u).g? t.size=some 0:=by simp [Trace.g?,al]
  have am:∀{a b:Nat} {g:Nat},a<b→(t++u).g? a=some g→(t++u).g? b=some g→HappensBefore (t++u) a b:=fun U Y aQ=> .single (.inl ⟨U,_,Y,aQ⟩);rcases Nat.lt_or_ge g (B.N0+F.n) with aR | aR
  ·
   obtain⟨q,aS,aT,aU,aV,aW⟩:=W.2.2.2.1;obtain⟨ρ,a3,aX,ab⟩:=aW (g - B.N0) (by omega);have an:B.N0+(g - B.N0)=g:=by omega
   rw [an] at ab;have aC:HappensBefore (t++u) ρ q:= .single (.inr ⟨.marked aX (.inr ab.act) aT (fun z U Y=>aa.norel z (by omega)),ab.heard,aV⟩);have e2:HappensBefore (t++u) q p:=am aS aU W.2.1;have hle:x≤ρ:=Nat.le_of_not_lt fun ao=>ab.after x ao K ak;refine⟨t.size,aB,?_⟩;rcases Nat.lt_or_ge x ρ with V | V
   ·exact((am V K ab.g).trans (aC.trans e2)).trans ai
   ·obtain rfl:x=ρ:=by omega
    exact(aC.trans e2).trans ai
  ·
   have an:g=B.N0+F.n:=by rw [ae] at av;have:=h.Bp.cj ae;simp at av;omega
   subst an;have hle:x≤p:=Nat.le_of_not_lt fun ao=>W.2.2.2.2 x ao K ak;refine⟨t.size,aB,?_⟩;rcases Nat.lt_or_ge x p with V | V
   ·exact(am V K W.2.1).trans ai
   ·obtain rfl:x=p:=by omega
    exact ai
 ·have:=aa.deaf 0 aj;rw [ap] at this;exact this
theorem Inv.recv(h:Inv P F B gs w t φ r bt S Sh j c v wt' sm cl k)(aL:∀k v E E',Le E E'→F.msg k v E→F.msg k v E'){x:Goroutine}(hi:gs[0]? =some x){aj:List Nat}{vs:Lv_}(Z:φ 0= .ph (.B7 aj vs))(aM:bt 0=true)
  {O:Goroutine} {s₀:St} (ak:CV (S 0) s₀) (hs:Stop P F (.B7 aj vs) O s₀) (al:∀w,stepG P true x w=stepG P true O w) (a4:x.frame=O.frame):
  Hd P F B gs w sl t 0 (mu F gs.size φ r bt):=by
 have am:0<gs.size:=(Array.getElem?_eq_some_iff.1 hi).1;obtain⟨z,aN,_,aO⟩:=hs.law.recv aj vs rfl;have an:stepG P (0==0) x w= .comm O #[rcase F.ch z] true (.recv true) w #[]:=by rw [show((0:Nat)==0)=true from rfl,al];exact aN w
 have ao:∀(a:Nat) (fn:FuncId) (pos:String),MemOp.ofEvents a fn pos #[]= #[]:=fun a fn pos=>by rw [ofEvents_eq];simp
 by_cases aa:partners (gs.setIfInBounds 0 ph) F.ch true= []
 ·cases ab:cl with
  | false=>
   have W:=h.GU;rw [ab] at W;have Y:=crowd_waits (sl:=sl) hi an fun a5 aA=>by
    simp at aA;subst aA;exact ways_recv_none (z:=z) W aa
   have aP:∀a k',a<gs.size→φ a= .ph (.Cn k')→bt a=true:=by
    intro a k' ah ap;cases hb:bt a with
    | true=>rfl
    | false=>
     have V:=h.Ep a _ (Array.getElem?_eq_getElem ah);rw [ap,hb] at V;obtain⟨g,y,aq,hgo,_⟩:=V.NM;have ai:a≠0:=fun e=>by subst e;rw [Z] at ap;cases ap
     have:(a,0)∈partners (gs.setIfInBounds 0 ph) F.ch true:=mem_partners.2 ⟨gs[a],stand_get ai (Array.getElem?_eq_getElem ah),by rw [hgo,offersAt_parked_send];simp⟩;rw [aa] at this;cases this
   obtain⟨aB,ar,au⟩:=h.rest (g':=parked O #[rcase F.ch z] (.recv true)) (u:=MemOp.ofEvents 0 x.frame.fn x.frame.place #[]) am aM ak (by rw [Z];exact .Fp rfl hs) (ao _ _ _) (fun _=>⟨ab,aP⟩) (fun k' e=>by rw [Z] at e;cases e) (fun W e=>by have:=h.Bp.pos;omega);exact⟨_,_,_,_,Y,.inl ⟨_,_,_,_,_,_,_,_,_,_,_,_,ar,au⟩⟩
  | true=>
   subst ab;have Y:=crowd_recv_closed (sl:=sl) hi an h.GU aa;rw [finishComm_recv,ao] at Y;obtain⟨W,a6,aQ⟩:=h.Qu;have aR:=aO fun k' U hh=>by
    have aS:k'<j:=by rw [h.Bp.cj W];exact U
    have aC:=h.Bp.GR k' aS hh;rw [Z] at aC;have a7:=h.Bp.size;have a8:=h.Bp.pos;obtain⟨d,aD⟩:=aQ (B.N0+k') (by omega) (by omega);apply Classical.byContradiction;intro aT;rw [aC.2 aT] at aD;cases aD
   have aU:=h.over (gs':=gs.setIfInBounds 0 (served O (recvd true z false))) Z ak aR (by simp) (by rw [Array.getElem?_setIfInBounds_self_of_lt am];rfl) (fun a ah=>by rw [Array.getElem?_setIfInBounds_ne (Ne.symm ah)]) (f1:=O.frame.fn) (p1:=O.frame.place);refine⟨_,_,_,_,Y,.inr ?_⟩;rw [Array.empty_append];exact aU
 ·have ab:cl=false:=by
   obtain⟨⟨a,b⟩,av⟩:=List.exists_mem_of_ne_nil _ aa;obtain⟨o,aw,K⟩:=mem_partners.1 av;rcases getElem?_stand gs 0 a o aw with⟨_,rfl⟩ | ⟨_,ae⟩
   ·rw [offersAt_ph] at K;cases K
   ·obtain⟨k',U,_⟩:=(h.Ep a o ae).M5 fun e=>by rw [e] at K;cases K
    cases al:cl with
    | false=>rfl
    | true=>exact absurd U (h.noSend al a k' (Array.getElem?_eq_some_iff.1 ae).1)
  subst ab;obtain⟨a,ay,aE,a9,ba,d,ai,aF,Y⟩:=crowd_recv_meets_some (sl:=sl) hi an h.GU aa fun a b av=>by
   obtain⟨o,aw,K⟩:=mem_partners.1 av;rcases getElem?_stand gs 0 a o aw with⟨_,rfl⟩ | ⟨aV,ae⟩
   ·rw [offersAt_ph] at K;cases K
   ·have V:=h.Ep a o ae;obtain⟨k',U,az⟩:=V.M5 fun e=>by rw [e] at K;cases K
    rw [U,az] at V;obtain⟨g,y,aq,hgo,_⟩:=V.NM;rw [hgo,offersAt_parked_send] at K;simp at K;exact⟨K,aV,g,y,aq,_,by rw [ae,hgo]⟩
  have aG:a<gs.size:=(Array.getElem?_eq_some_iff.1 aF).1;have V:=h.Ep a _ aF;obtain⟨k',U,az⟩:=V.M5 (by rw [offersAt_parked_send];simp);rw [U,az] at V;obtain⟨g,y,aq,hgo,aW,bb,aH⟩:=V.NM;obtain⟨aI,e2,aX⟩:=So hgo;have aY:aE=y:=by simp [scase] at aI;exact aI.1
  subst aY;subst e2;rw [finishComm_recv,finishComm_send,ao] at Y;rw [← aX] at aH;have aJ:k'<j∧a=B.N0+k':=by
   rcases h.Bp.Fe aG with rfl | ⟨q1,q2⟩ | ⟨aZ,aK,rfl⟩ | ⟨W,rfl⟩
   ·exact absurd rfl ai
   ·have:=h.Bp.old a q1 q2;rw [U] at this;exact this.elim
   ·have:=h.Bp.work aZ aK;rw [U] at this;obtain⟨rfl,_⟩:=this;exact⟨aK,rfl⟩
   ·have:=h.Bp.cls W;rw [U] at this;exact this.elim
  obtain⟨a0,a1,aB,S',ar,au⟩:=(h.at_ d).meet aL aJ.1 aJ.2 U Z ak (.refl _) hs aW aH (gs':=(gs.setIfInBounds a (served ay undef)).setIfInBounds 0 (served O (recvd true aE true))) (by simp)
   (by rw [Array.getElem?_setIfInBounds_self_of_lt (by simpa using am)];rfl) (by rw [Array.getElem?_setIfInBounds_ne (Ne.symm ai),Array.getElem?_setIfInBounds_self_of_lt aG]) (fun b a2 a3=>by rw [Array.getElem?_setIfInBounds_ne (Ne.symm a2),Array.getElem?_setIfInBounds_ne (Ne.symm a3)]) rfl
   (f1:=ay.frame.fn) (f2:=O.frame.fn) (p1:=ay.frame.place) (p2:=O.frame.place)
  refine⟨_,_,_,_,Y,.inl ⟨a0,a1,aB,S',Sh,j,c,v,wt',sm,false,k+1,?_,au⟩⟩;rw [Array.empty_append];exact ar
theorem Inv.spawn(h:Inv P F B gs w t φ r bt S Sh j c v wt' sm cl k){g g' child:Goroutine}(hi:gs[0]? =some g){p U O:Ph}(ai:φ 0= .ph p)(aw:c=false){s₀:St}(ar:CV (S 0) s₀)(ay:stepG P true g w= .spawn g' child w #[])
  (az:Way P true (Stop P F U) g' s₀) (aA:Way P false (Stop P F O) child ⟨s₀.E,fun _=>none,false⟩) (aB:Fam.Dj U=true) (aC:Fam.Dj O=false) (aD:Fam.DR U=false) (aE:Fam.DR O=false) {aj:Nat} {ak:Bool}
  (aF:B6 F B.N0 (gs.size+1) aj ak (upd (upd φ gs.size (.ph O)) 0 (.ph U)) v wt' sm cl)
  (Z:D4 (.ph p)=0∧D4 (.ph U)=0∧D4 (.ph O)=0) (aG:∀k,k<aj→late (upd (upd φ gs.size (.ph O)) 0 (.ph U) (B.N0+k))→k<j∧late (φ (B.N0+k))) (ao:ak=true→B.N0+F.n=gs.size∧O= .CP)
  (hm:wt F.n (.ph U)+wt F.n (.ph O)<wt F.n (.ph p)) (aH:sm=0):
  Hd P F B gs w sl t 0 (mu F gs.size φ r bt):=by
 have W:0<gs.size:=(Array.getElem?_eq_some_iff.1 hi).1;have al:=runT_crowd_spawn (P:=P) (sl:=sl) (i:=0) hi (show stepG P (0==0) g w=_ from ay);have aI:∀(a:Nat) (fn:FuncId) (pos:String),MemOp.ofEvents a fn pos #[]= #[]:=fun a fn pos=>by rw [ofEvents_eq];simp
 rw [aI] at al;generalize aJ:({g:=0,fn:=g.frame.fn,pos:=g.frame.place,act:= .go gs.size}:MemOp)=x at al;generalize aK:({g:=gs.size,fn:=child.frame.fn,pos:=g.frame.place,act:= .start}:MemOp)=y at al;have aa:x.g=0∧x.act= .go gs.size:=by subst aJ;exact⟨rfl,rfl⟩
 have ab:y.g=gs.size∧y.act= .start:=by subst aK;exact⟨rfl,rfl⟩
 have aL:((#[]:Trace).push x).push y= #[x,y]:=rfl;have am:((gs.setIfInBounds 0 g').push child).size=gs.size+1:=by simp
 have f0:upd (upd φ gs.size (.ph O)) 0 (.ph U) 0= .ph U:=upd_same _ _ _;have an:upd (upd φ gs.size (.ph O)) 0 (.ph U) gs.size= .ph O:=by rw [upd_ne _ _ (by omega),upd_same]
 have au:∀a,a≠0→a≠gs.size→upd (upd φ gs.size (.ph O)) 0 (.ph U) a=φ a:=fun a aM aN=>by rw [upd_ne _ _ aM,upd_ne _ _ aN]
 have hu:∀op∈(#[x,y]:Array MemOp),op.act.touch? =none∧∀m,op.act≠ .mark m:=by
  intro op K;simp only [List.mem_toArray,List.mem_cons,List.not_mem_nil,or_false] at K;rcases K with rfl | rfl
  ·rw [aa.2];exact⟨rfl,by simp⟩
  ·rw [ab.2];exact⟨rfl,by simp⟩
 have aO:DK F B.N0 B.t0 (gs.size+1) aj ak (upd (upd φ gs.size (.ph O)) 0 (.ph U)) (t++ #[x,y]):=by
  refine h.Ek.spawn h.Bp aw (fun a ap=>?_) (by rw [an];exact Z.2.2) (by rw [ai];exact Z.1) aG (fun e=>⟨(ao e).1,by rw [(ao e).1,an,(ao e).2]⟩) aa ab;by_cases e:a=0
  ·subst e;rw [f0,ai,Z.1,Z.2.1]
  ·rw [au a e (by omega)]
 have av:B8 t w gs.size (upd S 0 s₀) Sh:=h.CE.ghost W ar;have aP:B8 (t++ #[x,y]) w gs.size (upd S 0 s₀) Sh:=by
  refine av.ext (fun said=>?_) (fun op K a ap=>by rw [(hu op K).1] at ap;cases ap) (fun op K=>?_) rfl fun _ _=>rfl
  ·have e:t++ #[x,y]=(t++ #[x])++ #[y]:=by apply Array.ext';simp
   rw [e];exact noRace_append (g:=gs.size) (noRace_append (g:=0) (h.CE.clean said) (fun op K=>by simp at K;subst K;exact aa.1) fun z a _ op K b hb _=>by rw [(hu op (by simp at K ⊢;exact .inl K)).1] at hb;cases hb)
    (fun op K=>by simp at K;subst K;exact ab.1) fun z a _ op K b hb _=>by rw [(hu op (by simp at K ⊢;exact .inr K)).1] at hb;cases hb
  ·simp only [List.mem_toArray,List.mem_cons,List.not_mem_nil,or_false] at K;rcases K with rfl | rfl
   ·rw [aa.2];trivial
   ·rw [ab.2];trivial
 have aQ:B8 (t++ #[x,y]) w (gs.size+1) (upd (upd S 0 s₀) gs.size ⟨s₀.E,fun _=>none,false⟩) Sh:=by
  refine aP.push (i:=0) W (E:=s₀.E) (fun b o ae=>by rw [upd_same];exact ae) fun b hb z a aR aS aT=>?_;have hold:touchAt t z=some a:=by
   obtain⟨op,ae,aq⟩:=touch_of aR;rcases getElem?_append_cases ae with⟨_,aU⟩ | ⟨_,aV⟩
   ·rw [touchAt_of aU];exact aq
   ·rw [(hu op aV).1] at aq;cases aq
  exact fork_knows aa ab (by rw [h.Ek.deaf 0 W,ai];exact Z.1) (h.Ek.above _ (Nat.le_refl _)) (av.kE 0 W b (by rw [upd_same];exact hb) z a hold aS aT)
 obtain⟨aW,aX⟩:=az;obtain⟨aY,aZ⟩:=aA;have ah:∀{α:Type} (f:Nat→α) (a b:α),upd (upd f 0 a) gs.size b 0=a:=fun f a b=>by rw [upd_ne _ _ (by omega),upd_same]
 refine⟨_,_,_,_,al,.inl ⟨upd (upd φ gs.size (.ph O)) 0 (.ph U),upd (upd r 0 aW) gs.size aY,upd (upd bt 0 true) gs.size true,upd (upd S 0 s₀) gs.size ⟨s₀.E,fun _=>none,false⟩,Sh,aj,ak,v,wt',sm,cl,k,?_,?_⟩⟩
 ·rw [aL];refine⟨by rw [am];exact aF,by rw [am];exact aO,fun a o V=>?_,by rw [am];exact aQ,h.HB,h.F8,h.ne,h.wg,h.GU,fun hb=>(by rw [ah] at hb;cases hb),fun _ _=>aH,?_,h.tape,h.os,h.output⟩
  ·by_cases e:a=0
   ·subst e;rw [Array.getElem?_push_lt (by simpa using W)] at V;simp at V;subst V;rw [f0,ah,ah,ah];exact .walk aB.symm (fun q=>by rw [aD] at q;cases q) aX
   ·by_cases Y:a=gs.size
    ·subst Y;have:child=o:=by
      rw [show gs.size=(gs.setIfInBounds 0 g').size by simp,Array.getElem?_push_size] at V;exact Option.some.inj V
     subst this;rw [an,upd_same,upd_same,upd_same];have a0:(gs.size==0)=false:=by rw [beq_eq_false_iff_ne];omega
     rw [a0];exact .walk aC.symm (fun q=>by rw [aE] at q;cases q) aZ
    ·rw [au a e Y,upd_ne _ _ Y,upd_ne _ _ e,upd_ne _ _ Y,upd_ne _ _ e,upd_ne _ _ Y,upd_ne _ _ e];have:gs[a]? =some o:=by
      rw [Array.getElem?_push] at V;simp [Y] at V;simpa [Array.getElem?_setIfInBounds_ne (Ne.symm e)] using V
     exact h.Ep a o this
  ·rw [ah];exact h.le.trans fun b o ae=>ar.ext b o ae
 ·rw [am];refine Ru ?_;simp only [sumTo];rw [an];have a1:=sumTo_upd (upd φ gs.size (.ph O)) (.ph U) (wt F.n) W;rw [upd_ne _ _ (by omega),ai] at a1;have a2:=sumTo_upd_out φ (.ph O) (wt F.n) (i:=gs.size) (j:=gs.size) (Nat.le_refl _);omega
theorem Inv.step(h:Inv P F B gs w t φ r bt S Sh j c v wt' sm cl k)(aC:∀k v E E',Le E E'→F.msg k v E→F.msg k v E'):
  ∃gs' w' aD u,stepT P (crowd gs w sl)=(.next (crowd gs' w' aD),u)∧
  ((∃aP aQ aR S' a1 O a2 v' a3 sm' cl' k',Inv P F B gs' w' (t++u) aP aQ aR S' a1 O a2 v' a3 sm' cl' k'∧Mu.lt (mu F gs'.size aP aQ aR) (mu F gs.size φ r bt))∨Over P F B gs' w' (t++u)):=by
 have bv:=h.Bp.pos;have ai:=h.Bp.size;have aE:0<gs.size:=by omega
 have a4:∀x∈gs,awake x:=by
  intro x K;obtain⟨i,hi,rfl⟩:=Array.mem_iff_getElem.1 K;exact(h.Ep i _ (Array.getElem?_eq_getElem hi)).awake
 have aF:∀i (hi:i<gs.size) p,φ i= .ph p→bt i=true→(gs[i]).status= .running:=by
  intro i hi p a5 hb;have hs:=h.Ep i _ (Array.getElem?_eq_getElem hi);rw [a5,hb] at hs;generalize K:Nx.ph p=x at hs;generalize Y:true=b at hs;generalize gs[i]=o at hs ⊢;generalize r i=ρ at hs;generalize S i=s at hs;cases hs with
  | walk _ _ an=>exact an.running
  | again _ _=>rfl
  | Fp _ _=>cases Y
  | FM _ _ _ _=>cases Y
  | blk _ _=>cases Y
  | gone _ _=>cases K
 have a6:∃(i:Nat) (g:Goroutine),gs[i]? =some g∧g.status= .running:=by
  obtain⟨p0,Z,ao⟩:=h.Bp.main;cases aG:bt 0 with
  | true=>exact⟨0,_,Array.getElem?_eq_getElem aE,aF 0 aE p0 Z aG⟩
  | false=>
   obtain⟨a7,a8⟩:=h.Mz aG;have aS:=h.Ep 0 _ (Array.getElem?_eq_getElem aE);rw [Z,aG] at aS;obtain⟨aj,vs,aT,bw,rfl,_,_⟩:=aS.receiver rfl rfl;obtain⟨an,U⟩:=ao;have aH:B.N0+F.n<gs.size:=by rw [U] at ai;simp at ai;omega
   have a9:=h.Bp.cls U;have aa:=h.Bp.mode;rw [if_pos U] at aa;cases ar:φ (B.N0+F.n) with
   | gone d=>rw [ar] at aa;have:=aa.2.2.2.2.2;rw [a7] at this;cases this
   | ph aI=>
    cases aJ:bt (B.N0+F.n) with
    | true=>exact⟨_,_,Array.getElem?_eq_getElem aH,aF _ aH aI ar aJ⟩
    | false=>
     have au:=h.blk U aJ;have ab:=h.Ep _ _ (Array.getElem?_eq_getElem aH);have ba:aI= .Dc:=by
      have av:=a9;rw [ar] at ab av;rw [aJ] at ab;generalize gs[B.N0+F.n]=o at ab;generalize r (B.N0+F.n)=ρ at ab;generalize S (B.N0+F.n)=s at ab;generalize K:Nx.ph aI=x at ab av;generalize Y:false=b at ab;cases ab with
      | walk _ _ _=>cases Y
      | again _ _=>cases Y
      | Fp _ _=>cases K;exact av.elim
      | FM _ _ _ _=>cases K;exact av.elim
      | blk _ _=>cases K;rfl
      | gone _ _=>cases K
     subst ba;rw [ar] at aa;obtain⟨bb,_,_⟩:=aa;have aU:=h.Bp.cnt;rw [Z] at aU;simp only [pend,Nat.add_zero] at aU;have hex:∃i,i<gs.size∧1≤cU (φ i)+cL (φ i)+cS (φ i):=by
      apply Classical.byContradiction;intro bc;have aK:∀i,i<gs.size→cU (φ i)=0∧cL (φ i)=0∧cS (φ i)=0:=fun i hi=>by
       have:¬1≤cU (φ i)+cL (φ i)+cS (φ i):=fun q=>bc ⟨i,hi,q⟩;omega
      have zero:∀f:Nat→Nat,(∀i,i<gs.size→f i=0)→sumTo gs.size f=0:=fun f bd=>by
       have:=sumTo_le (f:=f) (c:=0) (j:=gs.size) (fun i hi=>by rw [bd i hi];exact Nat.le_refl _);omega
      have z1:=zero (fun i=>cU (φ i)) fun i hi=>(aK i hi).1;have bx:=zero (fun i=>cL (φ i)) fun i hi=>(aK i hi).2.1;have bz:=zero (fun i=>cS (φ i)) fun i hi=>(aK i hi).2.2;omega
     obtain⟨i,hi,ak⟩:=hex;cases ap:φ i with
     | gone d=>rw [ap] at ak;simp [cU,cL,cS] at ak
     | ph pi=>
      have be:bt i=true:=by
       cases hb:bt i with
       | true=>rfl
       | false=>
        have hs:=h.Ep i _ (Array.getElem?_eq_getElem hi);rw [ap,hb] at hs;rw [ap] at ak;generalize gs[i]=o at hs;generalize r i=ρ at hs;generalize S i=s at hs;generalize K:Nx.ph pi=x at hs ak;generalize Y:false=b at hs;cases hs with
        | walk _ _ _=>cases Y
        | again _ _=>cases Y
        | Fp _ _=>simp [cU,cL,cS] at ak
        | FM _ _ _ _=>have:=a8 i _ hi (ap.trans K);rw [hb] at this;cases this
        | blk _ _=>simp [cU,cL,cS] at ak
        | gone _ _=>cases K
      exact⟨i,_,Array.getElem?_eq_getElem hi,aF i hi pi ap be⟩
 obtain⟨i,g,d,aD,hi,aw,bf⟩:=crowd_pick (P:=P) (w:=w) (sl:=sl) a4 a6
 suffices Hd P F B gs (w.at d) aD t i (mu F gs.size φ r bt) by
  obtain⟨gs',w',bg,u,aL,ay⟩:=this;exact⟨gs',w',bg,u,bf.trans aL,ay⟩
 have V:=h.at_ d;have aM:i<gs.size:=(Array.getElem?_eq_some_iff.1 hi).1;have hs:=h.Ep i g hi;generalize K:φ i=x at hs;generalize aV:r i=ρ at hs;generalize hb:bt i=b at hs;generalize az:S i=s at hs;cases hs with
 | Fp _ _=>cases aw
 | FM _ _ _ _=>cases aw
 | blk _ _=>cases aw
 | gone hm al=>exact V.slip hi aw K aV hm al az
 | @again aj vs _ aT _ z hm W=>
  have ah:i=0:=by simpa using hm
  subst ah;refine V.recv aC hi K hb (by rw [az];exact .refl _) W (fun w=>?_) rfl;rw [stepG_tries];congr 1;have:=W.law.run;obtain⟨a,b,c,d,e⟩:=aT;simp only at this;subst this;rfl
 | @walk p _ _ _ hm al an=>
  have bh:JQ (Stop P F p) g s∨∃f,ρ= .node f∧(∀w,Fits s w→∃g' s' w' es,stepG P (i==0) g w= .go g' w' es∧Jr P (i==0) (JQ (Stop P F p)) (f w) g' s'∧Fits s' w'∧Fr s w s' w'∧(∀e∈es,Ev s w w' e)∧(s= .quiet→s'= .quiet∧w'=w∧es= #[])):=by
   cases ρ with
   | leaf=>exact .inl an
   | node f=>
    rcases an with q | ⟨_,q⟩
    ·exact .inl q
    ·exact .inr ⟨f,rfl,q⟩
  rcases bh with⟨s₀,am,W⟩ | ⟨f,rfl,hgo⟩
  ·subst az;by_cases aW:∃k',p= .Cn k'
   ·obtain⟨k',rfl⟩:=aW;exact V.send aC hi K hb hm am W
   by_cases c2:∃O,p= .EN O
   ·obtain⟨O,rfl⟩:=c2;have ah:i=0:=by simpa [Fam.Dj] using hm
    subst ah;obtain⟨p0,Z,ao⟩:=h.Bp.main;have:p0= .EN O:=by rw [K] at Z;exact(Nx.ph.inj Z).symm
    subst this;obtain⟨rfl,bi,U⟩:=ao;obtain⟨g',child,_,_,hgo,aN,aO⟩:=W.law.go _ rfl;have au:sm=0:=by have:=h.Bp.mode;rw [U] at this;exact this.2.2.1
    have bj:=h.Bp.spawn K;have aA:F.Dy O= .Ft∨F.Dy O= .EX (O+1):=by unfold Fam.Dy;split;exact .inl rfl;exact .inr rfl
    have aq:F.start O= .Cn O∨F.start O= .CO:=by unfold Fam.start;split;exact .inl rfl;exact .inr rfl
    have bl:gs.size=B.N0+O:=by rw [U] at ai;simpa using ai
    refine V.spawn hi K U am (hgo _) aO aN ?_ ?_ ?_ ?_ bj ⟨rfl,?_,?_⟩ (fun k' aX ae=>?_) (fun e=>by rw [U] at e;cases e) ?_ au
    ·rcases aA with e | e <;> rw [e] <;> rfl
    ·rcases aq with e | e <;> rw [e] <;> rfl
    ·rcases aA with e | e <;> rw [e] <;> rfl
    ·rcases aq with e | e <;> rw [e] <;> rfl
    ·rcases aA with e | e <;> rw [e] <;> rfl
    ·rcases aq with e | e <;> rw [e] <;> rfl
    ·by_cases e:k'=O
     ·subst e;rw [upd_ne _ _ (by omega),show B.N0+k'=gs.size by omega,upd_same] at ae;rcases aq with e | e <;> rw [e] at ae <;> exact ae.elim
     ·rw [upd_ne _ _ (by omega),upd_ne _ _ (by omega)] at ae;exact⟨by omega,ae⟩
    ·have:wt F.n (.ph (F.start O))≤10:=by rcases aq with e | e <;> rw [e] <;> simp [wt]
     have ay:wt F.n (.ph (F.Dy O))+20≤5*F.n+60+20*(F.n - O):=by
      rcases aA with e | e <;> rw [e] <;> simp only [wt] <;> omega
     have aY:wt F.n (.ph (.EN O))=5*F.n+55+20*(F.n - O):=rfl;omega
   by_cases c3:p= .Ft
   ·subst c3;have ah:i=0:=by simpa [Fam.Dj] using hm
    subst ah;obtain⟨p0,Z,ao⟩:=h.Bp.main;have:p0= .Ft:=by rw [K] at Z;exact(Nx.ph.inj Z).symm
    subst this;obtain⟨bi,U⟩:=ao;obtain⟨g',child,_,_,hgo,aN,aO⟩:=W.law.Gs rfl;have au:sm=0:=by have:=h.Bp.mode;rw [U] at this;exact this.2.2.1
    have bl:gs.size=B.N0+j:=by rw [U] at ai;simpa using ai
    refine V.spawn hi K U am (hgo _) aO aN rfl rfl rfl rfl (h.Bp.V5 K) ⟨rfl,rfl,rfl⟩ (fun k' aX ae=>?_) (fun _=>⟨by omega,rfl⟩) (by simp only [wt];omega) au;rw [upd_ne _ _ (by omega),upd_ne _ _ (by omega)] at ae;exact⟨aX,ae⟩
   by_cases c4:∃aj vs,p= .B7 aj vs
   ·obtain⟨aj,vs,rfl⟩:=c4;have ah:i=0:=by simpa [Fam.Dj] using hm
    subst ah;exact V.recv aC hi K hb am W (fun _=>rfl) rfl
   by_cases aZ:p= .Dw
   ·subst aZ;exact V.close hi K hm W
   by_cases aB:p= .Dc∧sm=0
   ·obtain⟨rfl,aB⟩:=aB;exact V.block hi K hb hm am W aB
   obtain⟨v',w',sm',es,nx,bm⟩:=h.Bp.enabled aM K (fun k e=>aW ⟨k,e⟩) (fun k e=>c2 ⟨k,e⟩) c3 (fun aj vs e=>c4 ⟨aj,vs,e⟩) aZ (fun e=>by
    have aa:=h.Bp.mode
    subst e
    have a0:c=true∧i=B.N0+F.n:=by
     rcases h.Bp.Fe aM with rfl | ⟨a,b⟩ | ⟨k',bn,rfl⟩ | q
     ·obtain⟨q,al,bo⟩:=h.Bp.main;rw [K] at al;cases al;exact bo.elim
     ·have:=h.Bp.old i a b;rw [K] at this;exact this.elim
     ·have:=h.Bp.work k' bn;rw [K] at this;exact this.elim
     ·exact q
    rw [if_pos a0.1,← a0.2,K] at aa
    obtain⟨bb,_⟩:=aa
    have:sm≠0:=fun q=>aB ⟨rfl,q⟩
    omega)
   exact V.act hi K hm am W bm
  ·subst az;have bp:Fits (S i) (w.at d):=V.CE.fits i aM;obtain⟨g',s',w',es,aL,ay,aY,bq,br,bu⟩:=hgo (w.at d) bp;exact V.own hi K hm al aL ay aY bq br bu (by rw [aV];exact⟨f,_,rfl,rfl⟩)
theorem Inv.run(W:∀k v E E',Le E E'→F.msg k v E→F.msg k v E'):∀(K:Mu) (gs:Array Goroutine) (w:World) (sl:Option (Nat×Nat)) (t:Trace) (φ:Nat→Nx) (r:Nat→Rk) (bt:Nat→Bool) (S:Nat→St) (Sh:Nat→Prop) (j:Nat) (c:Bool) (v wt' sm:Nat) (cl:Bool) (k:Nat),
  mu F gs.size φ r bt=K→Inv P F B gs w t φ r bt S Sh j c v wt' sm cl k→∃n gs' w' O U,runNT P n (crowd gs w sl) t=(.next (crowd gs' w' O),U)∧Over P F B gs' w' U:=by
 intro K
 induction K using Mu.wf.induction with
 | _ K Y=>
  intro gs w sl t φ r bt S Sh j c v wt' sm cl k Z h;obtain⟨gs',w',O,u,V,hh⟩:=h.step (sl:=sl) W;rcases hh with⟨aa,ab,ae,S',ah,ai,aj,v',ak,sm',cl',k',al,am⟩ | an
  ·obtain⟨n,ao,ap,aq,ar,au,av⟩:=Y _ (Z▸am) gs' w' O (t++u) aa ab ae S' ah ai aj v' ak sm' cl' k' rfl al;exact⟨n+1,ao,ap,aq,ar,Li V au,av⟩
  ·exact⟨1,gs',w',O,t++u,Li V rfl,an⟩
end
end Pal
namespace Pal
open Go Go.Conc
open Go.ConcN (upd upd_same upd_ne sumTo sumTo_upd sumTo_upd_out sumTo_congr le_sumTo sumTo_le)
def HT(H:LH)(a b:Nat):LH:=fun x=>if x=b then none else if x=a then none else H x
theorem UU{P:Program}(F:Fam){Q:GP}{g:Goroutine}{s:St}(ab:1≤F.n)(am:F.n<2147483647)(an:∀k v E E',Le E E'→F.msg k v E→F.msg k v E')
  (V:F.wg≠F.ch) (W:s.H F.wg=some (F.Gq 0 0)) (Y:s.H F.ch=some (.chan 0 #[] false 0 0 false))
  (ao:Way P true (Stop P F (.EX 0)) g ⟨s.E,HT s.H F.wg F.ch,false⟩) (ap:∀g s,F.fin g s→(Dt P).ok Q g s):(Dt P).ok Q g s:=by
 intro gs w sl t q Sh hC;have O:0<gs.size:=(Array.getElem?_eq_some_iff.1 hC.main).1;let s1:St:={s with H:=fun b=>if b=F.wg then none else s.H b}
 have ae:lone s 0=s:=rfl;have aq:B8 t w gs.size (upd (lone s) 0 s1) (fun b=>Sh b∨b=F.wg):=by
  have:=hC.CE.share (i:=0) O (b₀:=F.wg) (o₀:=F.Gq 0 0) (by rw [ae];exact W);exact this
 have c2:B8 t w gs.size (upd (upd (lone s) 0 s1) 0 ⟨s.E,HT s.H F.wg F.ch,false⟩) (fun b=>(Sh b∨b=F.wg)∨b=F.ch):=by
  have:=aq.share (i:=0) O (b₀:=F.ch) (o₀:= .chan 0 #[] false 0 0 false) (by rw [upd_same];simp [s1,Ne.symm V,Y]);refine this.congr fun i hi=>?_;by_cases e:i=0
  ·subst e;rw [upd_same,upd_same,upd_same];exact⟨rfl,rfl⟩
  ·have h:∀(f:Nat→St) (x:St),upd f 0 x i=f i:=fun f x=>upd_ne f x e;constructor <;> simp only [h]
 have ah:∀b,s.H b≠none→∀x a,touchAt t x=some a→Dv a.loc=some b→Knows t 0 x:=fun b hb=>hC.CE.kH 0 O b (by rw [ae];exact hb);have ai:∀b,(b=F.wg∨b=F.ch)→s.H b≠none:=by rintro b (rfl | rfl) <;> simp [W,Y]
 have aj:=hC.CE.fits 0 O;obtain⟨ρ,ar⟩:=ao;let φ:Nat→Nx:=fun i=>if i=0 then .ph (.EX 0) else .gone (Deaf t i)
 have z:∀f:Nx→Nat,(∀d,f (.gone d)=0)→f (.ph (.EX 0))=0→(sumTo gs.size fun i=>f (φ i))=0:=by
  intro f ak al;have:=sumTo_le (f:=fun i=>f (φ i)) (c:=0) (j:=gs.size) fun i _=>by
   show f (φ i)≤0;by_cases e:i=0
   ·simp [φ,e,al]
   ·simp [φ,e,ak]
  omega
 have au:∀i,(upd (upd (lone s) 0 s1) 0 ⟨s.E,HT s.H F.wg F.ch,false⟩) i=if i=0 then⟨s.E,HT s.H F.wg F.ch,false⟩ else .quiet:=by
  intro i;by_cases e:i=0
  ·subst e;rw [upd_same];rfl
  ·rw [upd_ne _ _ e,upd_ne _ _ e];simp [lone,e]
 have av:F.Gq (Fam.word 0 0) (0:Nat)=F.Gq 0 0:=by simp [Fam.word]
 have aw:Inv P F ⟨gs.size,t.size,s.E,w⟩ gs w t φ (fun i=>if i=0 then ρ else chain (q i)) (fun _=>true) (upd (upd (lone s) 0 s1) 0 ⟨s.E,HT s.H F.wg F.ch,false⟩) (fun b=>(Sh b∨b=F.wg)∨b=F.ch) 0 false 0 0 0 false 0:=by
  refine⟨⟨O,ab,am,by simp,Nat.zero_le _,by simp,⟨.EX 0,rfl,rfl,ab,rfl⟩,fun i ak al=>?_,fun k K=>by omega,by simp,?_,by simp [φ,pend],?_,fun k K=>by omega,.nil,fun k K=>by cases K⟩,
   ⟨fun i hi=>?_,fun i hi=>hC.lv.above i hi,fun x a b U hb Z K i hi ay=>?_,fun x a b U hb Z K=>?_,fun x g az V aA=> .inl (hC.over x g az V aA),fun x U e=>?_,Nat.le_refl _,fun k K=>by omega,by simp,by simp⟩,fun i g' aa=>?_,c2,.inl (.inr rfl),.inr rfl,V,?_,?_,by simp,by simp,?_,rfl,rfl,rfl⟩
  ·have:i≠0:=by omega
   simp [φ,this,EJ]
  ·rw [z cU (fun _=>rfl) rfl];simp [φ,pend]
  ·simp only [Bool.false_eq_true,if_false,CN];exact⟨z cL (fun _=>rfl) rfl,z cS (fun _=>rfl) rfl,trivial,trivial,trivial⟩
  ·by_cases e:i=0
   ·subst e;simp [φ,D4];exact hC.hears
   ·simp [φ,e,D4]
  ·have:i=0:=by
    rcases ay with e | e
    ·exact e
    ·exact absurd hi (Nat.not_lt.2 e)
   subst this;exact ah b (ai b Z) x a U hb
  ·exact ah b (ai b Z) x a U hb
  ·have:=lt_of_act? e;have aV:t.size≤x:=U;omega
  ·rw [au];by_cases e:i=0
   ·subst e;rw [hC.main] at aa;obtain rfl:=Option.some.inj aa;simp only [if_true,φ];exact .walk rfl (fun h=>by cases h) ar
   ·have hm:(i==0)=false:=by rw [beq_eq_false_iff_ne];exact e
    simp only [e,if_false,φ];exact .gone hm (hC.lv.old i g' (by omega) aa)
  ·show w.heap[F.wg]? =_;rw [av];exact aj.h _ _ W
  ·exact aj.h _ _ Y
  ·rw [upd_same];exact Le.refl _
 obtain⟨n,gs',w',aB,aC,aD,aE,aF,g',s',aG,aH,hle,aI,aJ,aK⟩:=Inv.run an _ _ _ sl _ _ _ _ _ _ _ _ _ _ _ _ _ rfl aw;obtain⟨aL,aM,w2,aN,t2,q2,aO,g2,s2,k1,aP,aQ,aR,aS,aT,aU⟩:=ap g' s' aH gs' w' aB aC aE aF aG;refine⟨n+aL,aM,w2,aN,t2,q2,aO,g2,s2,?_,aP,aQ,fun b o h=>aR b o (hle b o h),aS.trans aI,aT.trans aJ,aU.trans aK⟩;rw [runNT_add,aD];exact k1
end Pal
namespace Pal
open Go Go.Conc
section
variable {P:Program}{F:Fam}{J:Judge P}{Q:GP}{n:Nat}{L L':Env}{ds:Ld_}{k:Li_}{cs:Lf_}{s s':St}{b:Frame}{main:Bool}
theorem CH(hb:b.roundOf=none)(T:Ay)(todo:Li_):fr b T ds todo=b.at ⟨T,ds⟩ todo:=by simp [fr,Frame.at,hb]
theorem IV(hb:b.roundOf=none)(T:Ay)(todo:Li_):D9 b T ds todo={b.at ⟨T,ds⟩ todo with mode:= .returning}:=by simp [D9,Frame.at,hb]
theorem EH(T:Ay)(ds:Ld_)(x:Operand):(⟨T,ds⟩:Act).eval x=BB T x:=by cases x <;> rfl
theorem FJ(T:Ay)(ds:Ld_)(d:Option Tmp)(v:Value):(⟨T,ds⟩:Act).put d v=⟨Cw T d v,ds⟩:=by cases d <;> rfl
def JO(J:Judge P)(Q:GP)(b:Frame)(n:Nat)(L:Env)(ds:Ld_)(cs:Lf_)(s:St):Prop:=
 ∀T,Has n L T→∀todo,J.ok Q (G (D9 b T ds todo) cs) s
theorem JL.out(K:b.roundOf=none)(h:JO J Q b n L ds cs s):JL J Q b n L ds [] cs s:=fun T O=>
 Judge.C6 rfl (fun w=>by simp [G,stepG,stepG.exec,fr,D9,K]) (h T O [])
theorem GA(K:b.roundOf=none)(h:JO J Q b n L ds cs s):JL J Q b n L ds (.code .ret::k) cs s:=fun T O=>
 Judge.C6 rfl (fun w=>by simp [G,stepG,stepG.exec,fr,D9,K]) (h T O (.code .ret::k))
theorem JO.leave{c:Frame}{v:Value}(O:b.kind= .normal)(K:BY P b.fn L n s v)(h:J.ok Q (G (c.finish v) cs) s):JO J Q b n L [] (c::cs) s:=fun T U todo=>by
 obtain⟨fn,V,K⟩:=K
 exact Judge.leave O V (K T U) h
theorem JO.leaveD{c:Frame}{fn:Func}(O:b.kind= .deferred)(U:P.funcs[b.fn]? =some fn)(K:fn.results= #[])(V:c.mode= .returning∨c.mode= .panicking [goexitEntry])(h:J.ok Q (G c cs) s):JO J Q b n L [] (c::cs) s:=fun T Y todo=>by
 refine Judge.C6 rfl (fun w=>?_) h
 have W:=results_none K T P w
 have e2:=fun(x:Array Event)=>events_results_none (P:=P) (w:=w) K T x
 rcases V with e | e <;> simp [G,stepG,unwind,D9,U,W,e2,doReturn,O,GStep.after,seen_none,e,goexitEntry]
theorem JO.enter{f:FuncId}{fn:Func}{c:Code}{vs:Lv_}(O:b.roundOf=none)(V:P.funcs[f]? =some fn)(W:(fn.name== "runtime.NumGoroutine")=false)(hb:fn.body=some c)(aa:vs.length≤fn.ntmps)
  (h:∀T,Has n L T→∀todo,JL J Q (baseD f) fn.ntmps (Fs 0 vs) [] [.code c] (D9 b T ds todo::cs) s):JO J Q b n L (dcall f vs.toArray::ds) cs s:=fun T Y todo=>by
 refine Judge.C6 rfl (fun w=>?_) (h T Y todo (vs.toArray++Array.replicate (fn.ntmps - vs.length) undef) ⟨by simp;omega,fun t v ht=>?_⟩)
 ·rw [IV O,stepG_unwind_enter (a:=⟨T,dcall f vs.toArray::ds⟩) rfl V W hb,IV O]
  rw [CH (b:=baseD f) rfl];simp
 ·obtain⟨_,K⟩:=IL ht;have Z:t<vs.length:=by
   rcases Nat.lt_or_ge t vs.length with U | U
   ·exact U
   ·simp at K;have:=(List.getElem?_eq_some_iff.1 K).1;omega
  rw [Array.getD_eq_getD_getElem?,Array.getElem?_append_left (by simpa using Z)];simp at K;simp [K]
theorem JL.defer{ops:Ao_}{i:Nat}{rest:List Nat}{d:Option Tmp}{f:FuncId}{args:Array Operand}{ats:Array TypeId}{ty:TypeId}{p:String}{af:Ae_}{g:On_}{vs:Lv_}
  (U:ops[i]? =some ⟨d,.defer ⟨.value (.func f),args,ats⟩,ty,p,af,g⟩) (V:b.roundOf=none) (hw:A8 L ops ⟨d,.defer ⟨.value (.func f),args,ats⟩,ty,p,af,g⟩=some true) (K:((b.kind != .early)&&Bt n d)=true)
  (W:evs L args.toList=some vs) (h:JL J Q b n (AB L d undef) (dcall f vs.toArray::ds) (.inRegion ops rest::k) cs s):
  JL J Q b n L ds (.inRegion ops (i::rest)::k) cs s:=fun T O=>by
 simp only [Bool.and_eq_true] at K
 have Y:args.map (BB T)=vs.toArray:=by
  rw [← Ga O.F2 W];apply Array.ext';simp
 refine Judge.oper U (CR O hw) (by simpa using K.1) (.inl V) ?_;have Z:execOp (BB T) ⟨d,.defer ⟨.value (.func f),args,ats⟩,ty,p,af,g⟩= .pure (.defer (dcall f vs.toArray)):=by
  simp only [execOp,resolve,bind,Sem.bind,Deferred.ofValue,BB,pure,dcall];rw [Y];simp
 rw [Z];exact h _ (O.put K.2 undef)
def I2:Ph→Bool
 | .Cn _ | .EN _ | .Ft | .B7 _ _ | .Dw | .Dc=>false
 | _=>true
theorem G2{p:Ph}{g:Goroutine}(K:I2 p=true)(U:g.status= .running)(V:g.offers=none)(O:if Fam.DR p=true then s= .quiet else s.q=false)(W:p= .El→mayWake P g=true)
  (h:∀v wt sm v' wt' sm' es nx,F.act p v wt sm=some ((v',wt',sm'),es,nx)→∃g',(∀w,F.WG w v wt sm→stepG P (Fam.Dj p) g w= .go g' (F.put w v' wt' sm') es)∧g'.status= .running∧KB P (Stop P F) (Fam.Dj p) nx g' (Fam.Gp p s)):Stop P F p g s:=
 Fw.stop {
  run:=U
  offers:=V
  quiet:=fun e=>by rw [if_pos e] at O;exact O
  live:=fun e=>by rw [if_neg (by rw [e];simp)] at O;exact O
  act:=h
  GK:=fun e=>by rcases e with e | e;exact W e;subst e;cases K
  Em:=fun e=>by subst e;cases K
  close:=fun e=>by subst e;cases K
  send:=fun k e=>by subst e;cases K
  go:=fun j e=>by subst e;cases K
  Gs:=fun e=>by subst e;cases K
  recv:=fun Y vs e=>by subst e;cases K}
theorem IW{w:World}{v wt sm:Nat}(h:F.WG w v wt sm):F.put w v wt sm=w:=by
 unfold Fam.put;have:w.heap.setIfInBounds F.wg (F.Gq (Fam.word v wt) sm)=w.heap:=by
  apply Array.ext_getElem?;intro i;by_cases e:F.wg=i
  ·subst e;unfold Fam.WG at h;have O:F.wg<w.heap.size:=by
    rcases Nat.lt_or_ge F.wg w.heap.size with K | K
    ·exact K
    ·simp [Array.getElem?_eq_none K] at h
   rw [Array.getElem?_setIfInBounds_self_of_lt O,h]
  ·rw [Array.getElem?_setIfInBounds_ne e]
 rw [this]
theorem G4{w:World}{v wt sm:Nat}(h:F.WG w v wt sm):w.cell? F.sA=some (.int .u64 (Fam.word v wt))∧w.cell? F.mA=some (.int .u32 sm)∧w.frozen? F.sA=false∧w.frozen? F.mA=false:=by
 unfold Fam.WG Fam.Gq at h;refine⟨?_,?_,?_,?_⟩
 ·simp [World.cell?,Fam.sA,h]
 ·simp [World.cell?,Fam.mA,h]
 ·simp [World.frozen?,Fam.sA,h]
 ·simp [World.frozen?,Fam.mA,h]
theorem Lg{w:World}{v wt sm v' wt':Nat}(h:F.WG w v wt sm):w.setCell F.sA (.int .u64 (Fam.word v' wt'))=F.put w v' wt' sm:=by
 unfold Fam.put World.setCell;congr 1;apply Array.ext_getElem?;intro i;unfold Fam.WG Fam.Gq at h;rw [Array.getElem?_modify];have O:F.wg<w.heap.size:=by
  rcases Nat.lt_or_ge F.wg w.heap.size with K | K
  ·exact K
  ·simp [Array.getElem?_eq_none K] at h
 by_cases e:F.wg=i
 ·subst e;rw [Array.getElem?_setIfInBounds_self_of_lt O,h];simp [Fam.sA,Fam.Gq]
 ·rw [Array.getElem?_setIfInBounds_ne e];simp [Fam.sA,e]
theorem OH{w:World}{v wt sm sm':Nat}(h:F.WG w v wt sm):w.setCell F.mA (.int .u32 sm')=F.put w v wt sm':=by
 unfold Fam.put World.setCell;congr 1;apply Array.ext_getElem?;intro i;unfold Fam.WG Fam.Gq at h;rw [Array.getElem?_modify];have O:F.wg<w.heap.size:=by
  rcases Nat.lt_or_ge F.wg w.heap.size with K | K
  ·exact K
  ·simp [Array.getElem?_eq_none K] at h
 by_cases e:F.wg=i
 ·subst e;rw [Array.getElem?_setIfInBounds_self_of_lt O,h];simp [Fam.mA,Fam.Gq]
 ·rw [Array.getElem?_setIfInBounds_ne e];simp [Fam.mA,e]
structure Dd (P:Program) (f:FuncId) (e:Ay→Sem Value):Prop where
 h:∃fn,P.funcs[f]? =some fn∧(fn.name== "runtime.NumGoroutine")=false∧fn.body.isNone=true∧Extern.findNext fn=none∧Extern.find fn=some e
section
variable {ops:Ao_}{i:Nat}{rest:List Nat}{d:Option Tmp}{f:FuncId}{args:Array Operand}{ats:Array TypeId}{ty:TypeId}{pp:String}{af:Ae_}{g:On_}{vs:Lv_}{p q:Ph}
theorem Oc{T:Ay}(K:Has n L T)(O:evs L args.toList=some vs):args.map (⟨T,ds⟩:Act).eval=vs.toArray:=by
 have:(⟨T,ds⟩:Act).eval=BB T:=funext fun x=>EH T ds x;rw [this,← Ga K.F2 O];apply Array.ext';simp
theorem JN{m:Mark}(W:I2 p=true)(Y:if Fam.DR p=true then s= .quiet else s.q=false)(Z:p≠ .El)(aa:∀v wt sm,F.act p v wt sm=some ((v,wt,sm),#[Fam.Ef m],.ph q))(ab:Fam.Gp p s=s)
  (ae:ops[i]? =some ⟨d,.call ⟨.value (.func f),args,ats⟩,ty,pp,af,g⟩) (O:b.roundOf=none) (hw:A8 L ops ⟨d,.call ⟨.value (.func f),args,ats⟩,ty,pp,af,g⟩=some true) (K:((b.kind != .early)&&Bt n d)=true)
  (hm:∀x,m≠ .extern x) (he:Dd P f (fun _=>do mark m;pure Extern.Race.none_))
  (h:JL (Bo P (Fam.Dj p)) (Stop P F q) b n (AB L d (.tuple #[])) ds (.inRegion ops rest::k) cs s):
  JL (Bo P (Fam.Dj p)) (Stop P F p) b n L ds (.inRegion ops (i::rest)::k) cs s:=fun T U=>by
 simp only [Bool.and_eq_true] at K
 obtain⟨fn,ah,ai,hb,aj,he⟩:=he.h
 refine(Bo P _).stop (G2 W rfl rfl Y (fun e=>absurd e Z) fun v wt sm v' wt' sm' es nx V=>?_)
 rw [aa] at V;cases V
 refine⟨_,fun w ak=>?_,rfl,by rw [ab];exact h _ (U.put K.2 _)⟩
 rw [CH O,CH O,stepG_mark0 (a:=⟨T,ds⟩) m hm ae (CR U hw) (by simpa using K.1) rfl ah ai hb aj he,IW ak,FJ]
 rfl
theorem JF{mk:Addr→Mark}{ad:Addr}(W:I2 p=true)(Y:if Fam.DR p=true then s= .quiet else s.q=false)(Z:p≠ .El)(aa:∀v wt sm,F.act p v wt sm=some ((v,wt,sm),#[Fam.Ef (mk ad)],.ph q))
  (ab:ops[i]? =some ⟨d,.call ⟨.value (.func f),args,ats⟩,ty,pp,af,g⟩) (U:b.roundOf=none) (hw:A8 L ops ⟨d,.call ⟨.value (.func f),args,ats⟩,ty,pp,af,g⟩=some true) (K:((b.kind != .early)&&Bt n d)=true)
  (hm:∀ad x,mk ad≠ .extern x) (he:Dd P f (Extern.Race.marked mk)) (ae:evs L args.toList=some vs) (ah:vs[0]? =some (.pointer (some ad)))
  (h:JL (Bo P (Fam.Dj p)) (Stop P F q) b n (AB L d (.tuple #[])) ds (.inRegion ops rest::k) cs (Fam.Gp p s)):
  JL (Bo P (Fam.Dj p)) (Stop P F p) b n L ds (.inRegion ops (i::rest)::k) cs s:=fun T O=>by
 simp only [Bool.and_eq_true] at K
 obtain⟨fn,ai,aj,hb,ak,he⟩:=he.h
 refine(Bo P _).stop (G2 W rfl rfl Y (fun e=>absurd e Z) fun v wt sm v' wt' sm' es nx V=>?_)
 rw [aa] at V;cases V
 refine⟨_,fun w al=>?_,rfl,h _ (O.put K.2 _)⟩
 rw [CH U,CH U,stepG_markAt (a:=⟨T,ds⟩) mk hm ab (CR O hw) (by simpa using K.1) rfl ai aj hb ak he (ad:=ad) (by rw [Oc O ae];simpa using ah),IW al,FJ]
 rfl
end
end
end Pal
namespace Pal
open Go Go.Conc
section
variable {E H:LH}{S:List Seg}{j l:Nat}{o o':Obj}
theorem LR(ae:As E H S)(V:S[j]? =some [(l,o)])(o':Obj):(Ak E H S).upd l o'=Ak E H (S.set j [(l,o')])∧As E H (S.set j [(l,o')]):=by
 obtain⟨K,W⟩:=Gc ae V;have U:=Nd.iff.1 W;have Y:E l=none:=(U.2 (l,o) (by simp)).1;have ah:H l=none:=(U.2 (l,o) (by simp)).2;have Z:Nd E H (S.set j []).flatten:=HK.Nd.left W;have ai:∀q∈(S.set j []).flatten,q.1≠l:=fun q O e=>by
  have:=U.1;rw [List.map_append,List.nodup_append] at this;exact this.2.2 q.1 (List.mem_map_of_mem O) l (by simp) e
 have aa:A7 (S.set j []).flatten H l=none:=by
  have key:∀(B:List (Nat×Obj)),(∀q∈B,q.1≠l)→A7 B H l=none:=by
   intro B
   induction B with
   | nil=>intro _;exact ah
   | cons q B aj=>
    intro O;obtain⟨c,ak⟩:=q;have ab:l≠c:=fun e=>O (c,ak) (by simp) e.symm;have K:=aj fun al am=>O al (List.mem_cons_of_mem _ am);simp only [A7]
    first
    | rw [if_neg ab];exact K
    | rw [if_neg (Ne.symm ab)];exact K
  exact key _ ai
 have f1:=IT (E:=E) (H:=H) (B:=(S.set j []).flatten) (r:=l) Y aa o Z;have f2:=IT (E:=E) (H:=H) (B:=(S.set j []).flatten) (r:=l) Y aa o' Z;obtain⟨an,g2⟩:=Hr (seg:= [(l,o)]) V f2.1;refine⟨?_,g2⟩;rw [K,← an,← f1.2,← f2.2];unfold St.upd;congr 1;funext x;by_cases ao:x=l <;> simp [ao]
end
section
variable {P:Program}{J:Judge P}{Q:Gs_}{b:Frame}{n:Nat}{L:Env}{ds:Ld_}{k:Li_}{cs:Lf_}{E H:LH}{S:List Seg}{j l:Nat}
theorem Judge.Em{α:Type}{g:Goroutine}{g':α→Goroutine}{s:St}(x:Sem α)(Y:s.q=false)(Z:g.status= .running)
  (aa:∀w a w',x.run P w= .ok a w'→∃es,stepG P J.main g w= .go (g' a) w' es∧∀e∈es,e∈x.events P w #[])
  (h:lp P x s (fun a s'=>J.ok Q (g' a) s') (fun _ _=>False)):J.ok Q g s:=by
 refine J.step ⟨Z,fun w f=>?_,fun e=>by subst e;cases Y⟩;obtain⟨s',O,U,V,K⟩:=Lq _ h f;cases W:x.run P w with
 | ok a w'=>
  rw [W] at O U V K;simp only [IE] at O U V;obtain⟨es,he,hm⟩:=aa w a w' W;exact⟨g' a,s',w',es,he,K,O,U,fun e ab=>V e (hm e ab)⟩
 | halt a w'=>rw [W] at K;exact K.elim
theorem Lh{r:Loop}{s:St}{K:Loop→St→Prop}{X:Halt→St→Prop}(h:s.get l=some (.loop r))(k:K r s):lp P (Instr.getLoop l) s K X:=by
 unfold Instr.getLoop getObj;simp only [bind,Sem.bind,lp];exact⟨_,h,rfl,k⟩
theorem OE{r:Loop}{T:Ay}(j:Nat)(K:As E H S)(O:S[j]? =some [(l,.loop r)])(hs:(r.state== .busy)=false)(U:r.pending=none)
  (h:As E H (S.set j [(l,.loop {r with state:= .exhausted})])→J.ok Q (G (fr b T ds k) cs) (Ak E H (S.set j [(l,.loop {r with state:= .exhausted})]))):
  J.ok Q (G (fr b T ds (.endRangeFunc l::k)) cs) (Ak E H S):=by
 obtain⟨u1,V⟩:=LR K O (.loop {r with state:= .exhausted});have W:lp P (Instr.endLoop l) (Ak E H S) (fun a s'=>a=none∧s'=Ak E H (S.set j [(l,.loop {r with state:= .exhausted})])) (fun _ _=>False):=by
  unfold Instr.endLoop;refine AF _ _ (Lh (Ez (i:=0) K O rfl) ?_);rw [if_neg (by rw [hs];simp)];have Y:(Ak E H S).H l=some (.loop r):=by
   have:=Ez (i:=0) K O rfl;have Z:E l=none:=L5 K O;unfold St.get at this;rw [show(Ak E H S).E l=none from Z] at this;exact this
  simp only [bind,Sem.bind,lp,setObj,pure];refine⟨⟨_,Y,rfl⟩,rfl,U,?_⟩;exact u1
 refine Judge.Em (g':=fun aa=>G (fr b T ds ((aa.map Item.code).toList++k)) cs) (Instr.endLoop l) rfl rfl (fun w a w' ab=>?_) (Di _ W (fun a s' ⟨ae,ah⟩=>by subst ae ah;exact h V) (fun _ _ h=>h));refine⟨seen P b.fn ((Instr.endLoop l).events P w #[])++ #[],?_,fun e he=>?_⟩
 ·simp [G,stepG,stepG.exec,fr,ab,GStep.after]
 ·exact mem_seen (by simpa using he)
def Rr(l:Nat)(f:FuncId):Frame:={(default:Frame) with fn:=f,kind:= .normal,roundOf:=some l}
theorem EB.yield{r:Loop}{t:Tmp}{v:Value}{B:Seg}{R:Value→LH→Seg→Prop}{i:Nat}(K:B[i]? =some (l,.loop r))(O:r.params= #[t])
  (h:∀(Q:Gs_) (U:Frame) (cs:Lf_) (H:LH),As E H [B]→(∀w E' S' B',Le E E'→S'.flatten=B'→R w E' B'→As E' H S'→J.ok Q (G (U.finish w) cs) (Ak E' H S'))→
   J.ok Q (G (fr (Rr l r.fn) (r.tmps.setIfInBounds t v) [] [.code r.assign,.beginRound,.code r.body]) (U::cs)) (Ak E H [B])):
  EB J (.func (.yield l) #[] #[]) [v] E B R:=fun H V Q c cs W=>by
 have Y:(mk E H B).get l=some (.loop r):=M4 V K
 simp only [Deferred.ofValue,bind,Sem.bind,pure,invoke]
 unfold Instr.yield
 refine AF _ _ (Lh Y ?_)
 have Z:¬((#[]:Ay)++ [v].toArray).size≠r.params.size:=by rw [O];simp
 rw [if_neg Z];have e2:((r.params.zip ((#[]:Ay)++ [v].toArray)).foldl (fun tmps (t,a)=>tmps.setIfInBounds t a) r.tmps)=r.tmps.setIfInBounds t v:=by rw [O];simp [Array.zip,Array.zipWith,Array.zipWithMAux]
 simp only [lp,pure];have aa:mk E H B=Ak E H [B]:=by unfold Ak;simp
 rw [e2,aa];exact h Q c cs H (by unfold As;simpa using V) fun w E' S' B' hle K ab ae=>by
  subst K;exact W w _ ⟨E',S'.flatten,hle,ab,ae,rfl⟩
theorem JL.beginRound{r:Loop}(j:Nat)(U:b.roundOf=some l)(V:b.kind= .normal)(K:As E H S)(O:S[j]? =some [(l,.loop r)])(hs:r.state= .ready)
  (h:As E H (S.set j [(l,.loop {r with state:= .busy})])→JL J Q b n L ds k cs (Ak E H (S.set j [(l,.loop {r with state:= .busy})]))):
  JL J Q b n L ds (.beginRound::k) cs (Ak E H S):=fun T W=>by
 obtain⟨u1,Y⟩:=LR K O (.loop {r with state:= .busy})
 have Z:lp P (Instr.beginRound l) (Ak E H S) (fun _ s'=>s'=Ak E H (S.set j [(l,.loop {r with state:= .busy})])) (fun _ _=>False):=by
  unfold Instr.beginRound;refine AF _ _ (Lh (Ez (i:=0) K O rfl) ?_);have aa:(Ak E H S).H l=some (.loop r):=by
   have:=Ez (i:=0) K O rfl;have ab:E l=none:=L5 K O;unfold St.get at this;rw [show(Ak E H S).E l=none from ab] at this;exact this
  simp only [bind,Sem.bind,lp,setObj,pure,hs];exact⟨⟨_,aa,rfl⟩,rfl,u1⟩
 refine Judge.Em (g':=fun _=>G (fr b T ds k) cs) (Instr.beginRound l) rfl rfl (fun w a w' ae=>?_) (Di _ Z (fun a s' ah=>by subst ah;exact h Y T W) (fun _ _ h=>h));refine⟨seen P b.fn ((Instr.beginRound l).events P w #[])++ #[],?_,fun e he=>?_⟩
 ·simp [G,stepG,stepG.exec,fr,stepG.apply,U,V,ae,GStep.after,Frame.finish]
 ·exact mem_seen (by simpa using he)
theorem MD{o:Obj}{seg:Seg}(K:As E H S)(O:S[j]? =some ((l,o)::seg)):(Ak E H S).H l=some o:=by
 have:=Ez (i:=0) K O rfl;have U:E l=none:=L5 K O;unfold St.get at this;rw [show(Ak E H S).E l=none from U] at this;exact this
theorem JL.endRound{r:Loop}{c:Frame}(j:Nat)(U:b.roundOf=some l)(V:b.kind= .normal)(K:As E H S)(O:S[j]? =some [(l,.loop r)])
  (h:As E H (S.set j [(l,.loop {r with state:= .ready,pending:=none})])→J.ok Q (G (c.finish (.bool true)) cs) (Ak E H (S.set j [(l,.loop {r with state:= .ready,pending:=none})]))):
  JL J Q b n L [] [] (c::cs) (Ak E H S):=fun T ae=>by
 obtain⟨u1,W⟩:=LR K O (.loop {r with state:= .ready,pending:=none})
 have Y:lp P (Instr.endRound l none) (Ak E H S) (fun a s'=>a= .bool true∧s'=Ak E H (S.set j [(l,.loop {r with state:= .ready,pending:=none})])) (fun _ _=>False):=by
  unfold Instr.endRound;refine AF _ _ (Lh (Ez (i:=0) K O rfl) ?_);simp only [bind,Sem.bind,lp,setObj,pure];exact⟨⟨_,MD K O,rfl⟩,rfl,rfl,u1⟩
 refine Judge.Em (g':=fun v=>G (c.finish v) cs) (Instr.endRound l none) rfl rfl (fun w a w' Z=>?_) (Di _ Y (fun a s' ⟨aa,ab⟩=>by subst aa ab;exact h W) (fun _ _ h=>h));refine⟨seen P b.fn ((Instr.endRound l none).events P w #[])++ #[],?_,fun e he=>?_⟩
 ·simp [G,stepG,stepG.exec,fr,U,V,Z,GStep.after,doReturn]
 ·exact mem_seen (by simpa using he)
theorem JL.rangeFunc{x:Operand}{params:Array Tmp}{as O:Code}{f:FuncId}{caps:Lv_}(ah:b.roundOf=none)(ai:b.kind≠ .early)(Z:ev L x=some (.func (.func f) #[] caps.toArray))(hb:DG P f=true)(aj:As E H S)
  (h:∀K l T,Has n L T→As E H (S++ [[(K,.deferred (some []))]]++ [[(l,.loop ⟨.ready,none,b.fn,T,params,as,O,K⟩)]])→
   J.ok Q (G (Frame.enter P f (.func (.yield l) #[] #[]::caps).toArray .normal) (fr b T (⟨.collected K,#[]⟩::ds) (.inRangeFunc l::k)::cs)) (Ak E H (S++ [[(K,.deferred (some []))]]++ [[(l,.loop ⟨.ready,none,b.fn,T,params,as,O,K⟩)]]))):
  JL J Q b n L ds (.code (.rangeFunc x params as O)::k) cs (Ak E H S):=fun T aa=>by
 have ak:lp P (Instr.enterLoop b.fn T params as O b.roundOf) (Ak E H S) (fun q s'=>∃K,q.2= [⟨.collected K,#[]⟩]∧As E H (S++ [[(K,.deferred (some []))]]++ [[(q.1,.loop ⟨.ready,none,b.fn,T,params,as,O,K⟩)]])∧s'=Ak E H (S++ [[(K,.deferred (some []))]]++ [[(q.1,.loop ⟨.ready,none,b.fn,T,params,as,O,K⟩)]])) (fun _ _=>False):=by
  unfold Instr.enterLoop;rw [ah];simp only [newObj,bind,Sem.bind,lp,pure];refine⟨rfl,fun K V W=>?_⟩;obtain⟨Y,al⟩:=IT V W (.deferred (some [])) aj;obtain⟨p1,p2⟩:=Ew Y;have am:(Ak E H S).upd K (.deferred (some []))=Ak E H (S++ [[(K,.deferred (some []))]]):=by rw [← p1,← al];rfl
  rw [am];refine⟨rfl,fun l an ao=>?_⟩;obtain⟨ap,aq⟩:=IT an ao (.loop ⟨.ready,none,b.fn,T,params,as,O,K⟩) p2;obtain⟨p3,p4⟩:=Ew ap;exact⟨K,rfl,p4,by rw [← p3,← aq];rfl⟩
 refine Judge.Em (g':=fun q=>G (Frame.enter P f (.func (.yield q.1) #[] #[]::caps).toArray .normal) (fr b T (q.2++ds) (.inRangeFunc q.1::k)::cs)) (Instr.enterLoop b.fn T params as O b.roundOf) rfl rfl (fun w a w' ar=>?_) (Di _ ak (fun a s' ⟨K,V,W,Y⟩=>by subst Y;simp only [V];exact h K a.1 T aa W) (fun _ _ h=>h));obtain⟨l,mk⟩:=a;have au:BB T x= .func (.func f) #[] caps.toArray:=aa.ev Z;obtain⟨fn,U,av,ab⟩:∃fn,P.funcs[f]? =some fn∧(fn.name== "runtime.NumGoroutine")=false∧fn.body.isNone=false:=by
  unfold DG at hb;cases U:P.funcs[f]? with
  | none=>rw [U] at hb;cases hb
  | some fn=>
   rw [U] at hb;simp only [Bool.and_eq_true,Bool.not_eq_true'] at hb;exact⟨fn,rfl,hb.1,by cases Z:fn.body <;> simp_all⟩
 refine⟨seen P b.fn ((Instr.enterLoop b.fn T params as O b.roundOf).events P w #[])++ #[],?_,fun e he=>?_⟩
 ·have ae:=PD (b:=b) (ds:=mk++ds) T (.inRangeFunc l::k);simp only [fr] at ae;have aw:¬fn.name= "runtime.NumGoroutine" :=by simpa using av
  have ay:¬fn.body=none:=by intro e;rw [e] at ab;cases ab
  have az:BB T (.const (.func (.yield l) #[] #[]))= .func (.yield l) #[] #[]:=rfl;simp [G,stepG,stepG.exec,fr,ar,GStep.after,stepG.apply,resolve,ae,au,Deferred.ofValue,invoke,callFunc,U,aw,ay,ai,az,seen_none]
 ·exact mem_seen (by simpa using he)
theorem JO.collected{K:Nat}(j:Nat)(ae:b.roundOf=none)(O:As E H S)(U:S[j]? =some [(K,.deferred (some []))])
  (h:As E H (S.set j [(K,.deferred none)])→JO J Q b n L ds cs (Ak E H (S.set j [(K,.deferred none)]))):JO J Q b n L (⟨.collected K,#[]⟩::ds) cs (Ak E H S):=fun T V todo=>by
 obtain⟨u1,W⟩:=LR O U (.deferred none)
 have Y:lp P (Instr.takeDeferred K) (Ak E H S) (fun a s'=>a= []∧s'=Ak E H (S.set j [(K,.deferred none)])) (fun _ _=>False):=by
  unfold Instr.takeDeferred getObj;simp only [bind,Sem.bind,lp,setObj,pure];exact⟨_,Ez (i:=0) O U rfl,rfl,⟨_,MD O U,rfl⟩,rfl,rfl,u1⟩
 refine Judge.Em (g':=fun l=>G (D9 b T (l++ds) todo) cs) (Instr.takeDeferred K) rfl rfl (fun w a w' Z=>?_) (Di _ Y (fun a s' ⟨aa,ab⟩=>by subst aa ab;exact h W T V todo) (fun _ _ h=>h));refine⟨seen P b.fn ((Instr.takeDeferred K).events P w #[])++ #[],?_,fun e he=>?_⟩
 ·simp [G,stepG,unwind,D9,Z,GStep.after]
 ·exact mem_seen (by simpa using he)
def Kx(f:FuncId)(args caps:Ay):Deferred:={target:= .fn (.func f) caps,args:=args}
theorem JO.QH{f:FuncId}{fn:Func}{c:Code}{vs caps:Lv_}(ab:b.roundOf=none)(O:P.funcs[f]? =some fn)(V:(fn.name== "runtime.NumGoroutine")=false)(hb:fn.body=some c)(W:(vs++caps).length≤fn.ntmps){s:St}
  (h:∀T,Has n L T→∀todo,JL J Q (baseD f) fn.ntmps (Fs 0 (vs++caps)) [] [.code c] (D9 b T ds todo::cs) s):JO J Q b n L (Kx f vs.toArray caps.toArray::ds) cs s:=fun T Y todo=>by
 have Z:¬fn.name= "runtime.NumGoroutine" :=by simpa using V
 refine Judge.C6 rfl (fun w=>?_) (h T Y todo ((vs++caps).toArray++Array.replicate (fn.ntmps - (vs++caps).length) undef) ⟨by simp;simp at W;omega,fun t v ht=>?_⟩)
 ·rw [CH (b:=baseD f) rfl];have:=enter_atD (P:=P) (vs++caps).toArray O hb;simp only [List.size_toArray] at this;rw [← this];simp [G,stepG,unwind,callDeferred,D9,Kx,invoke,callFunc,O,Z,hb,GStep.after,seen_none]
 ·obtain⟨_,K⟩:=IL ht;have aa:t<(vs++caps).length:=by
   rcases Nat.lt_or_ge t (vs++caps).length with U | U
   ·exact U
   ·simp only [Nat.sub_zero] at K;have:=(List.getElem?_eq_some_iff.1 K).1;omega
  rw [Array.getD_eq_getD_getElem?,Array.getElem?_append_left (by simpa using aa)];simp only [Nat.sub_zero] at K;rw [List.getElem?_toArray,K];rfl
theorem OW{ops:Ao_}{i:Nat}{rest:List Nat}{d:Option Tmp}{x:Operand}{f:FuncId}{caps:Lv_}{args:Array Operand}{ats:Array TypeId}{ty:TypeId}{p:String}{af:Ae_}{g:On_}{vs:Lv_}{s:St}
  (U:ops[i]? =some ⟨d,.defer ⟨.value x,args,ats⟩,ty,p,af,g⟩) (V:b.roundOf=none) (hw:A8 L ops ⟨d,.defer ⟨.value x,args,ats⟩,ty,p,af,g⟩=some true) (O:((b.kind != .early)&&Bt n d)=true)
  (W:ev L x=some (.func (.func f) #[] caps.toArray)) (Y:evs L args.toList=some vs) (h:JL J Q b n (AB L d undef) (Kx f vs.toArray caps.toArray::ds) (.inRegion ops rest::k) cs s):
  JL J Q b n L ds (.inRegion ops (i::rest)::k) cs s:=fun T K=>by
 simp only [Bool.and_eq_true] at O
 have Z:args.map (BB T)=vs.toArray:=by
  rw [← Ga K.F2 Y];apply Array.ext';simp
 refine Judge.oper U (CR K hw) (by simpa using O.1) (.inl V) ?_;have aa:execOp (BB T) ⟨d,.defer ⟨.value x,args,ats⟩,ty,p,af,g⟩= .pure (.defer (Kx f vs.toArray caps.toArray)):=by
  simp only [execOp,resolve,bind,Sem.bind,Deferred.ofValue,K.ev W,pure,Kx];rw [Z];simp
 rw [aa];exact h _ (K.put O.2 undef)
end
end Pal
namespace Pal
open Go Go.Conc
section
variable {P:Program}{s:St}{ρ:Operand→Value}{x y z:Operand}{d:Option Tmp}{t u ty e:TypeId}{p:String}{af:Ae_}{g:On_}{a:Option Addr}{l c:Nat}
theorem Lo(ht:P.underlying t=some (.slice e))(K:ρ x= .slice a l c)(O:ρ (.const (.slice none 0 0))= .slice none 0 0):Yl P ⟨d,.binOp .eql t x (.const (.slice none 0 0)) u,ty,p,af,g⟩ ρ s (.bool a.isNone):=by
 refine FE (sm:=do eqGuard .eql t x (.const (.slice none 0 0)) (ρ x) (ρ (.const (.slice none 0 0)));binOp .eql t (ρ x) (ρ (.const (.slice none 0 0)))) rfl ?_
 rw [K,O];have U:lp P (eqGuard .eql t x (.const (.slice none 0 0)) (.slice a l c) (.slice none 0 0)) s (fun _ s'=>s'=s) (fun _ _=>False):=by
  simp [eqGuard,lp,pure]
 refine AF _ _ (Di _ U ?_ (fun _ _ h=>h));rintro _ _ rfl;have hb:binOp .eql t (.slice a l c) (.slice none 0 0)=(do pure (.bool (← Op.equal t (.slice a l c) (.slice none 0 0)))):=rfl
 rw [hb];refine AF (x:=Op.equal t (.slice a l c) (.slice none 0 0)) _ ?_;unfold Op.equal Op.maxDepth Op.equalIn;refine AF _ _ (Dh ht ?_);cases a <;> exact⟨rfl,rfl⟩
end
def EU{α B:Type}(step:B→α→Option B):List α→B→Option B
 | [],b=>some b
 | x::l,b=>(step b x).bind fun K=>EU step l K
section
variable {P:Program}{J:Judge P}{Q:Gs_}{b:Frame}{n:Nat}{L:Env}{ds:Ld_}{k:Li_}{cs:Lf_}{s:St}
theorem R7{α B:Type}{c:Code}{l:List α}{step:B→α→Option B}{acc acc':B}(ab:EU step l acc=some acc')(I:Env→St→Nat→B→Prop)(ae:I L s 0 acc)
  (round:∀L s i K x O,I L s i K→l[i]? =some x→i<l.length→step K x=some O→(∀L' s',I L' s' (i+1) O→JL J Q b n L' ds (.inLoop c::k) cs s')→JL J Q b n L ds (.code c:: .inLoop c::k) cs s)
  (exit:∀L s,I L s l.length acc'→JL J Q b n L ds (.code c:: .inLoop c::k) cs s):JL J Q b n L ds (.code (.loop c)::k) cs s:=by
 refine IN ?_;have key:∀(rest:List α) (i:Nat) (K:B),l.drop i=rest→EU step rest K=some acc'→∀L s,I L s i K→i≤l.length→JL J Q b n L ds (.code c:: .inLoop c::k) cs s:=by
  intro rest
  induction rest with
  | nil=>
   intro i K U V L s W hle;have:l.length≤i:=by simpa using U
   obtain rfl:i=l.length:=by omega
   obtain rfl:K=acc':=Option.some.inj V;exact exit L s W
  | cons x rest ah=>
   intro i K U V L s W hle;have Z:l[i]? =some x:=by
    have Y:(l.drop i)[0]? =some x:=by rw [U];rfl
    simpa using Y
   have aa:i<l.length:=(List.getElem?_eq_some_iff.1 Z).1;obtain⟨O,Y,ai⟩:=Option.bind_eq_some_iff.1 V;refine round L s i K x O W Z aa Y fun L' s' aj=>JL.again (ah (i+1) O ?_ ai L' s' aj aa);rw [← List.drop_drop,U];rfl
 exact key l 0 acc rfl ab L s ae (Nat.zero_le _)
end
section
variable {P:Program}{J:Judge P}{Q:Gs_}{b:Frame}{n:Nat}{ds:Ld_}{ops:Ao_}{k:Li_}{cs:Lf_}{m fuel:Nat}{listed:Array Bool}{L:Env}{E H:LH}{S:List Seg}
variable {d:Option Tmp}{x y:Operand}{t u ty e:TypeId}{p:String}{af:Ae_}{g:On_}{v:Value}{i:Nat}
theorem Take.RB(O:As E H S)(U:ops[i]? =some ⟨d,.box e x,ty,p,af,g⟩)(hw:A8 L ops ⟨d,.box e x,ty,p,af,g⟩=some true)(V:Bt n d=true)(W:ev L x=some v)
  (h:∀r,As E H (S++ [[(r,.cells v.cells e (0,0))]])→AQ J Q b n ds ops k cs m D3 fuel (A6 listed i) (AB L d (.pointer (some ⟨r,0,none⟩))) (Ak E H (S++ [[(r,.cells v.cells e (0,0))]]))):
  Take J Q b n ds ops k cs m D3 fuel listed L (Ak E H S) i:=
 Take.KD U (by simp [Db,V]) hw fun ρ Y=>by
  show lp P (do pure (Next.value (← Instr.box e (ρ x)))) _ _ _
  rw [Y x v W]
  refine AF _ _ ?_
  unfold Instr.box
  refine AF _ _ (G1 O fun r K=>?_)
  rw [(Ew K).1]
  exact h r (Ew K).2
end
end Pal
namespace Pal
open Go Go.Conc
def GL(P:Program)(d:Nat):GP:=fun g _=>∃q,QuitsD P q d g
def Hu(P:Program):Frame:={(default:Frame) with fn:=P.funcs.size,defers:= [],mode:= .panicking [goexitEntry]}
section
variable {P:Program}{F:Fam}{J:Judge P}{Q:GP}{n:Nat}{L L':Env}{ds:Ld_}{k:Li_}{cs:Lf_}{s s':St}{b:Frame}{main:Bool}
theorem Lv.quits{d:Nat}:∀{m:Nat} {g:Goroutine},Lv P (GL P d) m g→∃q,QuitsD P q d g
 | 0,_,h=>h
 | m+1,_,h=>by
  rcases h with h | ⟨K,g',O,h⟩
  ·exact h
  ·obtain⟨q,U⟩:=h.quits;exact⟨q+1,.ctl K O U⟩
theorem Lc{d:Nat}{g:Goroutine}(h:(Gb P).ok (GL P d) g .quiet):∃q,QuitsD P q d g:=by
 obtain⟨m,hm⟩:=h rfl;exact hm.quits
theorem JC:(Gb P).ok (GL P 0) (G (Hu P) []) .quiet:=by
 refine Judge.C6 (g':={frame:=Hu P,callers:= [],status:= .finished,dying:=none}) rfl (fun w=>?_) ((Gb P).stop ⟨0,rfl,rfl⟩);have K:(default:Frame).todo= []:=rfl;have O:∀(m:FrameMode),Frame.catches P {fn:=P.funcs.size,tmps:=(default:Frame).tmps,todo:= [],defers:= [],mode:=m,kind:=(default:Frame).kind,roundOf:=(default:Frame).roundOf}=false:=fun m=>by simp [Frame.catches]
 simp [G,stepG,unwind,Hu,goexitEntry,K,O]
theorem T7{ops:Ao_}{i:Nat}{rest:List Nat}{d:Option Tmp}{f:FuncId}{args:Array Operand}{ats:Array TypeId}{ty:TypeId}{pp:String}{af:Ae_}{g:On_}{T:Ay}{e:Ay→Sem Value}
  (K:ops[i]? =some ⟨d,.call ⟨.value (.func f),args,ats⟩,ty,pp,af,g⟩) (he:Dd P f e):mayWake P (G (fr b T ds (.inRegion ops (i::rest)::k)) cs)=true:=by
 obtain⟨fn,O,_,hb,_⟩:=he.h;have U:fn.body.isSome=false:=by cases h:fn.body <;> simp_all
 simp [mayWake,G,fr,K,Frame.eval,O,U]
theorem T8{v wt:Nat}(K:1≤v)(O:v<2147483648)(U:wt≤1):IntKind.u64.wrap (Fam.word v wt+18446744069414584320)=Fam.word (v - 1) wt:=by
 simp only [Fam.word,Fam.KK,IntKind.wrap,IntKind.bits,IntKind.signed];simp;omega
theorem TC{v:Nat}(h:v<2147483647):IntKind.u64.wrap (Fam.word v 0+4294967296)=Fam.word (v+1) 0:=by
 simp only [Fam.word,Fam.KK,IntKind.wrap,IntKind.bits,IntKind.signed];simp;omega
theorem word_inj{v v' wt:Nat}(h:Fam.word v wt=Fam.word v' wt):v=v':=by
 simp only [Fam.word,Fam.KK] at h;omega
section
variable {ops:Ao_}{i:Nat}{rest:List Nat}{d:Option Tmp}{f:FuncId}{x y z:Operand}{ats:Array TypeId}{ty:TypeId}{pp:String}{af:Ae_}{g:On_}{p q:Ph}
theorem U5(Z:ops[i]? =some ⟨d,.call ⟨.value (.func f),#[x,y],ats⟩,ty,pp,af,g⟩)(W:b.roundOf=none)(hw:A8 L ops ⟨d,.call ⟨.value (.func f),#[x,y],ats⟩,ty,pp,af,g⟩=some true)(O:((b.kind != .early)&&Bt n d)=true)
  (he:Dd P f (Extern.Atomic.update (Op.intArith .add) .u64 true)) (aa:ev L x=some (.pointer (some F.sA))) (ab:ev L y=some (.int .u64 18446744069414584320))
  (ae:JL (Bo P false) (Stop P F .F1) b n (AB L d (.int .u64 (Fam.word 0 1))) ds (.inRegion ops rest::k) cs .quiet)
  (ah:∀v wt:Nat,v<2147483647→wt≤1→¬(v=0∧wt=1)→JL (Gb P) (GL P 1) b n (AB L d (.int .u64 (Fam.word v wt))) ds (.inRegion ops rest::k) cs .quiet):
  JL (Bo P false) (Stop P F .GM) b n L ds (.inRegion ops (i::rest)::k) cs .quiet:=fun T K=>by
 simp only [Bool.and_eq_true] at O
 obtain⟨fn,ai,aj,hb,ak,he⟩:=he.h
 refine(Bo P _).stop (G2 rfl rfl rfl rfl (by simp) fun v wt sm v' wt' sm' es nx U=>?_)
 simp only [Fam.act] at U
 split at U
 ·rename_i V
  cases U;refine⟨G (fr b (Cw T d (.int .u64 (Fam.word (v - 1) wt))) ds (.inRegion ops rest::k)) cs,fun w Y=>?_,rfl,?_⟩
  ·obtain⟨al,_,c3,_⟩:=G4 Y;rw [CH W,CH W];show stepG P false _ w=_;rw [stepG_add_atomic (a:=⟨T,ds⟩) Z (CR K hw) (by simpa using O.1) rfl ai aj hb ak .u64 he (by rw [EH];exact K.ev aa) (by rw [EH];exact K.ev ab) al c3,T8 V.1 V.2.1 V.2.2,Lg Y,FJ]
   rfl
  ·split
   ·rename_i e;obtain⟨rfl,rfl⟩:=e;exact ae _ (K.put O.2 _)
   ·rename_i e;exact Lc (ah (v - 1) wt (by omega) V.2.2 (by omega) _ (K.put O.2 _))
 ·cases U
theorem UJ{j:Nat}(Z:s.q=false)(aa:ops[i]? =some ⟨d,.call ⟨.value (.func f),#[x,y],ats⟩,ty,pp,af,g⟩)(W:b.roundOf=none)(hw:A8 L ops ⟨d,.call ⟨.value (.func f),#[x,y],ats⟩,ty,pp,af,g⟩=some true)(O:((b.kind != .early)&&Bt n d)=true)
  (he:Dd P f (Extern.Atomic.update (Op.intArith .add) .u64 true)) (ab:ev L x=some (.pointer (some F.sA))) (ae:ev L y=some (.int .u64 4294967296))
  (ah:JL (Bo P true) (Stop P F (.GQ j)) b n (AB L d (.int .u64 (Fam.word 1 0))) ds (.inRegion ops rest::k) cs s)
  (ai:∀v:Nat,1≤v→v<2147483647→JL (Bo P true) (Stop P F (.FQ j)) b n (AB L d (.int .u64 (Fam.word (v+1) 0))) ds (.inRegion ops rest::k) cs s):
  JL (Bo P true) (Stop P F (.Hg j)) b n L ds (.inRegion ops (i::rest)::k) cs s:=fun T K=>by
 simp only [Bool.and_eq_true] at O
 obtain⟨fn,aj,ak,hb,al,he⟩:=he.h
 refine(Bo P _).stop (G2 rfl rfl rfl Z (by simp) fun v wt sm v' wt' sm' es nx U=>?_)
 simp only [Fam.act] at U
 split at U
 ·rename_i V
  obtain⟨V,rfl⟩:=V;cases U;refine⟨G (fr b (Cw T d (.int .u64 (Fam.word (v+1) 0))) ds (.inRegion ops rest::k)) cs,fun w Y=>?_,rfl,?_⟩
  ·obtain⟨am,_,c3,_⟩:=G4 Y;rw [CH W,CH W];show stepG P true _ w=_;rw [stepG_add_atomic (a:=⟨T,ds⟩) aa (CR K hw) (by simpa using O.1) rfl aj ak hb al .u64 he (by rw [EH];exact K.ev ab) (by rw [EH];exact K.ev ae) am c3,TC V,Lg Y,FJ]
   rfl
  ·split
   ·rename_i e;subst e;exact ah _ (K.put O.2 _)
   ·rename_i e;exact ai v (by omega) V _ (K.put O.2 _)
 ·cases U
theorem VN(aa:I2 p=true)(ab:if Fam.DR p=true then s= .quiet else s.q=false)(ae:p≠ .El)(ah:Fam.Gp p s=s)(ai:∀v wt sm r,F.act p v wt sm=some r→r.1=(v,wt,sm)∧r.2.1= #[Fam.EM F.sA])
  (aj:ops[i]? =some ⟨d,.call ⟨.value (.func f),#[x],ats⟩,ty,pp,af,g⟩) (U:b.roundOf=none) (hw:A8 L ops ⟨d,.call ⟨.value (.func f),#[x],ats⟩,ty,pp,af,g⟩=some true) (K:((b.kind != .early)&&Bt n d)=true)
  (he:Dd P f (Extern.Atomic.loadT (.int .u64))) (ak:ev L x=some (.pointer (some F.sA)))
  (h:∀v wt sm r,F.act p v wt sm=some r→∃q,r.2.2= .ph q∧JL (Bo P (Fam.Dj p)) (Stop P F q) b n (AB L d (.int .u64 (Fam.word v wt))) ds (.inRegion ops rest::k) cs s):
  JL (Bo P (Fam.Dj p)) (Stop P F p) b n L ds (.inRegion ops (i::rest)::k) cs s:=fun T O=>by
 simp only [Bool.and_eq_true] at K
 obtain⟨fn,al,am,hb,an,he⟩:=he.h
 refine(Bo P _).stop (G2 aa rfl rfl ab (fun e=>absurd e ae) fun v wt sm v' wt' sm' es nx V=>?_)
 obtain⟨W,e2⟩:=ai _ _ _ _ V
 obtain⟨q,Y,ao⟩:=h _ _ _ _ V
 simp only at W e2 Y
 cases W
 subst e2 Y
 refine⟨_,fun w Z=>?_,rfl,by rw [ah];exact ao _ (O.put K.2 _)⟩
 obtain⟨ap,_,_,_⟩:=G4 Z
 rw [CH U,CH U,stepG_load_atomic (a:=⟨T,ds⟩) aj (CR O hw) (by simpa using K.1) rfl al am hb an .u64 he (by rw [EH];exact O.ev ak) ap,IW Z,FJ]
 rfl
theorem WM(Y:ops[i]? =some ⟨d,.call ⟨.value (.func f),#[x,y],ats⟩,ty,pp,af,g⟩)(V:b.roundOf=none)(hw:A8 L ops ⟨d,.call ⟨.value (.func f),#[x,y],ats⟩,ty,pp,af,g⟩=some true)(U:((b.kind != .early)&&Bt n d)=true)
  (he:Dd P f Extern.Atomic.storeT) (Z:ev L x=some (.pointer (some F.sA))) (aa:ev L y=some (.int .u64 0))
  (h:JL (Bo P false) (Stop P F .El) b n (AB L d (.tuple #[])) ds (.inRegion ops rest::k) cs .quiet):
  JL (Bo P false) (Stop P F .Gf) b n L ds (.inRegion ops (i::rest)::k) cs .quiet:=fun T K=>by
 simp only [Bool.and_eq_true] at U
 obtain⟨fn,ab,ae,hb,ah,he⟩:=he.h
 refine(Bo P _).stop (G2 rfl rfl rfl rfl (by simp) fun v wt sm v' wt' sm' es nx O=>?_)
 simp only [Fam.act] at O
 split at O
 ·rename_i ai
  obtain⟨rfl,rfl⟩:=ai;cases O;refine⟨_,fun w W=>?_,rfl,h _ (K.put U.2 _)⟩;obtain⟨aj,_,c3,_⟩:=G4 W;have ak:(.int .u64 0:Value)= .int .u64 (Fam.word 0 0):=by simp [Fam.word]
  rw [CH V,CH V];show stepG P false _ w=_;rw [stepG_store_atomic (a:=⟨T,ds⟩) Y (CR K hw) (by simpa using U.1) rfl ab ae hb ah he (by rw [EH];exact K.ev Z) (by rw [EH];exact K.ev aa) aj c3,ak,Lg W,FJ]
  rfl
 ·cases O
theorem VB{m:Nat}(ak:s.q=false)(Z:ops[i]? =some ⟨d,.call ⟨.value (.func f),#[x,y,z],ats⟩,ty,pp,af,g⟩)(W:b.roundOf=none)(hw:A8 L ops ⟨d,.call ⟨.value (.func f),#[x,y,z],ats⟩,ty,pp,af,g⟩=some true)(U:((b.kind != .early)&&Bt n d)=true)
  (he:Dd P f (Extern.Atomic.casT (.int .u64))) (aa:ev L x=some (.pointer (some F.sA))) (ab:ev L y=some (.int .u64 (Fam.word m 0))) (ae:ev L z=some (.int .u64 (Fam.word m 1)))
  (al:JL (Bo P false) (Stop P F .Hi) b n (AB L d (.bool true)) ds (.inRegion ops rest::k) cs s)
  (am:JL (Bo P false) (Stop P F (.Fq (m - 1))) b n (AB L d (.bool false)) ds (.inRegion ops rest::k) cs s):
  JL (Bo P false) (Stop P F (.GN m)) b n L ds (.inRegion ops (i::rest)::k) cs s:=fun T K=>by
 simp only [Bool.and_eq_true] at U
 obtain⟨fn,ah,ai,hb,aj,he⟩:=he.h
 refine(Bo P _).stop (G2 rfl rfl rfl ak (by simp) fun v wt sm v' wt' sm' es nx O=>?_)
 simp only [Fam.act] at O
 split at O
 ·rename_i an
  obtain⟨_,_,rfl⟩:=an;split at O
  ·rename_i e;subst e;cases O;refine⟨_,fun w V=>?_,rfl,al _ (K.put U.2 _)⟩;obtain⟨Y,_,c3,_⟩:=G4 V;rw [CH W,CH W];show stepG P false _ w=_;rw [stepG_cas_hit (a:=⟨T,ds⟩) Z (CR K hw) (by simpa using U.1) rfl ah ai hb aj .u64 he (by rw [EH];exact K.ev aa) (by rw [EH];exact K.ev ab) (by rw [EH];exact K.ev ae) Y c3,Lg V,FJ]
   rfl
  ·rename_i e;cases O;refine⟨_,fun w V=>?_,rfl,am _ (K.put U.2 _)⟩;obtain⟨Y,_,c3,_⟩:=G4 V;rw [CH W,CH W];show stepG P false _ w=_;rw [stepG_cas_miss (a:=⟨T,ds⟩) Z (CR K hw) (by simpa using U.1) rfl ah ai hb aj .u64 he (by rw [EH];exact K.ev aa) (by rw [EH];exact K.ev ab) (by rw [EH];exact K.ev ae) Y c3 (fun q=>e (word_inj q)),IW V,FJ]
   rfl
 ·cases O
theorem TQ{args:Array Operand}{vs:Lv_}(V:ops[i]? =some ⟨d,.call ⟨.value (.func f),args,ats⟩,ty,pp,af,g⟩)(W:b.roundOf=none)(hw:A8 L ops ⟨d,.call ⟨.value (.func f),args,ats⟩,ty,pp,af,g⟩=some true)(O:((b.kind != .early)&&Bt n d)=true)
  (he:Dd P f Extern.Sync.semrelease) (Z:evs L args.toList=some vs) (aa:vs[0]? =some (.pointer (some F.mA)))
  (h:JL (Gb P) (GL P 1) b n (AB L d (.tuple #[])) ds (.inRegion ops rest::k) cs .quiet):
  JL (Bo P false) (Stop P F .El) b n L ds (.inRegion ops (i::rest)::k) cs .quiet:=fun T U=>by
 simp only [Bool.and_eq_true] at O
 have ab:=T7 (P:=P) (b:=b) (ds:=ds) (k:=k) (cs:=cs) (rest:=rest) (T:=T) V he
 obtain⟨fn,ae,ah,hb,ai,he⟩:=he.h
 refine(Bo P _).stop (G2 rfl rfl rfl rfl (fun _=>ab) fun v wt sm v' wt' sm' es nx K=>?_)
 simp only [Fam.act] at K
 split at K
 ·rename_i aj
  subst aj;cases K;refine⟨_,fun w Y=>?_,rfl,Lc (h _ (U.put O.2 _))⟩;obtain⟨_,c2,_,c4⟩:=G4 Y;rw [CH W,CH W];show stepG P false _ w=_;rw [stepG_semrelease (a:=⟨T,ds⟩) V (CR U hw) (by simpa using O.1) rfl ae ah hb ai he (ad:=F.mA) (by rw [Oc U Z];simpa using aa) c2 c4,FJ];have ak:IntKind.u32.wrap (((0:Nat):Int)+1)=((1:Nat):Int):=by decide
  rw [ak,OH Y]
 ·cases K
theorem SI{args:Array Operand}{vs:Lv_}(ah:s.q=false)(Y:ops[i]? =some ⟨d,.call ⟨.value (.func f),args,ats⟩,ty,pp,af,g⟩)(V:b.roundOf=none)(hw:A8 L ops ⟨d,.call ⟨.value (.func f),args,ats⟩,ty,pp,af,g⟩=some true)(W:((b.kind != .early)&&Bt n d)=true)
  (he:Dd P f Extern.Sync.semacquire) (ai:evs L args.toList=some vs) (aj:vs[0]? =some (.pointer (some F.mA)))
  (h:JL (Bo P false) (Stop P F .Gg) b n (AB L d (.tuple #[])) ds (.inRegion ops rest::k) cs s):
  JL (Bo P false) (Stop P F .Dc) b n L ds (.inRegion ops (i::rest)::k) cs s:=fun T K=>by
 simp only [Bool.and_eq_true] at W
 obtain⟨fn,Z,aa,hb,ab,he⟩:=he.h
 have ae:(args.map (⟨T,ds⟩:Act).eval)[0]? =some (.pointer (some F.mA)):=by rw [Oc K ai];simpa using aj
 refine(Bo P _).stop (Fw.stop {
  run:=rfl,offers:=rfl,quiet:=(by simp [Fam.DR]),live:=fun _=>ah,act:=?_,GK:=(by simp),Em:=?_,close:=(by simp),send:=(by simp),go:=(by simp),Gs:=(by simp),recv:=(by simp)})
 ·intro v wt sm v' wt' sm' es nx O;simp only [Fam.act] at O;split at O
  ·rename_i ak;subst ak;cases O;refine⟨_,fun w U=>?_,rfl,h _ (K.put W.2 _)⟩;obtain⟨_,c2,_,c4⟩:=G4 U;rw [CH V,CH V];show stepG P false _ w=_;rw [stepG_semacquire (a:=⟨T,ds⟩) Y (CR K hw) (by simpa using W.1) rfl Z aa hb ab he (ad:=F.mA) ae c2 (by decide) c4,FJ];have al:(((1:Nat):Int) - 1)=((0:Nat):Int):=by decide
   rw [al,OH U]
  ·cases O
 ·intro _ w v wt U;obtain⟨_,c2,_,c4⟩:=G4 U;rw [CH V];exact stepG_semacquire_wait (a:=⟨T,ds⟩) Y (CR K hw) rfl Z aa hb ab he (ad:=F.mA) ae c2
theorem S3(W:s.q=false)(U:ops[i]? =some ⟨d,.call ⟨.builtin .close,#[x],ats⟩,ty,pp,af,g⟩)(V:b.roundOf=none)(hw:A8 L ops ⟨d,.call ⟨.builtin .close,#[x],ats⟩,ty,pp,af,g⟩=some true)(K:((b.kind != .early)&&Bt n d)=true)
  (Y:ev L x=some (.chan (some F.ch))) (Z:(P.funcs[b.fn]?).any (·.norace)=false)
  (h:JL (Gb P) (GL P 0) b n (AB L d (.tuple #[])) ds (.inRegion ops rest::k) cs .quiet):
  JL (Bo P false) (Stop P F .Dw) b n L ds (.inRegion ops (i::rest)::k) cs s:=fun T O=>by
 simp only [Bool.and_eq_true] at K
 refine(Bo P _).stop (Fw.stop {
  run:=rfl,offers:=rfl,quiet:=(by simp [Fam.DR]),live:=fun _=>W,act:=(by simp [Fam.act]),GK:=fun _=>(by simp [mayWake,G,fr,U]),Em:=(by simp),close:=fun _=>?_,send:=(by simp),go:=(by simp),Gs:=(by simp),recv:=(by simp)})
 refine⟨_,?_,fun w k' aa=>?_,Lc (h _ (O.put K.2 _))⟩
 ·rfl
 ·rw [CH V,CH V,stepG_close (a:=⟨T,ds⟩) U (CR O hw) (by simpa using K.1) rfl (by rw [EH];exact O.ev Y) aa Z,FJ]
theorem Pn{kk:Nat}{v:Value}(W:s.q=false)(U:ops[i]? =some ⟨d,.send x y,ty,pp,af,g⟩)(Y:b.roundOf=none)(hw:A8 L ops ⟨d,.send x y,ty,pp,af,g⟩=some true)(O:((b.kind != .early)&&Bt n d)=true)
  (Z:ev L x=some (.chan (some F.ch))) (aa:ev L y=some v) (hm:F.msg kk v s.E)
  (h:JL (Bo P false) (Stop P F .CO) b n (AB L d undef) ds (.inRegion ops rest::k) cs s):
  JL (Bo P false) (Stop P F (.Cn kk)) b n L ds (.inRegion ops (i::rest)::k) cs s:=fun T K=>by
 simp only [Bool.and_eq_true] at O
 have V:execOp (BB T) ⟨d,.send x y,ty,pp,af,g⟩= .pure (.comm #[scase F.ch v (.tuple #[])] true .send):=by
  simp [execOp,K.ev Z,K.ev aa,scase,pure]
 refine(Bo P _).stop (Fw.stop {
  run:=rfl,offers:=rfl,quiet:=(by simp [Fam.DR]),live:=fun _=>W,act:=(by simp [Fam.act]),GK:=(by simp),Em:=(by simp),close:=(by simp),send:=fun k' e=>?_,go:=(by simp),Gs:=(by simp),recv:=(by simp)})
 cases e;refine⟨v,.tuple #[],hm,fun w=>?_,?_⟩
 ·have he:(⟨T,ds⟩:Act).eval=BB T:=funext fun x=>EH T ds x;rw [CH Y,stepG_comm (a:=⟨T,ds⟩) (w':=w) U (CR K hw) (by simpa using O.1) (by rw [he,V];rfl),listed_none (by rw [he,V];simp [Sem.events_pure'])]
 ·have:Conc.served (G (fr b T ds (.inRegion ops (i::rest)::k)) cs) undef=G (fr b (Cw T d undef) ds (.inRegion ops rest::k)) cs:=by
   have:=FW (b:=b) (ds:=ds) (k:=k) T ops i rest undef _ U;simp only [Conc.served,G,this]
  rw [this];exact h _ (K.put O.2 _)
end
end
end Pal
namespace Pal
open Go Go.Conc
section
variable {P:Program}{F:Fam}{J:Judge P}{Q:GP}{n:Nat}{L L':Env}{ds:Ld_}{k:Li_}{cs:Lf_}{s s':St}{b:Frame}{main:Bool}
variable {ops:Ao_}{i:Nat}{rest:List Nat}{d:Option Tmp}{f:FuncId}{x y z:Operand}{ats:Array TypeId}{ty t e:TypeId}{pp:String}{af:Ae_}{g:On_}{p q:Ph}
theorem O9{T:Ay}{o:Oper}(K:ops[i]? =some o)(v:Value):Conc.served (G (fr b T ds (.inRegion ops (i::rest)::k)) cs) v=G (fr b (Cw T o.dst v) ds (.inRegion ops rest::k)) cs:=by
 have:=FW (b:=b) (ds:=ds) (k:=k) T ops i rest v _ K;simp only [Conc.served,G,this]
theorem Ih(T:Ay)(ds:Ld_):(⟨T,ds⟩:Act).eval=BB T:=funext fun x=>EH T ds x
theorem TF{O:List Nat}{vs:Lv_}{K:Value}{dir:ChanDir}(ab:s.q=false)(W:ops[i]? =some ⟨d,.recv t x true,ty,pp,af,g⟩)(ae:b.roundOf=none)(hw:A8 L ops ⟨d,.recv t x true,ty,pp,af,g⟩=some true)(U:((b.kind != .early)&&Bt n d)=true)
  (ah:ev L x=some (.chan (some F.ch))) (ht:P.underlying t=some (.chan dir e)) (ai:zeroOf P e=some K)
  (Y:∀kk v E',kk<F.n→F.has kk=true→kk ∉ O→Le s.E E'→(∀b,E' b≠none→s.H b=none)→F.msg kk v E'→JL (Bo P true) (Stop P F (.B7 (O++ [kk]) (vs++ [v]))) b n (AB L d (.tuple #[v,.bool true])) ds (.inRegion ops rest::k) cs ⟨E',s.H,false⟩)
  (Z:(∀kk,kk<F.n→F.has kk=true→kk∈O)→∀T,Has n (AB L d (.tuple #[K,.bool false])) T→F.fin (G (fr b T ds (.inRegion ops rest::k)) cs) s):
  JL (Bo P true) (Stop P F (.B7 O vs)) b n L ds (.inRegion ops (i::rest)::k) cs s:=fun T V=>by
 simp only [Bool.and_eq_true] at U
 have aa:∀w,(execOp (BB T) ⟨d,.recv t x true,ty,pp,af,g⟩).run P w= .ok (.comm #[rcase F.ch K] true (.recv true)) w∧listed P b.fn ⟨T,ds⟩ ⟨d,.recv t x true,ty,pp,af,g⟩ w= #[]:=by
  have aj:∀s,lp P (execOp (BB T) ⟨d,.recv t x true,ty,pp,af,g⟩) s (fun nx s'=>nx= .comm #[rcase F.ch K] true (.recv true)∧s'=s) (fun _ _=>False):=by
   intro s;unfold execOp;simp only;refine AF (x:=underlying t) _ (Dh ht ?_);simp only;refine AF (x:=zeroValue e) _ (FU ai ?_);rw [V.ev ah];exact⟨rfl,rfl⟩
  obtain⟨es,Y,Z,ak⟩:=Nj _ (aj .quiet);rcases ak with⟨a,⟨rfl,_⟩,al⟩ | ⟨_,am,_⟩
  ·intro w;refine⟨al w,?_⟩;unfold listed;rw [Ih,Y];exact MS Z
  ·exact am.elim
 refine(Bo P _).stop (Fw.stop {
  run:=rfl,offers:=rfl,quiet:=(by simp [Fam.DR]),live:=fun _=>ab,act:=(by simp [Fam.act]),GK:=(by simp),Em:=(by simp),close:=(by simp),send:=(by simp),go:=(by simp),Gs:=(by simp),recv:=fun ay az an=>?_})
 cases an;refine⟨K,fun w=>?_,fun kk v E' ao ap aq ar au av=>?_,fun aw=>?_⟩
 ·rw [CH ae,stepG_comm (a:=⟨T,ds⟩) (w':=w) W (CR V hw) (by simpa using U.1) (by rw [Ih];exact(aa w).1),(aa w).2]
 ·rw [O9 W];exact Y kk v E' ao ap aq ar au av _ (V.put U.2 _)
 ·rw [O9 W];exact Z aw _ (V.put U.2 _)
theorem Po{X:GP}{fn:Func}{c:Code}{vs:Lv_}{caps:Ay}{args:Ay}(O:P.funcs[f]? =some fn)(W:(fn.name== "runtime.NumGoroutine")=false)(hb:fn.body=some c)(Y:args++caps=vs.toArray)(ab:vs.length≤fn.ntmps)
  (h:JL (Bo P false) X (baseD f) fn.ntmps (Fs 0 vs) [] [.code c] [Hu P] s):Way P false X (born P {target:= .fn (.func f) caps,args:=args}) s:=by
 have Z:¬fn.name= "runtime.NumGoroutine" :=by simpa using W
 refine Judge.C6 (J:=Bo P false) rfl (fun w=>?_) (h (vs.toArray++Array.replicate (fn.ntmps - vs.length) undef) ⟨by simp;omega,fun t v ht=>?_⟩)
 ·show stepG P false _ w=_;have U:=enter_atD (P:=P) vs.toArray O hb;rw [CH (b:=baseD f) rfl];simp only [List.size_toArray] at U;simp [G,born,stepG,unwind,callDeferred,invoke,callFunc,O,Z,hb,GStep.after,seen_none,Y,Hu,U]
 ·obtain⟨_,K⟩:=IL ht;have aa:t<vs.length:=by
   rcases Nat.lt_or_ge t vs.length with V | V
   ·exact V
   ·simp at K;have:=(List.getElem?_eq_some_iff.1 K).1;omega
  rw [Array.getD_eq_getD_getElem?,Array.getElem?_append_left (by simpa using aa)];simp at K;simp [K]
theorem QW{T:Ay}{args:Array Operand}{K:Go.Fn}{fi O:Ay}{as:Lv_}(U:Has n L T)(V:ev L x=some (.func K fi O))(W:evs L args.toList=some as):
  execOp (BB T) ⟨d,.go ⟨.value x,args,ats⟩,ty,pp,af,g⟩= .pure (.spawn {target:= .fn K O,args:=fi++as.toArray}):=by
 have Y:args.map (BB T)=as.toArray:=by
  rw [← Ga U.F2 W];apply Array.ext';simp
 simp only [execOp,resolve,bind,Sem.bind,Deferred.ofValue,U.ev V,pure,Y]
theorem VC{j:Nat}{args:Array Operand}{fi U:Ay}{as:Lv_}{V:FuncId}(Z:s.q=false)(aa:ops[i]? =some ⟨d,.go ⟨.value x,args,ats⟩,ty,pp,af,g⟩)(W:b.roundOf=none)(hw:A8 L ops ⟨d,.go ⟨.value x,args,ats⟩,ty,pp,af,g⟩=some true)(K:((b.kind != .early)&&Bt n d)=true)
  (ab:ev L x=some (.func (.func V) fi U)) (ae:evs L args.toList=some as)
  (ah:Way P false (Stop P F (F.start j)) (born P {target:= .fn (.func V) U,args:=fi++as.toArray}) ⟨s.E,fun _=>none,false⟩)
  (ai:JL (Bo P true) (Stop P F (F.Dy j)) b n (AB L d undef) ds (.inRegion ops rest::k) cs s):
  JL (Bo P true) (Stop P F (.EN j)) b n L ds (.inRegion ops (i::rest)::k) cs s:=fun T O=>by
 simp only [Bool.and_eq_true] at K
 have Y:=QW (d:=d) (ats:=ats) (ty:=ty) (pp:=pp) (af:=af) (g:=g) O ab ae
 refine(Bo P _).stop (Fw.stop {
  run:=rfl,offers:=rfl,quiet:=(by simp [Fam.DR]),live:=fun _=>Z,act:=(by simp [Fam.act]),GK:=(by simp),Em:=(by simp),close:=(by simp),send:=(by simp),go:=fun aj e=>?_,Gs:=(by simp),recv:=(by simp)})
 cases e
 refine⟨G (fr b (Cw T d undef) ds (.inRegion ops rest::k)) cs,_,rfl,rfl,fun w=>?_,ah,ai _ (O.put K.2 _)⟩
 rw [CH W,CH W,stepG_spawn (a:=⟨T,ds⟩) (w':=w) aa (CR O hw) (by simpa using K.1) (by rw [Ih,Y];rfl) rfl,listed_none (by rw [Ih,Y];simp [Sem.events_pure']),FJ]
theorem JL.Gs{args:Array Operand}{fi U:Ay}{as:Lv_}{V:FuncId}(Z:s.q=false)(aa:ops[i]? =some ⟨d,.go ⟨.value x,args,ats⟩,ty,pp,af,g⟩)(W:b.roundOf=none)(hw:A8 L ops ⟨d,.go ⟨.value x,args,ats⟩,ty,pp,af,g⟩=some true)(K:((b.kind != .early)&&Bt n d)=true)
  (ab:ev L x=some (.func (.func V) fi U)) (ae:evs L args.toList=some as)
  (ah:Way P false (Stop P F .CP) (born P {target:= .fn (.func V) U,args:=fi++as.toArray}) ⟨s.E,fun _=>none,false⟩)
  (ai:JL (Bo P true) (Stop P F (.B7 [] [])) b n (AB L d undef) ds (.inRegion ops rest::k) cs s):
  JL (Bo P true) (Stop P F .Ft) b n L ds (.inRegion ops (i::rest)::k) cs s:=fun T O=>by
 simp only [Bool.and_eq_true] at K
 have Y:=QW (d:=d) (ats:=ats) (ty:=ty) (pp:=pp) (af:=af) (g:=g) O ab ae
 refine(Bo P _).stop (Fw.stop {
  run:=rfl,offers:=rfl,quiet:=(by simp [Fam.DR]),live:=fun _=>Z,act:=(by simp [Fam.act]),GK:=(by simp),Em:=(by simp),close:=(by simp),send:=(by simp),go:=(by simp),Gs:=fun _=>?_,recv:=(by simp)})
 refine⟨G (fr b (Cw T d undef) ds (.inRegion ops rest::k)) cs,_,rfl,rfl,fun w=>?_,ah,ai _ (O.put K.2 _)⟩
 rw [CH W,CH W,stepG_spawn (a:=⟨T,ds⟩) (w':=w) aa (CR O hw) (by simpa using K.1) (by rw [Ih,Y];rfl) rfl,listed_none (by rw [Ih,Y];simp [Sem.events_pure']),FJ]
theorem JO.Qa{j:Nat}(V:s.q=false)(K:b.roundOf=none)(he:Dd P f (fun _=>do mark .enable;pure Extern.Race.none_))
  (h:JO (Bo P true) (Stop P F (.EN j)) b n L ds cs s):JO (Bo P true) (Stop P F (.FQ j)) b n L (dcall f #[]::ds) cs s:=fun T W todo=>by
 obtain⟨fn,Y,Z,hb,aa,he⟩:=he.h
 refine(Bo P _).stop (G2 rfl rfl rfl V (by simp) fun v wt sm v' wt' sm' es nx O=>?_)
 simp only [Fam.act] at O
 cases O
 refine⟨G (D9 b T ds todo) cs,fun w ab=>?_,rfl,h T W todo⟩
 rw [IV K,IV K,IW ab]
 exact stepG_unwind_entry (a:=⟨T,dcall f #[]::ds⟩) (v:= .tuple #[]) (evs:= #[Fam.Ef .enable]) rfl Y Z hb aa he (by simp [Extern.Race.none_]) (by simp;rfl) (by
  intro x U
  simp at U
  subst U
  exact⟨rfl,fun g h=>by cases h⟩)
theorem JO.LJ(K:b.roundOf=none)(he:Dd P f (fun _=>do mark .enable;pure Extern.Race.none_))
  (h:JO (Gb P) (GL P 0) b n L ds cs .quiet):JO (Gb P) (GL P 1) b n L (dcall f #[]::ds) cs .quiet:=fun T U todo=>by
 obtain⟨fn,V,W,hb,Y,he⟩:=he.h
 refine(Gb P).stop ?_
 obtain⟨q,O⟩:=Lc (h T U todo)
 rw [IV K] at O
 rw [IV K]
 exact⟨q+1,QuitsD.unwind_mark (a:=⟨T,dcall f #[]::ds⟩) .enable rfl (by simp) rfl V W hb Y he O⟩
end
end Pal
namespace Pal
open Go Go.Conc
def RF:BinOp→Int→Int→Option Bool
 | .lss,m,m'=>some (decide (m<m'))
 | .leq,m,m'=>some (decide (m≤m'))
 | .gtr,m,m'=>some (decide (m'<m))
 | .geq,m,m'=>some (decide (m'≤m))
 | .eql,m,m'=>some (decide (m=m'))
 | .neq,m,m'=>some (decide (m≠m'))
 | _,_,_=>none
def IF(L:Env):Op→Option Value
 | .move x=>ev L x
 | .assign x=>ev L x
 | .pick z x y=>match ev L z with
  | some (.bool true)=>ev L x
  | some (.bool false)=>ev L y
  | _=>none
 | .extract x i=>match ev L x with
  | some (.tuple vs)=>vs[i]?
  | _=>none
 | .nilCheck x=>match ev L x with
  | some (.pointer (some a))=>some (.pointer (some a))
  | _=>none
 | .binOp op _ x y _=>match ev L x with
  | some (.int kd m)=>match ev L y with
   | some (.int kd' m')=>if kd=kd' then(match RF op m m' with | some t=>some (.bool t) | none=>none) else none
   | _=>none
  | _=>none
 | _=>none
theorem Vw{P:Program}{s:St}{ρ:Operand→Value}{d:Option Tmp}{x y:Operand}{t u ty:TypeId}{p:String}{af:Ae_}{g:On_}{kd:IntKind}{m m':Int}(K:ρ x= .int kd m)(O:ρ y= .int kd m'):Yl P ⟨d,.binOp .neq t x y u,ty,p,af,g⟩ ρ s (.bool (decide (m≠m'))):=by
 have h:=Yl.neq (P:=P) (s:=s) (d:=d) (t:=t) (u:=u) (ty:=ty) (p:=p) (af:=af) (g:=g) K O;simpa using h
theorem LP{P:Program}{L:Env}{ρ:Operand→Value}{s:St}{o:Oper}{v:Value}(K:Ej L ρ)(h:IF L o.op=some v):Yl P o ρ s v:=by
 obtain⟨d,op,ty,p,af,g⟩:=o;simp only at h;unfold IF at h;split at h
 ·exact Yl.move (K _ _ h)
 ·exact Yl.assign (K _ _ h)
 ·split at h
  ·rename_i e;exact SY (K _ _ e) (K _ _ h)
  ·rename_i e;exact Tl (K _ _ e) (K _ _ h)
  ·cases h
 ·split at h
  ·rename_i e;exact Yl.extract (K _ _ e) h
  ·cases h
 ·split at h
  ·rename_i e;cases h;exact Yl.nilCheck (K _ _ e)
  ·cases h
 ·split at h
  ·rename_i O;split at h
   ·rename_i U;split at h
    ·rename_i e;subst e;split at h
     ·rename_i e;cases h;unfold RF at e;split at e
      ·cases e;exact Yl.lss (K _ _ O) (K _ _ U)
      ·cases e;exact Yl.leq (K _ _ O) (K _ _ U)
      ·cases e;exact Yl.gtr (K _ _ O) (K _ _ U)
      ·cases e;exact Yl.geq (K _ _ O) (K _ _ U)
      ·cases e;exact Yl.eql (K _ _ O) (K _ _ U)
      ·cases e;exact Vw (K _ _ O) (K _ _ U)
      ·cases e
     ·cases h
    ·cases h
   ·cases h
  ·cases h
 ·cases h
def Hx:List Oper→Nat→Option Oper
 | [],_=>none
 | o::_,0=>some o
 | _::os,i+1=>Hx os i
theorem I1:∀(os:List Oper) (i:Nat),Hx os i=os[i]?
 | [],i=>by simp [Hx]
 | _::_,0=>rfl
 | _::os,i+1=>by simp [Hx,I1 os i]
def N2(b:Frame)(n:Nat)(L:Env):Li_→Option (Li_×Env)
 | .code (.seq x y)::k=>some (.code x:: .code y::k,L)
 | .code (.block i c)::k=>some (.code c:: .inBlock i::k,L)
 | .code (.scope c)::k=>some (.code c:: .inScope c::k,L)
 | .code .skip::k=>some (k,L)
 | .code (.exit i)::k=>match exitTo i k with
  | some k'=>some (k',L)
  | none=>none
 | .code (.cond c x y)::k=>match ev L c with
  | some (.bool true)=>some (.code x::k,L)
  | some (.bool false)=>some (.code y::k,L)
  | _=>none
 | .code (.region _ ops false)::k=>some (.inRegion ops (List.range ops.size)::k,L)
 | .inBlock _::k=>some (k,L)
 | .inScope _::k=>some (k,L)
 | .inRegion _ []::k=>some (k,L)
 | .inRegion ops (i::rest)::k=>match Hx ops.toList i with
  | some ⟨d,op,ty,p,af,g⟩=>match A8 L ops ⟨d,op,ty,p,af,g⟩ with
   | some true=>match CL b n ⟨d,op,ty,p,af,g⟩ with
    | true=>match IF L op with
     | some v=>match d with
      | some d=>some (.inRegion ops rest::k,(d,v)::L)
      | none=>some (.inRegion ops rest::k,L)
     | none=>none
    | false=>none
   | some false=>match Bt n d with
    | true=>match d with
     | some d=>some (.inRegion ops rest::k,(d,undef)::L)
     | none=>some (.inRegion ops rest::k,L)
    | false=>none
   | none=>none
  | none=>none
 | _=>none
def Md(b:Frame)(n:Nat):Nat→Li_→Env→Option (Li_×Env)
 | 0,k,L=>some (k,L)
 | m+1,k,L=>match N2 b n L k with
  | some (k',L')=>Md b n m k' L'
  | none=>none
section
variable {P:Program}{J:Judge P}{Q:Gs_}{b:Frame}{n:Nat}{L L':Env}{ds:Ld_}{k k':Li_}{cs:Lf_}{s:St}
theorem Wc(h:N2 b n L k=some (k',L'))(K:JL J Q b n L' ds k' cs s):JL J Q b n L ds k cs s:=by
 unfold N2 at h;split at h
 ·cases h;exact JL.seq K
 ·cases h;exact JL.block K
 ·cases h;exact JL.scope K
 ·cases h;exact JL.skip K
 ·split at h
  ·rename_i e;cases h;exact JL.exit e K
  ·cases h
 ·split at h
  ·rename_i e;cases h;exact S5 e K
  ·rename_i e;cases h;exact Tp e K
  ·cases h
 ·cases h;exact JL.region K
 ·cases h;exact OA K
 ·cases h;exact Sg K
 ·cases h;exact JL.done K
 ·split at h
  ·rename_i d op ty p af g O;rw [I1,Array.getElem?_toList] at O;split at h
   ·rename_i hw;split at h
    ·rename_i U;split at h
     ·rename_i v W;cases d with
      | none=>cases h;exact A1 O hw U (fun ρ V=>LP V W) K
      | some d=>cases h;exact A1 O hw U (fun ρ V=>LP V W) K
     ·cases h
    ·cases h
   ·rename_i hw;split at h
    ·rename_i U;cases d with
     | none=>cases h;exact Rv O hw U K
     | some d=>cases h;exact Rv O hw U K
    ·cases h
   ·cases h
  ·cases h
 ·cases h
theorem JL.go(m:Nat)(h:Md b n m k L=some (k',L'))(K:JL J Q b n L' ds k' cs s):JL J Q b n L ds k cs s:=by
 induction m generalizing k L with
 | zero=>cases h;exact K
 | succ m O=>
  unfold Md at h;split at h
  ·rename_i e;exact Wc e (O h)
  ·cases h
end
abbrev pV(a o:Nat):Value:= .pointer (some ⟨a,o,none⟩)
abbrev sV{α:Type}(a:Option Addr)(l:List α)(c:Nat):Value:= .slice a l.length c
abbrev fV(n:Nat):Value:= .func (.func n) #[] #[]
abbrev nS:Value:= .slice none 0 0
abbrev AV(r:Nat):Option Addr:=some ⟨r,0,none⟩
abbrev uV(n:Nat):Value:= .int .u16 ((n:Nat):Int)
end Pal
namespace Pal
open Go Go.Conc Go.Conc.Lib
open Go.ConcR.Gen
theorem ER{P:Program}{t:TypeId}{n:Nat}(h:∀w,Sem.run P (Go.sizeOf t) w= .ok n w):Bs P t=some n:=by
 have K:=h default;unfold Bs;simp only [Go.sizeOf,typeInfo,bind,Sem.bind,program,Sem.run] at K;cases hi:P.info? t with
 | none=>rw [hi] at K;simp [stuck,Sem.run,Sem.bind] at K
 | some i=>
  rw [hi] at K;simp [pure,Sem.bind,Sem.run] at K;simp [K]
section
variable {P:Program}{L:WgLink}(H:WgLib P L)
include H
theorem MV:Dd P L.disable (fun _=>do mark .disable;pure Extern.Race.none_):=⟨⟨_,H.f_disable,x_disable_n L,x_disable_b L,x_disable_x L,x_disable_f L⟩⟩
theorem HM:Dd P L.enable (fun _=>do mark .enable;pure Extern.Race.none_):=⟨⟨_,H.f_enable,x_enable_n L,x_enable_b L,x_enable_x L,x_enable_f L⟩⟩
theorem R5:Dd P L.relMerge (Extern.Race.marked .releaseMerge):=⟨⟨_,H.f_relMerge,x_relMerge_n L,x_relMerge_b L,x_relMerge_x L,x_relMerge_f L⟩⟩
theorem OG:Dd P L.acquire (Extern.Race.marked .acquire):=⟨⟨_,H.f_acquire,x_acquire_n L,x_acquire_b L,x_acquire_x L,x_acquire_f L⟩⟩
theorem TY:Dd P L.raceRead (Extern.Race.marked .read):=⟨⟨_,H.f_raceRead,x_raceRead_n L,x_raceRead_b L,x_raceRead_x L,x_raceRead_f L⟩⟩
theorem Ta:Dd P L.raceWrite (Extern.Race.marked .write):=⟨⟨_,H.f_raceWrite,x_raceWrite_n L,x_raceWrite_b L,x_raceWrite_x L,x_raceWrite_f L⟩⟩
theorem Ql:Dd P L.addU64 (Extern.Atomic.update (Op.intArith .add) .u64 true):=⟨⟨_,H.f_addU64,x_addU64_n L,x_addU64_b L,x_addU64_x L,x_addU64_f L⟩⟩
theorem TN:Dd P L.loadU64 (Extern.Atomic.loadT (.int .u64)):=⟨⟨_,H.f_loadU64,x_loadU64_n L,x_loadU64_b L,x_loadU64_x L,x_loadU64_f L⟩⟩
theorem Tq:Dd P L.storeU64 Extern.Atomic.storeT:=⟨⟨_,H.f_storeU64,x_storeU64_n L,x_storeU64_b L,x_storeU64_x L,x_storeU64_f L⟩⟩
theorem Vj:Dd P L.casU64 (Extern.Atomic.casT (.int .u64)):=⟨⟨_,H.f_casU64,x_casU64_n L,x_casU64_b L,x_casU64_x L,x_casU64_f L⟩⟩
theorem SP:Dd P L.semrelease Extern.Sync.semrelease:=⟨⟨_,H.f_semrelease,x_semrelease_n L,x_semrelease_b L,x_semrelease_x L,x_semrelease_f L⟩⟩
theorem Se:Dd P L.semacquire Extern.Sync.semacquire:=⟨⟨_,H.f_semacquire,x_semacquire_n L,x_semacquire_b L,x_semacquire_x L,x_semacquire_f L⟩⟩
theorem OM:Dd P L.inBubble (fun _=>pure (.bool false)):=⟨⟨_,H.f_inBubble,x_inBubble_n L,x_inBubble_b L,x_inBubble_x L,x_inBubble_f L⟩⟩
end
section
variable {P:Program}{F:Fam}{J:Judge P}{Q:GP}{n:Nat}{L L':Env}{ds:Ld_}{k:Li_}{cs:Lf_}{s s':St}{b:Frame}{main:Bool}
variable {ops:Ao_}{i:Nat}{rest:List Nat}{d:Option Tmp}{f:FuncId}{x y z:Operand}{ats:Array TypeId}{ty t u e tw:TypeId}{pp:String}{af:Ae_}{g:On_}{p q:Ph}
theorem Yl.to{o:Oper}{ρ:Operand→Value}{v v':Value}(h:Yl P o ρ s v)(e:v=v'):Yl P o ρ s v':=e▸h
theorem J0{ad:Addr}(ah:I2 p=true)(ai:if Fam.DR p=true then s= .quiet else s.q=false)(aj:p≠ .El)(ak:∀v wt sm,F.act p v wt sm=some ((v,wt,sm),#[],.ph q))(al:Fam.Gp p s=s)
  (am:ops[i]? =some ⟨d,.convert t u x,ty,pp,af,g⟩) (U:b.roundOf=none) (hw:A8 L ops ⟨d,.convert t u x,ty,pp,af,g⟩=some true) (K:((b.kind != .early)&&Bt n d)=true)
  (ht:P.underlying t=some (.pointer tw)) (hu:P.underlying u=some .unsafePointer) (V:(P.info? tw).map (fun i=>decide (i.size=0))=some false) (an:ev L x=some (.pointer (some ad))) (hb:ad=F.sA∨ad=F.mA)
  (h:JL (Bo P (Fam.Dj p)) (Stop P F q) b n (AB L d (.pointer (some ad))) ds (.inRegion ops rest::k) cs s):
  JL (Bo P (Fam.Dj p)) (Stop P F p) b n L ds (.inRegion ops (i::rest)::k) cs s:=fun T O=>by
 simp only [Bool.and_eq_true] at K
 refine(Bo P _).stop (G2 ah rfl rfl ai (fun e=>absurd e aj) fun v wt sm v' wt' sm' es nx W=>?_)
 rw [ak] at W;cases W
 refine⟨_,fun w Y=>?_,rfl,by rw [al];exact h _ (O.put K.2 _)⟩
 obtain⟨Z,aa⟩:∃Z,w.cell? ad=some Z:=by
  obtain⟨ao,c2,_,_⟩:=G4 Y;rcases hb with e | e <;> rw [e]
  ·exact⟨_,ao⟩
  ·exact⟨_,c2⟩
 have ab:=run_convert_to_unsafe (P:=P) (w:=w) ht hu V aa;have ap:=events_convert_to_unsafe (P:=P) (w:=w) ht hu V aa;have ae:execOp (⟨T,ds⟩:Act).eval ⟨d,.convert t u x,ty,pp,af,g⟩=(do pure (Next.value (← Go.convert t u (.pointer (some ad))))):=by
  rw [Ih];simp only [execOp,O.ev an]
 rw [CH U,CH U,stepG_value (a:=⟨T,ds⟩) (v:= .pointer (some ad)) (w':=w) am (CR O hw) (by simpa using K.1) (by rw [ae];simp [ab,Result.andThen]),IW Y,FJ];have e2:listed P b.fn ⟨T,ds⟩ ⟨d,.convert t u x,ty,pp,af,g⟩ w= #[]:=by
  unfold listed;rw [ae];simp [ab,ap,Result.evThen,seen_none]
 rw [e2]
end
end Pal
namespace Pal
open Go Go.Conc Go.Conc.Lib
open Go.ConcR.Gen
section
variable {P:Program}{F:Fam}{J:Judge P}{Q:GP}{n:Nat}{L L':Env}{ds:Ld_}{k:Li_}{cs:Lf_}{s s':St}{b:Frame}{main:Bool}
variable {ops:Ao_}{i:Nat}{rest:List Nat}{d:Option Tmp}{f:FuncId}{x y z:Operand}{args:Array Operand}{ats:Array TypeId}{ty t u e tw:TypeId}{pp:String}{af:Ae_}{g:On_}{p q:Ph}{vs:Lv_}
def Xm(P:Program)(b:Frame)(n:Nat)(L:Env)(d:Option Tmp)(ds:Ld_)(todo:Li_)(cs:Lf_)(U:Frame):Prop:=
 ∀(K:Judge P) (O:GP) (v:Value) (s':St),JL K O b n (AB L d v) ds todo cs s'→K.ok O (G (U.finish v) cs) s'
theorem HR{fn:Func}{c:Code}(V:ops[i]? =some ⟨d,.call ⟨.value (.func f),args,ats⟩,ty,pp,af,g⟩)(hw:A8 L ops ⟨d,.call ⟨.value (.func f),args,ats⟩,ty,pp,af,g⟩=some true)(O:((b.kind != .early)&&Bt n d)=true)
  (W:P.funcs[f]? =some fn) (aa:(fn.name== "runtime.NumGoroutine")=false) (hb:fn.body=some c) (ab:evs L args.toList=some vs) (am:vs.length≤fn.ntmps)
  (h:∀Y:Frame,Xm P b n L d ds (.inRegion ops rest::k) cs Y→JL J Q (base f) fn.ntmps (Fs 0 vs) [] [.code c] (Y::cs) s):
  JL J Q b n L ds (.inRegion ops (i::rest)::k) cs s:=fun T U=>by
 simp only [Bool.and_eq_true] at O
 have ae:args.map (BB T)=vs.toArray:=by
  rw [← Ga U.F2 ab];apply Array.ext';simp
 refine Judge.oper V (CR U hw) (by simpa using O.1) (.inr fun c ah=>by cases ah) ?_;have ai:DG P f=true:=by unfold DG;rw [W];simp [aa,hb]
 have aj:lp P (execOp (BB T) ⟨d,.call ⟨.value (.func f),args,ats⟩,ty,pp,af,g⟩) s (upon J Q b T ds ops i rest k cs d) (Mp J Q b T ds ops i rest k cs):=by
  simp only [execOp,resolve,bind,Sem.bind,Deferred.ofValue,BB,pure,invoke];have e: #[]++args.map (BB T)++ #[]=vs.toArray:=by rw [ae];simp
  rw [e];refine IK ai ?_;have he:Frame.enter P f vs.toArray .normal=fr (base f) (vs.toArray++Array.replicate (fn.ntmps - vs.length) undef) [] [.code c]:=by
   simp [Frame.enter,fr,W,hb,base];rfl
  show J.ok Q (G (Frame.enter P f vs.toArray .normal) _) s;rw [he];refine h _ (fun an ao v s' ak=>?_) _ ⟨by simp;omega,fun t v ht=>?_⟩
  ·rw [FW (o:=⟨d,.call ⟨.value (.func f),args,ats⟩,ty,pp,af,g⟩) _ _ _ _ _ V];exact ak _ (U.put O.2 v)
  ·obtain⟨_,K⟩:=IL ht;have al:t<vs.length:=by
    rcases Nat.lt_or_ge t vs.length with Z | Z
    ·exact Z
    ·simp at K;have:=(List.getElem?_eq_some_iff.1 K).1;omega
   rw [Array.getD_eq_getD_getElem?,Array.getElem?_append_left (by simpa using al)];simp at K;simp [K]
 exact aj
theorem Yl.ext{e:Ay→Sem Value}{v:Value}{ρ:Operand→Value}(he:Dd P f e)(O:args.map ρ=vs.toArray)(h:e vs.toArray= .pure v):Yl P ⟨d,.call ⟨.value (.func f),args,ats⟩,ty,pp,af,g⟩ ρ s v∨ρ (.func f)≠ .func (.func f) #[] #[]:=by
 by_cases K:ρ (.func f)= .func (.func f) #[] #[]
 ·left;obtain⟨fn,U,V,W,Y,Z⟩:=he.h;unfold Yl;simp only [execOp,resolve,bind,Sem.bind,Deferred.ofValue,K,pure,invoke];have aa: #[]++args.map ρ++ #[]=vs.toArray:=by rw [O];simp
  rw [aa];have ab:fn.body=none:=by simpa using W
  simp only [callFunc,bind,Sem.bind,program,lp,U,V,ab,Option.isNone_none,Bool.false_eq_true,if_false,if_true,mark,Y,Z,h,pure];exact⟨.inr ⟨f,rfl⟩,trivial,trivial⟩
 ·exact .inr K
theorem JL.ext{e:Ay→Sem Value}{v:Value}(O:ops[i]? =some ⟨d,.call ⟨.value (.func f),args,ats⟩,ty,pp,af,g⟩)(hw:A8 L ops ⟨d,.call ⟨.value (.func f),args,ats⟩,ty,pp,af,g⟩=some true)(U:CL b n ⟨d,.call ⟨.value (.func f),args,ats⟩,ty,pp,af,g⟩=true)
  (he:Dd P f e) (V:evs L args.toList=some vs) (W:e vs.toArray= .pure v) (h:JL J Q b n (AB L d v) ds (.inRegion ops rest::k) cs s):JL J Q b n L ds (.inRegion ops (i::rest)::k) cs s:=
 A1 O hw U (fun ρ K=>by
  have Y:args.map ρ=vs.toArray:=by
   rw [← Ga K V]
   apply Array.ext';simp
  rcases Yl.ext (s:=s) (d:=d) (ats:=ats) (ty:=ty) (pp:=pp) (af:=af) (g:=g) he Y W with q | q
  ·exact q
  ·exact absurd (K (.func f) _ rfl) q) h
end
section
variable {P:Program}{L:WgLink}(H:WgLib P L){F:Fam}{n:Nat}{M:Env}{ds:Ld_}{k:Li_}{cs:Lf_}{s:St}{b:Frame}
variable {ops:Ao_}{i:Nat}{rest:List Nat}{d:Option Tmp}{x y z:Operand}{ats:Array TypeId}{ty:TypeId}{pp:String}{af:Ae_}{g:On_}{p q:Ph}
include H
theorem Uh(K:ops[i]? =some ⟨d,.call ⟨.value (.func L.uAdd),#[x,y],ats⟩,ty,pp,af,g⟩)(hw:A8 M ops ⟨d,.call ⟨.value (.func L.uAdd),#[x,y],ats⟩,ty,pp,af,g⟩=some true)(O:((b.kind != .early)&&Bt n d)=true)
  (U:ev M x=some (.pointer (some F.sA))) (V:ev M y=some (.int .u64 18446744069414584320))
  (W:JL (Bo P false) (Stop P F .F1) b n (AB M d (.int .u64 (Fam.word 0 1))) ds (.inRegion ops rest::k) cs .quiet)
  (Y:∀v wt:Nat,v<2147483647→wt≤1→¬(v=0∧wt=1)→JL (Gb P) (GL P 1) b n (AB M d (.int .u64 (Fam.word v wt))) ds (.inRegion ops rest::k) cs .quiet):
  JL (Bo P false) (Stop P F .GM) b n M ds (.inRegion ops (i::rest)::k) cs .quiet:=by
 refine HR (vs:= [.pointer (some F.sA),.int .u64 18446744069414584320]) K hw O H.f_uAdd (nm_uAdd L) rfl (by simp [evs,U,V]) (Nat.le_of_ble_eq_true rfl) fun ae back=>JL.go 8 rfl (A1 rfl rfl rfl (fun ρ h=>Yl.fieldAddr H.underlying_tAU rfl (ER H.sizeOf_tU64) (h _ _ rfl)) ?_);refine JL.go 1 rfl (U5 rfl rfl rfl rfl (Ql H) rfl rfl ?_ fun v wt Z aa ab=>?_)
 ·refine A1 rfl rfl rfl (fun ρ h=>Yl.assign (h _ _ rfl)) (JL.done ?_);exact JL.ret rfl rfl (BY.one H.f_uAdd rfl rfl) (back _ _ _ _ W)
 ·refine A1 rfl rfl rfl (fun ρ h=>Yl.assign (h _ _ rfl)) (JL.done ?_);exact JL.ret rfl rfl (BY.one H.f_uAdd rfl rfl) (back _ _ _ _ (Y v wt Z aa ab))
theorem Uk{j:Nat}(K:s.q=false)(O:ops[i]? =some ⟨d,.call ⟨.value (.func L.uAdd),#[x,y],ats⟩,ty,pp,af,g⟩)(hw:A8 M ops ⟨d,.call ⟨.value (.func L.uAdd),#[x,y],ats⟩,ty,pp,af,g⟩=some true)(U:((b.kind != .early)&&Bt n d)=true)
  (V:ev M x=some (.pointer (some F.sA))) (W:ev M y=some (.int .u64 4294967296))
  (Y:JL (Bo P true) (Stop P F (.GQ j)) b n (AB M d (.int .u64 (Fam.word 1 0))) ds (.inRegion ops rest::k) cs s)
  (Z:∀v:Nat,1≤v→v<2147483647→JL (Bo P true) (Stop P F (.FQ j)) b n (AB M d (.int .u64 (Fam.word (v+1) 0))) ds (.inRegion ops rest::k) cs s):
  JL (Bo P true) (Stop P F (.Hg j)) b n M ds (.inRegion ops (i::rest)::k) cs s:=by
 refine HR (vs:= [.pointer (some F.sA),.int .u64 4294967296]) O hw U H.f_uAdd (nm_uAdd L) rfl (by simp [evs,V,W]) (Nat.le_of_ble_eq_true rfl) fun ae back=>JL.go 8 rfl (A1 rfl rfl rfl (fun ρ h=>Yl.fieldAddr H.underlying_tAU rfl (ER H.sizeOf_tU64) (h _ _ rfl)) ?_);refine JL.go 1 rfl (UJ K rfl rfl rfl rfl (Ql H) rfl rfl ?_ fun v aa ab=>?_)
 ·refine A1 rfl rfl rfl (fun ρ h=>Yl.assign (h _ _ rfl)) (JL.done ?_);exact JL.ret rfl rfl (BY.one H.f_uAdd rfl rfl) (back _ _ _ _ Y)
 ·refine A1 rfl rfl rfl (fun ρ h=>Yl.assign (h _ _ rfl)) (JL.done ?_);exact JL.ret rfl rfl (BY.one H.f_uAdd rfl rfl) (back _ _ _ _ (Z v aa ab))
theorem JL.uLoad(K:I2 p=true)(O:if Fam.DR p=true then s= .quiet else s.q=false)(U:p≠ .El)(V:Fam.Gp p s=s)(W:∀v wt sm r,F.act p v wt sm=some r→r.1=(v,wt,sm)∧r.2.1= #[Fam.EM F.sA])(Y:ops[i]? =some ⟨d,.call ⟨.value (.func L.uLoad),#[x],ats⟩,ty,pp,af,g⟩)(hw:A8 M ops ⟨d,.call ⟨.value (.func L.uLoad),#[x],ats⟩,ty,pp,af,g⟩=some true)(Z:((b.kind != .early)&&Bt n d)=true)
  (aa:ev M x=some (.pointer (some F.sA)))
  (h:∀v wt sm r,F.act p v wt sm=some r→∃q,r.2.2= .ph q∧JL (Bo P (Fam.Dj p)) (Stop P F q) b n (AB M d (.int .u64 (Fam.word v wt))) ds (.inRegion ops rest::k) cs s):
  JL (Bo P (Fam.Dj p)) (Stop P F p) b n M ds (.inRegion ops (i::rest)::k) cs s:=by
 refine HR (vs:= [.pointer (some F.sA)]) Y hw Z H.f_uLoad (nm_uLoad L) rfl (by simp [evs,aa]) (Nat.le_of_ble_eq_true rfl) fun ai back=>JL.go 8 rfl (A1 rfl rfl rfl (fun ρ h=>Yl.fieldAddr H.underlying_tAU rfl (ER H.sizeOf_tU64) (h _ _ rfl)) ?_);refine VN K O U V W rfl rfl rfl rfl (TN H) rfl fun v wt sm r ab=>?_;obtain⟨q,ae,ah⟩:=h v wt sm r ab;refine⟨q,ae,?_⟩
 ·refine A1 rfl rfl rfl (fun ρ h=>Yl.assign (h _ _ rfl)) (JL.done ?_);exact JL.ret rfl rfl (BY.one H.f_uLoad rfl rfl) (back _ _ _ _ ah)
theorem JL.uStore(K:ops[i]? =some ⟨d,.call ⟨.value (.func L.uStore),#[x,y],ats⟩,ty,pp,af,g⟩)(hw:A8 M ops ⟨d,.call ⟨.value (.func L.uStore),#[x,y],ats⟩,ty,pp,af,g⟩=some true)(O:((b.kind != .early)&&Bt n d)=true)
  (U:ev M x=some (.pointer (some F.sA))) (V:ev M y=some (.int .u64 0))
  (h:JL (Bo P false) (Stop P F .El) b n (AB M d (.tuple #[])) ds (.inRegion ops rest::k) cs .quiet):
  JL (Bo P false) (Stop P F .Gf) b n M ds (.inRegion ops (i::rest)::k) cs .quiet:=by
 refine HR (vs:= [.pointer (some F.sA),.int .u64 0]) K hw O H.f_uStore (nm_uStore L) rfl (by simp [evs,U,V]) (Nat.le_of_ble_eq_true rfl) fun W back=>JL.go 3 rfl (A1 rfl rfl rfl (fun ρ h=>Yl.fieldAddr H.underlying_tAU rfl (ER H.sizeOf_tU64) (h _ _ rfl)) ?_);refine JL.go 1 rfl (WM rfl rfl rfl rfl (Tq H) rfl rfl ?_);exact JL.done (JL.fin rfl rfl (BY.none H.f_uStore rfl) (back _ _ _ _ h))
theorem JL.uCas{m:Nat}(K:s.q=false)(O:ops[i]? =some ⟨d,.call ⟨.value (.func L.uCas),#[x,y,z],ats⟩,ty,pp,af,g⟩)(hw:A8 M ops ⟨d,.call ⟨.value (.func L.uCas),#[x,y,z],ats⟩,ty,pp,af,g⟩=some true)(U:((b.kind != .early)&&Bt n d)=true)
  (V:ev M x=some (.pointer (some F.sA))) (W:ev M y=some (.int .u64 (Fam.word m 0))) (Y:ev M z=some (.int .u64 (Fam.word m 1)))
  (Z:JL (Bo P false) (Stop P F .Hi) b n (AB M d (.bool true)) ds (.inRegion ops rest::k) cs s)
  (aa:JL (Bo P false) (Stop P F (.Fq (m - 1))) b n (AB M d (.bool false)) ds (.inRegion ops rest::k) cs s):
  JL (Bo P false) (Stop P F (.GN m)) b n M ds (.inRegion ops (i::rest)::k) cs s:=by
 refine HR (vs:= [.pointer (some F.sA),.int .u64 (Fam.word m 0),.int .u64 (Fam.word m 1)]) O hw U H.f_uCas (nm_uCas L) rfl (by simp [evs,V,W,Y]) (Nat.le_of_ble_eq_true rfl) fun ab back=>JL.go 8 rfl (A1 rfl rfl rfl (fun ρ h=>Yl.fieldAddr H.underlying_tAU rfl (ER H.sizeOf_tU64) (h _ _ rfl)) ?_);refine JL.go 2 rfl (VB (m:=m) K rfl rfl rfl rfl (Vj H) rfl rfl rfl ?_ ?_)
 ·refine A1 rfl rfl rfl (fun ρ h=>Yl.assign (h _ _ rfl)) (JL.done ?_);exact JL.ret rfl rfl (BY.one H.f_uCas rfl rfl) (back _ _ _ _ Z)
 ·refine A1 rfl rfl rfl (fun ρ h=>Yl.assign (h _ _ rfl)) (JL.done ?_);exact JL.ret rfl rfl (BY.one H.f_uCas rfl rfl) (back _ _ _ _ aa)
end
end Pal
namespace Pal
open Go Go.Conc Go.Conc.Lib
open Go.ConcR.Gen
theorem Ja{v wt:Nat}(K:v<2147483648)(O:wt≤1):IntKind.u64.wrap (BitVec.ofInt IntKind.u64.bits (Fam.word v wt)&&& BitVec.ofInt IntKind.u64.bits 2147483648).toNat=0:=by
 have:=Go.ConcN.st_flag v wt K O;simpa [bits,Fam.word,Fam.KK] using this
theorem Jd{v wt:Nat}(K:v<2147483648)(O:wt≤1):IntKind.u64.wrap (BitVec.ofInt IntKind.u64.bits (Fam.word v wt)&&& BitVec.ofInt IntKind.u64.bits 2147483647).toNat=(wt:Int):=by
 have:=Go.ConcN.st_waiters v wt K O;simpa [bits,Fam.word,Fam.KK] using this
theorem IU{v wt:Nat}(K:wt≤1):(Fam.word v wt).fdiv (2 ^ (min (32:Int).toNat IntKind.u64.bits))=(v:Int):=by
 have e:(2:Int) ^ (min (32:Int).toNat IntKind.u64.bits)=4294967296:=by decide
 rw [e,Int.fdiv_eq_ediv_of_nonneg _ (by decide)];simp only [Fam.word,Fam.KK];omega
theorem wrap_i32{v:Nat}(K:v<2147483648):IntKind.i32.wrap (v:Int)=v:=by
 simp only [IntKind.wrap,IntKind.bits,IntKind.signed];simp;split <;> omega
theorem wrap_u32{v:Nat}(K:v≤1):IntKind.u32.wrap (v:Int)=v:=by
 simp only [IntKind.wrap,IntKind.bits,IntKind.signed];simp;omega
theorem SS{F:Fam}:∀v wt sm r,F.act .F1 v wt sm=some r→r.1=(v,wt,sm)∧r.2.1= #[Fam.EM F.sA]:=by
 intro v wt sm r h;simp only [Fam.act] at h;split at h
 ·rename_i K;obtain⟨rfl,rfl⟩:=K;cases h;exact⟨rfl,rfl⟩
 ·cases h
theorem Un{F:Fam}{v wt sm:Nat}{r}(h:F.act .F1 v wt sm=some r):v=0∧wt=1∧r.2.2= .ph .Gf:=by
 simp only [Fam.act] at h;split at h
 ·rename_i K;cases h;exact⟨K.1,K.2,rfl⟩
 ·cases h
section
variable {P:Program}{L:WgLink}(H:WgLib P L){F:Fam}{n:Nat}{M:Env}{ds:Ld_}{k:Li_}{cs:Lf_}{s:St}{b:Frame}
variable {ops:Ao_}{i:Nat}{rest:List Nat}{d:Option Tmp}{x y z:Operand}{ats:Array TypeId}{ty:TypeId}{pp:String}{af:Ae_}{g:On_}{p q:Ph}
include H
theorem SQ(U:s.q=false)(V:ops[i]? =some ⟨d,.call ⟨.value (.func L.add),#[x,y],ats⟩,ty,pp,af,g⟩)(hw:A8 M ops ⟨d,.call ⟨.value (.func L.add),#[x,y],ats⟩,ty,pp,af,g⟩=some true)(W:((b.kind != .early)&&Bt n d)=true)
  (Y:ev M x=some (.pointer (some F.sA))) (Z:ev M y=some (.int .i64 (-1)))
  (h:JL (Gb P) (GL P 0) b n (AB M d (.tuple #[])) ds (.inRegion ops rest::k) cs .quiet):
  JL (Bo P false) (Stop P F .CO) b n M ds (.inRegion ops (i::rest)::k) cs s:=by
 refine HR (vs:= [.pointer (some F.sA),.int .i64 (-1)]) V hw W H.f_add (nm_add L) rfl (by simp [evs,Y,Z]) (Nat.le_of_ble_eq_true rfl) fun ab back=>JL.go 11 rfl (J0 (p:= .CO) (q:= .F3) (ad:=F.sA) rfl U (by simp) (fun _ _ _=>rfl) rfl rfl rfl rfl rfl H.underlying_tWgP H.underlying_tUP H.room_tWg rfl (.inl rfl) ?_)
 refine JF (p:= .F3) (q:= .Hy) (mk:= .releaseMerge) (ad:=F.sA) (vs:= [.pointer (some F.sA)]) rfl U (by simp) (fun _ _ _=>rfl) rfl rfl rfl rfl (by simp) (R5 H) rfl rfl (JL.go 3 rfl ?_);refine JN (p:= .Hy) (q:= .GM) rfl rfl (by simp) (fun _ _ _=>rfl) rfl rfl rfl rfl rfl (by simp) (MV H) (JL.go 2 rfl ?_);refine JL.defer (vs:= []) rfl rfl rfl rfl rfl (JL.go 8 rfl ?_);refine JL.ext (vs:= []) rfl rfl rfl (OM H) rfl rfl (JL.go 7 rfl ?_);refine A1 rfl rfl rfl (fun ρ h=>Yl.fieldAddr H.underlying_tWg rfl (ER H.sizeOf_tAU) (h _ _ rfl)) (JL.go 1 rfl ?_);refine A1 rfl rfl rfl (fun ρ h=>D8 H.underlying_t3 H.underlying_tU64 (h _ _ rfl)) ?_
 refine A1 (v:= .int .u64 18446744069414584320) rfl rfl rfl (fun ρ h=>(Yl.shl (h _ _ rfl) (h _ _ rfl) (by decide)).to (congrArg _ (by decide))) (Uh H rfl rfl rfl rfl rfl ?_ fun v wt ae K ah=>?_)
 ·refine A1 rfl rfl rfl (fun ρ h=>Yl.assign (h _ _ rfl)) (JL.go 5 rfl ?_);refine A1 (v:= .int .u64 0) rfl rfl rfl (fun ρ h=>(Yl.and (h _ _ rfl) (h _ _ rfl)).to (congrArg _ (Ja (v:=0) (wt:=1) (by decide) (by decide)))) (A1 rfl rfl rfl (fun ρ h=>Yl.neq (h _ _ rfl) (h _ _ rfl)) ?_);refine JL.go 10 rfl (A1 (v:= .int .u64 (0:Nat)) rfl rfl rfl (fun ρ h=>(Yl.shr (h _ _ rfl) (h _ _ rfl) (by decide)).to (congrArg _ (IU (v:=0) (wt:=1) (by decide)))) ?_);refine A1 (v:= .int .i32 (0:Nat)) rfl rfl rfl (fun ρ h=>(D8 H.underlying_tU64 H.underlying_t21 (h _ _ rfl)).to (congrArg _ (wrap_i32 (by decide)))) ?_
  refine JL.go 5 rfl (A1 (v:= .int .u64 (1:Nat)) rfl rfl rfl (fun ρ h=>(Yl.and (h _ _ rfl) (h _ _ rfl)).to (congrArg _ (Jd (v:=0) (wt:=1) (by decide) (by decide)))) ?_);refine A1 (v:= .int .u32 (1:Nat)) rfl rfl rfl (fun ρ h=>(D8 H.underlying_tU64 H.underlying_tU32 (h _ _ rfl)).to (congrArg _ (wrap_u32 (by decide)))) ?_
  refine JL.go 30 rfl (A1 rfl rfl rfl (fun ρ h=>Yl.neq (h _ _ rfl) (h _ _ rfl)) ?_);refine JL.go 30 rfl (A1 rfl rfl rfl (fun ρ h=>Yl.fieldAddr H.underlying_tWg rfl (ER H.sizeOf_tAU) (h _ _ rfl)) ?_);refine JL.uLoad H (p:= .F1) rfl rfl (by simp) rfl SS rfl rfl rfl rfl fun v wt sm r aa=>?_;obtain⟨rfl,rfl,e⟩:=Un aa;refine⟨.Gf,e,?_⟩;refine JL.go 1 rfl (A1 (v:= .bool false) rfl rfl rfl (fun ρ h=>(Yl.neq (h _ _ rfl) (h _ _ rfl)).to (by simp)) ?_);refine JL.go 7 rfl (A1 rfl rfl rfl (fun ρ h=>Yl.fieldAddr H.underlying_tWg rfl (ER H.sizeOf_tAU) (h _ _ rfl)) ?_);refine JL.uStore H rfl rfl rfl rfl rfl (JL.go 9 rfl ?_);refine IN (JL.go 4 rfl ?_);refine A1 rfl rfl rfl (fun ρ h=>Yl.neq (h _ _ rfl) (h _ _ rfl)) (JL.go 8 rfl ?_);refine A1 rfl rfl rfl (fun ρ h=>Yl.fieldAddr H.underlying_tWg rfl (ER H.sizeOf_tU32) (h _ _ rfl)) (TQ (vs:= [.pointer (some F.mA),.bool false,.int .i64 0]) rfl rfl rfl rfl (SP H) rfl rfl ?_);refine JL.go 4 rfl (A1 (v:= .int .u32 ((0:Nat):Int)) rfl rfl rfl (fun ρ h=>(Yl.sub (h _ _ rfl) (h _ _ rfl)).to (congrArg _ (by decide))) ?_);refine JL.go 2 rfl (JL.again ?_);refine JL.go 4 rfl (A1 rfl rfl rfl (fun ρ h=>Yl.neq (h _ _ rfl) (h _ _ rfl)) ?_);refine JL.go 3 rfl (JL.out rfl (JO.LJ rfl (HM H) (JO.leave rfl (BY.none H.f_add rfl) (back _ _ _ _ h))))
 ·refine A1 rfl rfl rfl (fun ρ h=>Yl.assign (h _ _ rfl)) (JL.go 5 rfl ?_);refine A1 (v:= .int .u64 0) rfl rfl rfl (fun ρ h=>(Yl.and (h _ _ rfl) (h _ _ rfl)).to (congrArg _ (Ja (v:=v) (wt:=wt) (by omega) K))) (A1 rfl rfl rfl (fun ρ h=>Yl.neq (h _ _ rfl) (h _ _ rfl)) ?_);refine JL.go 10 rfl (A1 (v:= .int .u64 (v:Nat)) rfl rfl rfl (fun ρ h=>(Yl.shr (h _ _ rfl) (h _ _ rfl) (by decide)).to (congrArg _ (IU (v:=v) (wt:=wt) K))) ?_);refine A1 (v:= .int .i32 (v:Nat)) rfl rfl rfl (fun ρ h=>(D8 H.underlying_tU64 H.underlying_t21 (h _ _ rfl)).to (congrArg _ (wrap_i32 (by omega)))) ?_
  refine JL.go 5 rfl (A1 (v:= .int .u64 (wt:Nat)) rfl rfl rfl (fun ρ h=>(Yl.and (h _ _ rfl) (h _ _ rfl)).to (congrArg _ (Jd (v:=v) (wt:=wt) (by omega) K))) ?_);refine A1 (v:= .int .u32 (wt:Nat)) rfl rfl rfl (fun ρ h=>(D8 H.underlying_tU64 H.underlying_tU32 (h _ _ rfl)).to (congrArg _ (wrap_u32 K))) ?_
  refine JL.go 22 rfl (A1 (v:= .bool false) rfl rfl rfl (fun ρ h=>(Yl.lss (h _ _ rfl) (h _ _ rfl)).to (by simp)) ?_);refine JL.go 6 rfl ?_;by_cases O:wt=0
  ·refine A1 rfl rfl rfl (fun ρ h=>Yl.move (h _ _ rfl)) (A1 (v:= .bool false) rfl rfl rfl (fun ρ h=>(Yl.neq (h _ _ rfl) (h _ _ rfl)).to (by simp [O])) ?_);refine JL.go 16 rfl ?_;by_cases ai:0<v
   ·refine A1 rfl rfl rfl (fun ρ h=>Yl.move (h _ _ rfl)) (A1 (v:= .bool true) rfl rfl rfl (fun ρ h=>(Yl.gtr (h _ _ rfl) (h _ _ rfl)).to (by simp <;> omega)) ?_);refine JL.go 6 rfl (GA rfl (JO.LJ rfl (HM H) (JO.leave rfl (BY.none H.f_add rfl) (back _ _ _ _ h))))
   ·refine A1 rfl rfl rfl (fun ρ h=>Yl.move (h _ _ rfl)) (A1 (v:= .bool false) rfl rfl rfl (fun ρ h=>(Yl.gtr (h _ _ rfl) (h _ _ rfl)).to (by simp <;> omega)) ?_);refine JL.go 2 rfl (A1 (v:= .bool true) rfl rfl rfl (fun ρ h=>(Yl.eql (h _ _ rfl) (h _ _ rfl)).to (by simp [O])) ?_);refine JL.go 3 rfl (GA rfl (JO.LJ rfl (HM H) (JO.leave rfl (BY.none H.f_add rfl) (back _ _ _ _ h))))
  ·refine A1 rfl rfl rfl (fun ρ h=>Yl.move (h _ _ rfl)) (A1 (v:= .bool true) rfl rfl rfl (fun ρ h=>(Yl.neq (h _ _ rfl) (h _ _ rfl)).to (by simp [O])) ?_);refine JL.go 17 rfl (A1 (v:= .bool true) rfl rfl rfl (fun ρ h=>(Yl.gtr (h _ _ rfl) (h _ _ rfl)).to (by simp <;> omega)) ?_);refine JL.go 6 rfl (GA rfl (JO.LJ rfl (HM H) (JO.leave rfl (BY.none H.f_add rfl) (back _ _ _ _ h))))
theorem Ts{j:Nat}(K:s.q=false)(O:ops[i]? =some ⟨d,.call ⟨.value (.func L.add),#[x,y],ats⟩,ty,pp,af,g⟩)(hw:A8 M ops ⟨d,.call ⟨.value (.func L.add),#[x,y],ats⟩,ty,pp,af,g⟩=some true)(U:((b.kind != .early)&&Bt n d)=true)
  (V:ev M x=some (.pointer (some F.sA))) (W:ev M y=some (.int .i64 1))
  (h:JL (Bo P true) (Stop P F (.EN j)) b n (AB M d (.tuple #[])) ds (.inRegion ops rest::k) cs s):
  JL (Bo P true) (Stop P F (.EX j)) b n M ds (.inRegion ops (i::rest)::k) cs s:=by
 refine HR (vs:= [.pointer (some F.sA),.int .i64 1]) O hw U H.f_add (nm_add L) rfl (by simp [evs,V,W]) (Nat.le_of_ble_eq_true rfl) fun Y back=>JL.go 12 rfl (JN (p:= .EX j) (q:= .Hg j) rfl K (by simp) (fun _ _ _=>rfl) rfl rfl rfl rfl rfl (by simp) (MV H) ?_);refine JL.go 2 rfl (JL.defer (vs:= []) rfl rfl rfl rfl rfl ?_);refine JL.go 8 rfl (JL.ext (vs:= []) rfl rfl rfl (OM H) rfl rfl ?_);refine JL.go 7 rfl (A1 rfl rfl rfl (fun ρ h=>Yl.fieldAddr H.underlying_tWg rfl (ER H.sizeOf_tAU) (h _ _ rfl)) ?_);refine JL.go 1 rfl (A1 rfl rfl rfl (fun ρ h=>D8 H.underlying_t3 H.underlying_tU64 (h _ _ rfl)) ?_)
 refine A1 (v:= .int .u64 4294967296) rfl rfl rfl (fun ρ h=>(Yl.shl (h _ _ rfl) (h _ _ rfl) (by decide)).to (congrArg _ (by decide))) (Uk H K rfl rfl rfl rfl rfl ?_ fun v Z aa=>?_)
 ·refine A1 rfl rfl rfl (fun ρ h=>Yl.assign (h _ _ rfl)) (JL.go 5 rfl ?_);refine A1 (v:= .int .u64 0) rfl rfl rfl (fun ρ h=>(Yl.and (h _ _ rfl) (h _ _ rfl)).to (congrArg _ (Ja (v:=1) (wt:=0) (by decide) (by decide)))) (A1 rfl rfl rfl (fun ρ h=>Yl.neq (h _ _ rfl) (h _ _ rfl)) ?_);refine JL.go 10 rfl (A1 (v:= .int .u64 (1:Nat)) rfl rfl rfl (fun ρ h=>(Yl.shr (h _ _ rfl) (h _ _ rfl) (by decide)).to (congrArg _ (IU (v:=1) (wt:=0) (by decide)))) ?_);refine A1 (v:= .int .i32 (1:Nat)) rfl rfl rfl (fun ρ h=>(D8 H.underlying_tU64 H.underlying_t21 (h _ _ rfl)).to (congrArg _ (wrap_i32 (by decide)))) ?_
  refine JL.go 5 rfl (A1 (v:= .int .u64 (0:Nat)) rfl rfl rfl (fun ρ h=>(Yl.and (h _ _ rfl) (h _ _ rfl)).to (congrArg _ (Jd (v:=1) (wt:=0) (by decide) (by decide)))) ?_);refine A1 (v:= .int .u32 (0:Nat)) rfl rfl rfl (fun ρ h=>(D8 H.underlying_tU64 H.underlying_tU32 (h _ _ rfl)).to (congrArg _ (wrap_u32 (by decide)))) ?_
  refine JL.go 12 rfl (A1 (v:= .int .i32 1) rfl rfl rfl (fun ρ h=>(D8 H.underlying_t3 H.underlying_t21 (h _ _ rfl)).to (congrArg _ (by decide))) ?_)
  refine A1 (v:= .bool true) rfl rfl rfl (fun ρ h=>(Yl.eql (h _ _ rfl) (h _ _ rfl)).to (by simp)) (JL.go 6 rfl ?_);refine A1 rfl rfl rfl (fun ρ h=>Yl.fieldAddr H.underlying_tWg rfl (ER H.sizeOf_tU32) (h _ _ rfl)) (J0 (p:= .GQ j) (q:= .Gk j) (ad:=F.mA) rfl K (by simp) (fun _ _ _=>rfl) rfl rfl rfl rfl rfl H.underlying_tPU32 H.underlying_tUP H.room_tU32 rfl (.inr rfl) ?_)
  refine JF (p:= .Gk j) (q:= .FQ j) (mk:= .read) (ad:=F.mA) (vs:= [.pointer (some F.mA)]) rfl K (by simp) (fun _ _ _=>rfl) rfl rfl rfl rfl (by simp) (TY H) rfl rfl (JL.go 5 rfl ?_);refine A1 (v:= .bool false) rfl rfl rfl (fun ρ h=>(Yl.lss (h _ _ rfl) (h _ _ rfl)).to (by simp)) (JL.go 7 rfl ?_);refine A1 (v:= .bool false) rfl rfl rfl (fun ρ h=>(Yl.neq (h _ _ rfl) (h _ _ rfl)).to (by simp)) (JL.go 17 rfl ?_);refine A1 (v:= .bool true) rfl rfl rfl (fun ρ h=>(Yl.gtr (h _ _ rfl) (h _ _ rfl)).to (by simp)) (JL.go 6 rfl ?_);exact GA rfl (JO.Qa K rfl (HM H) (JO.leave rfl (BY.none H.f_add rfl) (back _ _ _ _ h)))
 ·refine A1 rfl rfl rfl (fun ρ h=>Yl.assign (h _ _ rfl)) (JL.go 5 rfl ?_);refine A1 (v:= .int .u64 0) rfl rfl rfl (fun ρ h=>(Yl.and (h _ _ rfl) (h _ _ rfl)).to (congrArg _ (Ja (v:=(v+1)) (wt:=0) (by omega) (by decide)))) (A1 rfl rfl rfl (fun ρ h=>Yl.neq (h _ _ rfl) (h _ _ rfl)) ?_);refine JL.go 10 rfl (A1 (v:= .int .u64 ((v+1):Nat)) rfl rfl rfl (fun ρ h=>(Yl.shr (h _ _ rfl) (h _ _ rfl) (by decide)).to (congrArg _ (IU (v:=(v+1)) (wt:=0) (by decide)))) ?_);refine A1 (v:= .int .i32 ((v+1):Nat)) rfl rfl rfl (fun ρ h=>(D8 H.underlying_tU64 H.underlying_t21 (h _ _ rfl)).to (congrArg _ (wrap_i32 (by omega)))) ?_
  refine JL.go 5 rfl (A1 (v:= .int .u64 (0:Nat)) rfl rfl rfl (fun ρ h=>(Yl.and (h _ _ rfl) (h _ _ rfl)).to (congrArg _ (Jd (v:=(v+1)) (wt:=0) (by omega) (by decide)))) ?_);refine A1 (v:= .int .u32 (0:Nat)) rfl rfl rfl (fun ρ h=>(D8 H.underlying_tU64 H.underlying_tU32 (h _ _ rfl)).to (congrArg _ (wrap_u32 (by decide)))) ?_
  refine JL.go 12 rfl (A1 (v:= .int .i32 1) rfl rfl rfl (fun ρ h=>(D8 H.underlying_t3 H.underlying_t21 (h _ _ rfl)).to (congrArg _ (by decide))) ?_)
  refine A1 (v:= .bool false) rfl rfl rfl (fun ρ h=>(Yl.eql (h _ _ rfl) (h _ _ rfl)).to (by simp <;> omega)) (JL.go 8 rfl ?_);refine A1 (v:= .bool false) rfl rfl rfl (fun ρ h=>(Yl.lss (h _ _ rfl) (h _ _ rfl)).to (by simp <;> omega)) (JL.go 7 rfl ?_);refine A1 (v:= .bool false) rfl rfl rfl (fun ρ h=>(Yl.neq (h _ _ rfl) (h _ _ rfl)).to (by simp)) (JL.go 17 rfl ?_);refine A1 (v:= .bool true) rfl rfl rfl (fun ρ h=>(Yl.gtr (h _ _ rfl) (h _ _ rfl)).to (by simp <;> omega)) (JL.go 6 rfl ?_);exact GA rfl (JO.Qa K rfl (HM H) (JO.leave rfl (BY.none H.f_add rfl) (back _ _ _ _ h)))
omit H in
theorem S9{m:Nat}:∀v wt sm r,F.act (.Fq m) v wt sm=some r→r.1=(v,wt,sm)∧r.2.1= #[Fam.EM F.sA]:=by
 intro v wt sm r h;simp only [Fam.act] at h;split at h
 ·rename_i K;obtain⟨_,rfl⟩:=K;cases h;exact⟨rfl,rfl⟩
 ·cases h
omit H in
theorem TI{m v wt sm:Nat}{r}(h:F.act (.Fq m) v wt sm=some r):v≤m∧wt=0∧r.2.2=if v=0 then .ph .Fc else .ph (.GN v):=by
 simp only [Fam.act] at h;split at h
 ·rename_i K;cases h;exact⟨K.1,K.2,rfl⟩
 ·cases h
omit H in
theorem SK:∀v wt sm r,F.act .Gg v wt sm=some r→r.1=(v,wt,sm)∧r.2.1= #[Fam.EM F.sA]:=by
 intro v wt sm r h;simp only [Fam.act] at h;split at h
 ·rename_i K;obtain⟨rfl,rfl⟩:=K;cases h;exact⟨rfl,rfl⟩
 ·cases h
omit H in
theorem To{v wt sm:Nat}{r}(h:F.act .Gg v wt sm=some r):v=0∧wt=0∧r.2.2= .ph .Fc:=by
 simp only [Fam.act] at h;split at h
 ·rename_i K;cases h;exact⟨K.1,K.2,rfl⟩
 ·cases h
omit H in
theorem S7{v:Nat}(K:v<2147483648):IntKind.u64.wrap (Fam.word v 0+1)=Fam.word v 1:=by
 simp only [Fam.word,Fam.KK,IntKind.wrap,IntKind.bits,IntKind.signed];simp;omega
theorem JL.wait(W:F.n<2147483648)(K:s.q=false)(Y:ops[i]? =some ⟨d,.call ⟨.value (.func L.wait),#[x],ats⟩,ty,pp,af,g⟩)(hw:A8 M ops ⟨d,.call ⟨.value (.func L.wait),#[x],ats⟩,ty,pp,af,g⟩=some true)(Z:((b.kind != .early)&&Bt n d)=true)
  (aa:ev M x=some (.pointer (some F.sA)))
  (h:JL (Bo P false) (Stop P F .Dw) b n (AB M d (.tuple #[])) ds (.inRegion ops rest::k) cs s):
  JL (Bo P false) (Stop P F .CP) b n M ds (.inRegion ops (i::rest)::k) cs s:=by
 refine HR (vs:= [.pointer (some F.sA)]) Y hw Z H.f_wait (nm_wait L) rfl (by simp [evs,aa]) (Nat.le_of_ble_eq_true rfl) fun ae back=>JL.go 3 rfl (JN (p:= .CP) (q:= .Fq F.n) rfl K (by simp) (fun _ _ _=>rfl) rfl rfl rfl rfl rfl (by simp) (MV H) ?_);refine JL.go 2 rfl (IN ?_);refine GD (L':= [(0,.pointer (some F.sA))]) ⟨rfl,trivial⟩ ?_;generalize F.n=m at W ⊢
 induction m using Nat.strongRecOn with
 | _ m ab=>?_
 refine JL.go 5 rfl (A1 rfl rfl rfl (fun ρ h=>Yl.fieldAddr H.underlying_tWg rfl (ER H.sizeOf_tAU) (h _ _ rfl)) ?_);refine JL.uLoad H (p:= .Fq m) rfl K (by simp) rfl S9 rfl rfl rfl rfl fun v wt sm r U=>?_;obtain⟨ah,rfl,e⟩:=TI U;have O:v<2147483648:=by omega
 by_cases V:v=0
 ·subst V;refine⟨.Fc,e,?_⟩;refine JL.go 5 rfl (A1 (v:= .int .u64 (0:Nat)) rfl rfl rfl (fun ρ h=>(Yl.shr (h _ _ rfl) (h _ _ rfl) (by decide)).to (congrArg _ (IU (v:=0) (wt:=0) (by decide)))) ?_);refine A1 (v:= .int .i32 (0:Nat)) rfl rfl rfl (fun ρ h=>(D8 H.underlying_tU64 H.underlying_t21 (h _ _ rfl)).to (congrArg _ (wrap_i32 (by decide)))) ?_
  refine JL.go 5 rfl (A1 (v:= .int .u64 ((0:Nat):Int)) rfl rfl rfl (fun ρ h=>(Yl.and (h _ _ rfl) (h _ _ rfl)).to (congrArg _ (Jd (v:=0) (wt:=0) (by decide) (by decide)))) ?_);refine A1 (v:= .int .u32 ((0:Nat):Int)) rfl rfl rfl (fun ρ h=>(D8 H.underlying_tU64 H.underlying_tU32 (h _ _ rfl)).to (congrArg _ (wrap_u32 (by decide)))) ?_
  refine JL.go 6 rfl (A1 (v:= .bool true) rfl rfl rfl (fun ρ h=>(Yl.eql (h _ _ rfl) (h _ _ rfl)).to (by simp)) ?_);refine JL.go 6 rfl (JN (p:= .Fc) (q:= .Hf) rfl K (by simp) (fun _ _ _=>rfl) rfl rfl rfl rfl rfl (by simp) (HM H) ?_);refine JL.go 3 rfl (J0 (p:= .Hf) (q:= .Gl) (ad:=F.sA) rfl K (by simp) (fun _ _ _=>rfl) rfl rfl rfl rfl rfl H.underlying_tWgP H.underlying_tUP H.room_tWg rfl (.inl rfl) ?_)
  refine JF (p:= .Gl) (q:= .Dw) (mk:= .acquire) (ad:=F.sA) (vs:= [.pointer (some F.sA)]) rfl K (by simp) (fun _ _ _=>rfl) rfl rfl rfl rfl (by simp) (OG H) rfl rfl (JL.go 5 rfl ?_);refine A1 (v:= .bool true) rfl rfl rfl (fun ρ h=>(Yl.eql (h _ _ rfl) (h _ _ rfl)).to (by simp)) (JL.go 2 rfl ?_);refine A1 (v:= .int .u64 0) rfl rfl rfl (fun ρ h=>(Yl.and (h _ _ rfl) (h _ _ rfl)).to (congrArg _ (Ja (v:=0) (wt:=0) (by decide) (by decide)))) (A1 (v:= .bool false) rfl rfl rfl (fun ρ h=>(Yl.neq (h _ _ rfl) (h _ _ rfl)).to (by simp)) ?_);exact JL.go 8 rfl (JL.ret rfl rfl (BY.none H.f_wait rfl) (back _ _ _ _ h))
 ·refine⟨.GN v,by rw [e,if_neg V],?_⟩;refine JL.go 5 rfl (A1 (v:= .int .u64 (v:Nat)) rfl rfl rfl (fun ρ h=>(Yl.shr (h _ _ rfl) (h _ _ rfl) (by decide)).to (congrArg _ (IU (v:=v) (wt:=0) (by decide)))) ?_);refine A1 (v:= .int .i32 (v:Nat)) rfl rfl rfl (fun ρ h=>(D8 H.underlying_tU64 H.underlying_t21 (h _ _ rfl)).to (congrArg _ (wrap_i32 O))) ?_
  refine JL.go 5 rfl (A1 (v:= .int .u64 ((0:Nat):Int)) rfl rfl rfl (fun ρ h=>(Yl.and (h _ _ rfl) (h _ _ rfl)).to (congrArg _ (Jd (v:=v) (wt:=0) O (by decide)))) ?_);refine A1 (v:= .int .u32 ((0:Nat):Int)) rfl rfl rfl (fun ρ h=>(D8 H.underlying_tU64 H.underlying_tU32 (h _ _ rfl)).to (congrArg _ (wrap_u32 (by decide)))) ?_
  refine JL.go 6 rfl (A1 (v:= .bool false) rfl rfl rfl (fun ρ h=>(Yl.eql (h _ _ rfl) (h _ _ rfl)).to (by simp <;> omega)) ?_);refine JL.go 7 rfl (A1 rfl rfl rfl (fun ρ h=>Yl.fieldAddr H.underlying_tWg rfl (ER H.sizeOf_tAU) (h _ _ rfl)) ?_);refine JL.go 2 rfl (A1 (v:= .int .u64 (Fam.word v 1)) rfl rfl rfl (fun ρ h=>(Yl.add (h _ _ rfl) (h _ _ rfl)).to (congrArg _ (S7 O))) ?_);refine JL.uCas H (m:=v) K rfl rfl rfl rfl rfl rfl ?_ ?_
  ·refine JL.done (JL.go 6 rfl ?_);refine A1 (v:= .bool true) rfl rfl rfl (fun ρ h=>(Yl.eql (h _ _ rfl) (h _ _ rfl)).to (by simp)) (JL.go 6 rfl ?_);refine A1 rfl rfl rfl (fun ρ h=>Yl.fieldAddr H.underlying_tWg rfl (ER H.sizeOf_tU32) (h _ _ rfl)) (J0 (p:= .Hi) (q:= .GO) (ad:=F.mA) rfl K (by simp) (fun _ _ _=>rfl) rfl rfl rfl rfl rfl H.underlying_tPU32 H.underlying_tUP H.room_tU32 rfl (.inr rfl) ?_)
   refine JF (p:= .GO) (q:= .Dc) (mk:= .write) (ad:=F.mA) (vs:= [.pointer (some F.mA)]) rfl K (by simp) (fun _ _ _=>rfl) rfl rfl rfl rfl (by simp) (Ta H) rfl rfl (JL.go 9 rfl ?_);refine A1 (v:= .int .u64 0) rfl rfl rfl (fun ρ h=>(Yl.and (h _ _ rfl) (h _ _ rfl)).to (congrArg _ (Ja (v:=v) (wt:=0) O (by decide)))) (A1 (v:= .bool false) rfl rfl rfl (fun ρ h=>(Yl.neq (h _ _ rfl) (h _ _ rfl)).to (by simp)) ?_);refine JL.go 10 rfl (A1 rfl rfl rfl (fun ρ h=>Yl.fieldAddr H.underlying_tWg rfl (ER H.sizeOf_tU32) (h _ _ rfl)) ?_);refine JL.go 1 rfl (SI (vs:= [.pointer (some F.mA),.bool false]) K rfl rfl rfl rfl (Se H) rfl rfl ?_);refine JL.go 5 rfl (A1 rfl rfl rfl (fun ρ h=>Yl.fieldAddr H.underlying_tWg rfl (ER H.sizeOf_tAU) (h _ _ rfl)) ?_);refine JL.uLoad H (p:= .Gg) rfl K (by simp) rfl SK rfl rfl rfl rfl fun v wt sm r U=>?_;obtain⟨rfl,rfl,e⟩:=To U;refine⟨.Fc,e,?_⟩;refine A1 (v:= .bool false) rfl rfl rfl (fun ρ h=>(Yl.neq (h _ _ rfl) (h _ _ rfl)).to (by simp [Fam.word])) (JL.go 6 rfl ?_);refine JN (p:= .Fc) (q:= .Hf) rfl K (by simp) (fun _ _ _=>rfl) rfl rfl rfl rfl rfl (by simp) (HM H) (JL.go 3 rfl ?_);refine J0 (p:= .Hf) (q:= .Gl) (ad:=F.sA) rfl K (by simp) (fun _ _ _=>rfl) rfl rfl rfl rfl rfl H.underlying_tWgP H.underlying_tUP H.room_tWg rfl (.inl rfl) ?_
   refine JF (p:= .Gl) (q:= .Dw) (mk:= .acquire) (ad:=F.sA) (vs:= [.pointer (some F.sA)]) rfl K (by simp) (fun _ _ _=>rfl) rfl rfl rfl rfl (by simp) (OG H) rfl rfl (JL.go 8 rfl ?_);exact JL.ret rfl rfl (BY.none H.f_wait rfl) (back _ _ _ _ h)
  ·refine JL.done (JL.go 3 rfl ?_);refine JL.again (GD (L':= [(0,.pointer (some F.sA))]) ⟨rfl,trivial⟩ ?_);exact ab (v - 1) (by omega) (by omega)
theorem JO.Mn(K:b.roundOf=none)(O:s.q=false)(h:JO (Gb P) (GL P 0) b n M ds cs .quiet):
  JO (Bo P false) (Stop P F .CO) b n M (dcall L.done #[.pointer (some F.sA)]::ds) cs s:=by
 refine JO.enter (vs:= [.pointer (some F.sA)]) K H.f_done (nm_done L) rfl (Nat.le_of_ble_eq_true rfl) fun T U todo=>JL.go 2 rfl (SQ H O rfl rfl rfl rfl rfl ?_);exact JL.done (JL.out rfl (JO.leaveD rfl H.f_done rfl (.inl rfl) (h T U todo)))
end
end Pal
namespace Pal
open Go Go.Conc
section
variable {P:Program}{J:Judge P}{Q:Gs_}{g:Goroutine}{cs:Lf_}{c:Frame}{E H:LH}{S S':List Seg}
theorem Nz(K:S.flatten.Perm S'.flatten)(O:As E H S)(h:As E H S'→J.ok Q g (Ak E H S')):J.ok Q g (Ak E H S):=by
 have U:Ak E H S=Ak E H S':=EI O K;rw [U];exact h (Nd.perm O K)
theorem Qe(K:S'.flatten=S.flatten)(O:As E H S)(h:As E H S'→J.ok Q g (Ak E H S')):J.ok Q g (Ak E H S):=Nz (by rw [K]) O h
theorem PG{f:FuncId}{vs:Lv_}{seg:Seg}{R:Value→LH→Seg→Prop}(j:Nat)(aa:AR J f vs E seg R)(K:As E H S)(O:S[j]? =some seg)
  (ab:∀v E' seg',Le E E'→R v E' seg'→As E' H (S.set j seg')→J.ok Q (G (c.finish v) cs) (Ak E' H (S.set j seg'))):
  J.ok Q (G (Frame.enter P f vs.toArray .normal) (c::cs)) (Ak E H S):=by
 have U:S.flatten.Perm (seg++(S.set j []).flatten):=(D7 (seg':=seg) O).1.trans List.perm_append_comm;have V:Nd E H (seg++(S.set j []).flatten):=Nd.perm K U;have ae:Ak E H S=mk E (A7 (S.set j []).flatten H) seg:=by
  rw [show Ak E H S=mk E H S.flatten from rfl,EI K U];unfold mk;rw [FF]
 have W:=DN.Ji (aa (A7 (S.set j []).flatten H) (Nd.front V)) (by rintro v s' ⟨E',B',_,_,_,rfl⟩;rfl);rw [← ae] at W;refine W Q c cs ?_;rintro v aq ⟨⟨E',B',hle,ah,ai,rfl⟩,w,aj⟩;have e2:mk E' (A7 (S.set j []).flatten H) B'=mk E' H (B'++(S.set j []).flatten):=by unfold mk;rw [FF]
 have ak:Nd E H (S.set j []).flatten:=by
  have:=V;rw [Nd.iff] at this ⊢;rw [List.map_append,List.nodup_append] at this;exact⟨this.1.2.1,fun q al=>this.2 q (List.mem_append_right _ al)⟩
 have am:Nd E' H (S.set j []).flatten:=ak.grow fun x an=>by
  have ao:=aj.d x an;have ap:A7 B' (A7 (S.set j []).flatten H) x=none:=ao;exact(Gy ap).1
 have Y:Nd E' H (B'++(S.set j []).flatten):=Nd.glue ai am;rw [e2];have Z:(B'++(S.set j []).flatten).Perm (S.set j B').flatten:=List.perm_append_comm.trans (D7 O).2.symm;rw [EI Y Z];exact ab v E' B' hle ah (Nd.perm Y Z)
theorem QC{e p d l:Seg}:([e,p]++ [d]++ [l]:List Seg).flatten.Perm ([e++(l++p),d]:List Seg).flatten:=by
 simp only [List.cons_append,List.nil_append,List.flatten_cons,List.flatten_nil,List.append_nil,List.append_assoc];refine List.Perm.append_left e ?_;rw [← List.append_assoc];exact List.perm_append_comm
end
section
variable {P:Program}{J:Judge P}{Q:Gs_}{b:Frame}{n:Nat}{L:Env}{ds:Ld_}{k:Li_}{cs:Lf_}{E H:LH}{S:List Seg}{ops:Ao_}{i:Nat}{rest:List Nat}{d:Option Tmp}{t ty e:TypeId}{p:String}{af:Ae_}{g:On_}
theorem JS.makeChan{dir:ChanDir}{K:Nat}(O:ops[i]? =some ⟨d,.makeChan t (.const (.int .i64 0)),ty,p,af,g⟩)(hw:A8 L ops ⟨d,.makeChan t (.const (.int .i64 0)),ty,p,af,g⟩=some true)(U:CL b n ⟨d,.makeChan t (.const (.int .i64 0)),ty,p,af,g⟩=true)
  (ht:P.underlying t=some (.chan dir e)) (hb:Ed P e=some K) (V:As E H S)
  (h:∀r,As E H (S++ [[(r,.chan 0 #[] false 0 0 false)]])→JL J Q b n (AB L d (.chan (some r))) ds (.inRegion ops rest::k) cs (Ak E H (S++ [[(r,.chan 0 #[] false 0 0 false)]]))):
  JL J Q b n L ds (.inRegion ops (i::rest)::k) cs (Ak E H S):=
 JL.op O hw U fun ρ W=>by
  show lp P (do pure (Next.value (← Instr.makeChan t (ρ (.const (.int .i64 0)))))) _ _ _
  rw [W _ _ rfl]
  obtain⟨inf,hi,ai⟩:=Lj hb
  refine AF _ _ ?_
  unfold Instr.makeChan
  simp only [asInt,bind,Sem.bind,pure]
  refine AF (x:=underlying t) _ (Dh ht ?_)
  simp only
  refine AF (x:=typeInfo e) _ (HJ hi ?_)
  have Y:¬((0:Int)<0∨(0:Int)>IntKind.i64.max∨(inf.bytes:Int)*0>2 ^ 48 - 112):=by
   simp [IntKind.max,IntKind.signed,IntKind.bits]
  rw [if_neg Y];simp only [newObj,Sem.bind,lp];refine⟨rfl,fun r Z aa=>?_⟩;obtain⟨ab,ae⟩:=IT Z aa (.chan 0 #[] false 0 0 false) V;obtain⟨p1,p2⟩:=Ew ab;have ah:(Ak E H S).upd r (.chan 0 #[] false 0 0 false)=Ak E H (S++ [[(r,.chan 0 #[] false 0 0 false)]]):=by rw [← p1,← ae];rfl
  show JL J Q b n (AB L d (.chan (some r))) ds (.inRegion ops rest::k) cs ((Ak E H S).upd r (.chan 0 #[] false 0 0 false));rw [ah];exact h r p2
end
theorem SE{E H:LH}{a b:Nat}{K O:Obj}(V:As E H [[(a,K)],[(b,O)]]):(⟨E,HT (Ak E H [[(a,K)],[(b,O)]]).H b a,false⟩:St)=Ak E H []:=by
 have h:=Nd.iff.1 V;have W:H a=none:=(h.2 (a,K) (by simp)).2;have Y:H b=none:=(h.2 (b,O) (by simp)).2;unfold Ak mk;congr 1;funext x;simp only [HT,Ak,mk,List.flatten_cons,List.flatten_nil,List.append_nil,List.cons_append,List.nil_append,A7];by_cases U:x=a
 ·subst U;simp [W]
 ·by_cases e2:x=b
  ·subst e2;simp [U,Y]
  ·simp [U,e2]
theorem As.up{E E' H:LH}{S:List Seg}(U:As E H S)(h:∀x,E' x≠none→(Ak E H S).H x=none):As E' H S:=by
 have K:=Nd.iff.1 U;refine Nd.iff.2 ⟨K.1,fun q O=>⟨?_,(K.2 q O).2⟩⟩;cases V:E' q.1 with
 | none=>rfl
 | some o=>
  have W:=h q.1 (by rw [V];simp);have Y:A7 S.flatten H q.1=none:=W;exact absurd rfl ((Gy Y).2 q O)
end Pal
namespace Pal
open Go Go.Conc
theorem JR{P:Program}{J:Judge P}{Q:Gs_}{b:Frame}{n:Nat}{L:Env}{ds:Ld_}{cs:Lf_}{E H:LH}{S:List Seg}{todo:Li_}{A B:Seg}(j K:Nat)(O:S[j]? =some A)(W:(S.set j [])[K]? =some B)(Y:As E H S)
  (h:As E H (((S.set j []).set K []).set j (A++B))→JL J Q b n L ds todo cs (Ak E H (((S.set j []).set K []).set j (A++B)))):JL J Q b n L ds todo cs (Ak E H S):=by
 refine JS.perm ?_ Y h;have U:j<S.length:=(List.getElem?_eq_some_iff.1 O).1;have Z:=(D7 (seg':=A) O).1;have aa:=(D7 (seg':=B) W).1;have ab:((S.set j []).set K [])[j]? =some []:=by
  by_cases e:K=j
  ·subst e;rw [List.getElem?_set_self (by simpa using U)]
  ·rw [List.getElem?_set_ne e,List.getElem?_set_self U]
 have V:=(D7 (seg':=A++B) ab).2;have ae:(((S.set j []).set K []).set j [])=(S.set j []).set K []:=by
  by_cases e:K=j
  ·subst e;simp
  ·rw [List.set_comm _ _ e];simp
 rw [ae] at V;refine Z.trans (List.Perm.trans ?_ V.symm);refine(List.Perm.append_right A aa).trans ?_;rw [List.append_assoc];exact List.Perm.append_left _ List.perm_append_comm
end Pal
namespace Pal
open Go Go.Conc
def WL{α:Type}(e:TypeId)(pp:Rp α)(E:LH)(bk c n:Nat)(f:Ay)(xs:List α):Prop:=
 OL e pp E (some ⟨bk,0,none⟩) c [(bk,.cells f e (0,0))] xs∧xs.length=n
theorem WL.Ai{α:Type}{e:TypeId}{pp:Rp α}{E E':LH}{bk c n:Nat}{f:Ay}{xs:List α}(h:WL e pp E bk c n f xs)(hle:Le E E'):WL e pp E' bk c n f xs:=⟨h.1.Ai hle,h.2⟩
theorem WL.at{α:Type}{e:TypeId}{pp:Rp α}{E:LH}{bk c n:Nat}{f:Ay}{xs:List α}{m:Int}{x:α}(h:WL e pp E bk c n f xs)(hm:ix xs m=some x):
  ∃ws,pp.r E ws x∧(∀j w,ws[j]? =some w→f[m.toNat*pp.n+j]? =some w):=by
 obtain⟨ws,K,O,_,_⟩:=OL.again h.1 hm rfl;exact⟨ws,K,O⟩
theorem WL.put{α:Type}{e:TypeId}{pp:Rp α}{E:LH}{bk c n:Nat}{f:Ay}{xs O:List α}{m:Int}{U x':α}{ws':Lv_}(h:WL e pp E bk c n f xs)(V:O.length=n)(hm:ix O m=some U)(W:pp.r E ws' x'):
  WL e pp E bk c n (Ba f (m.toNat*pp.n) ws') (xs.set m.toNat x')∧m.toNat*pp.n+pp.n≤f.size:=by
 obtain⟨K,rfl,Y⟩:=G7 hm;have Z:K<xs.length:=by rw [h.2,← V];exact(List.getElem?_eq_some_iff.1 Y).1
 have aa:ix xs (K:Int)=some xs[K]:=by simp [ix,Z]
 obtain⟨ws,ah,ai,ab,ae⟩:=OL.again h.1 aa rfl;exact⟨⟨ae x' ws' W,by rw [List.length_set];exact h.2⟩,ab⟩
theorem OL.cases{α:Type}{e:TypeId}{pp:Rp α}{E:LH}{a:Option Addr}{c:Nat}{seg:Seg}{xs:List α}(h:OL e pp E a c seg xs):
  (a=none∧c=0∧seg= []∧xs= [])∨∃bk f,a=some ⟨bk,0,none⟩∧seg= [(bk,.cells f e (0,0))]∧WL e pp E bk c xs.length f xs:=by
 have V:=h;obtain⟨wss,W,Z,aa⟩:=h;rcases W with⟨K,O,U,Y,ab⟩ | ⟨bk,f,K,O,U⟩
 ·exact .inl ⟨K,U,Y,List.length_eq_zero_iff.1 O⟩
 ·subst K O;exact .inr ⟨bk,f,rfl,rfl,V,rfl⟩
theorem Ge{P:Program}{s:St}{ρ:Operand→Value}{x y:Operand}{d:Option Tmp}{t ty e:TypeId}{p:String}{af:Ae_}{g:On_}{kd:IntKind}{α:Type}{xs:List α}{xv:α}{m:Int}{bk c K n:Nat}(O:xs.length=n)(hm:ix xs m=some xv)(ht:P.underlying t=some (.slice e))(U:Bs P e=some K)(V:ρ x= .slice (some ⟨bk,0,none⟩) n c)(W:ρ y= .int kd m):
  Yl P ⟨d,.indexAddr t x y,ty,p,af,g⟩ ρ s (.pointer (some ⟨bk,m.toNat*K,none⟩)):=by
 subst O;exact Nl hm ht U V W
theorem P7{P:Program}{s:St}{ρ:Operand→Value}{x:Operand}{d:Option Tmp}{t ty e:TypeId}{p:String}{af:Ae_}{g:On_}{α:Type}{xs:List α}{a:Option Addr}{n c:Nat}{ats:Array TypeId}(K:xs.length=n)(O:ats[0]? =some t)(ht:P.underlying t=some (.slice e))(U:ρ x= .slice a n c):
  Yl P ⟨d,.call ⟨.builtin .len,#[x],ats⟩,ty,p,af,g⟩ ρ s (.int .i64 (xs.length:Int)):=by
 subst K;exact Yl.len O ht U
section
variable {P:Program}{J:Judge P}{Q:Gs_}{b:Frame}{n:Nat}{ds:Ld_}{ops:Ao_}{k:Li_}{cs:Lf_}{m fuel:Nat}{D:Nat→Bool}{listed:Array Bool}{L:Env}{s:St}{E E' H:LH}{S:List Seg}
variable {d:Option Tmp}{x y:Operand}{t u ty e:TypeId}{p:String}{af:Ae_}{g:On_}{v:Value}{i:Nat}{kd:IntKind}
theorem Tw{f:FuncId}{args:Array Operand}{ats:Array TypeId}{vs:Lv_}{R:Value→St→Prop}(U:s.q=false)(V:Region.ready .any ops listed= [i])
  (W:ops[i]? =some ⟨d,.call ⟨.value x,args,ats⟩,ty,p,af,g⟩) (Y:ev L x=some (.func (.func f) #[] #[])) (Z:Bt n d=true) (hw:A8 L ops ⟨d,.call ⟨.value x,args,ats⟩,ty,p,af,g⟩=some true) (hb:DG P f=true) (aa:evs L args.toList=some vs)
  (ab:DN J f vs.toArray s R) (h:∀v K,R v K→K.q=false∧(∀x o,(Bx D s).E x=some o→(Bx D K).E x=some o)∧AQ J Q b n ds ops k cs m D fuel (A6 listed i) (AB L d v) K):
  AQ J Q b n ds ops k cs m D (fuel+1) listed L s:=by
 refine AQ.one U V W (by simp [Db,Z]) hw fun ρ O=>?_;have ae:args.map ρ=vs.toArray:=by
  rw [← Ga O aa];apply Array.ext';simp
 have ah:ρ x= .func (.func f) #[] #[]:=O _ _ Y;simp only [execOp,resolve,bind,Sem.bind,Deferred.ofValue,ah,pure,invoke];have e: #[]++args.map ρ++ #[]=vs.toArray:=by rw [ae];simp
 rw [e];refine IK hb ?_;rw [JJ];exact⟨R,ab,h⟩
theorem Hm{bks:List Nat}{f:FuncId}{args:Array Operand}{ats:Array TypeId}{vs:Lv_}{R:Value→LH→Seg→Prop}(ae:F0 S bks)(ah:AR J f vs E [] R)(ai:Region.ready .any ops listed= [i])
  (aj:ops[i]? =some ⟨d,.call ⟨.value x,args,ats⟩,ty,p,af,g⟩) (K:ev L x=some (.func (.func f) #[] #[])) (ak:Bt n d=true) (hw:A8 L ops ⟨d,.call ⟨.value x,args,ats⟩,ty,p,af,g⟩=some true) (hb:DG P f=true) (al:evs L args.toList=some vs) (Y:As E H S)
  (am:∀v E' seg',Le E E'→R v E' seg'→As E' H (S++ [seg'])→AQ J Q b n ds ops k cs m (AZ bks) fuel (A6 listed i) (AB L d v) (Ak E' H (S++ [seg']))):
  AQ J Q b n ds ops k cs m (AZ bks) (fuel+1) listed L (Ak E H S):=by
 have an:=DN.Ji (ah (A7 S.flatten H) trivial) (by rintro v s' ⟨E',B',_,_,_,rfl⟩;rfl);refine Tw rfl ai aj K ak hw hb al an ?_;rintro v ay ⟨⟨E',B',hle,ao,ap,rfl⟩,w,aq⟩;have e2:mk E' (A7 S.flatten H) B'=mk E' H (B'++S.flatten):=by unfold mk;rw [FF]
 have ar:Nd E' H S.flatten:=Nd.grow Y fun x K=>by
  have au:=aq.d x K;have U:A7 B' (A7 S.flatten H) x=none:=au;exact(Gy U).1
 have Z:Nd E' H (B'++S.flatten):=Nd.glue ap ar;have aa:(B'++S.flatten).Perm (S++ [B']).flatten:=by rw [GB];exact List.perm_append_comm
 have ab:As E' H (S++ [B']):=Nd.perm Z aa;rw [e2,EI Z aa];refine⟨rfl,fun x o K=>?_,am v E' B' hle ao ab⟩;by_cases V:AZ bks x=true
 ·obtain⟨j,o',W⟩:=ae.mem x (by simpa [AZ] using V);have U:(Ak E H S).get x=some o':=Ez (i:=0) Y W rfl;have av:j<S.length:=(List.getElem?_eq_some_iff.1 W).1;have aw:(Ak E' H (S++ [B'])).get x=some o':=Ez (i:=0) ab (by rw [List.getElem?_append_left av];exact W) rfl;have O:(if AZ bks x then(Ak E H S).get x else E x)=some o:=K
  show(if AZ bks x then(Ak E' H (S++ [B'])).get x else E' x)=some o
  rw [if_pos V] at O ⊢;rw [aw,← U];exact O
 ·have O:(if AZ bks x then(Ak E H S).get x else E x)=some o:=K
  show(if AZ bks x then(Ak E' H (S++ [B'])).get x else E' x)=some o
  rw [if_neg V] at O ⊢;exact hle _ _ O
end
section
variable {P:Program}{J:Judge P}{Q:Gs_}{b:Frame}{n:Nat}{ds:Ld_}{ops:Ao_}{k:Li_}{cs:Lf_}{L:Env}{s:St}{E E' H:LH}{S:List Seg}
variable {d:Option Tmp}{x y:Operand}{t u ty e:TypeId}{p:String}{af:Ae_}{g:On_}{v:Value}{i:Nat}{rest:List Nat}{kd:IntKind}
theorem JV{f:FuncId}{args:Array Operand}{ats:Array TypeId}{vs:Lv_}{R:Value→LH→Seg→Prop}
  (O:AR J f vs E [] R) (U:ops[i]? =some ⟨d,.call ⟨.value x,args,ats⟩,ty,p,af,g⟩) (V:ev L x=some (.func (.func f) #[] ([]:Lv_).toArray)) (hw:A8 L ops ⟨d,.call ⟨.value x,args,ats⟩,ty,p,af,g⟩=some true) (W:((b.kind != .early)&&Bt n d)=true) (hb:DG P f=true)
  (Y:evs L args.toList=some vs) (Z:As E H S) (aa:∀v E' seg',Le E E'→R v E' seg'→As E' H (S++ [seg'])→JL J Q b n (AB L d v) ds (.inRegion ops rest::k) cs (Ak E' H (S++ [seg']))):
  JL J Q b n L ds (.inRegion ops (i::rest)::k) cs (Ak E H S):=by
 have ab:EB J (.func (.func f) #[] ([]:Lv_).toArray) vs E [] R:=EB.ofFn hb (by rw [List.append_nil];exact O);have ae:As E H (S++ [[]]):=by unfold As at*;rw [GB,List.append_nil];exact Z
 have ah:Ak E H S=Ak E H (S++ [[]]):=by unfold Ak;rw [GB,List.append_nil]
 rw [ah];refine IS (seg:= []) S.length ab U hw W V Y ae (by simp) fun v E' seg' hle ai K=>?_;have aj:(S++ [([]:Seg)]).set S.length seg'=S++ [seg']:=HS _ _ _ _;rw [aj] at K ⊢;exact aa v E' seg' hle ai K
end
def He(a b:Int):Option Int:=if b=0 then none else Au (a.tdiv b)
def Kw(l:List Nat)(i:Int):Option Nat:=if 0≤i then l[i.toNat]? else none
section
variable {P:Program}{s:St}{ρ:Operand→Value}{x y z:Operand}{d:Option Tmp}{t u ty e:TypeId}{p:String}{af:Ae_}{g:On_}{v:Value}{kd kd':IntKind}{m m':Int}{a b:Nat}
theorem J3{r:Int}(K:ρ x=iV m)(O:ρ y=iV m')(h:He m m'=some r):Yl P ⟨d,.binOp .quo t x y u,ty,p,af,g⟩ ρ s (iV r):=by
 unfold He at h;split at h
 ·cases h
 ·rename_i U;obtain⟨rfl,hb⟩:=JI h;have:=Yl.quo (P:=P) (s:=s) (d:=d) (t:=t) (u:=u) (ty:=ty) (p:=p) (af:=af) (g:=g) K O U
  rwa [Ij hb] at this
theorem RI{a:Nat}:IntKind.u8.wrap (a:Int)=((a % 256:Nat):Int):=by
 simp only [IntKind.wrap,IntKind.bits,IntKind.signed];simp
theorem T0(K:ρ x= .int .u8 (a:Int))(O:ρ y= .int .u8 (b:Int)):Yl P ⟨d,.binOp .add t x y u,ty,p,af,g⟩ ρ s (.int .u8 (((a+b) % 256:Nat):Int)):=by
 have h:=Yl.add (P:=P) (s:=s) (d:=d) (t:=t) (u:=u) (ty:=ty) (p:=p) (af:=af) (g:=g) K O;rw [← Int.natCast_add,RI] at h;exact h
theorem Vs(ht:P.underlying t=some (.int .u64))(hu:P.underlying u=some (.int .u8))(K:ρ x= .int .u64 (a:Int)):Yl P ⟨d,.convert t u x,ty,p,af,g⟩ ρ s (.int .u8 ((a % 256:Nat):Int)):=by
 have h:=D8 (P:=P) (s:=s) (d:=d) (ty:=ty) (p:=p) (af:=af) (g:=g) ht hu K
 rw [RI] at h;exact h
theorem P1{r:Int}(ht:P.underlying t=some (.int .u8))(hu:P.underlying u=some (.int .i64))(K:ρ x= .int .u8 (a:Int))(h:Au ((a:Nat):Int)=some r):Yl P ⟨d,.convert t u x,ty,p,af,g⟩ ρ s (iV r):=by
 obtain⟨rfl,hb⟩:=JI h;have h:=D8 (P:=P) (s:=s) (d:=d) (ty:=ty) (p:=p) (af:=af) (g:=g) ht hu K
 rwa [Ij hb] at h
theorem TG(c:Nat)(K:ρ x= .int .u16 (a:Int))(O:ρ y= .int .u64 (c:Int))(U:c≤16):Yl P ⟨d,.binOp .shr t x y u,ty,p,af,g⟩ ρ s (.int .u16 ((a>>>c:Nat):Int)):=by
 have h:=Yl.shr (P:=P) (s:=s) (d:=d) (t:=t) (u:=u) (ty:=ty) (p:=p) (af:=af) (g:=g) K O (by omega);have e:min (c:Int).toNat IntKind.u16.bits=c:=by simp [IntKind.bits];omega
 rw [e,Int.fdiv_eq_ediv_of_nonneg _ (Int.pow_nonneg (by decide))] at h;have e2:(a:Int) / 2 ^ c=((a>>>c:Nat):Int):=by rw [Nat.shiftRight_eq_div_pow,Int.natCast_ediv];rfl
 rw [e2] at h;exact h
theorem M9{l:List Nat}{bs:ByteArray}{r:Nat}(O:(bs.data.toList.map UInt8.toNat==l)=true)(ht:P.underlying t=some .string)(U:ρ y= .int kd m)(V:ρ (.const (.string bs))= .string bs)(h:Kw l m=some r):Yl P ⟨d,.index t (.const (.string bs)) y,ty,p,af,g⟩ ρ s (.int .u8 (r:Int)):=by
 unfold Kw at h;split at h
 ·rename_i W;have Y:=eq_of_beq O;rw [← Y,List.getElem?_map] at h;obtain⟨K,hb,rfl⟩:=Option.map_eq_some_iff.1 h;have Z:bs[m.toNat]? =some K:=by
   have aa:bs.data[m.toNat]? =some K:=by rw [← Array.getElem?_toList];exact hb
   obtain⟨ab,ae⟩:=Array.getElem?_eq_some_iff.1 aa;rw [getElem?_pos bs m.toNat ab];exact congrArg some ae
  simp [Yl,execOp,lp,pure,bind,Sem.bind,V,U,Instr.index,underlying,program,ht,W,Z,asIntOf]
 ·cases h
end
end Pal
namespace Pal
open Go Go.Conc
section
variable {P:Program}(J:Judge P)(Q:Gs_)(b:Frame)(ds:Ld_)(ops:Ao_)(k:Li_)(cs:Lf_)(X D:Nat→Bool)
def JB:Nat→Array Bool→Ay→St→Prop
 | 0,listed,T,s=>Region.ready .any ops listed= []∧J.ok Q (G (fr b T ds (.inRegion ops []::k)) cs) s
 | fuel+1,listed,T,s=>
  Region.ready .any ops listed≠ []∧s.q=false∧∀i∈Region.ready .any ops listed,∀o,ops[i]? =some o→(∀c,o.op≠ .defer c)∧
   (Region.wanted o (yielded ops T)=false→JB fuel (A6 listed i) (Cw T o.dst undef) s)∧
   (Region.wanted o (yielded ops T)=true→X i=true→lp P (execOp (BB T) o) s (fun nx s'=>match nx with
    | .value v=>JB fuel (A6 listed i) (Cw T o.dst v) s'
    | .skip=>JB fuel (A6 listed i) (Cw T o.dst undef) s'
    | _=>False) (fun _ _=>False))∧
   (Region.wanted o (yielded ops T)=true→X i=false→lp P (execOp (BB T) o) (Bx D s) (fun nx s'=>match nx with
    | .value v=>JB fuel (A6 listed i) (Cw T o.dst v) (Cr D s s')
    | .skip=>JB fuel (A6 listed i) (Cw T o.dst undef) (Cr D s s')
    | _=>False) (fun _ _=>False))
variable {J Q b ds ops k cs X D}
theorem TX(V:b.kind≠ .early):∀(fuel t:Nat) (listed:Array Bool) (T:Ay) (s:St),JB J Q b ds ops k cs X D fuel listed T s→
  J.ok Q (G (fr b T ds (.inRegion ops (Region.linearise.go .any ops fuel t listed [])::k)) cs) s:=by
 intro fuel
 induction fuel with
 | zero=>intro t listed T s h;simpa [Region.linearise.go] using h.2
 | succ fuel O=>
  intro t listed T s h;obtain⟨Z,aa,h⟩:=h;obtain⟨i,hi⟩:∃i,(Region.ready .any ops listed)[t % (Region.ready .any ops listed).length]? =some i:=by
   have:0<(Region.ready .any ops listed).length:=List.length_pos_iff.2 Z;exact⟨_,List.getElem?_eq_getElem (Nat.mod_lt _ this)⟩
  have W:=List.mem_of_getElem? hi;have hgo:Region.linearise.go .any ops (fuel+1) t listed []=i::Region.linearise.go .any ops fuel (t / (Region.ready .any ops listed).length) (A6 listed i) []:=by
   simp only [Region.linearise.go];change (match(Region.ready .any ops listed)[t % (Region.ready .any ops listed).length]? with
    | some i=>Region.linearise.go .any ops fuel (t / (Region.ready .any ops listed).length) (listed.setIfInBounds i true) [i]
    | none=> [].reverse)=_
   rw [hi];simp only;rw [linearise_go_acc];rfl
  rw [hgo];obtain⟨_,o,U,_⟩:=mem_ready.1 W;obtain⟨Y,ab,ae,ah⟩:=h i W o U;cases hw:Region.wanted o (yielded ops T) with
  | false=>exact Judge.unwanted U hw (O _ _ _ _ (ab hw))
  | true=>
   cases hX:X i with
   | true=>
    refine Judge.oper U hw V (.inr Y) (Di _ (ae hw hX) ?_ (fun _ _ h=>h.elim));intro nx s' K;cases nx with
    | value v=>exact O _ _ _ _ K
    | skip=>exact O _ _ _ _ K
    | _=>exact K.elim
   | false=>
    refine Judge.PY D U hw V Y aa (Di _ (ah hw hX) ?_ (fun _ _ h=>h));intro nx s' K;cases nx with
    | value v=>exact O _ _ _ _ K
    | skip=>exact O _ _ _ _ K
    | _=>exact K.elim
def waitAll(ops:Ao_)(X:Nat→Bool)(i:Nat):Bool:=(List.range ops.size).all fun j=> !X j || waits ops ops.size j i
theorem JB.take{i:Nat}{oi:Oper}{w pure:Bool}{v:Value}(hi:ops[i]? =some oi)(aT:X i=false)(hX:(pure || waitAll ops X i)=true)(aU:Region.noSelect ops=true)(aV:∀c,oi.op≠ .defer c):
  ∀(fuel:Nat) (listed:Array Bool) (T:Ay) (s:St),Ht ops listed i oi=true→GI ops listed=true→listed.size=ops.size→i∈Region.ready .any ops listed→s.q=false→Region.wanted oi (yielded ops T)=w→
   (w=true→∀s',s'.q=false→(pure=false→∀x o,(Bx D s).E x=some o→s'.E x=some o)→Yl P oi (BB T) s' v)→
   JB J Q b ds ops k cs X D fuel (A6 listed i) (Cw T oi.dst (if w then v else undef)) s→JB J Q b ds ops k cs X D (fuel+1) listed T s:=by
 have aa:∀(j:Nat) (W:Oper),ops[j]? =some W→∀cs b,W.op≠Op.select cs b:=fun j W h cs b=>Region.noSelect_spec aU j W cs b h;intro fuel
 induction fuel with
 | zero=>?_
 | succ fuel aj=>?_
 all_goals
  intro listed T s aL aM ak az al hw ab h;refine⟨fun e=>(by rw [e] at az;cases az),al,fun j aN W O=>?_⟩;by_cases am:j=i
  ·subst am;obtain rfl:W=oi:=by rw [hi] at O;exact(Option.some.inj O).symm
   refine⟨aV,fun aC=>?_,fun ae K=>?_,fun ae K=>?_⟩
   ·rw [aC] at hw;subst hw;exact h
   ·rw [aT] at K;cases K
   ·rw [ae] at hw;subst hw;refine Di _ (ab rfl (Bx D s) al fun _ _ _ h=>h).out ?_ (fun _ _ h=>h);rintro nx s' ⟨rfl,rfl⟩;rw [JJ];exact h
  ·
   have aO:j∈Region.ready .any ops (A6 listed i):=ready_mono aN am;obtain⟨ah,U,aP,aD⟩:=mem_ready.1 aN;obtain rfl:U=W:=by rw [O] at aP;exact(Option.some.inj aP).symm
   have aE:=(mem_ready.1 az).1;have aW:(U.after.any fun e=>Region.binds .any e&&e.on==i)=false:=by
    rw [Array.any_eq_false];intro e he K;simp only [Bool.and_eq_true,beq_iff_eq] at K;have:=aD _ (Array.getElem_mem he) K.1;rw [K.2] at this;have ai:listed.getD i true=listed.getD i false∨listed.size≤i:=by
     rcases Nat.lt_or_ge i listed.size with q | q
     ·left;simp [Array.getD_eq_getD_getElem?,q]
     ·exact .inr q
    rcases ai with ai | ai
    ·rw [aE,this] at ai;cases ai
    ·rw [Array.getD_eq_getD_getElem?,Array.getElem?_eq_none ai] at this;simp at this
   have aX:oi.apart ops U=true:=by
    have aF:j<ops.size:=(Array.getElem?_eq_some_iff.1 O).1;have:=List.all_eq_true.1 aL j (List.mem_range.2 aF);simp only [Bool.or_eq_true,beq_iff_eq] at this;rcases this with(q | q) | q
    ·exact absurd q am
    ·rw [ah] at q;cases q
    ·rw [O] at q;simp only [Bool.or_eq_true] at q;rw [aW] at q;exact q.resolve_left (by simp)
   obtain⟨aY,an,ao⟩:=Oper.apart_spec aX;obtain⟨p1,p2⟩:=Gz (ops:=ops) (T:=T) (v:=if w then v else undef) (aa j U O) aY
   first
    | exact absurd aO (by rw [h.1];simp)
    | (
     obtain⟨a9,_,h⟩:=h
     obtain⟨aZ,aC,a0,a1⟩:=h j aO U O
     have ap:A6 (A6 listed i) j=A6 (A6 listed j) i:=by
      unfold A6;exact Array.setIfInBounds_comm _ _ (Ne.symm am)
     have aq:i∈Region.ready .any ops (A6 listed j):=ready_mono az (Ne.symm am)
     have ar:Ht ops (A6 listed j) i oi=true:=by
      refine List.all_eq_true.2 fun x K=>?_
      have:=List.all_eq_true.1 aL x K
      simp only [Bool.or_eq_true,beq_iff_eq] at this ⊢
      rcases this with(q | q) | q
      ·exact .inl (.inl q)
      ·left;right
       by_cases e:j=x
       ·subst e;rw [ah] at q;cases q
       ·rw [A6,getD_set_ne true e];exact q
      ·exact .inr q
     have au:(A6 listed j).size=ops.size:=by unfold A6;simpa using ak
     have av:GI ops (A6 listed j)=true:=by
      refine List.all_eq_true.2 fun x K=>?_
      cases aG:ops[x]? with
      | none=>simp
      | some a2=>
       simp only [Bool.or_eq_true,Bool.not_eq_true']
       by_cases e:j=x
       ·subst e
        obtain rfl:a2=U:=by rw [O] at aG;exact(Option.some.inj aG).symm
        right
        refine Array.all_eq_true'.2 fun e he=>?_
        cases hb:Region.binds .any e with
        | false=>simp
        | true=>
         have:=aD e he hb
         by_cases e2:j=e.on
         ·rw [← e2] at this
          have aH:j<listed.size:=by rw [ak];exact(Array.getElem?_eq_some_iff.1 O).1
          simp [Array.getD_eq_getD_getElem?,aH] at this ah
          rw [ah] at this;cases this
         ·rw [A6,getD_set_ne false e2];simpa using this
       ·cases aQ:(A6 listed j).getD x false with
        | false=>exact .inl rfl
        | true=>
         right
         have a3:listed.getD x false=true:=by rw [A6,getD_set_ne false e] at aQ;exact aQ
         refine Array.all_eq_true'.2 fun aI he=>?_
         cases hb:Region.binds .any aI with
         | false=>simp
         | true=>
          have:=MW aM aG a3 aI he hb
          by_cases e2:j=aI.on
          ·rw [← e2] at this
           have aH:j<listed.size:=by rw [ak];exact(Array.getElem?_eq_some_iff.1 O).1
           simp [Array.getD_eq_getD_getElem?,aH] at this ah
           rw [ah] at this;cases this
          ·rw [A6,getD_set_ne false e2];simpa using this
     refine⟨aZ,fun a4=>?_,fun aJ aA=>?_,fun aJ aA=>?_⟩
     ·have:=aC (by rw [p2];exact a4)
      rw [ap,Hn an] at this
      obtain⟨q1,q2⟩:=Gz (ops:=ops) (T:=T) (d:=U.dst) (v:=undef) (o:=oi) (aa i oi hi) ao
      exact aj _ _ _ ar av au aq al (by rw [q2];exact hw) (fun V s' a5 aB=>by unfold Yl;rw [q1];exact(ab V s' a5 aB).out) this
     ·
      have a6:pure=true:=by
       cases a7:pure with
       | true=>rfl
       | false=>
        exfalso
        rw [a7,Bool.false_or] at hX
        have aF:j<ops.size:=(Array.getElem?_eq_some_iff.1 O).1
        have ae:=List.all_eq_true.1 hX j (List.mem_range.2 aF)
        rw [aA] at ae
        simp only [Bool.not_true,Bool.false_or] at ae
        rcases Oz aM _ j U O (fun e he hb=>aD e he hb) ae with q | ⟨x,q1,q2⟩
        ·have a8:i<listed.size:=by rw [ak];exact(Array.getElem?_eq_some_iff.1 hi).1
         simp [Array.getD_eq_getD_getElem?,a8] at q aE
         rw [aE] at q;cases q
        ·have:¬x<listed.size:=by rw [ak];intro K;simp [K] at q1
         simp [Array.getD_eq_getD_getElem?,this] at q2
      have aw:=My _ (a0 (by rw [p2];exact aJ) aA)
      rw [p1] at aw
      refine Di _ aw ?_ (fun _ _ h=>h)
      rintro nx s' ⟨K,aB,aK⟩
      have ay:s'.q=false:=aK.trans al
      have aR:pure=false→∀{α:Prop},α:=fun e=>by rw [a6] at e;cases e
      cases nx with
      | value u=>
       simp only at K ⊢
       rw [ap,Hn an] at K
       obtain⟨q1,q2⟩:=Gz (ops:=ops) (T:=T) (d:=U.dst) (v:=u) (o:=oi) (aa i oi hi) ao
       exact aj _ _ _ ar av au aq ay (by rw [q2];exact hw) (fun V s2 Y Z=>by unfold Yl;rw [q1];exact(ab V s2 Y (fun e=>aR e)).out) K
      | skip=>
       simp only at K ⊢
       rw [ap,Hn an] at K
       obtain⟨q1,q2⟩:=Gz (ops:=ops) (T:=T) (d:=U.dst) (v:=undef) (o:=oi) (aa i oi hi) ao
       exact aj _ _ _ ar av au aq ay (by rw [q2];exact hw) (fun V s2 Y Z=>by unfold Yl;rw [q1];exact(ab V s2 Y (fun e=>aR e)).out) K
      | _=>exact K.elim
     ·have aw:=My _ (a1 (by rw [p2];exact aJ) aA)
      rw [p1] at aw
      refine Di _ aw ?_ (fun _ _ h=>h)
      rintro nx s' ⟨K,aB,aK⟩
      have aS:=OC (D:=D) aB
      have ay:(Cr D s s').q=false:=by show s'.q=false;rw [aK];exact al
      cases nx with
      | value u=>
       simp only at K ⊢
       rw [ap,Hn an] at K
       obtain⟨q1,q2⟩:=Gz (ops:=ops) (T:=T) (d:=U.dst) (v:=u) (o:=oi) (aa i oi hi) ao
       exact aj _ _ _ ar av au aq ay (by rw [q2];exact hw) (fun V s2 Y Z=>by unfold Yl;rw [q1];exact(ab V s2 Y (fun e=>by rw [aS] at Z;exact Z e)).out) K
      | skip=>
       simp only at K ⊢
       rw [ap,Hn an] at K
       obtain⟨q1,q2⟩:=Gz (ops:=ops) (T:=T) (d:=U.dst) (v:=undef) (o:=oi) (aa i oi hi) ao
       exact aj _ _ _ ar av au aq ay (by rw [q2];exact hw) (fun V s2 Y Z=>by unfold Yl;rw [q1];exact(ab V s2 Y (fun e=>by rw [aS] at Z;exact Z e)).out) K
      | _=>exact K.elim)
end
section
variable {P:Program}(J:Judge P)(Q:Gs_)(b:Frame)(n:Nat)(ds:Ld_)(ops:Ao_)(k:Li_)(cs:Lf_)(X D:Nat→Bool)
def Fa(fuel:Nat)(listed:Array Bool)(L:Env)(s:St):Prop:=∀T,Has n L T→JB J Q b ds ops k cs X D fuel listed T s
end
def Jk(ops:Ao_)(listed:Array Bool)(xs:List Nat)(pure:Bool)(i:Nat):Bool:=match ops[i]? with
 | some oi=> !AZ xs i&&(pure || waitAll ops (AZ xs) i)&&Region.noSelect ops&& !Db oi.op&&Ht ops listed i oi&&GI ops listed&&listed.size==ops.size&&(Region.ready .any ops listed).contains i
 | none=>false
section
variable {P:Program}{J:Judge P}{Q:Gs_}{b:Frame}{n:Nat}{ds:Ld_}{ops:Ao_}{k:Li_}{cs:Lf_}{fuel:Nat}{X D:Nat→Bool}{listed:Array Bool}{L:Env}{s:St}{E H:LH}{S:List Seg}{xl bks:List Nat}
variable {d:Option Tmp}{x y:Operand}{t u ty e:TypeId}{p:String}{af:Ae_}{g:On_}{v:Value}{i:Nat}{kd:IntKind}
theorem GF(xl bks:List Nat){id:Nat}(hm:P.follows .mixedOrders=true)(K:(b.kind != .early)=true)
  (h:Fa J Q b n ds ops k cs (AZ xl) (AZ bks) ops.size (Array.replicate ops.size false) L (Ak E H S)):JL J Q b n L ds (.code (.region id ops true)::k) cs (Ak E H S):=
 P6 rfl hm fun t T O=>TX (by simpa using K) ops.size t _ T _ (h T O)
theorem QM{oi:Oper}(i:Nat)(pure:Bool)(hi:ops[i]? =some oi)(K:Jk ops listed xl pure i=true)(V:s.q=false)
  (hw:A8 L ops oi=some true) (W:Bt n oi.dst=true) (Y:∀ρ,Ej L ρ→∀s':St,(pure=false→∀x o,(Bx D s).E x=some o→s'.E x=some o)→Yl P oi ρ s' v)
  (h:Fa J Q b n ds ops k cs (AZ xl) D fuel (A6 listed i) (AB L oi.dst v) s):Fa J Q b n ds ops k cs (AZ xl) D (fuel+1) listed L s:=fun T O=>by
 simp only [Jk,hi,Bool.and_eq_true] at K
 obtain⟨⟨⟨⟨⟨⟨⟨Z,aa⟩,ab⟩,U⟩,ae⟩,ah⟩,ai⟩,aj⟩:=K
 refine JB.take (w:=true) (v:=v) (pure:=pure) hi (by simpa using Z) aa ab (fun c K=>by rw [K] at U;simp [Db] at U) fuel listed T s ae ah (by simpa using ai) (by simpa using aj) V (CR O hw) (fun _ s' al ak=>Y _ O.F2 s' ak) ?_
 exact h _ (O.put W v)
theorem JB.fin(K:Region.ready .any ops listed= [])(h:JL J Q b n L ds k cs s):Fa J Q b n ds ops k cs X D 0 listed L s:=fun T O=>⟨K,JL.done h T O⟩
theorem JB.store{bk off:Nat}{c:Ay}(i j:Nat)(U:Region.ready .any ops listed= [i])(Z:AZ xl i=true)(aa:ops[i]? =some ⟨d,.store t x y,ty,p,af,g⟩)(hw:A8 L ops ⟨d,.store t x y,ty,p,af,g⟩=some true)(ab:Bt n d=true)(ae:As E H S)
  (ah:ev L x=some (.pointer (some ⟨bk,off,none⟩))) (ai:ev L y=some v) (aj:Bs P t=some v.cells.size) (ak:∀u∈v.cells.toList,CK u=true) (V:S[j]? =some [(bk,.cells c e (0,0))]) (hle:off+v.cells.size≤c.size)
  (h:As E H (S.set j [(bk,.cells (Ba c off v.cells.toList) e (0,0))])→Fa J Q b n ds ops k cs (AZ xl) D fuel (A6 listed i) (AB L d undef) (Ak E H (S.set j [(bk,.cells (Ba c off v.cells.toList) e (0,0))]))):
  Fa J Q b n ds ops k cs (AZ xl) D (fuel+1) listed L (Ak E H S):=fun T K=>by
 refine⟨by rw [U];simp,rfl,fun au O o' W=>?_⟩
 rw [U] at O
 simp at O
 subst O
 obtain rfl:o'=⟨d,.store t x y,ty,p,af,g⟩:=by rw [aa] at W;exact(Option.some.inj W).symm
 have al:=CR K hw;refine⟨fun c am=>(by cases am),fun e=>?_,fun _ _=>?_,fun _ e=>?_⟩
 ·rw [al] at e;cases e
 ·obtain⟨an,ao⟩:=Gc ae V;rw [an];show lp P (do Instr.storeAt t (BB T x) (BB T y);pure Next.skip) _ _ _
  rw [K.ev ah,K.ev ai];refine AF _ _ ?_;unfold Instr.storeAt;simp only [Instr.sureAddr,bind,Sem.bind,pure];refine OD (pl:=(S.set j []).flatten.length) aj ak ao (c:=c) (e:=e) (by simp) hle fun Y=>?_;have ap:((S.set j []).flatten++ [(bk,Obj.cells c e (0,0))]).set (S.set j []).flatten.length (bk,.cells (Ba c off v.cells.toList) e (0,0))=(S.set j []).flatten++ [(bk,.cells (Ba c off v.cells.toList) e (0,0))]:=HS _ _ _ _;rw [ap] at Y ⊢;obtain⟨aq,ar⟩:=Hr V Y;rw [aq];exact h ar _ (K.put ab undef)
 ·rw [Z] at e;cases e
end
end Pal
