/- ToothKnown: the examples of the chapter have the results given there Part 2 of 8. -/
import Derived.Test.YtboibffcmhheiaaGreatDoorTca
import Derived.Conc.CrowdComm
import Derived.Conc.TokenWalk
import Derived.Conc.MarkLaws
import Derived.Conc.AtomicLaws2
import Derived.Conc.WgLib
import Derived.Conc.WgArith
import Derived.Conc.WgGenW
set_option linter.all false
set_option maxRecDepth 100000
namespace Pal
open Go Go.Conc
open Go.ConcN (sumTo upd sumTo_upd upd_ne upd_same)
abbrev St.none:St:=St.quiet
def lone(s:St):Nat→St:=fun i=>if i=0 then s else St.none
structure FC (P:Program) (gs:Array Goroutine) (w:World) (t:Trace) (q:Nat→Nat) (Sh:Nat→Prop) (g:Goroutine) (s:St):Prop where
 main:gs[0]? =some g
 lv:Leavers P t gs q
 Cx:B7 t w gs.size (lone s) Sh
 over:t.HandedOver
 hears:Deaf t 0=0
def Reaches(P:Program)(gs:Array Goroutine)(w:World)(sl:Option (Nat×Nat))(t:Trace)(s:St)(K:Gs_):Prop:=
 ∃(n:Nat) (gs':Array Goroutine) (w':World) (U:Option (Nat×Nat)) (O:Trace) (V:Nat→Nat) (Y:Nat→Prop) (g':Goroutine) (s':St),
  runNT P n (crowd gs w sl) t=(.next (crowd gs' w' U),O)∧FC P gs' w' O V Y g' s'∧K g' s'∧Le' s s'∧w'.tape=w.tape∧w'.os=w.os∧w'.output=w.output
 where
  Le' (s s' : St) : Prop := ∀ b o, s.E b = some o → s'.E b = some o
theorem Oa{s s':St}:upd (lone s) 0 s'=lone s':=by
 funext i;unfold upd lone;split <;> rfl
theorem Kg{P:Program}{m m':Machine}{t ops:Trace}{k:Nat}{r:Stepped×Trace}(h:stepT P m=(.next m',ops))(K:runNT P k m' (t++ops)=r):runNT P (k+1) m t=r:=by
 simp only [runNT,h];exact K
theorem FC.at_{P:Program}{gs:Array Goroutine}{w:World}{t:Trace}{q:Nat→Nat}{Sh:Nat→Prop}{g:Goroutine}{s:St}(h:FC P gs w t q Sh g s)(d:Nat):FC P gs (w.at d) t q Sh g s:=
 ⟨h.main,h.lv,by
  have:=h.Cx.mute (u:= #[]) (w':=w.at d) (g:=0) (by simp) (by simp) (by simp) rfl
  simpa using this,h.over,h.hears⟩
theorem Rt{P:Program}{g:Goroutine}{s:St}{K:Gs_}(av:Px P true g s K):
  ∀(M:Nat) (gs:Array Goroutine) (w:World) (sl:Option (Nat×Nat)) (t:Trace) (q:Nat→Nat) (Sh:Nat→Prop),sumTo gs.size q≤M→FC P gs w t q Sh g s→Reaches P gs w sl t s K:=by
 intro M
 induction M with
 | zero=>?_
 | succ M aB=>?_
 all_goals
  intro gs w sl t q Sh aR hC;have ai:=av.1;have aC:∀x∈gs,awake x:=by
   intro x ab;obtain⟨i,hi,rfl⟩:=Array.mem_iff_getElem.1 ab;rcases Nat.eq_zero_or_pos i with rfl | aj
   ·have:gs[0]=g:=by simpa [Array.getElem?_eq_getElem hi] using hC.main
    rw [this];exact awake_of (.inl ai)
   ·exact awake_of ((hC.lv.old i _ aj (Array.getElem?_eq_getElem hi)).status.elim .inl fun x=> .inr (.inr x))
  obtain⟨i,x,d,ac,hi,ab,aw⟩:=crowd_pick (P:=P) (w:=w) (sl:=sl) aC ⟨0,g,hC.main,ai⟩;have ak:=hC.at_ d;have al:0<gs.size:=(Array.getElem?_eq_some_iff.1 hC.main).1;rcases Nat.eq_zero_or_pos i with rfl | aj
  ·obtain rfl:x=g:=by rw [hC.main] at hi;exact(Option.some.inj hi).symm
   have aD:Fits s (w.at d):=ak.Cx.fits 0 al;obtain⟨g',s',w',es,am,an,ao,Y,ae⟩:=av.2.1 (w.at d) aD;have ap:=runT_crowd_go (P:=P) (sl:=ac) (i:=0) hi (show stepG P (0==0) x (w.at d)=_ from am);have ag:((gs.map (woken P x g' w')).setIfInBounds 0 g').size=gs.size:=by simp
   have V:∀op∈MemOp.ofEvents 0 x.frame.fn x.frame.place es,op.g=0:=fun op O=>by obtain⟨e,_,rfl⟩:=mem_ofEvents O;rfl
   have aE:deafBehind (Deaf t 0) es=Deaf t 0:=deafBehind_still (fun e he=>by
    have:=ae e he
    unfold Ev at this
    constructor <;> intro aF <;> rw [aF] at this <;> exact this) _
   refine⟨1,_,w',ac,t++MemOp.ofEvents 0 x.frame.fn x.frame.place es,q,Sh,g',s',Kg (aw.trans ap) rfl,⟨by simp [al],⟨fun j y U Z=>?_,fun j U=>?_⟩,?_,?_,?_⟩,an,Y.ext,Y.tape,Y.os,Y.output⟩
   ·have aq:0≠j:=by omega
    rw [Array.getElem?_setIfInBounds_ne aq,Array.getElem?_map] at Z;obtain⟨z,ar,rfl⟩:=Option.map_eq_some_iff.1 Z;have aa:=hC.lv.old j z U ar;rw [woken_quitsD aa,Deaf_other t (by omega) _ V];exact aa
   ·rw [Deaf_other t (g':=0) (by simp at U;omega) _ V];exact hC.lv.above j (by simpa using U)
   ·rw [ag,← Oa (s:=s)];exact ak.Cx.own al ao (by simpa [lone] using Y) (by simpa [lone] using ae)
   ·exact handedOver_app hC.over fun op O=> .inl (V op O)
   ·rw [Deaf_own,aE];exact hC.hears
  ·
   have aa:=hC.lv.old i x aj hi;have aG:(i==0)=false:=by simp;omega
   have ay:i<gs.size:=(Array.getElem?_eq_some_iff.1 hi).1;cases au:q i with
   | zero=>rw [au] at aa;rw [aa.1] at ab;cases ab
   | succ k=>
    rw [au] at aa;rcases aa with⟨aH,_⟩ | ⟨_,x',es,hm,aI,aJ⟩
    ·rw [aH] at ab;cases ab
    have aS:sumTo gs.size (upd q i k)+(k+1)=sumTo gs.size q+k:=by
     have:=sumTo_upd q k id ay;simpa [au] using this
    first
     | (exfalso;omega)
     | (
      have ap:=runT_crowd_go (P:=P) (sl:=ac) (i:=i) hi (by rw [aG];exact aI (w.at d))
      have ag:((gs.map (woken P x x' (w.at d))).setIfInBounds i x').size=gs.size:=by simp
      have V:∀op∈MemOp.ofEvents i x.frame.fn x.frame.place es,op.g=i:=fun op O=>by obtain⟨e,_,rfl⟩:=mem_ofEvents O;rfl
      have az:∀op∈MemOp.ofEvents i x.frame.fn x.frame.place es,op.act.touch? =none:=fun op O=>by obtain⟨e,he,rfl⟩:=mem_ofEvents O;exact touch_mute (hm e he)
      have aK:FC P ((gs.map (woken P x x' (w.at d))).setIfInBounds i x') (w.at d) (t++MemOp.ofEvents i x.frame.fn x.frame.place es) (upd q i k) Sh g s:=by
       refine⟨?_,⟨fun j y U Z=>?_,fun j U=>?_⟩,?_,?_,?_⟩
       ·have aq:i≠0:=by omega
        rw [Array.getElem?_setIfInBounds_ne aq,Array.getElem?_map,hC.main]
        simp [woken_run ai]
       ·by_cases ah:i=j
        ·subst ah
         rw [Array.getElem?_setIfInBounds_self_of_lt (by simpa using ay)] at Z
         obtain rfl:=Option.some.inj Z
         rw [upd_same,Deaf_own]
         exact aJ
        ·rw [Array.getElem?_setIfInBounds_ne ah,Array.getElem?_map] at Z
         obtain⟨z,ar,rfl⟩:=Option.map_eq_some_iff.1 Z
         have aA:=hC.lv.old j z U ar
         rw [woken_quitsD aA,upd_ne q k (Ne.symm ah),Deaf_other t ah _ V]
         exact aA
       ·rw [Deaf_other t (g':=i) (by simp at U;omega) _ V]
        exact hC.lv.above j (by simpa using U)
       ·rw [ag]
        exact ak.Cx.mute V az (fun op O=>by obtain⟨e,he,rfl⟩:=mem_ofEvents O;exact low_mute (hm e he) _) rfl
       ·exact handedOver_app hC.over fun op O=> .inr (az op O)
       ·rw [Deaf_other t (by omega) _ V];exact hC.hears
      obtain⟨n,gs',w',aL,aM,aN,aO,g',s',am,an,ao,Y,ae,aP,aQ⟩:=aB _ (w.at d) ac _ _ Sh (by rw [ag];omega) aK
      exact⟨n+1,gs',w',aL,aM,aN,aO,g',s',Kg (aw.trans ap) am,an,ao,Y,ae,aP,aQ⟩)
def C5(P:Program):Judge P where
 main:=true
 ok Q g s:=∀gs w sl t q Sh,FC P gs w t q Sh g s→Reaches P gs w sl t s Q
 stop {Q g s} h:=fun gs w sl t q Sh hC=>⟨0,gs,w,sl,t,q,Sh,g,s,rfl,hC,h,fun _ _ h=>h,rfl,rfl,rfl⟩
 step {Q g s} h:=fun gs w sl t q Sh hC=>by
  obtain⟨n,gs',w',K,O,U,V,g',s',Y,Z,aa,ab,ac,ae,ag⟩:=Rt h _ gs w sl t q Sh (Nat.le_refl _) hC
  obtain⟨ah,ai,aj,ak,al,am,an,ao,ap,k1,aq,ar,au,av,aw,ay⟩:=aa gs' w' K O U V Z
  refine⟨n+ah,ai,aj,ak,al,am,an,ao,ap,?_,aq,ar,fun b o h=>au b o (ab b o h),av.trans ac,aw.trans ae,ay.trans ag⟩
  rw [runNT_add,Y];exact k1
 trans {Q R g s} h k:=fun gs w sl t q Sh hC=>by
  obtain⟨n,gs',w',K,O,U,V,g',s',Y,Z,aa,ab,ac,ae,ag⟩:=h gs w sl t q Sh hC
  obtain⟨ah,ai,aj,ak,al,am,an,ao,ap,k1,aq,ar,au,av,aw,ay⟩:=k g' s' aa gs' w' K O U V Z
  refine⟨n+ah,ai,aj,ak,al,am,an,ao,ap,?_,aq,ar,fun b o h=>au b o (ab b o h),av.trans ac,aw.trans ae,ay.trans ag⟩
  rw [runNT_add,Y];exact k1
 ghost {Q g s s₀} hg h:=fun gs w sl t q Sh hC=>by
  have az:0<gs.size:=(Array.getElem?_eq_some_iff.1 hC.main).1
  have aA:FC P gs w t q Sh g s₀:=⟨hC.main,hC.lv,by
   rw [← Oa (s:=s)];exact hC.Cx.ghost az (by simpa [lone] using hg),hC.over,hC.hears⟩
  obtain⟨n,gs',w',K,O,U,V,g',s',Y,Z,aa,ab,ac,ae,ag⟩:=h gs w sl t q Sh aA
  exact⟨n,gs',w',K,O,U,V,g',s',Y,Z,aa,fun b o h=>ab b o (hg.ext b o h),ac,ae,ag⟩
end Pal
namespace Pal
open Go Go.Conc
open Go.ConcN (upd upd_same upd_ne)
section
variable {t u:Trace}{w w':World}{N:Nat}{S:Nat→St}{Sh:Nat→Prop}
theorem B7.ext(h:B7 t w N S Sh)(Z:∀said,¬Race said (t++u))(hu:∀op∈u,∀a,op.act.touch? =some a→∀b,Dd a.loc=some b→Sh b)
  (aa:∀op∈u,op.act.low w.heap.size) (hs:w'.heap.size=w.heap.size) (hw:∀b,¬Sh b→w'.heap[b]? =w.heap[b]?):B7 (t++u) w' N S Sh:=by
 have hold:∀x a b,touchAt (t++u) x=some a→Dd a.loc=some b→¬Sh b→touchAt t x=some a:=by
  intro x a b U hb O;obtain⟨op,K,Y⟩:=touch_of U;rcases getElem?_append_cases K with⟨ah,ab⟩ | ⟨_,ac⟩
  ·rw [touchAt_of ab];exact Y
  ·exact absurd (hu op ac a Y b hb) O
 have O:∀i,i<N→∀b,((S i).H b≠none∨(S i).E b≠none)→¬Sh b:=by
  intro i hi b hb ae;have:=h.sh i hi b ae;exact hb.elim (fun x=>x this.1) (fun x=>x this.2)
 refine⟨fun i hi=>⟨fun b o K=>?_,fun b o K=>?_,(h.fits i hi).d⟩,h.hh,h.sh,fun b hb=>by rw [hs];exact h.Eu b hb,Z,fun op K=>?_,fun i hi b hb x a U V=>?_,fun i hi b hb x a U V ag=>?_⟩
 ·rw [hw b (O i hi b (.inr (by rw [K];simp)))];exact(h.fits i hi).e b o K
 ·rw [hw b (O i hi b (.inl (by rw [K];simp)))];exact(h.fits i hi).h b o K
 ·rcases Array.mem_append.1 K with K | K
  ·rw [hs];exact h.low op K
  ·rw [hs];exact aa op K
 ·exact(h.kH i hi b hb x a (hold x a b U V (O i hi b (.inl hb))) V).app _
 ·exact(h.kE i hi b hb x a (hold x a b U V (O i hi b (.inr hb))) V ag).app _
theorem B7.congr{S':Nat→St}(h:B7 t w N S Sh)(K:∀i,i<N→(S' i).E=(S i).E∧(S' i).H=(S i).H):B7 t w N S' Sh:=by
 refine⟨fun i hi=>⟨by rw [(K i hi).1];exact(h.fits i hi).e,by rw [(K i hi).2];exact(h.fits i hi).h,by rw [(K i hi).1,(K i hi).2];exact(h.fits i hi).d⟩,fun i j hi O U b=>?_,fun i hi b=>?_,h.Eu,h.clean,h.low,fun i hi b=>?_,fun i hi b=>?_⟩
 ·rw [(K i hi).2,(K j O).1,(K j O).2];exact h.hh i j hi O U b
 ·rw [(K i hi).1,(K i hi).2];exact h.sh i hi b
 ·rw [(K i hi).2];exact h.kH i hi b
 ·rw [(K i hi).1];exact h.kE i hi b
theorem B7.less(h:B7 t w N S Sh){i:Nat}{s':St}(ab:∀b o,s'.E b=some o→(S i).E b=some o)(ac:∀b o,s'.H b=some o→(S i).H b=some o):B7 t w N (upd S i s') Sh:=by
 have V:∀j b o,(upd S i s' j).E b=some o→(S j).E b=some o:=by
  intro j b o K;by_cases e:j=i
  ·subst e;rw [upd_same] at K;exact ab b o K
  ·rwa [upd_ne _ _ e] at K
 have e2:∀j b o,(upd S i s' j).H b=some o→(S j).H b=some o:=by
  intro j b o K;by_cases e:j=i
  ·subst e;rw [upd_same] at K;exact ac b o K
  ·rwa [upd_ne _ _ e] at K
 have n1:∀j b,(S j).E b=none→(upd S i s' j).E b=none:=by
  intro j b hb;cases U:(upd S i s' j).E b with
  | none=>rfl
  | some o=>rw [V j b o U] at hb;cases hb
 have n2:∀j b,(S j).H b=none→(upd S i s' j).H b=none:=by
  intro j b hb;cases U:(upd S i s' j).H b with
  | none=>rfl
  | some o=>rw [e2 j b o U] at hb;cases hb
 have p1:∀j b,(upd S i s' j).E b≠none→(S j).E b≠none:=fun j b hb x=>hb (n1 j b x);have p2:∀j b,(upd S i s' j).H b≠none→(S j).H b≠none:=fun j b hb x=>hb (n2 j b x);exact⟨fun j O=>⟨fun b o K=>(h.fits j O).e b o (V j b o K),fun b o K=>(h.fits j O).h b o (e2 j b o K),fun b hb=>n2 j b ((h.fits j O).d b (p1 j b hb))⟩,
  fun a c Y Z aa b hb=>⟨n2 c b (h.hh a c Y Z aa b (p2 a b hb)).1,n1 c b (h.hh a c Y Z aa b (p2 a b hb)).2⟩,
  fun j O b hb=>⟨n2 j b (h.sh j O b hb).1,n1 j b (h.sh j O b hb).2⟩,h.Eu,h.clean,h.low,
  fun j O b hb=>h.kH j O b (p2 j b hb),fun j O b hb=>h.kE j O b (p1 j b hb)⟩
theorem B7.grow(h:B7 t w N S Sh){i:Nat}(hi:i<N){E':LH}{q:Bool}
  (aa:∀b o,E' b=some o→(S i).E b=some o∨∃j,j<N∧(S j).E b=some o∧∀x a,touchAt t x=some a→Dd a.loc=some b→a.write=true→Knows t i x):
  B7 t w N (upd S i ⟨E',(S i).H,q⟩) Sh:=by
 have ag:∀{b},E' b≠none→∃j,j<N∧∃o,(S j).E b=some o:=by
  intro b hb;obtain⟨o,V⟩:=Gn hb;rcases aa b o V with x | ⟨j,K,x,_⟩
  ·exact⟨i,hi,o,x⟩
  ·exact⟨j,K,o,x⟩
 have ah:∀a,a<N→∀b,(S a).H b≠none→E' b=none:=by
  intro a U b hb;cases O:E' b with
  | none=>rfl
  | some o=>
   obtain⟨j,K,o',Y⟩:=ag (b:=b) (by rw [O];simp);by_cases e:a=j
   ·subst e;have:=(h.fits a U).d b (by rw [Y];simp);exact absurd this hb
   ·have:=(h.hh a j U K e b hb).2;rw [Y] at this;cases this
 constructor
 ·intro j K;by_cases e:j=i
  ·subst e;rw [upd_same];refine⟨fun b o V=>?_,(h.fits j K).h,fun b hb=>?_⟩
   ·rcases aa b o V with x | ⟨k,Z,x,_⟩
    ·exact(h.fits j K).e b o x
    ·exact(h.fits k Z).e b o x
   ·cases O:(S j).H b with
    | none=>rfl
    | some o=>exact absurd (ah j K b (by rw [O];simp)) hb
  ·rw [upd_ne _ _ e];exact h.fits j K
 ·intro a c U ai aj b hb;have ab:(S a).H b≠none:=by
   by_cases e:a=i
   ·subst e;rwa [upd_same] at hb
   ·rwa [upd_ne _ _ e] at hb
  by_cases e:c=i
  ·subst e;rw [upd_same];exact⟨(h.hh a c U ai aj b ab).1,ah a U b ab⟩
  ·rw [upd_ne _ _ e];exact h.hh a c U ai aj b ab
 ·intro j K b hb;by_cases e:j=i
  ·subst e;rw [upd_same];refine⟨(h.sh j K b hb).1,?_⟩;cases O:E' b with
   | none=>exact O
   | some o=>
    obtain⟨k,Z,o',Y⟩:=ag (b:=b) (by rw [O];simp);rw [(h.sh k Z b hb).2] at Y;cases Y
  ·rw [upd_ne _ _ e];exact h.sh j K b hb
 ·exact h.Eu
 ·exact h.clean
 ·exact h.low
 ·intro j K b hb;by_cases e:j=i
  ·subst e;rw [upd_same] at hb;exact h.kH j K b hb
  ·rw [upd_ne _ _ e] at hb;exact h.kH j K b hb
 ·intro j K b hb x a O ac ae;by_cases e:j=i
  ·subst e;rw [upd_same] at hb;obtain⟨o,V⟩:=Gn hb;rcases aa b o V with y | ⟨k,Z,y,ak⟩
   ·exact h.kE j K b (by rw [y];simp) x a O ac ae
   ·exact ak x a O ac ae
  ·rw [upd_ne _ _ e] at hb;exact h.kE j K b hb x a O ac ae
theorem B7.push(h:B7 t w N S Sh){i:Nat}(hi:i<N){E:LH}(Z:∀b o,E b=some o→(S i).E b=some o)
  (ac:∀b,E b≠none→∀x a,touchAt t x=some a→Dd a.loc=some b→a.write=true→Knows t N x):B7 t w (N+1) (upd S N ⟨E,fun _=>none,false⟩) Sh:=by
 have O:∀j,j<N→upd S N ⟨E,fun _=>none,false⟩ j=S j:=fun j K=>upd_ne _ _ (by omega);have ag:∀b,E b≠none→(S i).E b≠none:=fun b hb=>by obtain⟨o,V⟩:=Gn hb;rw [Z b o V];simp
 have ab:∀b,(S i).E b=none→E b=none:=fun b hb=>by
  cases aa:E b with
  | none=>rfl
  | some o=>rw [Z b o aa] at hb;cases hb
 have cs:∀j,j<N+1→j<N∨j=N:=fun j K=>by omega
 constructor
 ·intro j K;rcases cs j K with K | rfl
  ·rw [O j K];exact h.fits j K
  ·rw [upd_same];exact⟨fun b o V=>(h.fits i hi).e b o (Z b o V),fun b o V=>(by cases V),fun b _=>rfl⟩
 ·intro a c U Y ae b hb;rcases cs a U with U | rfl
  ·rw [O a U] at hb;rcases cs c Y with Y | rfl
   ·rw [O c Y];exact h.hh a c U Y ae b hb
   ·rw [upd_same];refine⟨rfl,ab b ?_⟩;by_cases e:a=i
    ·subst e;cases aa:(S a).E b with
     | none=>rfl
     | some o=>exact absurd ((h.fits a U).d b (by rw [aa];simp)) hb
    ·exact(h.hh a i U hi e b hb).2
  ·rw [upd_same] at hb;exact absurd rfl hb
 ·intro j K b hb;rcases cs j K with K | rfl
  ·rw [O j K];exact h.sh j K b hb
  ·rw [upd_same];exact⟨rfl,ab b (h.sh i hi b hb).2⟩
 ·exact h.Eu
 ·exact h.clean
 ·exact h.low
 ·intro j K b hb;rcases cs j K with K | rfl
  ·rw [O j K] at hb;exact h.kH j K b hb
  ·rw [upd_same] at hb;exact absurd rfl hb
 ·intro j K b hb;rcases cs j K with K | rfl
  ·rw [O j K] at hb;exact h.kE j K b hb
  ·rw [upd_same] at hb;exact ac b hb
theorem B7.share(h:B7 t w N S Sh){i:Nat}(hi:i<N){b₀:Nat}{o₀:Obj}(U:(S i).H b₀=some o₀):
  B7 t w N (upd S i {S i with H:=fun b=>if b=b₀ then none else(S i).H b}) (fun b=>Sh b∨b=b₀):=by
 have K:B7 t w N (upd S i {S i with H:=fun b=>if b=b₀ then none else(S i).H b}) Sh:=
  h.less (fun b o O=>O) (fun b o O=>by simp only at O;split at O <;> first | (cases O;done) | exact O)
 have Z:b₀<w.heap.size:=by
  have:=(h.fits i hi).h b₀ o₀ U;rcases Nat.lt_or_ge b₀ w.heap.size with V | V
  ·exact V
  ·simp [Array.getElem?_eq_none V] at this
 refine⟨K.fits,K.hh,fun j Y b hb=>?_,fun b hb=>hb.elim (K.Eu b) (fun e=>e▸Z),K.clean,K.low,K.kH,K.kE⟩;rcases hb with hb | rfl
 ·exact K.sh j Y b hb
 ·by_cases e:j=i
  ·subst e;rw [upd_same];refine⟨by simp,?_⟩;cases aa:(S j).E b with
   | none=>rfl
   | some o=>have:=(h.fits j Y).d b (by rw [aa];simp);rw [U] at this;cases this
  ·rw [upd_ne _ _ e];exact h.hh i j hi Y (Ne.symm e) b (by rw [U];simp)
end
end Pal
namespace Pal
open Go Go.Conc
open Go.ConcN (upd upd_same upd_ne sumTo sumTo_upd)
abbrev GP:=Gs_
inductive Ph where
 | Cj (k:Nat) | FA | G4 | Gd | Fz | FN | DW
 | CK | EP (m:Nat) | Ge (v:Nat) | Gk | C4 | FO | Ew | FT | Df
 | Es (j:Nat) | Gz (j:Nat) | FQ (j:Nat) | Fj (j:Nat) | Ej (j:Nat) | ER | B6 (K:List Nat) (vs:Lv_)
 | CH | GD | GC | Gh (j:Nat)
inductive Nx where
 | ph (p:Ph) | gone (d:Nat)
structure Fam where
 wg:Nat
 ch:Nat
 ty:TypeId
 n:Nat
 has:Nat→Bool
 msg:Nat→Value→LH→Prop
 fin:GP
namespace Fam
variable (F:Fam)
def KK:Int:=4294967296
def FX(st sm:Int):Obj:= .cells #[.int .u64 st,.int .u32 sm] F.ty (0,0)
def word(v wt:Nat):Int:=(v:Int)*KK+wt
def WG(w:World)(v wt sm:Nat):Prop:=w.heap[F.wg]? =some (F.FX (word v wt) sm)
def put(w:World)(v wt sm:Nat):World:={w with heap:=w.heap.setIfInBounds F.wg (F.FX (word v wt) sm)}
def sA:Addr:=⟨F.wg,0,none⟩
def mA:Addr:=⟨F.wg,1,none⟩
def Ei(a:Addr):Event:=⟨.cell a,false,true⟩
def Hy(a:Addr):Event:=⟨.cell a,true,true⟩
def DK(m:Mark):Event:=⟨.mark m,false,true⟩
def ChanAt(w:World)(closed:Bool)(k:Nat):Prop:=w.heap[F.ch]? =some (.chan 0 #[] closed k k false)
def act:Ph→Nat→Nat→Nat→Option ((Nat×Nat×Nat)×Array Event×Nx)
 | .FA,v,wt,sm=>some ((v,wt,sm),#[DK (.releaseMerge F.sA)],.ph .G4)
 | .G4,v,wt,sm=>some ((v,wt,sm),#[DK .disable],.ph .Gd)
 | .Gd,v,wt,sm=>if 1≤v∧v<2147483648∧wt≤1 then some ((v - 1,wt,sm),#[Ei F.sA,Hy F.sA],if v=1∧wt=1 then .ph .Fz else .gone 1) else none
 | .Fz,v,wt,sm=>if v=0∧wt=1 then some ((0,1,sm),#[Ei F.sA],.ph .FN) else none
 | .FN,v,wt,sm=>if v=0∧wt=1 then some ((0,0,sm),#[Hy F.sA],.ph .DW) else none
 | .DW,v,wt,sm=>if sm=0 then some ((v,wt,1),semEvents F.mA,.gone 1) else none
 | .CK,v,wt,sm=>some ((v,wt,sm),#[DK .disable],.ph (.EP F.n))
 | .EP m,v,wt,sm=>if v≤m∧wt=0 then some ((v,0,sm),#[Ei F.sA],if v=0 then .ph .Ew else .ph (.Ge v)) else none
 | .Ge m,v,wt,sm=>if v≤m∧1≤m∧wt=0 then some (if v=m then((v,1,sm),#[Ei F.sA,Hy F.sA],.ph .GD) else((v,0,sm),#[Ei F.sA],.ph (.EP (m - 1)))) else none
 | .Gk,v,wt,sm=>some ((v,wt,sm),#[DK (.write F.mA)],.ph .C4)
 | .C4,v,wt,sm=>if sm=1 then some ((v,wt,0),semEvents F.mA,.ph .FO) else none
 | .FO,v,wt,sm=>if v=0∧wt=0 then some ((0,0,sm),#[Ei F.sA],.ph .Ew) else none
 | .Ew,v,wt,sm=>some ((v,wt,sm),#[DK .enable],.ph .GC)
 | .CH,v,wt,sm=>some ((v,wt,sm),#[],.ph .FA)
 | .GD,v,wt,sm=>some ((v,wt,sm),#[],.ph .Gk)
 | .GC,v,wt,sm=>some ((v,wt,sm),#[],.ph .FT)
 | .Gh j,v,wt,sm=>some ((v,wt,sm),#[],.ph (.FQ j))
 | .FT,v,wt,sm=>some ((v,wt,sm),#[DK (.acquire F.sA)],.ph .Df)
 | .Es j,v,wt,sm=>some ((v,wt,sm),#[DK .disable],.ph (.Gz j))
 | .Gz j,v,wt,sm=>if v<2147483647∧wt=0 then some ((v+1,0,sm),#[Ei F.sA,Hy F.sA],if v=0 then .ph (.Gh j) else .ph (.Fj j)) else none
 | .FQ j,v,wt,sm=>some ((v,wt,sm),#[DK (.read F.mA)],.ph (.Fj j))
 | .Fj j,v,wt,sm=>some ((v,wt,sm),#[DK .enable],.ph (.Ej j))
 | _,_,_,_=>none
def C6:Ph→Bool
 | .Es _ | .Gz _ | .FQ _ | .Fj _ | .Ej _ | .ER | .B6 _ _ | .Gh _=>true
 | _=>false
def Dx:Ph→Bool
 | .G4 | .Gd | .Fz | .FN | .DW=>true
 | _=>false
def FU:Ph→St→St
 | .FA,_=> .quiet
 | _,s=>s
def start(k:Nat):Ph:=if F.has k then .Cj k else .CH
def Dg(j:Nat):Ph:=if j+1=F.n then .ER else .Es (j+1)
end Fam
def Way(P:Program)(main:Bool)(X:GP):GP:=(Bo P main).ok X
theorem Jr.Ad{P:Program}{main:Bool}{Q K:GP}(h:∀g s,Q g s→K g s):∀{r:Rk} {g:Goroutine} {s:St},Jr P main Q r g s→Jr P main K r g s
 | .leaf,_,_,x=>h _ _ x
 | .node _,_,_,.inl x=> .inl (h _ _ x)
 | .node _,_,_,.inr ⟨O,x⟩=> .inr ⟨O,fun w f=>let ⟨g',s',w',es,U,V,Y⟩:=x w f;⟨g',s',w',es,U,Jr.Ad h V,Y⟩⟩
theorem Way.Ad{P:Program}{main:Bool}{Q K:GP}(h:∀g s,Q g s→K g s){g:Goroutine}{s:St}(x:Way P main Q g s):Way P main K g s:=
 let ⟨r,O⟩:=x;⟨r,Jr.Ad (fun g s ⟨s₀,a,b⟩=>⟨s₀,a,h g s₀ b⟩) O⟩
section
variable (P:Program)(F:Fam)
def JF(X:Ph→GP)(main:Bool):Nx→GP
 | .ph p,g,s=>Way P main (X p) g s
 | .gone d,g,_=>∃q,QuitsD P q d g
structure ES (X:Ph→GP) (p:Ph) (g:Goroutine) (s:St):Prop where
 run:g.status= .running
 offers:g.offers=none
 quiet:Fam.Dx p=true→s= .quiet
 live:Fam.Dx p=false→s.q=false
 act:∀v wt sm v' wt' sm' es O,F.act p v wt sm=some ((v',wt',sm'),es,O)→
  ∃g',(∀w,F.WG w v wt sm→stepG P (Fam.C6 p) g w= .go g' (F.put w v' wt' sm') es)∧g'.status= .running∧JF P X (Fam.C6 p) O g' (Fam.FU p s)
 Gc:p= .DW∨p= .Df→mayWake P g=true
 DZ:p= .C4→∀w v wt,F.WG w v wt 0→stepG P false g w= .go {g with status:= .blocked} w #[]
 close:p= .Df→∃g',g'.status= .running∧(∀w k,F.ChanAt w false k→stepG P false g w= .go g' (w.setChan F.ch 0 #[] true k k false) (closeEvents F.ch))∧∃q,QuitsD P q 0 g'
 send:∀k,p= .Cj k→∃v z,F.msg k v s.E∧(∀w,stepG P false g w= .comm g #[scase F.ch v z] true .send w #[])∧Way P false (X .CH) (served g undef) s
 go:∀j,p= .Ej j→∃g' child,g'.status= .running∧child.status= .running∧(∀w,stepG P true g w= .spawn g' child w #[])∧Way P false (X (F.start j)) child ⟨s.E,fun _=>none,false⟩∧Way P true (X (F.Dg j)) g' s
 FV:p= .ER→∃g' child,g'.status= .running∧child.status= .running∧(∀w,stepG P true g w= .spawn g' child w #[])∧Way P false (X .CK) child ⟨s.E,fun _=>none,false⟩∧Way P true (X (.B6 [] [])) g' s
 recv:∀K vs,p= .B6 K vs→∃z,(∀w,stepG P true g w= .comm g #[rcase F.ch z] true (.recv true) w #[])∧
  (∀k v E',k<F.n→F.has k=true→k ∉ K→Le s.E E'→(∀b,E' b≠none→s.H b=none)→F.msg k v E'→Way P true (X (.B6 (K++ [k]) (vs++ [v]))) (served g (.tuple #[v,.bool true])) ⟨E',s.H,false⟩)∧
  ((∀k,k<F.n→F.has k=true→k∈K)→F.fin (served g (.tuple #[z,.bool false])) s)
theorem JF.Ad{X O:Ph→GP}(h:∀p g s,X p g s→O p g s){main:Bool}{K:Nx}{g:Goroutine}{s:St}(x:JF P X main K g s):JF P O main K g s:=by
 cases K with
 | ph p=>exact Way.Ad (h p) x
 | gone d=>exact x
theorem ES.Ad{X Z:Ph→GP}(h:∀p g s,X p g s→Z p g s){p:Ph}{g:Goroutine}{s:St}(x:ES P F X p g s):ES P F Z p g s where
 run:=x.run
 offers:=x.offers
 quiet:=x.quiet
 live:=x.live
 act v wt sm v' wt' sm' es aa e:=let ⟨g',K,O,U⟩:=x.act v wt sm v' wt' sm' es aa e;⟨g',K,O,U.Ad P h⟩
 Gc:=x.Gc
 DZ:=x.DZ
 close:=x.close
 send k e:=let ⟨v,z,K,O,U⟩:=x.send k e;⟨v,z,K,O,U.Ad (h _)⟩
 go j e:=let ⟨g',c,K,O,U,V,Y⟩:=x.go j e;⟨g',c,K,O,U,V.Ad (h _),Y.Ad (h _)⟩
 FV e:=let ⟨g',c,K,O,U,V,Y⟩:=x.FV e;⟨g',c,K,O,U,V.Ad (h _),Y.Ad (h _)⟩
 recv ab vs e:=let ⟨z,K,O,U⟩:=x.recv ab vs e;⟨z,K,fun k v E' a b c d e f=>(O k v E' a b c d e f).Ad (h _),U⟩
def Stop(p:Ph)(g:Goroutine)(s:St):Prop:=∃X:Ph→GP,(∀p g s,X p g s→ES P F X p g s)∧X p g s
variable {P F}
theorem Stop.law{p:Ph}{g:Goroutine}{s:St}(h:Stop P F p g s):ES P F (Stop P F) p g s:=by
 obtain⟨X,O,K⟩:=h;exact(O p g s K).Ad P F fun p g s K=>⟨X,O,K⟩
theorem ES.stop{p:Ph}{g:Goroutine}{s:St}(h:ES P F (Stop P F) p g s):Stop P F p g s:=
 ⟨fun p g s=>ES P F (Stop P F) p g s,fun _ _ _ x=>x.Ad P F fun _ _ _ y=>y.law,h⟩
end
end Pal
namespace Pal
open Go Go.Conc
open Go.ConcN (upd upd_same upd_ne sumTo sumTo_upd sumTo_upd_out sumTo_congr le_sumTo sumTo_le)
def cU:Nx→Nat
 | .ph (.Cj _) | .ph .CH | .ph .FA | .ph .G4 | .ph .Gd=>1
 | _=>0
def cL:Nx→Nat
 | .ph .Fz | .ph .FN=>1
 | _=>0
def cS:Nx→Nat
 | .ph .DW=>1
 | _=>0
def pend:Nx→Nat
 | .ph (.Gh _) | .ph (.FQ _) | .ph (.Fj _) | .ph (.Ej _)=>1
 | _=>0
def got:Nx→List Nat
 | .ph (.B6 K _)=>K
 | _=> []
def Eg:Nx→Prop
 | .gone _=>True
 | _=>False
def Gu(n j:Nat)(c:Bool):Ph→Prop
 | .Es K | .Gz K | .Gh K | .FQ K | .Fj K | .Ej K=>K=j∧j<n∧c=false
 | .ER=>j=n∧c=false
 | .B6 _ _=>j=n∧c=true
 | _=>False
def GV(F:Fam)(k:Nat):Nx→Prop
 | .gone _=>True
 | .ph (.Cj k')=>k'=k∧F.has k=true
 | .ph .CH | .ph .FA | .ph .G4 | .ph .Gd | .ph .Fz | .ph .FN | .ph .DW=>True
 | _=>False
def Gw:Nx→Prop
 | .gone _=>True
 | .ph .CK | .ph (.EP _) | .ph (.Ge _) | .ph .GD | .ph .Gk | .ph .C4 | .ph .FO | .ph .Ew | .ph .GC | .ph .FT | .ph .Df=>True
 | _=>False
def CF(x:Nx)(v wt sm L S:Nat)(cl:Bool):Prop:=
 match x with
 | .ph .CK=>L=0∧S=0∧sm=0∧wt=0∧cl=false
 | .ph (.EP m)=>L=0∧S=0∧sm=0∧wt=0∧cl=false∧v≤m
 | .ph (.Ge m)=>L=0∧S=0∧sm=0∧wt=0∧cl=false∧v≤m∧1≤m
 | .ph .GD | .ph .Gk | .ph .C4=>L+S+sm+min v 1=1∧wt=L+min v 1∧cl=false
 | .ph .FO | .ph .Ew | .ph .GC | .ph .FT | .ph .Df=>L=0∧S=0∧sm=0∧wt=0∧v=0∧cl=false
 | .gone _=>L=0∧S=0∧sm=0∧wt=0∧v=0∧cl=true
 | _=>False
structure B5 (F:Fam) (N0 N j:Nat) (c:Bool) (φ:Nat→Nx) (v wt sm:Nat) (cl:Bool):Prop where
 pos:0<N0
 n1:1≤F.n
 Hx:F.n<2147483647
 size:N=N0+j+c.toNat
 jn:j≤F.n
 cj:c=true→j=F.n
 main:∃p,φ 0= .ph p∧Gu F.n j c p
 old:∀i,0<i→i<N0→Eg (φ i)
 work:∀k,k<j→GV F k (φ (N0+k))
 cls:c=true→Gw (φ (N0+F.n))
 cnt:v=sumTo N (fun i=>cU (φ i))+pend (φ 0)
 G5:v≤j+pend (φ 0)
 mode:CF (if c=true then φ (N0+F.n) else .ph .CK) v wt sm (sumTo N fun i=>cL (φ i)) (sumTo N fun i=>cS (φ i)) cl
 Gi:∀k,k<j→F.has k=true→(φ (N0+k)= .ph (.Cj k)↔k ∉ got (φ 0))
 nd:(got (φ 0)).Nodup
 sub:∀k∈got (φ 0),k<j∧F.has k=true
section
variable {F:Fam}{N0 N j:Nat}{c:Bool}{φ:Nat→Nx}{v wt sm v' wt' sm':Nat}{cl cl':Bool}
theorem B5.Ey(h:B5 F N0 N j c φ v wt sm cl){i:Nat}(hi:i<N):i=0∨(0<i∧i<N0)∨(∃k,k<j∧i=N0+k)∨(c=true∧i=N0+F.n):=by
 have:=h.size;rcases Nat.eq_zero_or_pos i with K | K
 ·exact .inl K
 rcases Nat.lt_or_ge i N0 with U | U
 ·exact .inr (.inl ⟨K,U⟩)
 rcases Nat.lt_or_ge i (N0+j) with V | V
 ·exact .inr (.inr (.inl ⟨i - N0,by omega,by omega⟩))
 ·cases O:c with
  | false=>rw [O] at this;simp at this;omega
  | true=>have e:=h.cj O;rw [O] at this;simp at this;exact .inr (.inr (.inr ⟨rfl,by omega⟩))
theorem B5.P9(h:B5 F N0 N j c φ v wt sm cl):v≤F.n:=by
 have K:=h.G5;obtain⟨p,O,hm⟩:=h.main;have:=h.jn;rw [O] at K;cases p <;> simp [Gu] at hm <;> simp [pend] at K <;> omega
theorem B5.G3(h:B5 F N0 N j c φ v wt sm cl){k:Nat}(ab:k<j){x:Nx}(ac:GV F k x)(hs:∀k',φ (N0+k)≠ .ph (.Cj k'))(ae:∀k',x≠ .ph (.Cj k'))
  (an:v'+cU (φ (N0+k))=v+cU x)
  (hm:∀L S,L+cL (φ (N0+k))=(sumTo N fun i=>cL (φ i))+cL x→S+cS (φ (N0+k))=(sumTo N fun i=>cS (φ i))+cS x→CF (if c=true then φ (N0+F.n) else .ph .CK) v' wt' sm' L S cl'):
  B5 F N0 N j c (upd φ (N0+k) x) v' wt' sm' cl':=by
 have ao:=h.size;have ap:=h.jn;have aq:=h.pos;have V:N0+k<N:=by omega
 have K:upd φ (N0+k) x 0=φ 0:=upd_ne _ _ (by omega);have ag:(if c=true then upd φ (N0+k) x (N0+F.n) else .ph .CK)=(if c=true then φ (N0+F.n) else .ph .CK):=by
  cases O:c with
  | false=>rfl
  | true=>have:=h.cj O;simp only [if_true];exact upd_ne _ _ (by omega)
 have s1:=sumTo_upd φ x cU V;have s2:=sumTo_upd φ x cL V;have ah:=sumTo_upd φ x cS V;have ar:=h.cnt;have au:=h.G5;refine⟨h.pos,h.n1,h.Hx,h.size,h.jn,h.cj,by rw [K];exact h.main,fun i ai aj=>by rw [upd_ne _ _ (by omega)];exact h.old i ai aj,fun k' U=>?_,fun O=>?_,by rw [K];omega,?_,?_,fun k' U hh=>?_,by rw [K];exact h.nd,by rw [K];exact h.sub⟩
 ·by_cases e:k'=k
  ·subst e;rw [upd_same];exact ac
  ·rw [upd_ne _ _ (by omega)];exact h.work k' U
 ·have:=h.cj O;rw [upd_ne _ _ (by omega)];exact h.cls O
 ·rw [K];have:cU x≤1:=by cases x with
   | gone d=>simp [cU]
   | ph p=>cases p <;> simp [cU]
  have hw:=h.work k ab;have key:cU x≤cU (φ (N0+k))∨cU (φ (N0+k))<cU x:=by omega
  rcases key with hle | av
  ·omega
  ·
   have:(sumTo N fun a=>cU (upd φ (N0+k) x a))≤j:=by
    have hb:∀M,M≤N→(sumTo M fun a=>cU (upd φ (N0+k) x a))≤min (M - N0) j:=by
     intro M
     induction M with
     | zero=>intro _;simp [sumTo]
     | succ M ak=>
      intro aw;have:=ak (by omega);simp only [sumTo];have ay:cU (upd φ (N0+k) x M)≤1:=by
       generalize upd φ (N0+k) x M=y;cases y with
       | gone d=>simp [cU]
       | ph p=>cases p <;> simp [cU]
      have Z:(M<N0∨N0+j≤M)→cU (upd φ (N0+k) x M)=0:=by
       intro az;rw [upd_ne _ _ (by omega)];rcases h.Ey (i:=M) (by omega) with rfl | ⟨a,b⟩ | ⟨k',a,rfl⟩ | ⟨a,rfl⟩
       ·obtain⟨p,al,hm⟩:=h.main;rw [al];cases p <;> simp [Gu] at hm <;> rfl
       ·have:=h.old M a b;cases Y:φ M with
        | gone d=>rfl
        | ph p=>rw [Y] at this;exact this.elim
       ·omega
       ·have:=h.cls a;cases Y:φ (N0+F.n) with
        | gone d=>rfl
        | ph p=>rw [Y] at this;cases p <;> simp [Gw] at this <;> rfl
      rcases Nat.lt_or_ge M N0 with q | q
      ·rw [Z (.inl q)];omega
      ·rcases Nat.lt_or_ge M (N0+j) with aa | aa
       ·omega
       ·rw [Z (.inr aa)];omega
    have:=hb N (Nat.le_refl _);omega
   omega
 ·rw [ag];exact hm _ _ s2 ah
 ·rw [K];by_cases e:k'=k
  ·subst e;rw [upd_same];have:=h.Gi k' U hh;constructor
   ·intro am;exact absurd am (ae k')
   ·intro hg;exact absurd (this.2 hg) (hs k')
  ·rw [upd_ne _ _ (by omega)];exact h.Gi k' U hh
theorem B5.Fi(h:B5 F N0 N j c φ v wt sm cl)(O:c=true){x:Nx}(Y:Gw x)
  (hm:CF x v wt' sm' (sumTo N fun i=>cL (φ i)) (sumTo N fun i=>cS (φ i)) cl'):
  B5 F N0 N j c (upd φ (N0+F.n) x) v wt' sm' cl':=by
 have Z:=h.size;have ag:=h.pos;have ah:=h.cj O;have U:N0+F.n<N:=by rw [O] at Z;simp at Z;omega
 have K:upd φ (N0+F.n) x 0=φ 0:=upd_ne _ _ (by omega);have z:∀y,Gw y→cU y=0∧cL y=0∧cS y=0:=by
  intro y aa;cases y with
  | gone d=>exact⟨rfl,rfl,rfl⟩
  | ph p=>cases p <;> simp [Gw] at aa <;> exact⟨rfl,rfl,rfl⟩
 have z1:=z _ (h.cls O);have ai:=z x Y;have s1:=sumTo_upd φ x cU U;have s2:=sumTo_upd φ x cL U;have aj:=sumTo_upd φ x cS U;have ak:=h.cnt;refine⟨h.pos,h.n1,h.Hx,h.size,h.jn,h.cj,by rw [K];exact h.main,fun i ab ac=>by rw [upd_ne _ _ (by omega)];exact h.old i ab ac,fun k' V=>?_,fun O=>?_,by rw [K];omega,by rw [K];exact h.G5,?_,fun k' V hh=>?_,by rw [K];exact h.nd,by rw [K];exact h.sub⟩
 ·rw [upd_ne _ _ (by omega)];exact h.work k' V
 ·rw [upd_same];exact Y
 ·rw [if_pos O,upd_same];have e2:(sumTo N fun i=>cL (upd φ (N0+F.n) x i))=sumTo N fun i=>cL (φ i):=by omega
  have ae:(sumTo N fun i=>cS (upd φ (N0+F.n) x i))=sumTo N fun i=>cS (φ i):=by omega
  rw [e2,ae];exact hm
 ·rw [K,upd_ne _ _ (by omega)];exact h.Gi k' V hh
theorem NA{n j:Nat}{c:Bool}{p:Ph}(h:Gu n j c p):cU (.ph p)=0∧cL (.ph p)=0∧cS (.ph p)=0:=by
 cases p <;> simp [Gu] at h <;> exact⟨rfl,rfl,rfl⟩
theorem B5.IA(h:B5 F N0 N j c φ v wt sm cl){p:Ph}(U:Gu F.n j c p)(hg:got (.ph p)=got (φ 0))(ah:v'+pend (φ 0)=v+pend (.ph p))(V:v'≤j+pend (.ph p))
  (hm:CF (if c=true then φ (N0+F.n) else .ph .CK) v' wt' sm' (sumTo N fun i=>cL (φ i)) (sumTo N fun i=>cS (φ i)) cl'):
  B5 F N0 N j c (upd φ 0 (.ph p)) v' wt' sm' cl':=by
 have ai:=h.size;have aj:=h.pos;have K:0<N:=by omega
 obtain⟨ak,Y,Z⟩:=h.main;have z1:=NA Z;have al:=NA U;rw [← Y] at z1;have s1:=sumTo_upd φ (.ph p) cU K;have s2:=sumTo_upd φ (.ph p) cL K;have am:=sumTo_upd φ (.ph p) cS K;have an:=h.cnt;have aa:(if c=true then upd φ 0 (.ph p) (N0+F.n) else .ph .CK)=(if c=true then φ (N0+F.n) else .ph .CK):=by rw [upd_ne _ _ (by omega)]
 refine⟨h.pos,h.n1,h.Hx,h.size,h.jn,h.cj,⟨p,upd_same _ _ _,U⟩,fun i ab ac=>by rw [upd_ne _ _ (by omega)];exact h.old i ab ac,fun k' O=>by rw [upd_ne _ _ (by omega)];exact h.work k' O,fun ae=>by rw [upd_ne _ _ (by omega)];exact h.cls ae,by rw [upd_same];omega,by rw [upd_same];exact V,?_,fun k' O hh=>?_,by rw [upd_same,hg];exact h.nd,by rw [upd_same,hg];exact h.sub⟩
 ·rw [aa];have e2:(sumTo N fun i=>cL (upd φ 0 (.ph p) i))=sumTo N fun i=>cL (φ i):=by omega
  have ag:(sumTo N fun i=>cS (upd φ 0 (.ph p) i))=sumTo N fun i=>cS (φ i):=by omega
  rw [e2,ag];exact hm
 ·rw [upd_same,hg,upd_ne _ _ (by omega)];exact h.Gi k' O hh
theorem B5.act(h:B5 F N0 N j c φ v wt sm cl){i:Nat}(hi:i<N){p:Ph}(U:φ i= .ph p){es:Array Event}{ap:Nx}(K:F.act p v wt sm=some ((v',wt',sm'),es,ap)):
  B5 F N0 N j c (upd φ i ap) v' wt' sm' cl:=by
 have O:=h.mode;have ar:=h.P9;rcases h.Ey hi with rfl | ⟨a,b⟩ | ⟨k,ah,rfl⟩ | ⟨Z,rfl⟩
 ·
  obtain⟨al,aq,ai⟩:=h.main;have:al=p:=by rw [aq] at U;exact Nx.ph.inj U
  subst this;have av:∀q,Gu F.n j c q→(∀au vs,q≠ .B6 au vs)→c=false:=by
   intro q am an;cases q <;> simp [Gu] at am <;> first | exact am.2.2 | exact am.2 | exact absurd rfl (an _ _)
  have ae:=h.G5;cases al <;> simp only [Gu] at ai <;> (try exact ai.elim) <;> simp only [Fam.act] at K <;> (try (cases K;done))
  ·cases K;obtain⟨rfl,ag,rfl⟩:=ai;exact h.IA (p:= .Gz _) ⟨rfl,ag,rfl⟩ (by rw [U];rfl) (by rw [U];rfl) (by rw [U] at ae;exact ae) (by simpa [CF] using O)
  ·split at K
   ·rename_i aa;cases K;obtain⟨rfl,ag,rfl⟩:=ai;rw [U] at ae;simp only [pend,Nat.add_zero] at ae;simp only [Bool.false_eq_true,if_false,CF] at O;split
    ·exact h.IA (p:= .Gh _) ⟨rfl,ag,rfl⟩ (by rw [U];rfl) (by rw [U];simp [pend]) (by simp [pend];omega) ⟨O.1,O.2.1,O.2.2.1,rfl,O.2.2.2.2⟩
    ·exact h.IA (p:= .Fj _) ⟨rfl,ag,rfl⟩ (by rw [U];rfl) (by rw [U];simp [pend]) (by simp [pend];omega) ⟨O.1,O.2.1,O.2.2.1,rfl,O.2.2.2.2⟩
   ·cases K
  ·cases K;obtain⟨rfl,ag,rfl⟩:=ai;exact h.IA (p:= .Fj _) ⟨rfl,ag,rfl⟩ (by rw [U];rfl) (by rw [U];rfl) (by rw [U] at ae;exact ae) (by simpa [CF] using O)
  ·cases K;obtain⟨rfl,ag,rfl⟩:=ai;exact h.IA (p:= .Ej _) ⟨rfl,ag,rfl⟩ (by rw [U];rfl) (by rw [U];rfl) (by rw [U] at ae;exact ae) (by simpa [CF] using O)
  ·cases K;obtain⟨rfl,ag,rfl⟩:=ai;exact h.IA (p:= .FQ _) ⟨rfl,ag,rfl⟩ (by rw [U];rfl) (by rw [U];rfl) (by rw [U] at ae;exact ae) (by simpa [CF] using O)
 ·have:=h.old i a b;rw [U] at this;exact this.elim
 ·
  have hw:=h.work k ah;rw [U] at hw;have aw:∀q k',q=Nx.ph p→(∀k',p≠ .Cj k')→q≠ .ph (.Cj k'):=by
   rintro q k' rfl an e;exact an k' (Nx.ph.inj e)
  cases p <;> simp only [GV] at hw <;> (try exact hw.elim) <;> simp only [Fam.act] at K <;> (try (cases K;done))
  ·cases K;refine h.G3 ah (x:= .ph .G4) trivial (fun k'=>by rw [U];simp) (by simp) (by rw [U];rfl) fun L S V Y=>?_;rw [U] at V Y;simp only [cL,cS,Nat.add_zero] at V Y;subst V Y;exact O
  ·cases K;refine h.G3 ah (x:= .ph .Gd) trivial (fun k'=>by rw [U];simp) (by simp) (by rw [U];rfl) fun L S V Y=>?_;rw [U] at V Y;simp only [cL,cS,Nat.add_zero] at V Y;subst V Y;exact O
  ·split at K
   ·rename_i aa;cases K;have ak:∀y ab ac L S,y=(if c=true then φ (N0+F.n) else .ph .CK)→CF y v wt sm ab ac cl→(if v=1∧wt=1 then L=ab+1 else L=ab)→S=ac→CF y (v - 1) wt sm L S cl:=by
     intro y ab ac L S ay hm V Y;cases y with
     | gone d=>simp only [CF] at hm ⊢;split at V <;> omega
     | ph q=>
      cases q <;> simp only [CF] at hm ⊢ <;> (try exact hm) <;> (try (split at V <;> omega))
      ·split at V
       ·exfalso;omega
       ·exact⟨by omega,by omega,by omega,by omega,hm.2.2.2.2⟩
      ·split at V
       ·exfalso;omega
       ·exact⟨by omega,by omega,by omega,by omega,hm.2.2.2.2.1,by omega⟩
      ·split at V
       ·exfalso;omega
       ·exact⟨by omega,by omega,by omega,by omega,hm.2.2.2.2.1,by omega,by omega⟩
      ·split at V
       ·exact⟨by omega,by omega,hm.2.2⟩
       ·exact⟨by omega,by omega,hm.2.2⟩
      ·split at V
       ·exact⟨by omega,by omega,hm.2.2⟩
       ·exact⟨by omega,by omega,hm.2.2⟩
      ·split at V
       ·exact⟨by omega,by omega,hm.2.2⟩
       ·exact⟨by omega,by omega,hm.2.2⟩
    split
    ·rename_i aj;refine h.G3 ah (x:= .ph .Fz) trivial (fun k'=>by rw [U];simp) (by simp) (by rw [U];simp [cU];omega) fun L S V Y=>?_;rw [U] at V Y;simp only [cL,cS,Nat.add_zero] at V Y;exact ak _ _ _ L S rfl O (by rw [if_pos aj];exact V) Y
    ·rename_i aj;refine h.G3 ah (x:= .gone 1) trivial (fun k'=>by rw [U];simp) (by simp) (by rw [U];simp [cU];omega) fun L S V Y=>?_;rw [U] at V Y;simp only [cL,cS,Nat.add_zero] at V Y;exact ak _ _ _ L S rfl O (by rw [if_neg aj];exact V) Y
   ·cases K
  ·split at K
   ·rename_i aa;cases K;refine h.G3 ah (x:= .ph .FN) trivial (fun k'=>by rw [U];simp) (by simp) (by rw [U];simp [cU];omega) fun L S V Y=>?_;rw [U] at V Y;simp only [cL,cS,Nat.add_zero] at V Y;have e:L=sumTo N fun i=>cL (φ i):=by
     have az:L+1=(sumTo N fun i=>cL (φ i))+1:=V;omega
    obtain⟨aj,ao⟩:=aa;subst e Y aj ao;exact O
   ·cases K
  ·split at K
   ·rename_i aa;cases K;obtain⟨aj,ao⟩:=aa;subst aj ao;refine h.G3 ah (x:= .ph .DW) trivial (fun k'=>by rw [U];simp) (by simp) (by rw [U];simp [cU]) fun L S V Y=>?_;rw [U] at V Y;simp only [cL,cS,Nat.add_zero] at V Y;have ak:∀y ab ac,CF y 0 1 sm ab ac cl→L+1=ab→S=ac+1→CF y 0 0 sm L S cl:=by
     intro y ab ac hm V Y;cases y with
     | gone d=>simp only [CF] at hm ⊢;omega
     | ph q=>
      cases q <;> simp only [CF] at hm ⊢ <;> (try exact hm) <;> (try (exfalso;omega))
      ·exact⟨by omega,by omega,hm.2.2⟩
      ·exact⟨by omega,by omega,hm.2.2⟩
      ·exact⟨by omega,by omega,hm.2.2⟩
    exact ak _ _ _ O V Y
   ·cases K
  ·split at K
   ·rename_i aa;cases K;subst aa;refine h.G3 ah (x:= .gone 1) trivial (fun k'=>by rw [U];simp) (by simp) (by rw [U];simp [cU]) fun L S V Y=>?_;rw [U] at V Y;simp only [cL,cS,Nat.add_zero] at V Y;have ak:∀y ab ac,CF y v wt 0 ab ac cl→L=ab→S+1=ac→CF y v wt 1 L S cl:=by
     intro y ab ac hm V Y;cases y with
     | gone d=>simp only [CF] at hm ⊢;omega
     | ph q=>
      cases q <;> simp only [CF] at hm ⊢ <;> (try exact hm) <;> (try (exfalso;omega))
      ·exact⟨by omega,by omega,hm.2.2⟩
      ·exact⟨by omega,by omega,hm.2.2⟩
      ·exact⟨by omega,by omega,hm.2.2⟩
    exact ak _ _ _ O V Y
   ·cases K
  ·cases K;refine h.G3 ah (x:= .ph .FA) trivial (fun k'=>by rw [U];simp) (by simp) (by rw [U];rfl) fun L S V Y=>?_;rw [U] at V Y;simp only [cL,cS,Nat.add_zero] at V Y;subst V Y;exact O
 ·
  have hw:=h.cls Z;rw [if_pos Z,U] at O;rw [U] at hw;obtain⟨al,aq,ai⟩:=h.main;cases p <;> simp only [Gw] at hw <;> (try exact hw.elim) <;> simp only [Fam.act] at K <;> (try (cases K;done)) <;> simp only [CF] at O
  ·cases K;exact h.Fi Z (x:= .ph (.EP F.n)) trivial ⟨O.1,O.2.1,O.2.2.1,O.2.2.2.1,O.2.2.2.2,ar⟩
  ·split at K
   ·rename_i m aa;cases K;split
    ·exact h.Fi Z (x:= .ph .Ew) trivial ⟨O.1,O.2.1,O.2.2.1,rfl,by assumption,O.2.2.2.2.1⟩
    ·exact h.Fi Z (x:= .ph (.Ge _)) trivial ⟨O.1,O.2.1,O.2.2.1,rfl,O.2.2.2.2.1,Nat.le_refl _,by omega⟩
   ·cases K
  ·split at K
   ·rename_i m aa;split at K
    ·cases K;exact h.Fi Z (x:= .ph .GD) trivial ⟨by omega,by omega,O.2.2.2.2.1⟩
    ·cases K;exact h.Fi Z (x:= .ph (.EP _)) trivial ⟨O.1,O.2.1,O.2.2.1,rfl,O.2.2.2.2.1,by omega⟩
   ·cases K
  ·cases K;exact h.Fi Z (x:= .ph .C4) trivial O
  ·split at K
   ·rename_i aa;cases K;exact h.Fi Z (x:= .ph .FO) trivial ⟨by omega,by omega,rfl,by omega,by omega,O.2.2⟩
   ·cases K
  ·split at K
   ·rename_i aa;obtain⟨rfl,rfl⟩:=aa;cases K;exact h.Fi Z (x:= .ph .Ew) trivial O
   ·cases K
  ·cases K;exact h.Fi Z (x:= .ph .GC) trivial O
  ·cases K;exact h.Fi Z (x:= .ph .Df) trivial O
  ·cases K;exact h.Fi Z (x:= .ph .Gk) trivial O
  ·cases K;exact h.Fi Z (x:= .ph .FT) trivial O
end
end Pal
namespace Pal
open Go Go.Conc
open Go.ConcN (upd upd_same upd_ne sumTo sumTo_upd sumTo_upd_out sumTo_congr le_sumTo sumTo_le fork_knows)
section
variable {F:Fam}{N0 N j:Nat}{c:Bool}{φ:Nat→Nx}{v wt sm:Nat}{cl:Bool}
theorem B5.spawn(h:B5 F N0 N j c φ v wt sm cl)(U:φ 0= .ph (.Ej j)):
  B5 F N0 (N+1) (j+1) c (upd (upd φ N (.ph (F.start j))) 0 (.ph (F.Dg j))) v wt sm cl:=by
 obtain⟨ai,aj,ak⟩:=h.main;obtain rfl:ai= .Ej j:=by rw [aj] at U;exact Nx.ph.inj U
 obtain⟨_,ap,rfl⟩:=ak;have al:=h.size;have aq:=h.pos;simp only [Bool.toNat_false,Nat.add_zero] at al;have Y:cU (.ph (F.start j))=1∧cL (.ph (F.start j))=0∧cS (.ph (F.start j))=0:=by
  unfold Fam.start;split <;> exact⟨rfl,rfl,rfl⟩
 have K:cU (.ph (F.Dg j))=0∧cL (.ph (F.Dg j))=0∧cS (.ph (F.Dg j))=0∧pend (.ph (F.Dg j))=0∧got (.ph (F.Dg j))= []:=by
  unfold Fam.Dg;split <;> exact⟨rfl,rfl,rfl,rfl,rfl⟩
 have Z:cU (φ 0)=0∧cL (φ 0)=0∧cS (φ 0)=0:=by rw [U];exact⟨rfl,rfl,rfl⟩
 let V:Nat→Nx:=upd (upd φ N (.ph (F.start j))) 0 (.ph (F.Dg j));have O:V 0= .ph (F.Dg j):=upd_same _ _ _;have aa:V N= .ph (F.start j):=by show upd _ _ _ _=_;rw [upd_ne _ _ (by omega),upd_same]
 have ab:∀i,0<i→i≠N→V i=φ i:=fun i ac ae=>by show upd _ _ _ _=_;rw [upd_ne _ _ (by omega),upd_ne _ _ ae]
 have sum:∀f:Nx→Nat,f (φ 0)=0→f (.ph (F.Dg j))=0→(sumTo (N+1) fun i=>f (V i))=(sumTo N fun i=>f (φ i))+f (.ph (F.start j)):=by
  intro f f0 f1;simp only [sumTo,aa];congr 1;have am:0<N:=by omega
  have:=sumTo_upd (upd φ N (.ph (F.start j))) (.ph (F.Dg j)) f am;have e2:upd φ N (.ph (F.start j)) 0=φ 0:=upd_ne _ _ (by omega);rw [e2,f0,f1] at this;have ar:=sumTo_upd_out φ (.ph (F.start j)) f (i:=N) (j:=N) (Nat.le_refl _);show sumTo N (fun i=>f (upd (upd φ N (.ph (F.start j))) 0 (.ph (F.Dg j)) i))=_;omega
 have ag:=h.cnt;have ah:=h.G5;rw [U] at ag ah;simp only [pend] at ag ah;show B5 F N0 (N+1) (j+1) false V v wt sm cl;have an:got (φ 0)= []:=by rw [U];rfl
 refine⟨h.pos,h.n1,h.Hx,by simp;omega,by omega,by simp,⟨F.Dg j,O,?_⟩,fun i ac ae=>by rw [ab i ac (by omega)];exact h.old i ac ae,fun k ao=>?_,by simp,?_,?_,?_,fun k ao hh=>?_,by rw [O,K.2.2.2.2];exact .nil,by rw [O,K.2.2.2.2];simp⟩
 ·unfold Fam.Dg;split
  ·exact⟨by assumption,rfl⟩
  ·exact⟨rfl,by omega,rfl⟩
 ·by_cases e:k=j
  ·subst e;rw [show N0+k=N by omega,aa];unfold Fam.start;split
   ·exact⟨rfl,by assumption⟩
   ·trivial
  ·rw [ab _ (by omega) (by omega)];exact h.work k (by omega)
 ·rw [O,K.2.2.2.1,sum cU Z.1 K.1,Y.1];exact ag
 ·rw [O,K.2.2.2.1];exact ah
 ·have hm:=h.mode;simp only [Bool.false_eq_true,if_false] at hm ⊢;rw [sum cL Z.2.1 K.2.1,sum cS Z.2.2 K.2.2.1,Y.2.1,Y.2.2];exact hm
 ·rw [O,K.2.2.2.2];by_cases e:k=j
  ·subst e;rw [show N0+k=N by omega,aa];unfold Fam.start;simp [hh]
  ·rw [ab _ (by omega) (by omega)];have:=h.Gi k (by omega) hh
   rwa [an] at this
theorem B5.TY(h:B5 F N0 N j c φ v wt sm cl)(O:φ 0= .ph .ER):
  B5 F N0 (N+1) j true (upd (upd φ N (.ph .CK)) 0 (.ph (.B6 [] []))) v wt sm cl:=by
 obtain⟨ai,aj,ak⟩:=h.main;obtain rfl:ai= .ER:=by rw [aj] at O;exact Nx.ph.inj O
 obtain⟨ah,rfl⟩:=ak;have al:=h.size;have ao:=h.pos;simp only [Bool.toNat_false,Nat.add_zero] at al;have V:cU (φ 0)=0∧cL (φ 0)=0∧cS (φ 0)=0:=by rw [O];exact⟨rfl,rfl,rfl⟩
 let U:Nat→Nx:=upd (upd φ N (.ph .CK)) 0 (.ph (.B6 [] []));have K:U 0= .ph (.B6 [] []):=upd_same _ _ _;have Y:U N= .ph .CK:=by show upd _ _ _ _=_;rw [upd_ne _ _ (by omega),upd_same]
 have Z:∀i,0<i→i≠N→U i=φ i:=fun i aa ab=>by show upd _ _ _ _=_;rw [upd_ne _ _ (by omega),upd_ne _ _ ab]
 have sum:∀f:Nx→Nat,f (φ 0)=0→f (.ph (.B6 [] []))=0→f (.ph .CK)=0→(sumTo (N+1) fun i=>f (U i))=(sumTo N fun i=>f (φ i)):=by
  intro f f0 f1 f2;simp only [sumTo,Y,f2];have am:0<N:=by omega
  have:=sumTo_upd (upd φ N (.ph .CK)) (.ph (.B6 [] [])) f am;have e2:upd φ N (.ph .CK) 0=φ 0:=upd_ne _ _ (by omega);rw [e2,f0,f1] at this;have ap:=sumTo_upd_out φ (.ph .CK) f (i:=N) (j:=N) (Nat.le_refl _);show sumTo N (fun i=>f (upd (upd φ N (.ph .CK)) 0 (.ph (.B6 [] [])) i))+0=_;omega
 have ac:=h.cnt;have ae:=h.G5;rw [O] at ac ae;simp only [pend] at ac ae;show B5 F N0 (N+1) j true U v wt sm cl;have an:got (φ 0)= []:=by rw [O];rfl
 refine⟨h.pos,h.n1,h.Hx,by simp;omega,h.jn,fun _=>ah,⟨.B6 [] [],K,ah,rfl⟩,fun i aa ab=>by rw [Z i aa (by omega)];exact h.old i aa ab,fun k ag=>?_,fun _=>by rw [show N0+F.n=N by omega,Y];trivial,?_,?_,?_,fun k ag hh=>?_,by rw [K];exact .nil,by rw [K];simp [got]⟩
 ·rw [Z _ (by omega) (by omega)];exact h.work k ag
 ·rw [K,sum cU V.1 rfl rfl];exact ac
 ·rw [K];exact ae
 ·have hm:=h.mode;simp only [Bool.false_eq_true,if_false,if_true] at hm ⊢;rw [show N0+F.n=N by omega,Y,sum cL V.2.1 rfl rfl,sum cS V.2.2 rfl rfl];exact hm
 ·rw [K];rw [Z _ (by omega) (by omega)];have:=h.Gi k ag hh
  rwa [an] at this
theorem B5.meet(h:B5 F N0 N j c φ v wt sm cl){K:List Nat}{vs:Lv_}{k:Nat}{x:Value}(O:φ 0= .ph (.B6 K vs))(ac:k<j)(hw:φ (N0+k)= .ph (.Cj k)):
  B5 F N0 N j c (upd (upd φ (N0+k) (.ph .CH)) 0 (.ph (.B6 (K++ [k]) (vs++ [x])))) v wt sm cl:=by
 obtain⟨aj,ak,al⟩:=h.main;obtain rfl:aj= .B6 K vs:=by rw [ak] at O;exact Nx.ph.inj O
 obtain⟨am,rfl⟩:=al;have an:=h.size;have au:=h.pos;have ae:F.has k=true:=by have:=h.work k ac;rw [hw] at this;exact this.2
 have ao:k ∉ K:=by have:=(h.Gi k ac ae).1 hw;rwa [O] at this
 let V:Nat→Nx:=upd (upd φ (N0+k) (.ph .CH)) 0 (.ph (.B6 (K++ [k]) (vs++ [x])));have U:V 0= .ph (.B6 (K++ [k]) (vs++ [x])):=upd_same _ _ _;have ag:V (N0+k)= .ph .CH:=by show upd _ _ _ _=_;rw [upd_ne _ _ (by omega),upd_same]
 have Y:∀i,0<i→i≠N0+k→V i=φ i:=fun i Z aa=>by show upd _ _ _ _=_;rw [upd_ne _ _ (by omega),upd_ne _ _ aa]
 have sum:∀f:Nx→Nat,f (φ 0)=f (.ph (.B6 (K++ [k]) (vs++ [x])))→f (.ph (.Cj k))=f (.ph .CH)→(sumTo N fun i=>f (V i))=(sumTo N fun i=>f (φ i)):=by
  intro f f0 f1;have ap:0<N:=by omega
  have Z:=sumTo_upd (upd φ (N0+k) (.ph .CH)) (.ph (.B6 (K++ [k]) (vs++ [x]))) f ap;have e2:upd φ (N0+k) (.ph .CH) 0=φ 0:=upd_ne _ _ (by omega);have aa:=sumTo_upd φ (.ph .CH) f (show N0+k<N by omega);rw [e2] at Z;rw [hw] at aa;show sumTo N (fun i=>f (upd (upd φ (N0+k) (.ph .CH)) 0 (.ph (.B6 (K++ [k]) (vs++ [x]))) i))=_;omega
 have ah:=h.cnt;have ai:=h.G5;rw [O] at ah ai;show B5 F N0 N j true V v wt sm cl;refine⟨h.pos,h.n1,h.Hx,an,h.jn,h.cj,⟨_,U,am,rfl⟩,fun i Z aa=>by rw [Y i Z (by omega)];exact h.old i Z aa,fun k' ab=>?_,fun aq=>?_,?_,?_,?_,fun k' ab hh=>?_,?_,?_⟩
 ·by_cases e:k'=k
  ·subst e;rw [ag];trivial
  ·rw [Y _ (by omega) (by omega)];exact h.work k' ab
 ·rw [Y _ (by omega) (by omega)];exact h.cls aq
 ·rw [U,sum cU (by rw [O];rfl) rfl];exact ah
 ·rw [U];exact ai
 ·have hm:=h.mode;simp only [if_true] at hm ⊢;rw [Y _ (by omega) (by omega),sum cL (by rw [O];rfl) rfl,sum cS (by rw [O];rfl) rfl];exact hm
 ·rw [U];show _↔k' ∉ K++ [k];by_cases e:k'=k
  ·subst e;rw [ag];simp
  ·rw [Y _ (by omega) (by omega)];have:=h.Gi k' ab hh;rw [O] at this;rw [this];show k' ∉ K↔_;simp [e]
 ·rw [U];have:=h.nd;rw [O] at this;show(K++ [k]).Nodup;rw [List.nodup_append];exact⟨this,by simp,fun a ar b hb=>by simp at hb;subst hb;exact fun e=>ao (e▸ar)⟩
 ·rw [U];intro k' ab;have hs:=h.sub;rw [O] at hs;rcases List.mem_append.1 ab with q | q
  ·exact hs k' q
  ·simp at q;subst q;exact⟨ac,ae⟩
theorem B5.close(h:B5 F N0 N j c φ v wt sm cl)(K:c=true)(O:φ (N0+F.n)= .ph .Df):B5 F N0 N j c (upd φ (N0+F.n) (.gone 0)) v wt sm true:=by
 have hm:=h.mode;rw [if_pos K,O] at hm;exact h.Fi K (x:= .gone 0) trivial ⟨hm.1,hm.2.1,hm.2.2.1,hm.2.2.2.1,hm.2.2.2.2.1,rfl⟩
theorem B5.leave(h:B5 F N0 N j c φ v wt sm cl){i d K:Nat}(hi:i<N)(O:φ i= .gone d):B5 F N0 N j c (upd φ i (.gone K)) v wt sm cl:=by
 rcases h.Ey hi with rfl | ⟨a,b⟩ | ⟨k,V,rfl⟩ | ⟨Y,rfl⟩
 ·obtain⟨p,Z,_⟩:=h.main;rw [O] at Z;cases Z
 ·have ae:=hi;have z:∀f:Nx→Nat,f (.gone d)=0→f (.gone K)=0→(sumTo N fun a=>f (upd φ i (.gone K) a))=sumTo N fun a=>f (φ a):=by
   intro f f0 f1;have:=sumTo_upd φ (.gone K) f ae;rw [O] at this;omega
  have aj:=h.size;have U:upd φ i (.gone K) 0=φ 0:=upd_ne _ _ (by omega);refine⟨h.pos,h.n1,h.Hx,h.size,h.jn,h.cj,by rw [U];exact h.main,fun aa ag ah=>?_,fun k V=>by rw [upd_ne _ _ (by omega)];exact h.work k V,fun Y=>by rw [upd_ne _ _ (by omega)];exact h.cls Y,by rw [U,z cU rfl rfl];exact h.cnt,by rw [U];exact h.G5,?_,fun k V hh=>by rw [U,upd_ne _ _ (by omega)];exact h.Gi k V hh,by rw [U];exact h.nd,by rw [U];exact h.sub⟩
  ·by_cases e:aa=i
   ·subst e;rw [upd_same];trivial
   ·rw [upd_ne _ _ e];exact h.old aa ag ah
  ·rw [z cL rfl rfl,z cS rfl rfl,upd_ne _ _ (by omega)];exact h.mode
 ·refine h.G3 V (x:= .gone K) trivial (by rw [O];simp) (by simp) (by rw [O];rfl) fun L S ab ac=>?_;rw [O] at ab ac;have ai:L=sumTo N fun i=>cL (φ i):=ab;have e2:S=sumTo N fun i=>cS (φ i):=ac;subst ai e2;exact h.mode
 ·have hm:=h.mode;rw [if_pos Y,O] at hm;exact h.Fi Y (x:= .gone K) trivial hm
theorem B5.L5(h:B5 F N0 N j c φ v wt sm cl)(O:c=true)(U:φ (N0+F.n)= .ph .FO∨φ (N0+F.n)= .ph .Ew∨φ (N0+F.n)= .ph .FT∨φ (N0+F.n)= .ph .Df∨Eg (φ (N0+F.n))):∀k,k<j→Eg (φ (N0+k)):=by
 intro k V;have hm:=h.mode;rw [if_pos O] at hm;have Y:=h.size;have Z:=h.cnt;have aa:cU (φ (N0+k))≤sumTo N fun i=>cU (φ i):=le_sumTo (f:=fun i=>cU (φ i)) (show N0+k<N by omega);have ab:cL (φ (N0+k))≤sumTo N fun i=>cL (φ i):=le_sumTo (f:=fun i=>cL (φ i)) (show N0+k<N by omega);have ac:cS (φ (N0+k))≤sumTo N fun i=>cS (φ i):=le_sumTo (f:=fun i=>cS (φ i)) (show N0+k<N by omega);have ae:v=0∧(sumTo N fun i=>cL (φ i))=0∧(sumTo N fun i=>cS (φ i))=0:=by
  rcases U with e | e | e | e | e
  ·rw [e] at hm;exact⟨hm.2.2.2.2.1,hm.1,hm.2.1⟩
  ·rw [e] at hm;exact⟨hm.2.2.2.2.1,hm.1,hm.2.1⟩
  ·rw [e] at hm;exact⟨hm.2.2.2.2.1,hm.1,hm.2.1⟩
  ·rw [e] at hm;exact⟨hm.2.2.2.2.1,hm.1,hm.2.1⟩
  ·cases K:φ (N0+F.n) with
   | gone d=>rw [K] at hm;exact⟨hm.2.2.2.2.1,hm.1,hm.2.1⟩
   | ph p=>rw [K] at e;exact e.elim
 have hw:=h.work k V;cases K:φ (N0+k) with
 | gone d=>trivial
 | ph p=>
  have ag:1≤cU (φ (N0+k))+cL (φ (N0+k))+cS (φ (N0+k)):=by
   rw [K] at hw ⊢;cases p <;> simp only [GV] at hw <;> simp [cU,cL,cS]
  exfalso;omega
end
open Go.ConcN (RelBy)
def DF:Nx→Nat
 | .gone d=>d
 | .ph .Gd | .ph .Fz | .ph .FN | .ph .DW=>1
 | .ph (.EP _) | .ph (.Ge _) | .ph .GD | .ph .Gk | .ph .C4 | .ph .FO | .ph .Ew=>1
 | .ph (.Gz _) | .ph (.Gh _) | .ph (.FQ _) | .ph (.Fj _)=>1
 | _=>0
def late:Nx→Prop
 | .ph (.Cj _) | .ph .CH | .ph .FA=>False
 | _=>True
def HU(F:Fam)(N0 t0:Nat)(t:Trace)(q:Nat):Prop:=
 t.act? q=some (.mark (.acquire F.sA))∧t.g? q=some (N0+F.n)∧t.heard q∧∀k,k<F.n→∃ρ,t0≤ρ∧ρ<q∧RelBy F.sA t (N0+k) ρ
def Jx(F:Fam)(N0 t0:Nat)(t:Trace)(p:Nat):Prop:=
 t.act? p=some (.close F.ch)∧t.g? p=some (N0+F.n)∧t.heard p∧(∃q,q<p∧HU F N0 t0 t q)∧∀x,p<x→t.g? x=some (N0+F.n)→¬t.counts x
structure Dm (F:Fam) (N0 t0 N j:Nat) (c:Bool) (φ:Nat→Nx) (t:Trace):Prop where
 deaf:∀i,i<N→Deaf t i=DF (φ i)
 above:∀i,N≤i→Deaf t i=0
 plain:∀x a b,touchAt t x=some a→Dd a.loc=some b→(b=F.wg∨b=F.ch)→a.kind= .plain→∀i,i<N→(i=0∨N0≤i)→Knows t i x
 said:∀x a b,touchAt t x=some a→Dd a.loc=some b→(b=F.wg∨b=F.ch)→a.kind= .said→Knows t (if c=true then N0+F.n else 0) x
 over:∀x g,t.g? x=some g→g≠0→t.counts x→(∃y,t.g? y=some 0∧HappensBefore t x y)∨(N0≤g∧g<N)
 norel:∀x,t0≤x→t.act? x≠some (.mark (.release F.sA))
 Jz:t0≤t.size
 rel:∀k,k<j→late (φ (N0+k))→∃ρ,t0≤ρ∧RelBy F.sA t (N0+k) ρ
 acq:c=true→(φ (N0+F.n)= .ph .Df∨Eg (φ (N0+F.n)))→∃q,HU F N0 t0 t q
 IM:c=true→Eg (φ (N0+F.n))→∃p,Jx F N0 t0 t p
section
variable {F:Fam}{N0 t0 N j:Nat}{c:Bool}{φ:Nat→Nx}{t u:Trace}
def EvS(F:Fam)(K:Prop)(e:Event):Prop:=
 (∀a,(MemAct.ofEvent e).touch? =some a→(∃b,Dd a.loc=some b∧(b=F.wg∨b=F.ch))∧a.kind≠ .plain∧(a.kind= .said→K))∧e.loc≠ .mark (.release F.sA)
theorem Dm.noRace(h:Dm F N0 t0 N j c φ t)(Y:∀said,¬Race said t){i:Nat}(hi:i<N)(Z:i=0∨N0≤i){fn:FuncId}{pos:String}{es:Array Event}
  (aa:∀e∈es,EvS F (i=if c=true then N0+F.n else 0) e):∀said,¬Race said (t++MemOp.ofEvents i fn pos es):=by
 intro said;refine noRace_append (g:=i) (Y said) (fun op K=>by obtain⟨e,_,rfl⟩:=mem_ofEvents K;rfl) fun x a O op K d ab ac=>?_;obtain⟨e,he,rfl⟩:=mem_ofEvents K;obtain⟨⟨b,hb,U⟩,ae,hs⟩:=(aa e he).1 d ab;obtain⟨ag,hm,aj,ah⟩:=ac;have V:Dd a.loc=some b:=by rw [ag];exact hb
 rcases ah with q | q | ⟨_,q,ai⟩
 ·exact h.plain x a b O V U q i hi Z
 ·exact absurd q ae
 ·have:=h.said x a b O V U q
  rwa [← hs ai] at this
theorem HU.app{q:Nat}(h:HU F N0 t0 t q)(V:∀k ρ,k<F.n→RelBy F.sA t (N0+k) ρ→RelBy F.sA (t++u) (N0+k) ρ):HU F N0 t0 (t++u) q:=by
 obtain⟨O,Y,Z,aa⟩:=h;have K:=lt_of_act? O;exact⟨by rw [act?_old K];exact O,by rw [g?_old K];exact Y,(heard_old K).2 Z,fun k U=>let ⟨ρ,a,b,d⟩:=aa k U;⟨ρ,a,b,V k ρ U d⟩⟩
theorem Jx.app{p:Nat}(h:Jx F N0 t0 t p)(V:∀k ρ,k<F.n→RelBy F.sA t (N0+k) ρ→RelBy F.sA (t++u) (N0+k) ρ)(Y:∀x,t.size≤x→(t++u).g? x=some (N0+F.n)→¬(t++u).counts x):Jx F N0 t0 (t++u) p:=by
 obtain⟨O,Z,aa,⟨q,ab,ac⟩,ae⟩:=h;have K:=lt_of_act? O;refine⟨by rw [act?_old K];exact O,by rw [g?_old K];exact Z,(heard_old K).2 aa,⟨q,ab,ac.app V⟩,fun x ag hg U=>?_⟩;rcases Nat.lt_or_ge x t.size with q | q
 ·exact ae x ag (by rw [← g?_old (u:=u) q];exact hg) ((counts_old q).1 U)
 ·exact Y x q hg U
theorem NT(h:∀x g,t.g? x=some g→g≠0→t.counts x→(∃y,t.g? y=some 0∧HappensBefore t x y)∨(N0≤g∧g<N))(hu:∀op∈u,op.g=0∨(N0≤op.g∧op.g<N)∨op.act.touch? =none):
  ∀x g,(t++u).g? x=some g→g≠0→(t++u).counts x→(∃y,(t++u).g? y=some 0∧HappensBefore (t++u) x y)∨(N0≤g∧g<N):=by
 intro x g hg O U;rcases Nat.lt_or_ge x t.size with q | q
 ·rcases h x g (by rw [← g?_old (u:=u) q];exact hg) O ((counts_old q).1 U) with⟨y,K,hb⟩ | hh
  ·have aa:y<t.size:=by
    unfold Trace.g? at K;obtain⟨z,ab,_⟩:=Option.map_eq_some_iff.1 K;exact lt_size_of_getElem? ab
   exact .inl ⟨y,by rw [g?_old aa];exact K,hb_app u hb⟩
  ·exact .inr hh
 ·obtain⟨a,ac,_⟩:=U;obtain⟨op,V,Y⟩:=touch_of ac;have Z:op.g=g:=by simpa [Trace.g?,V] using hg
  rcases getElem?_append_cases V with⟨ag,_⟩ | ⟨_,ae⟩
  ·omega
  ·rcases hu op ae with z | z | z
   ·exact absurd (Z▸z) O
   ·exact .inr (Z▸z)
   ·rw [z] at Y;cases Y
theorem No(h:∀x,t0≤x→t.act? x≠some (.mark (.release F.sA)))(hu:∀op∈u,op.act≠ .mark (.release F.sA)):∀x,t0≤x→(t++u).act? x≠some (.mark (.release F.sA)):=by
 intro x O e;obtain⟨op,U,K⟩:=Option.map_eq_some_iff.1 e;rcases getElem?_append_cases U with⟨_,V⟩ | ⟨_,Y⟩
 ·exact h x O (by rw [act?_of V,K])
 ·exact hu op Y K
theorem Qi{i g:Nat}(hu:∀op∈u,op.g=i)(K:i≠g):∀x,t.size≤x→(t++u).g? x=some g→¬(t++u).counts x:=by
 intro x Y hg;obtain⟨op,O,U⟩:=Option.map_eq_some_iff.1 hg;rcases getElem?_append_cases O with⟨Z,_⟩ | ⟨_,V⟩
 ·omega
 ·exact absurd ((hu op V).symm.trans U) K
theorem MT{g:Nat}(hu:∀op∈u,op.g=g→op.act.touch? =none):∀x,t.size≤x→(t++u).g? x=some g→¬(t++u).counts x:=by
 intro x Z hg U;obtain⟨a,V,_⟩:=U;obtain⟨op,K,O⟩:=touch_of V;rcases getElem?_append_cases K with⟨aa,_⟩ | ⟨_,Y⟩
 ·omega
 ·rw [hu op Y (by simpa [Trace.g?,K] using hg)] at O;cases O
theorem Dm.app(h:Dm F N0 t0 N j c φ t){i:Nat}(hi:i<N){x:Nx}{fn:FuncId}{pos:String}{es:Array Event}(aF:j≤F.n)
  (au:deafBehind (DF (φ i)) es=DF x)
  (ak:∀e∈es,(∀a b,(MemAct.ofEvent e).touch? =some a→Dd a.loc=some b→(b=F.wg∨b=F.ch)→a.kind≠ .plain∧(a.kind= .said→i=if c=true then N0+F.n else 0))∧e.loc≠ .mark (.release F.sA))
  (av:(i=0∨N0≤i)∨∀e∈es,(MemAct.ofEvent e).touch? =none)
  (al:c=true→(φ (N0+F.n)= .ph .Df∨Eg (φ (N0+F.n)))→∀k,k<F.n→late (φ (N0+k)))
  (aw:∀k,k<F.n→i=N0+k→late (φ i)→∀ρ,RelBy F.sA t i ρ→RelBy F.sA (t++MemOp.ofEvents i fn pos es) i ρ)
  (ay:∀k,k<j→i=N0+k→late x→¬late (φ i)→∃ρ,t0≤ρ∧RelBy F.sA (t++MemOp.ofEvents i fn pos es) i ρ)
  (az:c=true→i=N0+F.n→(x= .ph .Df∨Eg x)→(∃q,HU F N0 t0 (t++MemOp.ofEvents i fn pos es) q)∨(φ i= .ph .Df∨Eg (φ i)))
  (aA:c=true→i=N0+F.n→Eg x→(∃p,Jx F N0 t0 (t++MemOp.ofEvents i fn pos es) p)∨(Eg (φ i)∧∀e∈es,(MemAct.ofEvent e).touch? =none)):
  Dm F N0 t0 N j c (upd φ i x) (t++MemOp.ofEvents i fn pos es):=by
 generalize hu:MemOp.ofEvents i fn pos es=u at*;have Z:∀op∈u,op.g=i:=fun op O=>by rw [← hu] at O;obtain⟨e,_,rfl⟩:=mem_ofEvents O;rfl
 have ai:∀op∈u,∃e∈es,op.act=MemAct.ofEvent e:=fun op O=>by rw [← hu] at O;obtain⟨e,he,rfl⟩:=mem_ofEvents O;exact⟨e,he,rfl⟩
 have hold:∀{y a},touchAt (t++u) y=some a→touchAt t y=some a∨(Knows (t++u) i y∧∃e∈es,(MemAct.ofEvent e).touch? =some a):=by
  intro y a U;obtain⟨op,O,aq⟩:=touch_of U;rcases getElem?_append_cases O with⟨aG,aB⟩ | ⟨_,ar⟩
  ·left;rw [touchAt_of aB];exact aq
  ·right;obtain⟨e,he,aa⟩:=ai op ar;exact⟨by have:=knows_own O;rwa [Z op ar] at this,e,he,by rw [← aa];exact aq⟩
 have aj:∀k ρ,k<F.n→late (φ (N0+k))→RelBy F.sA t (N0+k) ρ→RelBy F.sA (t++u) (N0+k) ρ:=by
  intro k ρ K ac Y;by_cases e:i=N0+k
  ·have:=aw k K e (e▸ac) ρ (e▸Y)
   rwa [e] at this
  ·exact Y.appOther Z e
 refine⟨fun ab ae=>?_,fun ab ae=>?_,fun y a b am hb ag K ab ae ah=>?_,fun y a b am hb ag K=>?_,NT h.over fun op O=>?_,No h.norel fun op O e=>?_,by simp;have:=h.Jz;omega,fun k K ac=>?_,fun V U=>?_,fun V U=>?_⟩
 ·by_cases e:ab=i
  ·subst e;rw [upd_same,← hu,Deaf_own,h.deaf ab hi,au]
  ·rw [upd_ne _ _ e,Deaf_other t (Ne.symm e) u Z];exact h.deaf ab ae
 ·rw [Deaf_other t (by omega) u Z];exact h.above ab ae
 ·rcases hold am with q | ⟨_,e,he,an⟩
  ·exact(h.plain y a b q hb ag K ab ae ah).app _
  ·exact absurd K ((ak e he).1 a b an hb ag).1
 ·rcases hold am with q | ⟨aC,e,he,an⟩
  ·exact(h.said y a b q hb ag K).app _
  ·rw [← ((ak e he).1 a b an hb ag).2 K];exact aC
 ·rw [Z op O];rcases av with(q | q) | q
  ·exact .inl q
  ·exact .inr (.inl ⟨q,hi⟩)
  ·obtain⟨e,he,aa⟩:=ai op O;rw [aa];exact .inr (.inr (q e he))
 ·obtain⟨ev,ao,aa⟩:=ai op O;rw [aa] at e;exact(ak ev ao).2 (by
   obtain⟨loc,wr,aD⟩:=ev
   cases loc with
   | mark m=>simp only [MemAct.ofEvent,MemAct.mark.injEq] at e;rw [e]
   | obj r=>cases wr <;> cases aD <;> simp [MemAct.ofEvent] at e
   | _=>simp [MemAct.ofEvent] at e)
 ·by_cases e:i=N0+k
  ·subst e;rw [upd_same] at ac;by_cases ap:late (φ (N0+k))
   ·obtain⟨ρ,a,b⟩:=h.rel k K ap;exact⟨ρ,a,aj k ρ (by omega) ap b⟩
   ·exact ay k K rfl ac ap
  ·rw [upd_ne _ _ (Ne.symm e)] at ac;obtain⟨ρ,a,b⟩:=h.rel k K ac;exact⟨ρ,a,b.appOther Z e⟩
 ·have old:(φ (N0+F.n)= .ph .Df∨Eg (φ (N0+F.n)))→∃q,HU F N0 t0 (t++u) q:=by
   intro U;obtain⟨q,aE⟩:=h.acq V U;exact⟨q,aE.app fun k ρ K Y=>aj k ρ K (al V U k K) Y⟩
  by_cases e:i=N0+F.n
  ·subst e;rw [upd_same] at U;rcases az V rfl U with q | q
   ·exact q
   ·exact old q
  ·rw [upd_ne _ _ (Ne.symm e)] at U;exact old U
 ·by_cases e:i=N0+F.n
  ·subst e;rw [upd_same] at U;rcases aA V rfl U with q | ⟨q,hm⟩
   ·exact q
   ·obtain⟨p,ah⟩:=h.IM V q;exact⟨p,ah.app (fun k ρ K Y=>aj k ρ K (al V (.inr q) k K) Y) (MT fun op O _=>by obtain⟨ev,ao,aa⟩:=ai op O;rw [aa];exact hm ev ao)⟩
  ·rw [upd_ne _ _ (Ne.symm e)] at U;obtain⟨p,ah⟩:=h.IM V U;exact⟨p,ah.app (fun k ρ K Y=>aj k ρ K (al V (.inr U) k K) Y) (Qi Z e)⟩
end
end Pal
namespace Pal
open Go Go.Conc
open Go.ConcN (upd upd_same upd_ne sumTo sumTo_upd sumTo_upd_out sumTo_congr le_sumTo sumTo_le fork_knows RelBy)
section
variable {F:Fam}{N0 t0 N j:Nat}{c:Bool}{φ:Nat→Nx}{t u:Trace}{v wt sm v' wt' sm':Nat}{cl:Bool}
theorem M0{x:Nx}(h:Eg x):late x:=by
 cases x with
 | gone d=>trivial
 | ph p=>exact h.elim
theorem L2{α:Type}(f:Nat→α)(i:Nat):upd f i (f i)=f:=by
 funext a;unfold upd;split
 ·rename_i e;rw [e]
 ·rfl
theorem B5.Ks(K:B5 F N0 N j c φ v wt sm cl)(O:c=true)(h:φ (N0+F.n)= .ph .Df∨Eg (φ (N0+F.n))):∀k,k<F.n→late (φ (N0+k)):=fun k U=>
 M0 (K.L5 O (h.elim (fun e=> .inr (.inr (.inr (.inl e)))) fun e=> .inr (.inr (.inr (.inr e)))) k (by rw [K.cj O];exact U))
theorem Rv{m:Mark}(K:∀a,m≠ .read a)(O:∀a,m≠ .write a):(MemAct.ofEvent (Fam.DK m)).touch? =none:=by
 cases m <;> first | rfl | exact absurd rfl (K _) | exact absurd rfl (O _)
theorem PF(p:Ph){es:Array Event}{ah:Nx}(K:F.act p v wt sm=some ((v',wt',sm'),es,ah)):
  (∀e∈es,EvS F (p= .Gk∨∃j,p= .FQ j) e)∧deafBehind (DF (.ph p)) es=DF ah∧(∀e∈es,∀B,F.wg<B→(MemAct.ofEvent e).low B):=by
 have am:∀b w,(MemAct.ofEvent ⟨.cell F.sA,w,b⟩).touch? =some ⟨.cell F.sA,w,if b then .atomic else .plain⟩:=by intro b w;cases b <;> cases w <;> rfl
 have aa:∀(a:Addr) w (T:Prop),a.block=F.wg→EvS F T ⟨.cell a,w,true⟩:=by
  intro a w T hb;refine⟨fun x U=>?_,by simp⟩;have:x=⟨.cell a,w,.atomic⟩:=by cases w <;> (simp [MemAct.ofEvent,MemAct.touch?] at U;exact U.symm)
  subst this;exact⟨⟨F.wg,by simp [Dd,hb],.inl rfl⟩,by simp,by simp⟩
 have ab:∀(a:Addr) w B,a.block=F.wg→F.wg<B→(MemAct.ofEvent ⟨.cell a,w,true⟩).low B:=by
  intro a w B hb O;cases w <;> simp [MemAct.ofEvent,MemAct.low,Loc.low,hb,O]
 have Z:∀(m:Mark) (T:Prop),(∀a,m≠ .read a)→(∀a,m≠ .write a)→(∀a,m≠ .release a)→EvS F T (Fam.DK m):=by
  intro m T aj ak al;exact⟨fun x U=>(by rw [Rv aj ak] at U;cases U),fun e=>al _ (Loc.mark.inj e)⟩
 have ac:F.mA.block=F.wg:=rfl;have Y:F.sA.block=F.wg:=rfl;have DZ:∀(T:Prop),∀e∈semEvents F.mA,EvS F T e:=by
  intro T e he;simp only [semEvents,List.mem_toArray,List.mem_cons,List.not_mem_nil,or_false] at he;rcases he with rfl | rfl | rfl | rfl
  ·exact Z .disable T (by simp) (by simp) (by simp)
  ·exact aa _ _ _ ac
  ·exact aa _ _ _ ac
  ·exact Z .enable T (by simp) (by simp) (by simp)
 have ai:∀e∈semEvents F.mA,∀B,F.wg<B→(MemAct.ofEvent e).low B:=by
  intro e he B O;simp only [semEvents,List.mem_toArray,List.mem_cons,List.not_mem_nil,or_false] at he;rcases he with rfl | rfl | rfl | rfl
  ·trivial
  ·exact ab _ _ _ ac O
  ·exact ab _ _ _ ac O
  ·trivial
 have ae:∀(T:Prop),∀e∈(#[Fam.Ei F.sA,Fam.Hy F.sA]:Array Event),EvS F T e:=by
  intro T e he;simp only [List.mem_toArray,List.mem_cons,List.not_mem_nil,or_false] at he;rcases he with rfl | rfl <;> exact aa _ _ _ Y
 have ag:∀e∈(#[Fam.Ei F.sA,Fam.Hy F.sA]:Array Event),∀B,F.wg<B→(MemAct.ofEvent e).low B:=by
  intro e he B O;simp only [List.mem_toArray,List.mem_cons,List.not_mem_nil,or_false] at he;rcases he with rfl | rfl <;> exact ab _ _ _ Y O
 have one:∀{e:Event} {T:Prop},EvS F T e→∀x∈(#[e]:Array Event),EvS F T x:=by
  intro e T h x U;simp at U;subst U;exact h
 have V:∀{e:Event},(∀B,F.wg<B→(MemAct.ofEvent e).low B)→∀x∈(#[e]:Array Event),∀B,F.wg<B→(MemAct.ofEvent x).low B:=by
  intro e h x U;simp at U;subst U;exact h
 cases p <;> simp only [Fam.act] at K <;> (try (cases K;done))
 ·cases K;exact⟨one (Z _ _ (by simp) (by simp) (by simp)),rfl,V fun B O=>O⟩
 ·cases K;exact⟨one (Z _ _ (by simp) (by simp) (by simp)),rfl,V fun B O=>trivial⟩
 ·split at K
  ·cases K;exact⟨ae _,by split <;> rfl,ag⟩
  ·cases K
 ·split at K
  ·cases K;exact⟨one (aa _ _ _ Y),rfl,V fun B O=>ab _ _ _ Y O⟩
  ·cases K
 ·split at K
  ·cases K;exact⟨one (aa _ _ _ Y),rfl,V fun B O=>ab _ _ _ Y O⟩
  ·cases K
 ·split at K
  ·cases K;exact⟨DZ _,rfl,ai⟩
  ·cases K
 ·cases K;exact⟨one (Z _ _ (by simp) (by simp) (by simp)),rfl,V fun B O=>trivial⟩
 ·split at K
  ·cases K;exact⟨one (aa _ _ _ Y),by split <;> rfl,V fun B O=>ab _ _ _ Y O⟩
  ·cases K
 ·split at K
  ·split at K
   ·cases K;exact⟨ae _,rfl,ag⟩
   ·cases K;exact⟨one (aa _ _ _ Y),rfl,V fun B O=>ab _ _ _ Y O⟩
  ·cases K
 ·cases K;refine⟨one ⟨fun x U=>?_,by simp [Fam.DK]⟩,rfl,V fun B O=>O⟩;simp [Fam.DK,MemAct.ofEvent,MemAct.touch?] at U;subst U;exact⟨⟨F.wg,rfl,.inl rfl⟩,by simp,fun _=> .inl rfl⟩
 ·split at K
  ·cases K;exact⟨DZ _,rfl,ai⟩
  ·cases K
 ·split at K
  ·cases K;exact⟨one (aa _ _ _ Y),rfl,V fun B O=>ab _ _ _ Y O⟩
  ·cases K
 ·cases K;exact⟨one (Z _ _ (by simp) (by simp) (by simp)),rfl,V fun B O=>trivial⟩
 ·cases K;exact⟨one (Z _ _ (by simp) (by simp) (by simp)),rfl,V fun B O=>O⟩
 ·cases K;exact⟨one (Z _ _ (by simp) (by simp) (by simp)),rfl,V fun B O=>trivial⟩
 ·split at K
  ·cases K;exact⟨ae _,by split <;> rfl,ag⟩
  ·cases K
 ·cases K;refine⟨one ⟨fun x U=>?_,by simp [Fam.DK]⟩,rfl,V fun B O=>O⟩;simp [Fam.DK,MemAct.ofEvent,MemAct.touch?] at U;subst U;exact⟨⟨F.wg,rfl,.inl rfl⟩,by simp,fun _=> .inr ⟨_,rfl⟩⟩
 ·cases K;exact⟨one (Z _ _ (by simp) (by simp) (by simp)),rfl,V fun B O=>trivial⟩
 all_goals
  cases K;exact⟨by simp,rfl,by simp⟩
theorem Sp(p:Ph){es:Array Event}{U:Nx}(K:F.act p v wt sm=some ((v',wt',sm'),es,U)){k:Nat}(hw:GV F k (.ph p))(O:late (.ph p)):
  ∀m e,es[m]? =some e→(MemAct.ofEvent e).touch? =none∨((∃ad wr,e=⟨.cell ad,wr,true⟩)∧0<deafBehind (DF (.ph p)) (es.extract 0 m)):=by
 have two:∀m e,(#[Fam.Ei F.sA,Fam.Hy F.sA]:Array Event)[m]? =some e→(∃ad wr,e=⟨.cell ad,wr,true⟩)∧0<deafBehind 1 ((#[Fam.Ei F.sA,Fam.Hy F.sA]:Array Event).extract 0 m):=by
  intro m e h
  match m with
  | 0=>simp at h;subst h;exact⟨⟨_,_,rfl⟩,by simp [deafBehind]⟩
  | 1=>simp at h;subst h;exact⟨⟨_,_,rfl⟩,by simp [deafBehind,Fam.Ei]⟩
  | m+2=>simp at h
 cases p <;> simp only [GV] at hw <;> (try exact hw.elim) <;> simp only [late] at O <;> (try exact O.elim) <;> simp only [Fam.act] at K <;> (try (cases K;done))
 ·cases K;intro m e h
  match m with
  | 0=>simp at h;subst h;exact .inl rfl
  | m+1=>simp at h
 ·split at K
  ·cases K;exact fun m e h=> .inr (two m e h)
  ·cases K
 ·split at K
  ·cases K;intro m e h
   match m with
   | 0=>simp at h;subst h;exact .inr ⟨⟨_,_,rfl⟩,by simp [deafBehind,DF]⟩
   | m+1=>simp at h
  ·cases K
 ·split at K
  ·cases K;intro m e h
   match m with
   | 0=>simp at h;subst h;exact .inr ⟨⟨_,_,rfl⟩,by simp [deafBehind,DF]⟩
   | m+1=>simp at h
  ·cases K
 ·split at K
  ·cases K;intro m e h
   match m with
   | 0=>simp [semEvents] at h;subst h;exact .inl rfl
   | 1=>simp [semEvents] at h;subst h;exact .inr ⟨⟨_,_,rfl⟩,by simp [deafBehind,DF,semEvents]⟩
   | 2=>simp [semEvents] at h;subst h;exact .inr ⟨⟨_,_,rfl⟩,by simp [deafBehind,DF,semEvents]⟩
   | 3=>simp [semEvents] at h;subst h;exact .inl rfl
   | m+4=>simp [semEvents] at h
  ·cases K
theorem Dm.act(h:Dm F N0 t0 N j c φ t)(O:B5 F N0 N j c φ v wt sm cl){i:Nat}(hi:i<N){p:Ph}(U:φ i= .ph p){es:Array Event}{ab:Nx}(K:F.act p v wt sm=some ((v',wt',sm'),es,ab))(fn:FuncId)(pos:String):
  Dm F N0 t0 N j c (upd φ i ab) (t++MemOp.ofEvents i fn pos es)∧(∀e∈es,EvS F (i=if c=true then N0+F.n else 0) e)∧(i=0∨N0≤i):=by
 obtain⟨ah,al,_⟩:=PF p K;have aw:=O.size;have am:=O.jn;have an:(p= .Gk∨∃j,p= .FQ j)→i=if c=true then N0+F.n else 0:=by
  rintro(rfl | ⟨ay,rfl⟩)
  ·rcases O.Ey hi with rfl | ⟨a,b⟩ | ⟨k,Y,rfl⟩ | ⟨V,rfl⟩
   ·obtain⟨q,ac,hm⟩:=O.main;rw [U] at ac;cases ac;exact hm.elim
   ·have:=O.old i a b;rw [U] at this;exact this.elim
   ·have:=O.work k Y;rw [U] at this;exact this.elim
   ·rw [if_pos V]
  ·rcases O.Ey hi with rfl | ⟨a,b⟩ | ⟨k,Y,rfl⟩ | ⟨V,rfl⟩
   ·obtain⟨q,ac,hm⟩:=O.main;rw [U] at ac;cases ac;obtain⟨_,_,rfl⟩:=hm;rfl
   ·have:=O.old i a b;rw [U] at this;exact this.elim
   ·have:=O.work k Y;rw [U] at this;exact this.elim
   ·have:=O.cls V;rw [U] at this;exact this.elim
 have ai:∀e∈es,EvS F (i=if c=true then N0+F.n else 0) e:=fun e he=>⟨fun a ae=>let ⟨x,y,z⟩:=(ah e he).1 a ae;⟨x,y,fun q=>an (z q)⟩,(ah e he).2⟩
 have aj:i=0∨N0≤i:=by
  rcases O.Ey hi with rfl | ⟨a,b⟩ | ⟨k,Y,rfl⟩ | ⟨V,rfl⟩
  ·exact .inl rfl
  ·have:=O.old i a b;rw [U] at this;exact this.elim
  ·exact .inr (by omega)
  ·exact .inr (by omega)
 refine⟨h.app hi am (by rw [U];exact al) (fun e he=>⟨fun a b ae hb az=>⟨((ai e he).1 a ae).2.1,((ai e he).1 a ae).2.2⟩,(ah e he).2⟩) (.inl aj) (fun V Z=>O.Ks V Z) (fun k Y e ag ρ ao=>?_) (fun k Y e ag ak=>?_) (fun V e Z=>?_) (fun V e Z=>?_),ai,aj⟩
 ·subst e;rw [U] at ag;refine ao.appOwn fn pos es fun m e he=>?_;have aa:k<j∨(c=true∧F.n=k):=by
   rcases O.Ey hi with q | ⟨a,b⟩ | ⟨k',aA,q⟩ | ⟨V,q⟩
   ·have:=O.pos;omega
   ·omega
   ·left;omega
   ·omega
  rcases aa with aa | ⟨_,q⟩
  ·have hw:=O.work k aa;rw [U] at hw;rw [h.deaf _ hi,U];exact Sp p K hw ag m e he
  ·omega
 ·subst e;rw [U] at ak;have hw:=O.work k Y;rw [U] at hw;have ap:p= .FA:=by
   cases p <;> simp only [GV] at hw <;> (try exact hw.elim) <;> simp [late] at ak
   ·simp [Fam.act] at K
   ·rfl
   ·simp only [Fam.act] at K;cases K;exact ag.elim
  subst ap;simp only [Fam.act] at K;cases K;exact⟨t.size,h.Jz,.new (by rw [h.deaf _ hi,U];rfl) fn pos⟩
 ·subst e;left;have hw:=O.cls V;rw [U] at hw;have aq:p= .FT∧ab= .ph .Df:=by
   rcases Z with rfl | Z
   ·cases p <;> simp only [Gw] at hw <;> (try exact hw.elim) <;> simp only [Fam.act] at K <;> (try (cases K;done))
    ·split at K
     ·split at K <;> cases K
     ·cases K
    ·split at K
     ·split at K <;> cases K
     ·cases K
    ·split at K <;> cases K
    ·split at K <;> cases K
    ·exact⟨rfl,rfl⟩
   ·cases ab with
    | ph q=>exact Z.elim
    | gone d=>
     exfalso;cases p <;> simp only [Gw] at hw <;> (try exact hw.elim) <;> simp only [Fam.act] at K <;> (try (cases K;done))
     ·split at K
      ·split at K <;> cases K
      ·cases K
     ·split at K
      ·split at K <;> cases K
      ·cases K
     ·split at K <;> cases K
     ·split at K <;> cases K
  obtain⟨rfl,rfl⟩:=aq;simp only [Fam.act] at K;cases K;have ar:MemOp.ofEvents (N0+F.n) fn pos #[Fam.DK (.acquire F.sA)]= #[{g:=N0+F.n,fn,pos,act:= .mark (.acquire F.sA)}]:=by rw [ofEvents_eq];simp [Fam.DK,MemAct.ofEvent]
  rw [ar];have au:(t++ #[({g:=N0+F.n,fn,pos,act:= .mark (.acquire F.sA)}:MemOp)])[t.size]? =some {g:=N0+F.n,fn,pos,act:= .mark (.acquire F.sA)}:=by simp
  refine⟨t.size,by rw [act?_of au],by simp [Trace.g?],⟨N0+F.n,by simp [Trace.g?],by rw [deaf_old (Nat.le_refl _)];have:=h.deaf _ hi;rw [U] at this;exact this⟩,fun k Y=>?_⟩;have av:=O.L5 V (.inr (.inr (.inl U)));have aa:k<j:=by rw [O.cj V];exact Y
  obtain⟨ρ,a,b⟩:=h.rel k aa (M0 (av k aa));exact⟨ρ,a,lt_of_act? b.act,b.appOther (g:=N0+F.n) (by simp) (by omega)⟩
 ·subst e;exfalso;have hw:=O.cls V;rw [U] at hw;cases ab with
  | ph q=>exact Z.elim
  | gone d=>
   cases p <;> simp only [Gw] at hw <;> (try exact hw.elim) <;> simp only [Fam.act] at K <;> (try (cases K;done))
   ·split at K
    ·split at K <;> cases K
    ·cases K
   ·split at K
    ·split at K <;> cases K
    ·cases K
   ·split at K <;> cases K
   ·split at K <;> cases K
theorem Dm.CS(h:Dm F N0 t0 N j c φ t)(ao:B5 F N0 N j c φ v wt sm cl)(hu:∀op∈u,op.act.touch? =none∧∀m,op.act≠ .mark m):Dm F N0 t0 N j c φ (t++u):=by
 have ag:∀g,Deaf (t++u) g=Deaf t g:=by
  intro g;obtain⟨l⟩:=u;rw [Deaf_append]
  induction l generalizing t with
  | nil=>rfl
  | cons y l ap=>
   have U:=(hu y (by simp)).2;have ai:deafStep g (Deaf t g) y=Deaf t g:=by
    unfold deafStep;split <;> first | (rename_i e;exact absurd e (U _)) | rfl
   rw [List.foldl_cons,ai];have key:∀(l:List MemOp) (d:Nat),(∀op∈l,∀m,op.act≠ .mark m)→l.foldl (deafStep g) d=d:=by
    intro l
    induction l with
    | nil=>intro d _;rfl
    | cons z l aj=>
     intro d Z;have ak:=Z z (by simp);have e2:deafStep g d z=d:=by
      unfold deafStep;split <;> first | (rename_i e;exact absurd e (ak _)) | rfl
     rw [List.foldl_cons,e2];exact aj d fun op K=>Z op (by simp [K])
   exact key l _ fun op K=>(hu op (by simp at K ⊢;exact .inr K)).2
 have hold:∀{y a},touchAt (t++u) y=some a→touchAt t y=some a:=by
  intro y a O;obtain⟨op,K,aa⟩:=touch_of O;rcases getElem?_append_cases K with⟨aq,al⟩ | ⟨_,am⟩
  ·rw [touchAt_of al];exact aa
  ·rw [(hu op am).1] at aa;cases aa
 have ah:∀g x,t.size≤x→(t++u).g? x=some g→¬(t++u).counts x:=fun g=>MT fun op K _=>(hu op K).1;have V:∀g ρ,RelBy F.sA t g ρ→RelBy F.sA (t++u) g ρ:=fun g ρ V=>V.app fun x O hg=>ah g x O hg;refine⟨fun i hi=>by rw [ag];exact h.deaf i hi,fun i hi=>by rw [ag];exact h.above i hi,fun y a b U hb ab Y i hi ac=>(h.plain y a b (hold U) hb ab Y i hi ac).app _,fun y a b U hb ab Y=>(h.said y a b (hold U) hb ab Y).app _,
  NT h.over fun op K=> .inr (.inr (hu op K).1),No h.norel fun op K=>(hu op K).2 _,by simp;have:=h.Jz;omega,fun k Y Z=>let ⟨ρ,a,b⟩:=h.rel k Y Z;⟨ρ,a,V _ _ b⟩,
  fun ae O=>let ⟨q,an⟩:=h.acq ae O;⟨q,an.app fun k ρ _=>V _ ρ⟩,fun ae O=>let ⟨p,ac⟩:=h.IM ae O;⟨p,ac.app (fun k ρ _=>V _ ρ) (ah _)⟩⟩
theorem Dm.SQ(h:Dm F N0 t0 N j c φ t){U:Nat→Nx}(Z:∀i,i<N→DF (U i)=DF (φ i))(aa:∀k,k<j→late (U (N0+k))→late (φ (N0+k)))(V:c=true→U (N0+F.n)=φ (N0+F.n)):Dm F N0 t0 N j c U t:=
 ⟨fun i hi=>by rw [Z i hi];exact h.deaf i hi,h.above,h.plain,h.said,h.over,h.norel,h.Jz,fun k Y K=>h.rel k Y (aa k Y K),fun O K=>h.acq O (by rwa [V O] at K),fun O K=>h.IM O (by rwa [V O] at K)⟩
theorem Dm.spawn(h:Dm F N0 t0 N j c φ t)(aa:B5 F N0 N j c φ v wt sm cl)(al:c=false){Y:Nat→Nx}{ae:Nat}{ag:Bool}(am:∀i,i<N→DF (Y i)=DF (φ i))(an:DF (Y N)=0)(ao:DF (φ 0)=0)
  (ap:∀k,k<ae→late (Y (N0+k))→k<j∧late (φ (N0+k))) (ab:ag=true→N0+F.n=N∧Y (N0+F.n)= .ph .CK)
  {x y:MemOp} (K:x.g=0∧x.act= .go N) (ah:y.g=N∧y.act= .start):Dm F N0 t0 (N+1) ae ag Y (t++ #[x,y]):=by
 have ai:0<N:=by have:=aa.size;have:=aa.pos;omega
 have hu:∀op∈(#[x,y]:Array MemOp),op.act.touch? =none∧∀m,op.act≠ .mark m:=by
  intro op aj;simp only [List.mem_toArray,List.mem_cons,List.not_mem_nil,or_false] at aj;rcases aj with rfl | rfl
  ·rw [K.2];exact⟨rfl,by simp⟩
  ·rw [ah.2];exact⟨rfl,by simp⟩
 have O:=h.CS aa hu;have ak:∀z,Knows t 0 z→Knows (t++ #[x,y]) N z:=fun z U=>fork_knows K ah (by rw [h.deaf 0 ai];exact ao) (h.above N (Nat.le_refl _)) U;have hold:∀{z a},touchAt (t++ #[x,y]) z=some a→touchAt t z=some a:=by
  intro z a U;obtain⟨op,aq,ac⟩:=touch_of U;rcases getElem?_append_cases aq with⟨az,ar⟩ | ⟨_,au⟩
  ·rw [touchAt_of ar];exact ac
  ·rw [(hu op au).1] at ac;cases ac
 refine⟨fun i hi=>?_,fun i hi=>O.above i (by omega),fun z a b U hb Z V i hi av=>?_,fun z a b U hb Z V=>?_,fun z g hg aw ay=>?_,O.norel,O.Jz,fun k V K=>?_,fun e K=>?_,fun e K=>?_⟩
 ·rcases Nat.lt_or_ge i N with q | q
  ·rw [am i q];exact O.deaf i q
  ·obtain rfl:i=N:=by omega
   rw [an];exact O.above i (Nat.le_refl _)
 ·rcases Nat.lt_or_ge i N with q | q
  ·exact O.plain z a b U hb Z V i q av
  ·obtain rfl:i=N:=by omega
   exact ak z (h.plain z a b (hold U) hb Z V 0 ai (.inl rfl))
 ·have:=h.said z a b (hold U) hb Z V;rw [al] at this;simp only [Bool.false_eq_true,if_false] at this;split
  ·rename_i e;rw [(ab e).1];exact ak z this
  ·exact this.app _
 ·rcases O.over z g hg aw ay with q | q
  ·exact .inl q
  ·exact .inr ⟨q.1,by omega⟩
 ·obtain⟨a,b⟩:=ap k V K;exact O.rel k a b
 ·have:=(ab e).2;rw [this] at K;rcases K with q | q
  ·cases q
  ·exact q.elim
 ·have:=(ab e).2;rw [this] at K;exact K.elim
end
end Pal
namespace Pal
open Go Go.Conc
open Go.ConcN (upd upd_same upd_ne sumTo sumTo_upd sumTo_upd_out sumTo_congr le_sumTo sumTo_le fork_knows RelBy)
def Dn(N:Nat)(K r:Nat→Rk):Prop:=∃i,i<N∧Rk.sub (K i) (r i)∧∀j,j≠i→K j=r j
theorem Dn.wf:∀N,WellFounded (Dn N)
 | 0=>⟨fun _=>⟨_,fun _ ⟨_,h,_⟩=>by omega⟩⟩
 | N+1=>⟨by
  have key:∀x:Rk,∀r:Nat→Rk,r N=x→Acc (Dn (N+1)) r:=by
   intro x
   induction x using Rk.wf.induction with
   | _ x V=>
    intro r
    induction r using (Dn.wf N).induction with
    | _ r Y=>
     intro e
     refine⟨_,fun K ⟨i,hi,hs,O⟩=>?_⟩
     by_cases U:i=N
     ·subst U;exact V (K i) (by rw [← e];exact hs) K rfl
     ·exact Y K ⟨i,by omega,hs,O⟩ (by rw [O N (Ne.symm U),e])
  exact fun r=>key _ r rfl⟩
def chain:Nat→Rk
 | 0=> .leaf
 | n+1=> .node fun _=>chain n
theorem Re(n:Nat)(w:World):Rk.sub (chain n) (chain (n+1)):=⟨_,w,rfl,rfl⟩
def Mu:=Nat×(Nat×((Nat→Rk)×Nat))
def Mu.lt(a b:Mu):Prop:=a.1<b.1∨(a.1=b.1∧a.2.1=b.2.1∧(Dn b.2.1 a.2.2.1 b.2.2.1∨(a.2.2.1=b.2.2.1∧a.2.2.2<b.2.2.2)))
theorem Mu.wf:WellFounded Mu.lt:=⟨by
 have key:∀(A:Nat) (N:Nat) (r:Nat→Rk) (B:Nat),Acc Mu.lt (A,N,r,B):=by
  intro A
  induction A using Nat.strongRecOn with
  | _ A Z=>
   intro N r
   induction r using (Dn.wf N).induction with
   | _ r aa=>
    intro B
    induction B using Nat.strongRecOn with
    | _ B ab=>
     refine⟨_,fun⟨ac,ae,U,B'⟩ h=>?_⟩
     rcases h with h | ⟨K,O,h | ⟨V,Y⟩⟩
     ·exact Z ac h ae U B'
     ·simp only at K O h;subst K O;exact aa U h B'
     ·simp only at K O V Y;subst K O V;exact ab B' Y
 exact fun⟨A,N,r,B⟩=>key A N r B⟩
def wt(n:Nat):Nx→Nat
 | .gone _=>0
 | .ph p=>match p with
  | .Cj _=>10 | .CH=>9 | .FA=>8 | .G4=>7 | .Gd=>6 | .Fz=>5 | .FN=>4 | .DW=>3
  | .CK=>3*n+25 | .EP m=>3*m+20 | .Ge m=>3*m+19 | .GD=>14 | .Gk=>13 | .C4=>12 | .FO=>11 | .Ew=>10 | .GC=>9 | .FT=>8 | .Df=>7
  | .Es j=>5*n+60+20*(n - j) | .Gz j=>5*n+59+20*(n - j) | .Gh j=>5*n+58+20*(n - j) | .FQ j=>5*n+57+20*(n - j) | .Fj j=>5*n+56+20*(n - j) | .Ej j=>5*n+55+20*(n - j)
  | .ER=>5*n+60 | .B6 _ _=>2
theorem Pf{F:Fam}{p:Ph}{v w sm v' w' sm':Nat}{es:Array Event}{K:Nx}(h:F.act p v w sm=some ((v',w',sm'),es,K)):wt F.n K<wt F.n (.ph p):=by
 cases p <;> simp only [Fam.act] at h <;> (try (cases h;done))
 ·cases h;simp [wt]
 ·cases h;simp [wt]
 ·split at h
  ·cases h;split <;> simp [wt]
  ·cases h
 ·split at h
  ·cases h;simp [wt]
  ·cases h
 ·split at h
  ·cases h;simp [wt]
  ·cases h
 ·split at h
  ·cases h;simp [wt]
  ·cases h
 ·cases h;simp [wt]
 ·split at h
  ·cases h;split <;> simp [wt] <;> omega
  ·cases h
 ·split at h
  ·split at h <;> cases h <;> simp [wt] <;> omega
  ·cases h
 ·cases h;simp [wt]
 ·split at h
  ·cases h;simp [wt]
  ·cases h
 ·split at h
  ·cases h;simp [wt]
  ·cases h
 ·cases h;simp [wt]
 ·cases h;simp [wt]
 ·cases h;simp [wt]
 ·split at h
  ·cases h;split <;> simp [wt]
  ·cases h
 ·cases h;simp [wt]
 ·cases h;simp [wt]
 all_goals cases h;simp [wt]
inductive C8 (P:Program) (F:Fam) (main:Bool):Nx→Rk→Bool→Gs_
 | walk {p:Ph} {r:Rk} {g:Goroutine} {s:St}:main=Fam.C6 p→(Fam.Dx p=true→s= .quiet)→Jr P main (JQ (Stop P F p)) r g s→C8 P F main (.ph p) r true g s
 | again {K:List Nat} {vs:Lv_} {r:Rk} {g:Goroutine} {s:St} {z:Value}:main=true→Stop P F (.B6 K vs) g s→C8 P F main (.ph (.B6 K vs)) r true {parked g #[rcase F.ch z] (.recv true) with status:= .running} s
 | EN {K:List Nat} {vs:Lv_} {r:Rk} {g:Goroutine} {s:St} {z:Value}:main=true→Stop P F (.B6 K vs) g s→C8 P F main (.ph (.B6 K vs)) r false (parked g #[rcase F.ch z] (.recv true)) s
 | Fg {k:Nat} {r:Rk} {g:Goroutine} {s:St} {v z:Value}:main=false→F.msg k v s.E→s.q=false→Way P false (Stop P F .CH) (served g undef) s→C8 P F main (.ph (.Cj k)) r false (parked g #[scase F.ch v z] .send) s
 | blk {r:Rk} {g:Goroutine} {s:St}:main=false→Stop P F .C4 g s→C8 P F main (.ph .C4) r false {g with status:= .blocked} s
 | gone {q d:Nat} {g:Goroutine}:main=false→QuitsD P q d g→C8 P F main (.gone d) (chain q) true g .quiet
section
variable {P:Program}{F:Fam}{main:Bool}
theorem Jr.running{p:Ph}{r:Rk}{g:Goroutine}{s:St}(h:Jr P main (JQ (Stop P F p)) r g s):g.status= .running:=by
 cases r with
 | leaf=>obtain⟨s₀,_,hs⟩:=h;exact hs.law.run
 | node f=>
  rcases h with⟨s₀,_,hs⟩ | ⟨K,_⟩
  ·exact hs.law.run
  ·exact K
theorem Jr.at_{Q:GP}{r:Rk}{g:Goroutine}{s:St}(h:Q g s):Jr P main Q r g s:=by
 cases r with
 | leaf=>exact h
 | node f=>exact .inl h
theorem C8.awake{x:Nx}{r:Rk}{b:Bool}{g:Goroutine}{s:St}(h:C8 P F main x r b g s):Go.Conc.awake g:=by
 cases h with
 | walk _ _ K=>exact awake_of (.inl K.running)
 | again _ _=>exact awake_of (.inl rfl)
 | EN _ _=>exact awake_of (.inr (.inl rfl))
 | Fg _ _ _ _=>exact awake_of (.inr (.inl rfl))
 | blk _ _=>exact awake_of (.inr (.inl rfl))
 | gone _ O=>exact awake_of (O.status.elim .inl fun x=> .inr (.inr x))
theorem Qu{g:Goroutine}(h:g.status= .running):{({g with status:= .blocked}:Goroutine) with status:= .running}=g:=by
 obtain⟨a,b,c,d,e⟩:=g;simp only at h;subst h;rfl
theorem C8.woken{x:Nx}{r:Rk}{b:Bool}{o:Goroutine}{s:St}(h:C8 P F main x r b o s){g g':Goroutine}{w':World}{cl:Bool}{k:Nat}(Y:F.ChanAt w' cl k)(ai:cl=true→∀k,x≠ .ph (.Cj k)):
  ∃Z,C8 P F main x r Z (Go.Conc.woken P g g' w' o) s∧(b=true→Z=true)∧(mayWake P g=true→g'.status= .running→(x= .ph .C4∨cl=true)→Z=true):=by
 have hw:∀(o:Goroutine),mayWake P g=true→g'.status= .running→Go.Conc.woken P g g' w' o=o.again w':=by
  intro o K U;unfold Go.Conc.woken;rw [if_pos (by simp [K,U])]
 have V:∀(o:Goroutine),Go.Conc.woken P g g' w' o=o.again w'∨Go.Conc.woken P g g' w' o=o:=by
  intro o;unfold Go.Conc.woken;split
  ·exact .inl rfl
  ·exact .inr rfl
 cases h with
 | walk K U aa=>exact⟨true,by rw [woken_run aa.running];exact .walk K U aa,fun _=>rfl,fun _ _ _=>rfl⟩
 | again K hs=>exact⟨true,by rw [woken_run rfl];exact .again K hs,fun _=>rfl,fun _ _ _=>rfl⟩
 | @EN ak vs _ go _ z K hs=>
  cases cl with
  | false=>
   have:=again_recv_open (g:=go) (z:=z) (sh:= .recv true) (w:=w') Y;rcases V (parked go #[rcase F.ch z] (.recv true)) with e | e
   ·exact⟨false,by rw [e,this];exact .EN K hs,fun e=>e,fun _ _ h=>by simp at h⟩
   ·exact⟨false,by rw [e];exact .EN K hs,fun e=>e,fun _ _ h=>by simp at h⟩
  | true=>
   have:=again_recv_closed (g:=go) (z:=z) (sh:= .recv true) (w:=w') Y;by_cases O:mayWake P g=true∧g'.status= .running
   ·exact⟨true,by rw [hw _ O.1 O.2,this];exact .again K hs,fun e=>rfl,fun _ _ _=>rfl⟩
   ·rcases V (parked go #[rcase F.ch z] (.recv true)) with e | e
    ·exact⟨true,by rw [e,this];exact .again K hs,fun _=>rfl,fun a b=>absurd ⟨a,b⟩ O⟩
    ·exact⟨false,by rw [e];exact .EN K hs,fun e=>e,fun a b=>absurd ⟨a,b⟩ O⟩
 | @Fg k' _ go _ v z K U ab ac=>
  cases cl with
  | true=>exact absurd rfl (ai rfl k')
  | false=>
   have:=again_send_open (g:=go) (v:=v) (z:=z) (sh:= .send) (w:=w') Y;rcases V (parked go #[scase F.ch v z] .send) with e | e
   ·exact⟨false,by rw [e,this];exact .Fg K U ab ac,fun e=>e,fun _ _ h=>by simp at h⟩
   ·exact⟨false,by rw [e];exact .Fg K U ab ac,fun e=>e,fun _ _ h=>by simp at h⟩
 | @blk _ go _ K hs=>
  have ae:({go with status:= .blocked}:Goroutine).again w'=go:=by
   have:=hs.law.offers;have aj:({go with status:= .blocked}:Goroutine).again w'={({go with status:= .blocked}:Goroutine) with status:= .running}:=by simp [Goroutine.again,this]
   rw [aj];exact Qu hs.law.run
  have ag:C8 P F main (.ph .C4) r true go s:= .walk (p:= .C4) (by rw [K];rfl) (by simp [Fam.Dx]) (Jr.at_ ⟨s,.refl _,hs⟩);by_cases O:mayWake P g=true∧g'.status= .running
  ·exact⟨true,by rw [hw _ O.1 O.2,ae];exact ag,fun _=>rfl,fun _ _ _=>rfl⟩
  ·rcases V ({go with status:= .blocked}:Goroutine) with e | e
   ·exact⟨true,by rw [e,ae];exact ag,fun _=>rfl,fun a b=>absurd ⟨a,b⟩ O⟩
   ·exact⟨false,by rw [e];exact .blk K hs,fun e=>e,fun a b=>absurd ⟨a,b⟩ O⟩
 | gone K ah=>exact⟨true,by rw [woken_quitsD ah];exact .gone K ah,fun _=>rfl,fun _ _ _=>rfl⟩
end
structure Base where
 N0:Nat
 t0:Nat
 E0:LH
 w0:World
structure Inv (P:Program) (F:Fam) (B:Base) (gs:Array Goroutine) (w:World) (t:Trace) (φ:Nat→Nx) (r:Nat→Rk) (bt:Nat→Bool) (S:Nat→St) (Sh:Nat→Prop) (j:Nat) (c:Bool) (v wt sm:Nat) (cl:Bool) (k:Nat):Prop where
 Bp:B5 F B.N0 gs.size j c φ v wt sm cl
 DX:Dm F B.N0 B.t0 gs.size j c φ t
 DY:∀i g,gs[i]? =some g→C8 P F (i==0) (φ i) (r i) (bt i) g (S i)
 Cx:B7 t w gs.size S Sh
 G7:Sh F.wg
 FB:Sh F.ch
 ne:F.wg≠F.ch
 wg:F.WG w v wt sm
 Gj:F.ChanAt w cl k
 Ls:bt 0=false→cl=false∧∀i k',i<gs.size→φ i= .ph (.Cj k')→bt i=true
 blk:c=true→bt (B.N0+F.n)=false→sm=0
 le:Le B.E0 (S 0).E
 tape:w.tape=B.w0.tape
 os:w.os=B.w0.os
 output:w.output=B.w0.output
def bit(b:Bool):Nat:=if b then 1 else 0
def mu(F:Fam)(N:Nat)(φ:Nat→Nx)(r:Nat→Rk)(bt:Nat→Bool):Mu:=(sumTo N fun i=>wt F.n (φ i),N,r,sumTo N fun i=>bit (bt i))
section
variable {P:Program}{F:Fam}{B:Base}{gs:Array Goroutine}{w w':World}{t:Trace}{φ:Nat→Nx}{r:Nat→Rk}{bt:Nat→Bool}{S:Nat→St}{Sh:Nat→Prop}{j:Nat}{c:Bool}{v wt' sm v₁ wt₁ sm₁:Nat}{cl cl₁:Bool}{k k₁:Nat}
theorem Inv.at_(h:Inv P F B gs w t φ r bt S Sh j c v wt' sm cl k)(d:Nat):Inv P F B gs (w.at d) t φ r bt S Sh j c v wt' sm cl k:=
 have K:B7 t (w.at d) gs.size S Sh:=by
  have:=h.Cx.mute (u:= #[]) (w':=w.at d) (g:=0) (by simp) (by simp) (by simp) rfl;simpa using this
 {h with Cx:=K}
theorem Inv.go(h:Inv P F B gs w t φ r bt S Sh j c v wt' sm cl k){i:Nat}{g g':Goroutine}{es:Array Event}{x:Nx}{ρ:Rk}{s':St}(hi:gs[i]? =some g)
  (an:B5 F B.N0 gs.size j c (upd φ i x) v₁ wt₁ sm₁ cl₁)
  (ao:Dm F B.N0 B.t0 gs.size j c (upd φ i x) (t++MemOp.ofEvents i g.frame.fn g.frame.place es))
  (ap:C8 P F (i==0) x ρ true g' s')
  (hC:B7 (t++MemOp.ofEvents i g.frame.fn g.frame.place es) w' gs.size (upd S i s') Sh)
  (aq:F.WG w' v₁ wt₁ sm₁) (ah:F.ChanAt w' cl₁ k₁)
  (ar:cl₁=cl∨(mayWake P g=true∧g'.status= .running))
  (au:cl₁=true→∀ai k',ai<gs.size→φ ai≠ .ph (.Cj k'))
  (av:sm₁=sm∨sm₁=0∨(mayWake P g=true∧g'.status= .running∧φ (B.N0+F.n)= .ph .C4)∨(c=true→bt (B.N0+F.n)=true))
  (aw:i=0→Le (S 0).E s'.E) (ay:w'.tape=w.tape) (az:w'.os=w.os) (aA:w'.output=w.output) (aK:∀k',x= .ph (.Cj k')→φ i= .ph (.Cj k')):
  ∃O,Inv P F B ((gs.map (woken P g g' w')).setIfInBounds i g') w' (t++MemOp.ofEvents i g.frame.fn g.frame.place es) (upd φ i x) (upd r i ρ) O (upd S i s') Sh j c v₁ wt₁ sm₁ cl₁ k₁:=by
 have aB:i<gs.size:=(Array.getElem?_eq_some_iff.1 hi).1;have aa:((gs.map (woken P g g' w')).setIfInBounds i g').size=gs.size:=by simp
 have aj:∀a,∃Z,(a=i→Z=true)∧(a≠i→∀o,gs[a]? =some o→C8 P F (a==0) (φ a) (r a) Z (woken P g g' w' o) (S a)∧(bt a=true→Z=true)∧(mayWake P g=true→g'.status= .running→(φ a= .ph .C4∨cl₁=true)→Z=true)):=by
  intro a;by_cases e:a=i
  ·exact⟨true,fun _=>rfl,fun q=>absurd e q⟩
  ·cases K:gs[a]? with
   | none=>exact⟨true,fun _=>rfl,fun _ o q=>by cases q⟩
   | some o=>
    have V:a<gs.size:=(Array.getElem?_eq_some_iff.1 K).1;obtain⟨Z,aC,aD,aE⟩:=(h.DY a o K).woken (g:=g) (g':=g') ah fun q k'=>au q a k' V;exact⟨Z,fun q=>absurd q e,fun _ o' q=>by cases q;exact⟨aC,aD,aE⟩⟩
 let O:Nat→Bool:=fun a=>Classical.choose (aj a);have hb:∀a,(a=i→O a=true)∧(a≠i→∀o,gs[a]? =some o→C8 P F (a==0) (φ a) (r a) (O a) (woken P g g' w' o) (S a)∧(bt a=true→O a=true)∧(mayWake P g=true→g'.status= .running→(φ a= .ph .C4∨cl₁=true)→O a=true)):=fun a=>Classical.choose_spec (aj a);have ab:∀a,a<gs.size→bt a=true→O a=true:=by
  intro a V aF;by_cases e:a=i
  ·exact(hb a).1 e
  ·exact((hb a).2 e _ (Array.getElem?_eq_getElem V)).2.1 aF
 refine⟨O,by rw [aa];exact an,by rw [aa];exact ao,fun a o K=>?_,by rw [aa];exact hC,h.G7,h.FB,h.ne,aq,ah,fun U=>⟨?_,fun a k' V ak=>?_⟩,fun ac U=>?_,fun b o K=>?_,ay.trans h.tape,az.trans h.os,aA.trans h.output⟩
 ·by_cases e:a=i
  ·subst e;rw [Array.getElem?_setIfInBounds_self_of_lt (by simpa using aB)] at K;obtain rfl:=Option.some.inj K;rw [upd_same,upd_same,upd_same,(hb a).1 rfl];exact ap
  ·rw [Array.getElem?_setIfInBounds_ne (Ne.symm e),Array.getElem?_map] at K;obtain⟨o',aG,rfl⟩:=Option.map_eq_some_iff.1 K;rw [upd_ne _ _ e,upd_ne _ _ e,upd_ne _ _ e];exact((hb a).2 e o' aG).1
 ·have ae:0<gs.size:=by omega
  have aH:0≠i:=fun e=>by have:=(hb 0).1 e;rw [U] at this;cases this
  have Y:bt 0=false:=by
   cases q:bt 0 with
   | false=>rfl
   | true=>have:=ab 0 ae q;rw [U] at this;cases this
  cases al:cl₁ with
  | false=>rfl
  | true=>
   rcases ar with e | ⟨ag,e2⟩
   ·have:=(h.Ls Y).1;rw [← e,al] at this;cases this
   ·have:=((hb 0).2 aH _ (Array.getElem?_eq_getElem ae)).2.2 ag e2 (.inr al);rw [U] at this;cases this
 ·rw [aa] at V;have ae:0<gs.size:=by omega
  have Y:bt 0=false:=by
   cases q:bt 0 with
   | false=>rfl
   | true=>have:=ab 0 ae q;rw [U] at this;cases this
  by_cases e:a=i
  ·exact(hb a).1 e
  ·rw [upd_ne _ _ e] at ak;exact ab a V ((h.Ls Y).2 a k' V ak)
 ·have am:B.N0+F.n<gs.size:=by have:=h.Bp.size;have:=h.Bp.cj ac;rw [ac] at*;simp at*;omega
  have aI:B.N0+F.n≠i:=fun e=>by have:=(hb _).1 e;rw [U] at this;cases this
  have Y:bt (B.N0+F.n)=false:=by
   cases q:bt (B.N0+F.n) with
   | false=>rfl
   | true=>have:=ab _ am q;rw [U] at this;cases this
  rcases av with e | e | ⟨ag,e2,aJ⟩ | e
  ·rw [e];exact h.blk ac Y
  ·exact e
  ·have:=((hb _).2 aI _ (Array.getElem?_eq_getElem am)).2.2 ag e2 (.inl aJ);rw [U] at this;cases this
  ·rw [e ac] at Y;cases Y
 ·by_cases e:i=0
  ·subst e;rw [upd_same];exact aw rfl b o (h.le b o K)
  ·rw [upd_ne _ _ (Ne.symm e)];exact h.le b o K
end
end Pal
namespace Pal
open Go Go.Conc
open Go.ConcN (upd upd_same upd_ne sumTo sumTo_upd sumTo_upd_out sumTo_congr le_sumTo sumTo_le fork_knows RelBy)
def Over(P:Program)(F:Fam)(B:Base)(gs:Array Goroutine)(w:World)(t:Trace):Prop:=
 ∃q Sh g s,FC P gs w t q Sh g s∧F.fin g s∧Le B.E0 s.E∧w.tape=B.w0.tape∧w.os=B.w0.os∧w.output=B.w0.output
def Gy(P:Program)(F:Fam)(B:Base)(gs:Array Goroutine)(w:World)(sl:Option (Nat×Nat))(t:Trace)(i:Nat)(K:Mu):Prop:=
 ∃gs' w' O u,runT P (crowd gs w sl) i=(.next (crowd gs' w' O),u)∧
  ((∃φ r bt S Sh j c v wt' sm cl k,Inv P F B gs' w' (t++u) φ r bt S Sh j c v wt' sm cl k∧Mu.lt (mu F gs'.size φ r bt) K)∨Over P F B gs' w' (t++u))
section
variable {P:Program}{F:Fam}{B:Base}{gs:Array Goroutine}{w w':World}{sl:Option (Nat×Nat)}{t:Trace}{φ:Nat→Nx}{r:Nat→Rk}{bt:Nat→Bool}{S:Nat→St}{Sh:Nat→Prop}{j:Nat}{c:Bool}{v wt' sm v₁ wt₁ sm₁:Nat}{cl cl₁:Bool}{k k₁:Nat}
theorem PU{N:Nat}{φ K:Nat→Nx}{r U:Nat→Rk}{b V:Nat→Bool}{O:Nat}(h:(sumTo O fun i=>wt F.n (K i))<sumTo N fun i=>wt F.n (φ i)):Mu.lt (mu F O K U V) (mu F N φ r b):= .inl h
theorem TT{N i:Nat}{x:Nx}{ρ:Rk}{K:Nat→Bool}(hi:i<N)(h:wt F.n x<wt F.n (φ i)∨(wt F.n x=wt F.n (φ i)∧Rk.sub ρ (r i))):Mu.lt (mu F N (upd φ i x) (upd r i ρ) K) (mu F N φ r bt):=by
 have:=sumTo_upd φ x (wt F.n) hi;rcases h with h | ⟨V,O⟩
 ·exact .inl (by show(sumTo N fun a=>wt F.n (upd φ i x a))<sumTo N fun a=>wt F.n (φ a);omega)
 ·exact .inr ⟨by show(sumTo N fun a=>wt F.n (upd φ i x a))=sumTo N fun a=>wt F.n (φ a);omega,rfl,.inl ⟨i,hi,by show Rk.sub (upd r i ρ i) _;rw [upd_same];exact O,fun a U=>upd_ne _ _ U⟩⟩
theorem Inv.go'(h:Inv P F B gs w t φ r bt S Sh j c v wt' sm cl k){i:Nat}{g g':Goroutine}{es:Array Event}{x:Nx}{ρ:Rk}{s':St}(hi:gs[i]? =some g)(O:stepG P (i==0) g w= .go g' w' es)
  (U:B5 F B.N0 gs.size j c (upd φ i x) v₁ wt₁ sm₁ cl₁)
  (V:Dm F B.N0 B.t0 gs.size j c (upd φ i x) (t++MemOp.ofEvents i g.frame.fn g.frame.place es))
  (Y:C8 P F (i==0) x ρ true g' s')
  (hC:B7 (t++MemOp.ofEvents i g.frame.fn g.frame.place es) w' gs.size (upd S i s') Sh)
  (Z:F.WG w' v₁ wt₁ sm₁) (aa:F.ChanAt w' cl₁ k₁)
  (ab:cl₁=cl∨(mayWake P g=true∧g'.status= .running))
  (ac:cl₁=true→∀K k',K<gs.size→φ K≠ .ph (.Cj k'))
  (ae:sm₁=sm∨sm₁=0∨(mayWake P g=true∧g'.status= .running∧φ (B.N0+F.n)= .ph .C4)∨(c=true→bt (B.N0+F.n)=true))
  (ag:i=0→Le (S 0).E s'.E) (ah:w'.tape=w.tape) (ai:w'.os=w.os) (aj:w'.output=w.output) (ak:∀k',x= .ph (.Cj k')→φ i= .ph (.Cj k'))
  (hm:wt F.n x<wt F.n (φ i)∨(wt F.n x=wt F.n (φ i)∧Rk.sub ρ (r i))):Gy P F B gs w sl t i (mu F gs.size φ r bt):=by
 obtain⟨an,al⟩:=h.go hi U V Y hC Z aa ab ac ae ag ah ai aj ak;refine⟨_,_,_,_,runT_crowd_go hi O,.inl ⟨_,_,_,_,_,_,_,_,_,_,_,_,al,?_⟩⟩;have am:((gs.map (woken P g g' w')).setIfInBounds i g').size=gs.size:=by simp
 rw [am];exact TT (Array.getElem?_eq_some_iff.1 hi).1 hm
theorem Inv.noSend(h:Inv P F B gs w t φ r bt S Sh j c v wt' sm cl k)(Y:cl=true):∀K k',K<gs.size→φ K≠ .ph (.Cj k'):=by
 intro K k' U e;have hm:=h.Bp.mode;subst Y;have Z:v=0:=by
  split at hm
  ·cases V:φ (B.N0+F.n) with
   | gone d=>rw [V] at hm;exact hm.2.2.2.2.1
   | ph p=>rw [V] at hm;cases p <;> simp [CF] at hm
  ·simp [CF] at hm
 have aa:=h.Bp.cnt;have:=le_sumTo (f:=fun a=>cU (φ a)) U;simp only [e,cU] at this;have ab:(sumTo gs.size fun a=>cU (φ a))=0:=by omega
 have O:cU (φ K)≤sumTo gs.size fun a=>cU (φ a):=le_sumTo (f:=fun a=>cU (φ a)) U;rw [e] at O;simp only [cU] at O;have ac:1≤sumTo gs.size fun a=>cU (φ a):=O;omega
theorem Dm.Tr{F:Fam}{N0 t0 N j:Nat}{c:Bool}{φ:Nat→Nx}{t:Trace}(h:Dm F N0 t0 N j c φ t)(K:B5 F N0 N j c φ v wt' sm cl){i:Nat}(hi:i<N){fn:FuncId}{pos:String}{es:Array Event}{p:Ph}(V:φ i= .ph p)
  (Y:∀e∈es,(∀a b,(MemAct.ofEvent e).touch? =some a→Dd a.loc=some b→b≠F.wg∧b≠F.ch)∧e.loc≠ .mark (.release F.sA)∧e.loc≠ .mark .disable∧e.loc≠ .mark .enable)
  (ab:Fam.Dx p=true→es= #[]):Dm F N0 t0 N j c φ (t++MemOp.ofEvents i fn pos es):=by
 have ac:i=0∨N0≤i:=by
  rcases K.Ey hi with rfl | ⟨a,b⟩ | ⟨k,aa,rfl⟩ | ⟨U,rfl⟩
  ·exact .inl rfl
  ·have:=K.old i a b;rw [V] at this;exact this.elim
  ·exact .inr (by omega)
  ·exact .inr (by omega)
 have:=h.app (x:=φ i) (fn:=fn) (pos:=pos) (es:=es) hi K.jn (deafBehind_still (fun e he=>⟨(Y e he).2.2.1,(Y e he).2.2.2⟩) _) (fun e he=>⟨fun a b ae hb ag=>absurd ag (by have:=(Y e he).1 a b ae hb;rintro(q | q);exact this.1 q;exact this.2 q),(Y e he).2.1⟩) (.inl ac)
  (fun U O=>K.Ks U O) (fun k aa e Z ρ ah=>?_) (fun k aa e Z ai=>absurd Z ai) (fun U e O=> .inr O) (fun U e O=>by rw [V] at O;exact O.elim)
 ·rwa [L2] at this
 ·
  have ak:=K.size;have al:=K.jn;have aj:k<j:=by
   rcases K.Ey hi with q | ⟨a,b⟩ | ⟨k',am,q⟩ | ⟨U,q⟩
   ·have:=K.pos;omega
   ·omega
   ·omega
   ·omega
  have hw:=K.work k aj;rw [← e,V] at hw;rw [V] at Z;have:es= #[]:=ab (by cases p <;> simp only [GV] at hw <;> (try exact hw.elim) <;> first | rfl | exact Z.elim)
  subst this;have:MemOp.ofEvents i fn pos #[]= #[]:=by rw [ofEvents_eq];simp
  rw [this];simpa using ah
theorem Inv.own(h:Inv P F B gs w t φ r bt S Sh j c v wt' sm cl k){i:Nat}{g g':Goroutine}{es:Array Event}{p:Ph}{ρ:Rk}{s':St}(hi:gs[i]? =some g)(O:φ i= .ph p)(ae:(i==0)=Fam.C6 p)(aa:Fam.Dx p=true→S i= .quiet)
  (ag:stepG P (i==0) g w= .go g' w' es) (ah:Jr P (i==0) (JQ (Stop P F p)) ρ g' s') (ai:Fits s' w') (K:Fr (S i) w s' w') (V:∀e∈es,Ev (S i) w w' e) (ab:S i= .quiet→s'= .quiet∧w'=w∧es= #[]) (aj:Rk.sub ρ (r i)):
  Gy P F B gs w sl t i (mu F gs.size φ r bt):=by
 have U:i<gs.size:=(Array.getElem?_eq_some_iff.1 hi).1;have ac:upd φ i (.ph p)=φ:=by rw [← O];exact L2 _ _
 have Y:=h.Cx.sh i U F.wg h.G7;have Z:=h.Cx.sh i U F.ch h.FB;have ak:=h.Cx.Eu F.wg h.G7;have al:=h.Cx.Eu F.ch h.FB;have am:∀b wr,Fa (S i) w w' b wr→b≠F.wg∧b≠F.ch:=by
  intro b wr ht;constructor
  ·rintro rfl;rcases ht.2 with q | q | ⟨q,_⟩
   ·exact q Y.1
   ·omega
   ·exact q Y.2
  ·rintro rfl;rcases ht.2 with q | q | ⟨q,_⟩
   ·exact q Z.1
   ·omega
   ·exact q Z.2
 refine h.go' hi ag (k₁:=k) (x:= .ph p) (ρ:=ρ) (s':=s') (by rw [ac];exact h.Bp) (by
   rw [ac]
   refine h.DX.Tr h.Bp U O (fun e he=>⟨fun a b an hb=>am b a.write (Ko (V e he) an hb),?_,?_,?_⟩) fun q=>(ab (aa q)).2.2
   all_goals
    intro ao
    have:=V e he
    unfold Ev at this
    rw [ao] at this
    exact this)
  (.walk ae (fun q=>(ab (aa q)).1) ah) (h.Cx.own U ai K V) ?_ ?_ (.inl rfl) (fun q=>h.noSend q) (.inl rfl) (fun e=>by subst e;exact fun b o ap=>K.ext b o ap) K.tape K.os K.output (fun k' e=>by rw [O];exact e) (.inr ⟨by rw [O],aj⟩)
 ·show w'.heap[F.wg]? =_;rw [K.keep _ ak Y.1];exact h.wg
 ·show w'.heap[F.ch]? =_;rw [K.keep _ al Z.1];exact h.Gj
theorem Inv.slip(h:Inv P F B gs w t φ r bt S Sh j c v wt' sm cl k){i:Nat}{g:Goroutine}(hi:gs[i]? =some g)(U:g.status= .running){d q:Nat}(K:φ i= .gone d)(V:r i=chain q)(Y:(i==0)=false)(ab:QuitsD P q d g)(ai:S i= .quiet):
  Gy P F B gs w sl t i (mu F gs.size φ r bt):=by
 have ac:i<gs.size:=(Array.getElem?_eq_some_iff.1 hi).1;cases q with
 | zero=>rw [ab.1] at U;cases U
 | succ q=>
  rcases ab with⟨aj,_⟩ | ⟨_,g',es,hm,ak,al⟩
  ·rw [aj] at U;cases U
  have am:∀op∈MemOp.ofEvents i g.frame.fn g.frame.place es,op.act.touch? =none:=fun op O=>by obtain⟨e,he,rfl⟩:=mem_ofEvents O;exact touch_mute (hm e he)
  have an:∀e∈es,e.loc≠ .mark (.release F.sA):=by
   intro e he ae;have:=hm e he;obtain⟨loc,wr,ar⟩:=e;simp only at ae;subst ae;simp [Event.mute] at this
  refine h.go' hi (by rw [Y];exact ak w) (x:= .gone (deafBehind d es)) (ρ:=chain q) (s':= .quiet) (h.Bp.leave ac K) ?_ (.gone Y al) ?_ h.wg h.Gj (.inl rfl) (fun q=>h.noSend q) (.inl rfl) (fun e=>by subst e;simp at Y) rfl rfl rfl (by simp) (.inr ⟨by rw [K];rfl,by rw [V];exact Re q w⟩)
  ·refine h.DX.app ac h.Bp.jn (by rw [K];rfl) (fun e he=>⟨fun a b ag=>(by rw [touch_mute (hm e he)] at ag;cases ag),an e he⟩) (.inr fun e he=>touch_mute (hm e he)) (fun Z aa=>h.Bp.Ks Z aa) (fun k ao e ap ρ V=>?_) (fun k ao e ap ah=>by rw [K] at ah;exact absurd trivial ah) (fun Z e aa=> .inr (.inr (by rw [K];trivial))) (fun Z e aa=> .inr ⟨by rw [K];trivial,fun e he=>touch_mute (hm e he)⟩);exact V.appOwn _ _ es fun m e he=> .inl (touch_mute (hm e (Array.mem_of_getElem? he)))
  ·have aq:upd S i .quiet=S:=by rw [← ai];exact L2 _ _
   rw [aq];exact h.Cx.mute (g:=i) (fun op O=>by obtain⟨e,_,rfl⟩:=mem_ofEvents O;rfl) am (fun op O=>by obtain⟨e,he,rfl⟩:=mem_ofEvents O;exact low_mute (hm e he) _) rfl
theorem B5.enabled{N0 N:Nat}(h:B5 F N0 N j c φ v wt' sm cl){i:Nat}(hi:i<N){p:Ph}(K:φ i= .ph p)(ak:∀k,p≠ .Cj k)(al:∀k,p≠ .Ej k)(am:p≠ .ER)(an:∀ao vs,p≠ .B6 ao vs)(ap:p≠ .Df)(aq:p= .C4→sm=1):
  ∃v' w' sm' es ar,F.act p v wt' sm=some ((v',w',sm'),es,ar):=by
 have hm:=h.mode;have ay:=h.P9;have az:=h.Hx;have O:=h.cnt;have Z:cU (φ i)≤sumTo N fun a=>cU (φ a):=le_sumTo (f:=fun a=>cU (φ a)) hi;have aa:cL (φ i)≤sumTo N fun a=>cL (φ a):=le_sumTo (f:=fun a=>cL (φ a)) hi;have ag:cS (φ i)≤sumTo N fun a=>cS (φ a):=le_sumTo (f:=fun a=>cS (φ a)) hi;rw [K] at Z aa ag;have au:wt'≤1:=by
  generalize (if c=true then φ (N0+F.n) else Nx.ph .CK)=y at hm
  cases y with
  | gone d=>simp only [CF] at hm;omega
  | ph q=>cases q <;> simp only [CF] at hm <;> (try exact hm.elim) <;> omega
 have ab:1≤(sumTo N fun a=>cL (φ a))+(sumTo N fun a=>cS (φ a))→v=0∧sm=0∧wt'=sumTo N fun a=>cL (φ a):=by
  intro hh;generalize (if c=true then φ (N0+F.n) else Nx.ph .CK)=y at hm
  cases y with
  | gone d=>simp only [CF] at hm;omega
  | ph q=>cases q <;> simp only [CF] at hm <;> (try exact hm.elim) <;> omega
 have ac:∀x,φ i= .ph x→Gw (.ph x)→c=true∧(if c=true then φ (N0+F.n) else Nx.ph .CK)= .ph x:=by
  intro x V ah;rcases h.Ey hi with rfl | ⟨a,b⟩ | ⟨k,ae,rfl⟩ | ⟨O,rfl⟩
  ·obtain⟨q,U,Y⟩:=h.main;rw [V] at U;cases U;cases x <;> simp [Gu] at Y <;> exact ah.elim
  ·have:=h.old i a b;rw [V] at this;exact this.elim
  ·have:=h.work k ae;rw [V] at this;cases x <;> simp [GV] at this <;> exact ah.elim
  ·exact⟨O,by rw [if_pos O];exact V⟩
 cases p <;> simp only [Fam.act]
 ·exact absurd rfl (ak _)
 ·exact⟨_,_,_,_,_,rfl⟩
 ·exact⟨_,_,_,_,_,rfl⟩
 ·simp only [cU] at Z;have:1≤v:=by
   have aA:1≤sumTo N fun a=>cU (φ a):=Z;omega
  rw [if_pos ⟨this,by omega,au⟩];exact⟨_,_,_,_,_,rfl⟩
 ·have av:1≤sumTo N fun a=>cL (φ a):=aa;have:=ab (by omega);rw [if_pos ⟨this.1,by omega⟩];exact⟨_,_,_,_,_,rfl⟩
 ·have av:1≤sumTo N fun a=>cL (φ a):=aa;have:=ab (by omega);rw [if_pos ⟨this.1,by omega⟩];exact⟨_,_,_,_,_,rfl⟩
 ·have aB:1≤sumTo N fun a=>cS (φ a):=ag;have:=ab (by omega);rw [if_pos this.2.1];exact⟨_,_,_,_,_,rfl⟩
 ·exact⟨_,_,_,_,_,rfl⟩
 ·obtain⟨ai,e⟩:=ac _ K trivial;rw [e] at hm;rw [if_pos ⟨hm.2.2.2.2.2,hm.2.2.2.1⟩];exact⟨_,_,_,_,_,rfl⟩
 ·obtain⟨ai,e⟩:=ac _ K trivial;rw [e] at hm;rw [if_pos ⟨hm.2.2.2.2.2.1,hm.2.2.2.2.2.2,hm.2.2.2.1⟩];split <;> exact⟨_,_,_,_,_,rfl⟩
 ·exact⟨_,_,_,_,_,rfl⟩
 ·rw [if_pos (aq rfl)];exact⟨_,_,_,_,_,rfl⟩
 ·obtain⟨ai,e⟩:=ac _ K trivial;rw [e] at hm;rw [if_pos ⟨hm.2.2.2.2.1,hm.2.2.2.1⟩];exact⟨_,_,_,_,_,rfl⟩
 ·exact⟨_,_,_,_,_,rfl⟩
 ·exact⟨_,_,_,_,_,rfl⟩
 ·exact absurd rfl ap
 ·exact⟨_,_,_,_,_,rfl⟩
 ·have aw:c=false∧v≤j∧j<F.n:=by
   rcases h.Ey hi with rfl | ⟨a,b⟩ | ⟨k,ae,rfl⟩ | ⟨O,rfl⟩
   ·obtain⟨q,U,Y⟩:=h.main;rw [K] at U;cases U;have aj:=h.G5;rw [K] at aj;exact⟨Y.2.2,by simpa [pend] using aj,Y.2.1⟩
   ·have:=h.old i a b;rw [K] at this;exact this.elim
   ·have:=h.work k ae;rw [K] at this;exact this.elim
   ·have:=h.cls O;rw [K] at this;exact this.elim
  rw [aw.1] at hm;simp only [Bool.false_eq_true,if_false,CF] at hm;rw [if_pos ⟨by omega,hm.2.2.2.1⟩];exact⟨_,_,_,_,_,rfl⟩
 ·exact⟨_,_,_,_,_,rfl⟩
 ·exact⟨_,_,_,_,_,rfl⟩
 ·exact absurd rfl (al _)
 ·exact absurd rfl am
 ·exact absurd rfl (an _ _)
 all_goals exact⟨_,_,_,_,_,rfl⟩
end
end Pal
namespace Pal
open Go Go.Conc
open Go.ConcN (upd upd_same upd_ne sumTo sumTo_upd sumTo_upd_out sumTo_congr le_sumTo sumTo_le fork_knows RelBy)
theorem L6{α:Type}(f:Nat→α)(i:Nat)(x y:α):upd (upd f i x) i y=upd f i y:=by
 funext a;unfold upd;split <;> rfl
section
variable {P:Program}{F:Fam}{B:Base}{gs:Array Goroutine}{w w':World}{sl:Option (Nat×Nat)}{t:Trace}{φ:Nat→Nx}{r:Nat→Rk}{bt:Nat→Bool}{S:Nat→St}{Sh:Nat→Prop}{j:Nat}{c:Bool}{v wt' sm v₁ wt₁ sm₁:Nat}{cl cl₁:Bool}{k k₁:Nat}
theorem T2{p:Ph}{es:Array Event}{O:Nx}(K:F.act p v wt' sm=some ((v₁,wt₁,sm₁),es,O)):
  (∀q,O= .ph q→Fam.C6 q=Fam.C6 p∧(Fam.Dx q=true→p= .FA∨Fam.Dx p=true))∧(∀k,O≠ .ph (.Cj k))∧(sm₁=sm∨sm₁=0∨p= .DW)∧(∀d,O= .gone d→Fam.C6 p=false):=by
 cases p <;> simp only [Fam.act] at K <;> (try (cases K;done))
 ·cases K;exact⟨fun q e=>by cases e;exact⟨rfl,fun _=> .inl rfl⟩,by simp,.inl rfl,by simp⟩
 ·cases K;exact⟨fun q e=>by cases e;exact⟨rfl,fun _=> .inr rfl⟩,by simp,.inl rfl,by simp⟩
 ·split at K
  ·cases K;refine⟨fun q e=>?_,?_,.inl rfl,fun _ _=>rfl⟩
   ·split at e
    ·cases e;exact⟨rfl,fun _=> .inr rfl⟩
    ·cases e
   ·intro k;split <;> simp
  ·cases K
 ·split at K
  ·cases K;exact⟨fun q e=>by cases e;exact⟨rfl,fun _=> .inr rfl⟩,by simp,.inl rfl,by simp⟩
  ·cases K
 ·split at K
  ·cases K;exact⟨fun q e=>by cases e;exact⟨rfl,fun _=> .inr rfl⟩,by simp,.inl rfl,by simp⟩
  ·cases K
 ·split at K
  ·cases K;exact⟨fun q e=>(by cases e),by simp,.inr (.inr rfl),fun _ _=>rfl⟩
  ·cases K
 ·cases K;exact⟨fun q e=>by cases e;exact⟨rfl,fun h=>by cases h⟩,by simp,.inl rfl,by simp⟩
 ·split at K
  ·cases K;refine⟨fun q e=>?_,?_,.inl rfl,?_⟩
   ·split at e <;> cases e <;> exact⟨rfl,fun h=>by cases h⟩
   ·intro k;split <;> simp
   ·intro d;split <;> simp
  ·cases K
 ·split at K
  ·split at K
   ·cases K;exact⟨fun q e=>by cases e;exact⟨rfl,fun h=>by cases h⟩,by simp,.inl rfl,by simp⟩
   ·cases K;exact⟨fun q e=>by cases e;exact⟨rfl,fun h=>by cases h⟩,by simp,.inl rfl,by simp⟩
  ·cases K
 ·cases K;exact⟨fun q e=>by cases e;exact⟨rfl,fun h=>by cases h⟩,by simp,.inl rfl,by simp⟩
 ·split at K
  ·cases K;exact⟨fun q e=>by cases e;exact⟨rfl,fun h=>by cases h⟩,by simp,.inr (.inl rfl),by simp⟩
  ·cases K
 ·split at K
  ·cases K;exact⟨fun q e=>by cases e;exact⟨rfl,fun h=>by cases h⟩,by simp,.inl rfl,by simp⟩
  ·cases K
 ·cases K;exact⟨fun q e=>by cases e;exact⟨rfl,fun h=>by cases h⟩,by simp,.inl rfl,by simp⟩
 ·cases K;exact⟨fun q e=>by cases e;exact⟨rfl,fun h=>by cases h⟩,by simp,.inl rfl,by simp⟩
 ·cases K;exact⟨fun q e=>by cases e;exact⟨rfl,fun h=>by cases h⟩,by simp,.inl rfl,by simp⟩
 ·split at K
  ·cases K;refine⟨fun q e=>?_,?_,.inl rfl,?_⟩
   ·split at e <;> cases e <;> exact⟨rfl,fun h=>by cases h⟩
   ·intro k;split <;> simp
   ·intro d;split <;> simp
  ·cases K
 ·cases K;exact⟨fun q e=>by cases e;exact⟨rfl,fun h=>by cases h⟩,by simp,.inl rfl,by simp⟩
 all_goals
  cases K;exact⟨fun q e=>by cases e;exact⟨rfl,fun h=>by cases h⟩,by simp,.inl rfl,by simp⟩
theorem RZ(w:World)(v wt sm:Nat):(F.put w v wt sm).heap.size=w.heap.size:=by simp [Fam.put]
theorem PH(w:World)(v wt sm:Nat){b:Nat}(h:b≠F.wg):(F.put w v wt sm).heap[b]? =w.heap[b]? :=by simp [Fam.put,Array.getElem?_setIfInBounds_ne (Ne.symm h)]
theorem Pr(w:World)(v wt sm:Nat)(h:F.wg<w.heap.size):F.WG (F.put w v wt sm) v wt sm:=by simp [Fam.WG,Fam.put,h]
theorem Inv.act(h:Inv P F B gs w t φ r bt S Sh j c v wt' sm cl k){i:Nat}{g:Goroutine}(hi:gs[i]? =some g){p:Ph}(Y:φ i= .ph p)(U:(i==0)=Fam.C6 p){s₀:St}(hg:Cf (S i) s₀)(hs:Stop P F p g s₀)
  {es:Array Event} {aj:Nx} (O:F.act p v wt' sm=some ((v₁,wt₁,sm₁),es,aj)):Gy P F B gs w sl t i (mu F gs.size φ r bt):=by
 have Z:i<gs.size:=(Array.getElem?_eq_some_iff.1 hi).1;obtain⟨g',aw,ay,ak⟩:=hs.law.act _ _ _ _ _ _ _ _ O;obtain⟨n1,n2,az,aA⟩:=T2 O;have aa:=h.Cx.Eu F.wg h.G7;have al:=h.Bp.act Z Y O;obtain⟨am,an,aB⟩:=h.DX.act h.Bp Z Y O g.frame.fn g.frame.place;have aC:B7 t w gs.size (upd S i s₀) Sh:=h.Cx.ghost Z hg;have ab:B7 (t++MemOp.ofEvents i g.frame.fn g.frame.place es) (F.put w v₁ wt₁ sm₁) gs.size (upd S i s₀) Sh:=by
  refine aC.ext (h.DX.noRace h.Cx.clean Z aB an) (fun op ac a aD b hb=>?_) (fun op ac=>?_) (RZ ..) (fun b hb=>PH _ _ _ _ fun e=>hb (e▸h.G7))
  ·obtain⟨e,he,rfl⟩:=mem_ofEvents ac;obtain⟨⟨aK,ao,aE⟩,_⟩:=(an e he).1 a aD;rw [hb] at ao;cases ao;rcases aE with rfl | rfl
   ·exact h.G7
   ·exact h.FB
  ·obtain⟨e,he,rfl⟩:=mem_ofEvents ac;exact(PF p O).2.2 e he _ aa
 have ap:stepG P (i==0) g w= .go g' (F.put w v₁ wt₁ sm₁) es:=by rw [U];exact aw w h.wg
 have aq:F.ChanAt (F.put w v₁ wt₁ sm₁) cl k:=by show(F.put w v₁ wt₁ sm₁).heap[F.ch]? =_;rw [PH _ _ _ _ (Ne.symm h.ne)];exact h.Gj
 have ar:sm₁=sm∨sm₁=0∨(mayWake P g=true∧g'.status= .running∧φ (B.N0+F.n)= .ph .C4)∨(c=true→bt (B.N0+F.n)=true):=by
  rcases az with q | q | q
  ·exact .inl q
  ·exact .inr (.inl q)
  ·subst q;have aF:=hs.law.Gc (.inl rfl);by_cases e:φ (B.N0+F.n)= .ph .C4
   ·exact .inr (.inr (.inl ⟨aF,ay,e⟩))
   ·refine .inr (.inr (.inr fun ae=>?_));have aG:B.N0+F.n<gs.size:=by have au:=h.Bp.size;have aL:=h.Bp.cj ae;rw [ae] at au;simp at au;omega
    obtain⟨o,K⟩:∃o,gs[B.N0+F.n]? =some o:=⟨_,Array.getElem?_eq_getElem aG⟩;have V:=h.DY _ _ K;generalize r (B.N0+F.n)=aM at V;generalize S (B.N0+F.n)=aN at V;have ag:=h.Bp.cls ae;generalize hb:bt (B.N0+F.n)=b at V ⊢;generalize aO:φ (B.N0+F.n)=x at V ag e;cases V with
    | walk _ _ _=>rfl
    | again _ _=>rfl
    | EN _ _=>exact ag.elim
    | Fg _ _ _ _=>exact ag.elim
    | blk _ _=>exact absurd rfl e
    | gone _ _=>rfl
 cases aj with
 | ph q=>
  obtain⟨aH,aI⟩:=n1 q rfl;obtain⟨ρ,aJ⟩:=ak;have ah:B7 (t++MemOp.ofEvents i g.frame.fn g.frame.place es) (F.put w v₁ wt₁ sm₁) gs.size (upd S i (Fam.FU p s₀)) Sh:=by
   by_cases e:p= .FA
   ·subst e;have:=ab.less (i:=i) (s':= .quiet) (fun b o K=>by cases K) (fun b o K=>by cases K)
    rwa [L6] at this
   ·have:Fam.FU p s₀=s₀:=by cases p <;> first | rfl | exact absurd rfl e
    rw [this];exact ab
  refine h.go' hi ap al am (x:= .ph q) (ρ:=ρ) (s':=Fam.FU p s₀) (.walk (by rw [U,aH]) (fun ai=>?_) (by rw [U];exact aJ)) ah (Pr _ _ _ _ aa) aq (.inl rfl) (fun e=>h.noSend e) ar (fun e=>?_) rfl rfl rfl (fun k' e=>absurd e (n2 k')) (.inl (by rw [Y];exact Pf O))
  ·rcases aI ai with e | e
   ·subst e;rfl
   ·have:Fam.FU p s₀=s₀:=by cases p <;> first | rfl | cases e
    rw [this];exact hs.law.quiet e
  ·have:Fam.FU p s₀=s₀:=by
    cases p <;> first | rfl | (subst e;simp [Fam.C6] at U)
   rw [this];subst e;exact fun b o K=>hg.ext b o K
 | gone d=>
  obtain⟨q,ai⟩:=ak;have av:(i==0)=false:=by rw [U];exact aA d rfl
  have ah:B7 (t++MemOp.ofEvents i g.frame.fn g.frame.place es) (F.put w v₁ wt₁ sm₁) gs.size (upd S i .quiet) Sh:=by
   have:=ab.less (i:=i) (s':= .quiet) (fun b o K=>by cases K) (fun b o K=>by cases K)
   rwa [L6] at this
  exact h.go' hi ap al am (x:= .gone d) (ρ:=chain q) (s':= .quiet) (.gone av ai) ah (Pr _ _ _ _ aa) aq (.inl rfl) (fun e=>h.noSend e) ar (fun e=>by subst e;simp at av) rfl rfl rfl (fun k' e=>absurd e (n2 k')) (.inl (by rw [Y];exact Pf O))
theorem Qv{g g' o:Goroutine}(h:g'.status= .blocked):woken P g g' w o=o:=by
 unfold woken;rw [if_neg (by simp [h])]
theorem Inv.rest(h:Inv P F B gs w t φ r bt S Sh j c v wt' sm cl k){i:Nat}{g':Goroutine}{u:Trace}{s₀:St}(ab:i<gs.size)(aj:bt i=true)(hg:Cf (S i) s₀)(ak:C8 P F (i==0) (φ i) (r i) false g' s₀)(hu:u= #[])
  (al:i=0→cl=false∧∀a k',a<gs.size→φ a= .ph (.Cj k')→bt a=true) (hsend:∀k',φ i= .ph (.Cj k')→bt 0=true) (am:c=true→i=B.N0+F.n→sm=0):
  ∃ag,Inv P F B (gs.setIfInBounds i g') w (t++u) φ r ag (upd S i s₀) Sh j c v wt' sm cl k∧Mu.lt (mu F (gs.setIfInBounds i g').size φ r ag) (mu F gs.size φ r bt):=by
 subst hu;have O:(gs.setIfInBounds i g').size=gs.size:=by simp
 have an:t++(#[]:Trace)=t:=by simp
 have aa:∀{a},a≠i→upd bt i false a=bt a:=fun e=>upd_ne _ _ e;rw [an];refine⟨upd bt i false,⟨by rw [O];exact h.Bp,by rw [O];exact h.DX,fun a o U=>?_,by rw [O];exact h.Cx.ghost ab hg,h.G7,h.FB,h.ne,h.wg,h.Gj,fun K=>?_,fun ah K=>?_,?_,h.tape,h.os,h.output⟩,?_⟩
 ·by_cases e:a=i
  ·subst e;rw [Array.getElem?_setIfInBounds_self_of_lt ab] at U;obtain rfl:=Option.some.inj U;rw [upd_same,upd_same];exact ak
  ·rw [Array.getElem?_setIfInBounds_ne (Ne.symm e)] at U;rw [upd_ne _ _ e,upd_ne _ _ e];exact h.DY a o U
 ·by_cases e:0=i
  ·subst e;obtain⟨ac,ae⟩:=al rfl;refine⟨ac,fun a k' V Y=>?_⟩;rw [O] at V;by_cases Z:a=0
   ·subst Z;obtain⟨p,ai,hm⟩:=h.Bp.main;rw [Y] at ai;cases ai;exact hm.elim
   ·rw [aa Z];exact ae a k' V Y
  ·rw [aa e] at K;obtain⟨ac,ae⟩:=h.Ls K;refine⟨ac,fun a k' V Y=>?_⟩;rw [O] at V;by_cases Z:a=i
   ·subst Z;rw [hsend k' Y] at K;cases K
   ·rw [aa Z];exact ae a k' V Y
 ·by_cases e:B.N0+F.n=i
  ·exact am ah e.symm
  ·rw [aa e] at K;exact h.blk ah K
 ·by_cases e:0=i
  ·subst e;rw [upd_same];exact fun b o U=>hg.ext b o (h.le b o U)
  ·rw [upd_ne _ _ e];exact h.le
 ·rw [O];have:=sumTo_upd bt false bit ab;rw [aj] at this;exact .inr ⟨rfl,rfl,.inr ⟨rfl,by show(sumTo gs.size fun a=>bit (upd bt i false a))<sumTo gs.size fun a=>bit (bt a);simp only [bit] at this ⊢;simp only [if_true,Bool.false_eq_true,if_false] at this;omega⟩⟩
theorem Inv.block(h:Inv P F B gs w t φ r bt S Sh j c v wt' sm cl k){i:Nat}{g:Goroutine}(hi:gs[i]? =some g)(O:φ i= .ph .C4)(V:bt i=true)(K:(i==0)=false){s₀:St}(hg:Cf (S i) s₀)(hs:Stop P F .C4 g s₀)(Y:sm=0):
  Gy P F B gs w sl t i (mu F gs.size φ r bt):=by
 have Z:i<gs.size:=(Array.getElem?_eq_some_iff.1 hi).1;subst Y;have aa:=hs.law.DZ rfl w v wt' h.wg;have U:=runT_crowd_go (P:=P) (sl:=sl) (i:=i) hi (by rw [K];exact aa);have ab:(gs.map (woken P g {g with status:= .blocked} w)).setIfInBounds i {g with status:= .blocked}=gs.setIfInBounds i {g with status:= .blocked}:=by
  have:(woken P g {g with status:= .blocked} w)=id:=by funext o;exact Qv rfl
  rw [this,Array.map_id]
 rw [ab] at U;obtain⟨ag,ac,ae⟩:=h.rest (g':={g with status:= .blocked}) (u:=MemOp.ofEvents i g.frame.fn g.frame.place #[]) Z V hg (by rw [O];exact .blk K hs) (by rw [ofEvents_eq];simp) (fun e=>by subst e;simp at K) (fun k' e=>by rw [O] at e;cases e) (fun _ _=>rfl);exact⟨_,_,_,_,U,.inl ⟨_,_,_,_,_,_,_,_,_,_,_,_,ac,ae⟩⟩
theorem Inv.close(h:Inv P F B gs w t φ r bt S Sh j c v wt' sm cl k){i:Nat}{g:Goroutine}(hi:gs[i]? =some g)(K:φ i= .ph .Df)(ab:(i==0)=false){s₀:St}(hs:Stop P F .Df g s₀):
  Gy P F B gs w sl t i (mu F gs.size φ r bt):=by
 have Y:i<gs.size:=(Array.getElem?_eq_some_iff.1 hi).1;have ao:c=true∧i=B.N0+F.n:=by
  rcases h.Bp.Ey Y with rfl | ⟨a,b⟩ | ⟨k',ap,rfl⟩ | q
  ·simp at ab
  ·have:=h.Bp.old i a b;rw [K] at this;exact this.elim
  ·have:=h.Bp.work k' ap;rw [K] at this;exact this.elim
  ·exact q
 obtain⟨O,rfl⟩:=ao;have aq:cl=false:=by
  have hm:=h.Bp.mode;rw [if_pos O,K] at hm;exact hm.2.2.2.2.2
 subst aq;have aG:v=0:=by
  have hm:=h.Bp.mode;rw [if_pos O,K] at hm;exact hm.2.2.2.2.1
 obtain⟨g',ar,au,q,av⟩:=hs.law.close rfl;have ag:=h.Cx.Eu F.ch h.FB;have aw:=hs.law.Gc (.inr rfl);have ay:MemOp.ofEvents (B.N0+F.n) g.frame.fn g.frame.place (closeEvents F.ch)= #[{g:=B.N0+F.n,fn:=g.frame.fn,pos:=g.frame.place,act:= .access ⟨.obj F.ch,false,true⟩},{g:=B.N0+F.n,fn:=g.frame.fn,pos:=g.frame.place,act:= .close F.ch}]:=by
  simp [MemOp.ofEvents,closeEvents,MemAct.ofEvent]
 have ah:∀b,b≠F.ch→(w.setChan F.ch 0 #[] true k k false).heap[b]? =w.heap[b]? :=fun b hb=>by simp [World.setChan,Array.getElem?_setIfInBounds_ne (Ne.symm hb)]
 have ai:∀e∈closeEvents F.ch,∀a,(MemAct.ofEvent e).touch? =some a→a=⟨.obj F.ch,false,.atomic⟩:=by
  intro e he a U;simp only [closeEvents,List.mem_toArray,List.mem_cons,List.not_mem_nil,or_false] at he;rcases he with rfl | rfl
  ·simp [MemAct.ofEvent,MemAct.touch?] at U;exact U.symm
  ·simp [MemAct.ofEvent,MemAct.touch?] at U
 have Z:∀e∈closeEvents F.ch,EvS F (B.N0+F.n=if c=true then B.N0+F.n else 0) e:=by
  intro e he;refine⟨fun a U=>?_,?_⟩
  ·have:=ai e he a U;subst this;exact⟨⟨F.ch,rfl,.inr rfl⟩,by simp,by simp⟩
  ·simp only [closeEvents,List.mem_toArray,List.mem_cons,List.not_mem_nil,or_false] at he;rcases he with rfl | rfl <;> simp
 have aH:=h.Bp.n1;have aI:=h.Bp.pos;refine h.go' hi (w':=w.setChan F.ch 0 #[] true k k false) (by rw [ab];exact au w k h.Gj) (x:= .gone 0) (ρ:=chain q) (s':= .quiet) (cl₁:=true) (k₁:=k) (h.Bp.close O K) ?_ (.gone ab av) ?_ ?_ ?_ (.inr ⟨aw,ar⟩) (fun _ az k' aA e=>?_) (.inl rfl) (fun e=>absurd e (by omega)) rfl rfl rfl (by simp) (.inl (by rw [K];simp [wt]))
 ·refine h.DX.app Y h.Bp.jn (by rw [K];rfl) (fun e he=>⟨fun a b U hb aJ=>⟨((Z e he).1 a U).2.1,((Z e he).1 a U).2.2⟩,(Z e he).2⟩) (.inl (.inr (by omega))) (fun O aa=>h.Bp.Ks O aa) (fun k' aj e aB ρ ak=>by omega) (fun k' aj e aB aK=>by have:=h.Bp.cj O;omega) (fun O e aa=> .inr (.inl K)) (fun aL e aa=> .inl ?_);obtain⟨al,am⟩:=h.DX.acq O (.inl K);have aM:al<t.size:=lt_of_act? am.1;rw [ay];generalize hu:(#[({g:=B.N0+F.n,fn:=g.frame.fn,pos:=g.frame.place,act:= .access ⟨.obj F.ch,false,true⟩}:MemOp),{g:=B.N0+F.n,fn:=g.frame.fn,pos:=g.frame.place,act:= .close F.ch}]:Trace)=u;have aC:(t++u)[t.size]? =some {g:=B.N0+F.n,fn:=g.frame.fn,pos:=g.frame.place,act:= .access ⟨.obj F.ch,false,true⟩}:=by subst hu;simp
  have ac:(t++u)[t.size+1]? =some {g:=B.N0+F.n,fn:=g.frame.fn,pos:=g.frame.place,act:= .close F.ch}:=by
   subst hu;rw [Array.getElem?_append_right (by omega)];simp
  refine⟨t.size+1,by rw [act?_of ac],by simp [Trace.g?,ac],⟨B.N0+F.n,by simp [Trace.g?,ac],?_⟩,⟨al,by omega,am.app fun k' ρ aj ak=>ak.appOther (g:=B.N0+F.n) (by subst hu;simp) (by omega)⟩,fun x aa hg aD=>?_⟩
  ·rw [deaf_succ aC,deaf_old (Nat.le_refl _)];have:=h.DX.deaf _ Y;rw [K] at this;show deafStep _ (Deaf t _) _=0;rw [this];rfl
  ·obtain⟨op,V,_⟩:=Option.map_eq_some_iff.1 hg;have:=lt_size_of_getElem? V;subst hu;simp at this;omega
 ·have aE:B7 (t++MemOp.ofEvents (B.N0+F.n) g.frame.fn g.frame.place (closeEvents F.ch)) (w.setChan F.ch 0 #[] true k k false) gs.size S Sh:=by
   refine h.Cx.ext (h.DX.noRace h.Cx.clean Y (.inr (by omega)) Z) (fun op ae a aF b hb=>?_) (fun op ae=>?_) (by simp [World.setChan]) (fun b hb=>ah b fun e=>hb (e▸h.FB))
   ·obtain⟨e,he,rfl⟩:=mem_ofEvents ae;have:=ai e he a aF;subst this;simp [Dd] at hb;subst hb;exact h.FB
   ·obtain⟨e,he,rfl⟩:=mem_ofEvents ae;simp only [closeEvents,List.mem_toArray,List.mem_cons,List.not_mem_nil,or_false] at he;rcases he with rfl | rfl <;> simpa [MemAct.ofEvent,MemAct.low,Loc.low] using ag
  exact aE.less (i:=B.N0+F.n) (s':= .quiet) (fun b o V=>by cases V) (fun b o V=>by cases V)
 ·show(w.setChan F.ch 0 #[] true k k false).heap[F.wg]? =_;rw [ah _ h.ne];exact h.wg
 ·show(w.setChan F.ch 0 #[] true k k false).heap[F.ch]? =_;simp [World.setChan,ag]
 ·have aD:=h.Bp.cnt;have an:cU (φ az)≤sumTo gs.size fun a=>cU (φ a):=le_sumTo (f:=fun a=>cU (φ a)) aA;rw [e] at an;have aN:1≤sumTo gs.size fun a=>cU (φ a):=an;omega
end
end Pal
namespace Pal
open Go Go.Conc
open Go.ConcN (upd upd_same upd_ne sumTo sumTo_upd sumTo_upd_out sumTo_congr le_sumTo sumTo_le fork_knows RelBy)
section
variable {P:Program}{F:Fam}{B:Base}{gs gs':Array Goroutine}{w w':World}{sl:Option (Nat×Nat)}{t:Trace}{φ:Nat→Nx}{r:Nat→Rk}{bt:Nat→Bool}{S:Nat→St}{Sh:Nat→Prop}{j:Nat}{c:Bool}{v wt' sm v₁ wt₁ sm₁:Nat}{cl cl₁:Bool}{k k₁:Nat}{main:Bool}
theorem C8.PN{x:Nx}{r:Rk}{b:Bool}{o:Goroutine}{s:St}(h:C8 P F main x r b o s)(hb:main=true→b=true):offersAt o F.ch false= []:=by
 cases h with
 | walk _ _ K=>exact offersAt_of_not_blocked (by rw [K.running];simp) _ _
 | again _ _=>exact offersAt_of_not_blocked (by simp) _ _
 | EN O _=>cases hb O
 | Fg _ _ _ _=>exact offersAt_parked_send' _ _ _ _ _ _
 | blk _ hs=>simp [offersAt,hs.law.offers]
 | gone _ U=>exact offersAt_of_not_blocked (by rcases U.status with e | e <;> rw [e] <;> simp) _ _
theorem C8.Mf{k:Nat}{r:Rk}{o:Goroutine}{s:St}(h:C8 P F main (.ph (.Cj k)) r false o s):∃g v z,o=parked g #[scase F.ch v z] .send∧F.msg k v s.E∧s.q=false∧Way P false (Stop P F .CH) (served g undef) s:=by
 generalize K:Nx.ph (.Cj k)=x at h;generalize hb:false=b at h;cases h with
 | walk _ _ _=>cases hb
 | again _ _=>cases K
 | EN _ _=>cases K
 | Fg _ O U V=>cases K;exact⟨_,_,_,rfl,O,U,V⟩
 | blk _ _=>cases K
 | gone _ _=>cases K
theorem C8.LU{x:Nx}{r:Rk}{b:Bool}{o:Goroutine}{s:St}(h:C8 P F main x r b o s)(K:offersAt o F.ch true≠ []):∃k,x= .ph (.Cj k)∧b=false:=by
 cases h with
 | walk _ _ O=>exact absurd (offersAt_of_not_blocked (by rw [O.running];simp) _ _) K
 | again _ _=>exact absurd (offersAt_of_not_blocked (by simp) _ _) K
 | EN V _=>exact absurd (offersAt_parked_recv' _ _ _ _ _) K
 | Fg _ _ _ _=>exact⟨_,rfl,rfl⟩
 | blk _ hs=>exact absurd (by simp [offersAt,hs.law.offers]) K
 | gone _ U=>exact absurd (offersAt_of_not_blocked (by rcases U.status with e | e <;> rw [e] <;> simp) _ _) K
theorem C8.receiver{p:Ph}{r:Rk}{b:Bool}{o:Goroutine}{s:St}(h:C8 P F main (.ph p) r b o s)(hb:b=false)(hm:main=true):∃O vs g z,p= .B6 O vs∧o=parked g #[rcase F.ch z] (.recv true)∧Stop P F (.B6 O vs) g s:=by
 generalize U:Nx.ph p=x at h;cases h with
 | walk _ _ _=>cases hb
 | again _ _=>cases hb
 | EN _ V=>cases U;exact⟨_,_,_,_,rfl,rfl,V⟩
 | Fg K _ _ _=>rw [K] at hm;cases hm
 | blk K _=>rw [K] at hm;cases hm
 | gone _ _=>cases U
theorem QO{g g':Goroutine}{cs K:Array CommCase}{sh O:CommShape}(h:parked g cs sh=parked g' K O):cs=K∧sh=O∧∀x,served g x=served g' x:=by
 obtain⟨a,b,c,d,e⟩:=g;obtain⟨U,V,Y,Z,aa⟩:=g';simp only [parked,Goroutine.mk.injEq,Option.some.injEq,Prod.mk.injEq,true_and] at h;obtain⟨rfl,rfl,rfl,rfl,rfl⟩:=h;exact⟨rfl,rfl,fun _=>rfl⟩
theorem Nj(w:World)(c cap:Nat)(buf:Aw)(cl:Bool)(s r:Nat)(K:Bool){b:Nat}(h:b≠c):(w.setChan c cap buf cl s r K).heap[b]? =w.heap[b]? :=by simp [World.setChan,Array.getElem?_setIfInBounds_ne (Ne.symm h)]
def Gv(E E':LH):LH:=fun b=>match E b with | some o=>some o | none=>E' b
def Fu(i s:Nat)(c:Nat)(f1 f2:FuncId)(p1 p2:String):Trace:=
 #[{g:=i,fn:=f1,pos:=p1,act:= .send c s},{g:=0,fn:=f2,pos:=p2,act:= .recv c s 0},{g:=i,fn:=f1,pos:=p1,act:= .sendDone c s},{g:=0,fn:=f2,pos:=p2,act:= .recvDone c s}]
theorem Q3{i s K:Nat}{f1 f2:FuncId}{p1 p2:String}(hi:i≠0)(V:Deaf t i=0)(Y:Deaf t 0=0){x:Nat}(Z:Knows t i x):Knows (t++Fu i s K f1 f2 p1 p2) 0 x:=by
 generalize hu:Fu i s K f1 f2 p1 p2=u;have O:(t++u)[t.size]? =some {g:=i,fn:=f1,pos:=p1,act:= .send K s}:=by subst hu;rw [Array.getElem?_append_right (by omega)];simp [Fu]
 have aa:(t++u)[t.size+1]? =some {g:=0,fn:=f2,pos:=p2,act:= .recv K s 0}:=by subst hu;rw [Array.getElem?_append_right (by omega)];simp [Fu]
 have ab:(t++u)[t.size+2]? =some {g:=i,fn:=f1,pos:=p1,act:= .sendDone K s}:=by subst hu;rw [Array.getElem?_append_right (by omega)];simp [Fu]
 have U:(t++u)[t.size+3]? =some {g:=0,fn:=f2,pos:=p2,act:= .recvDone K s}:=by subst hu;rw [Array.getElem?_append_right (by omega)];simp [Fu]
 have ac:=Z.hb_new (Nat.le_refl _) O rfl;have ae:(t++u).heard t.size:=⟨i,by simp [Trace.g?,O],by rw [deaf_old (Nat.le_refl _)];exact V⟩;have ag:(t++u).heard (t.size+3):=⟨0,by simp [Trace.g?,U],by
  rw [deaf_succ ab,deaf_succ aa,deaf_succ O,deaf_old (Nat.le_refl _)]
  simp only [deafStep];exact Y⟩
 exact⟨t.size+3,_,U,rfl,.inr (ac.trans (.single (.inr ⟨.handOver (by rw [act?_of O]) (by rw [act?_of U]),ae,ag⟩)))⟩
theorem Inv.meet(h:Inv P F B gs w t φ r bt S Sh j c v wt' sm cl k)(aL:∀k v E E',Le E E'→F.msg k v E→F.msg k v E'){i k':Nat}(ai:k'<j)(aj:i=B.N0+k')(Z:φ i= .ph (.Cj k')){U:List Nat}{vs:Lv_}(ag:φ 0= .ph (.B6 U vs))
  {az aA:Goroutine} {s₀ K:St} (aB:Cf (S 0) s₀) (aM:Cf (S i) K) (aN:Stop P F (.B6 U vs) az s₀) {x:Value} (aO:F.msg k' x K.E) (aP:Way P false (Stop P F .CH) (served aA undef) K)
  (ak:gs'.size=gs.size) (aQ:gs'[0]? =some (served az (.tuple #[x,.bool true]))) (hi:gs'[i]? =some (served aA undef)) (V:∀a,a≠0→a≠i→gs'[a]? =gs[a]?) (aR:cl=false) {f1 f2:FuncId} {p1 p2:String}:
  ∃aC aD aE S',Inv P F B gs' (w.setChan F.ch 0 #[] false (k+1) (k+1) false) (t++Fu i k F.ch f1 f2 p1 p2) aC aD aE S' Sh j c v wt' sm false (k+1)∧Mu.lt (mu F gs'.size aC aD aE) (mu F gs.size φ r bt):=by
 subst aR;have bc:=h.Bp.pos;have bd:=h.Bp.size;have aa:i<gs.size:=by omega
 have ab:0<gs.size:=by omega
 have ah:i≠0:=by omega
 have aF:F.has k'=true:=by have:=h.Bp.work k' ai;rw [← aj,Z] at this;exact this.2
 have aS:k' ∉ U:=by have:=(h.Bp.Gi k' ai aF).1 (by rw [← aj];exact Z);rwa [ag] at this
 have aG:=h.Bp.meet (x:=x) ag ai (by rw [← aj];exact Z);rw [← aj] at aG;have hu:∀op∈Fu i k F.ch f1 f2 p1 p2,op.act.touch? =none∧∀m,op.act≠ .mark m:=by
  intro op O;simp only [Fu,List.mem_toArray,List.mem_cons,List.not_mem_nil,or_false] at O;rcases O with rfl | rfl | rfl | rfl <;> exact⟨rfl,by simp⟩
 have aT:=h.DX.CS h.Bp hu;have aH:=h.Cx.Eu F.ch h.FB;have al:B7 t w gs.size (upd (upd S i K) 0 s₀) Sh:=by
  have:=(h.Cx.ghost aa aM).ghost (i:=0) (s₀:=s₀) ab (by rw [upd_ne _ _ (Ne.symm ah)];exact aB);exact this
 have aq:upd (upd S i K) 0 s₀ 0=s₀:=upd_same _ _ _;have ar:upd (upd S i K) 0 s₀ i=K:=by rw [upd_ne _ _ ah,upd_same]
 have aU:B7 (t++Fu i k F.ch f1 f2 p1 p2) (w.setChan F.ch 0 #[] false (k+1) (k+1) false) gs.size (upd (upd S i K) 0 s₀) Sh:=by
  refine al.ext (fun said=>?_) (fun op O a am=>by rw [(hu op O).1] at am;cases am) (fun op O=>?_) (by simp [World.setChan]) (fun b hb=>Nj _ _ _ _ _ _ _ _ fun e=>hb (e▸h.FB))
  ·have key:∀(l:List MemOp) (t:Trace),¬Race said t→(∀op∈l,op.act.touch? =none)→¬Race said (t++l.toArray):=by
    intro l
    induction l with
    | nil=>intro t ht _;simpa using ht
    | cons y l aV=>
     intro t ht ac;have e:t++(y::l).toArray=(t++ #[y])++l.toArray:=by apply Array.ext';simp
     rw [e];exact aV _ (noRace_append (g:=y.g) ht (by simp) fun z a _ op O b hb _=>by simp at O;subst O;rw [ac op (by simp)] at hb;cases hb) fun op O=>ac op (by simp [O])
   exact key _ t (h.Cx.clean said) fun op O=>(hu op (by simpa [Fu] using O)).1
  ·simp only [Fu,List.mem_toArray,List.mem_cons,List.not_mem_nil,or_false] at O;rcases O with rfl | rfl | rfl | rfl <;> exact aH
 have aW:∀b o o',s₀.E b=some o→K.E b=some o'→o=o':=by
  intro b o o' au av;have aw:=(al.fits 0 ab).e b o (by rw [aq];exact au);have an:=(al.fits i aa).e b o' (by rw [ar];exact av);rw [aw] at an;exact Option.some.inj an
 have aI:Le s₀.E (Gv s₀.E K.E):=fun b o V=>by simp [Gv,V]
 have aX:Le K.E (Gv s₀.E K.E):=fun b o V=>by
  unfold Gv;cases ao:s₀.E b with
  | none=>exact V
  | some o'=>simp only;rw [aW b o' o ao V]
 have aY:Deaf t 0=0:=by rw [h.DX.deaf 0 ab,ag];rfl
 have aZ:Deaf t i=0:=by rw [h.DX.deaf i aa,Z];rfl
 have aJ:B7 (t++Fu i k F.ch f1 f2 p1 p2) (w.setChan F.ch 0 #[] false (k+1) (k+1) false) gs.size (upd (upd S i K) 0 ⟨Gv s₀.E K.E,s₀.H,false⟩) Sh:=by
  have:=aU.grow (i:=0) (E':=Gv s₀.E K.E) (q:=false) ab (fun b o hb=>by
   rw [aq]
   unfold Gv at hb
   cases ao:s₀.E b with
   | some o'=>rw [ao] at hb;exact .inl hb
   | none=>
    rw [ao] at hb
    have aK:K.E b=some o:=hb
    refine .inr ⟨i,aa,by rw [ar];exact aK,fun y a a0 a1 a2=>?_⟩
    have hold:touchAt t y=some a:=by
     obtain⟨op,V,ay⟩:=touch_of a0
     rcases getElem?_append_cases V with⟨_,a3⟩ | ⟨_,a4⟩
     ·rw [touchAt_of a3];exact ay
     ·rw [(hu op a4).1] at ay;cases ay
    exact Q3 ah aZ aY (al.kE i aa b (by rw [ar,aK];simp) y a hold a1 a2))
  rw [aq,L6] at this;exact this
 have a5:∀b,Gv s₀.E K.E b≠none→s₀.H b=none:=by
  intro b hb;have:=(aJ.fits 0 ab).d b (by rw [upd_same];exact hb)
  rwa [upd_same] at this
 have a6:k'<F.n:=Nat.lt_of_lt_of_le ai h.Bp.jn;obtain⟨z,_,a7,_⟩:=aN.law.recv U vs rfl;obtain⟨a8,a9⟩:=a7 k' x (Gv s₀.E K.E) a6 aF aS aI a5 (aL _ _ _ _ aX aO);obtain⟨ba,bb⟩:=aP;have f0:∀a,a≠0→a≠i→upd (upd φ i (.ph .CH)) 0 (.ph (.B6 (U++ [k']) (vs++ [x]))) a=φ a:=fun a au av=>by rw [upd_ne _ _ au,upd_ne _ _ av]
 have fi:upd (upd φ i (.ph .CH)) 0 (.ph (.B6 (U++ [k']) (vs++ [x]))) i= .ph .CH:=by rw [upd_ne _ _ ah,upd_same]
 refine⟨upd (upd φ i (.ph .CH)) 0 (.ph (.B6 (U++ [k']) (vs++ [x]))),upd (upd r i ba) 0 a8,upd (upd bt i true) 0 true,upd (upd S i K) 0 ⟨Gv s₀.E K.E,s₀.H,false⟩,⟨by rw [ak];exact aG,?_,fun a o ae=>?_,by rw [ak];exact aJ,h.G7,h.FB,h.ne,?_,?_,fun hb=>(by rw [upd_same] at hb;cases hb),fun ap hb=>?_,?_,h.tape,h.os,h.output⟩,?_⟩
 ·rw [ak];refine aT.SQ (fun a am=>?_) (fun a am ac=>?_) (fun ap=>?_)
  ·by_cases q:a=0
   ·subst q;rw [upd_same,ag];rfl
   ·by_cases Y:a=i
    ·subst Y;rw [fi,Z];rfl
    ·rw [f0 a q Y]
  ·by_cases q:B.N0+a=i
   ·rw [q,fi] at ac;exact ac.elim
   ·rwa [f0 _ (by omega) q] at ac
  ·have:=h.Bp.cj ap;exact f0 _ (by omega) (by omega)
 ·by_cases q:a=0
  ·subst q;rw [aQ] at ae;obtain rfl:=Option.some.inj ae;rw [upd_same,upd_same,upd_same,upd_same];exact .walk rfl (fun q=>by cases q) a9
  ·by_cases Y:a=i
   ·subst Y;rw [hi] at ae;obtain rfl:=Option.some.inj ae;rw [fi,upd_ne _ _ q,upd_same,upd_ne _ _ q,upd_same,upd_ne _ _ q,upd_same];have hm:(a==0)=false:=by simp [q]
    exact .walk (by rw [hm];rfl) (fun q=>by cases q) (by rw [hm];exact bb)
   ·rw [V a q Y] at ae;rw [f0 a q Y,upd_ne _ _ q,upd_ne _ _ Y,upd_ne _ _ q,upd_ne _ _ Y,upd_ne _ _ q,upd_ne _ _ Y];exact h.DY a o ae
 ·show(w.setChan F.ch 0 #[] false (k+1) (k+1) false).heap[F.wg]? =_;rw [Nj _ _ _ _ _ _ _ _ h.ne];exact h.wg
 ·show(w.setChan F.ch 0 #[] false (k+1) (k+1) false).heap[F.ch]? =_;simp [World.setChan,aH]
 ·have be:=h.Bp.cj ap;rw [upd_ne _ _ (by omega),upd_ne _ _ (by omega)] at hb;exact h.blk ap hb
 ·rw [upd_same];exact(h.le.trans fun b o V=>aB.ext b o V).trans aI
 ·rw [ak];refine PU ?_;have aw:=sumTo_upd (upd φ i (.ph .CH)) (.ph (.B6 (U++ [k']) (vs++ [x]))) (wt F.n) ab;have an:=sumTo_upd φ (.ph .CH) (wt F.n) aa;rw [upd_ne _ _ (Ne.symm ah),ag] at aw;rw [Z] at an;have bf:wt F.n (.ph (.B6 U vs))=2:=rfl;have bg:wt F.n (.ph (.B6 (U++ [k']) (vs++ [x])))=2:=rfl;have bh:wt F.n (.ph (.Cj k'))=10:=rfl;have bi:wt F.n (.ph .CH)=9:=rfl;omega
theorem Inv.send(h:Inv P F B gs w t φ r bt S Sh j c v wt' sm cl k)(av:∀k v E E',Le E E'→F.msg k v E→F.msg k v E'){i k':Nat}{g:Goroutine}(hi:gs[i]? =some g)(K:φ i= .ph (.Cj k'))(aw:bt i=true)(aa:(i==0)=false){s₀:St}(hg:Cf (S i) s₀)(hs:Stop P F (.Cj k') g s₀):
  Gy P F B gs w sl t i (mu F gs.size φ r bt):=by
 have V:i<gs.size:=(Array.getElem?_eq_some_iff.1 hi).1;have ak:0<gs.size:=by omega
 have O:i≠0:=by simpa using aa
 have ay:k'<j∧i=B.N0+k':=by
  rcases h.Bp.Ey V with rfl | ⟨a,b⟩ | ⟨az,Y,rfl⟩ | ⟨ab,rfl⟩
  ·exact absurd rfl O
  ·have:=h.Bp.old i a b;rw [K] at this;exact this.elim
  ·have:=h.Bp.work az Y;rw [K] at this;obtain⟨rfl,_⟩:=this;exact⟨Y,rfl⟩
  ·have:=h.Bp.cls ab;rw [K] at this;exact this.elim
 obtain⟨Y,aA⟩:=ay;have aB:cl=false:=by
  cases aC:cl with
  | false=>rfl
  | true=>exact absurd K (h.noSend aC i k' V)
 subst aB;obtain⟨x,z,al,aD,am⟩:=hs.law.send k' rfl;have an:stepG P (i==0) g w= .comm g #[scase F.ch x z] true .send w #[]:=by rw [aa];exact aD w
 have ao:∀(a:Nat) (fn:FuncId) (pos:String),MemOp.ofEvents a fn pos #[]= #[]:=fun a fn pos=>by rw [ofEvents_eq];simp
 cases ac:bt 0 with
 | true=>
  have aE:partners (gs.setIfInBounds i ph) F.ch false= []:=by
   refine partners_nil fun a o ae=>?_;rcases getElem?_stand gs i a o ae with⟨_,rfl⟩ | ⟨_,ag⟩
   ·exact offersAt_ph _ _
   ·exact(h.DY a o ag).PN fun e=>by
     have:a=0:=by simpa using e
     subst this;exact ac
  have Z:=crowd_waits (sl:=sl) hi an fun aP ap=>by
   simp at ap;subst ap;exact ways_send_none (v:=x) (z:=z) h.Gj (Nat.le_refl _) aE
  obtain⟨aq,ah,ai⟩:=h.rest (g':=parked g #[scase F.ch x z] .send) (u:=MemOp.ofEvents i g.frame.fn g.frame.place #[]) V aw hg (by rw [K];exact .Fg aa al (hs.law.live rfl) am) (ao _ _ _) (fun e=>absurd e O) (fun _ _=>ac) (fun ab e=>by have:=h.Bp.cj ab;omega);exact⟨_,_,_,_,Z,.inl ⟨_,_,_,_,_,_,_,_,_,_,_,_,ah,ai⟩⟩
 | false=>
  obtain⟨aF,aj⟩:∃o,gs[0]? =some o:=⟨_,Array.getElem?_eq_getElem ak⟩;obtain⟨p0,ar,hm⟩:=h.Bp.main;have au:=h.DY 0 aF aj;rw [ac,ar] at au;obtain⟨aQ,vs,U,aG,rfl,rfl,aH⟩:=au.receiver rfl rfl;have aI:partners (gs.setIfInBounds i ph) F.ch false= [(0,0)]:=by
   rw [partners_one (j:=0) (g:=parked U #[rcase F.ch aG] (.recv true)) (stand_get (Ne.symm O) aj) fun a o aJ ae=>?_]
   ·rw [offersAt_parked_recv];simp
   ·rcases getElem?_stand gs i a o ae with⟨_,rfl⟩ | ⟨_,ag⟩
    ·exact offersAt_ph _ _
    ·exact(h.DY a o ag).PN fun e=>by
      have:a=0:=by simpa using e
      exact absurd this aJ
  have Z:=crowd_send_meets (sl:=sl) hi an h.Gj (Ne.symm O) aj aI;rw [finishComm_recv,finishComm_send,ao] at Z;have aK:((gs.setIfInBounds 0 (served U (recvd true x true))).setIfInBounds i (served g undef)).size=gs.size:=by simp
  obtain⟨aL,aM,aq,S',ah,ai⟩:=h.meet av Y aA K ar (.refl _) hg aH al am (gs':=(gs.setIfInBounds 0 (served U (recvd true x true))).setIfInBounds i (served g undef)) aK
   (by rw [Array.getElem?_setIfInBounds_ne O,Array.getElem?_setIfInBounds_self_of_lt ak];rfl) (by rw [Array.getElem?_setIfInBounds_self_of_lt (by simpa using V)]) (fun a aN aO=>by rw [Array.getElem?_setIfInBounds_ne (Ne.symm aO),Array.getElem?_setIfInBounds_ne (Ne.symm aN)]) rfl
   (f1:=g.frame.fn) (f2:=U.frame.fn) (p1:=g.frame.place) (p2:=U.frame.place)
  refine⟨_,_,_,_,Z,.inl ⟨aL,aM,aq,S',Sh,j,c,v,wt',sm,false,k+1,?_,ai⟩⟩;rw [Array.empty_append];exact ah
end
end Pal
namespace Pal
open Go Go.Conc
open Go.ConcN (upd upd_same upd_ne sumTo sumTo_upd sumTo_upd_out sumTo_congr le_sumTo sumTo_le fork_knows RelBy)
section
variable {P:Program}{F:Fam}{B:Base}{gs gs':Array Goroutine}{w w':World}{sl:Option (Nat×Nat)}{t:Trace}{φ:Nat→Nx}{r:Nat→Rk}{bt:Nat→Bool}{S:Nat→St}{Sh:Nat→Prop}{j:Nat}{c:Bool}{v wt' sm v₁ wt₁ sm₁:Nat}{cl cl₁:Bool}{k k₁:Nat}{main:Bool}
theorem Inv.OF(h:Inv P F B gs w t φ r bt S Sh j c v wt' sm true k):c=true∧Eg (φ (B.N0+F.n))∧∀i,0<i→i<gs.size→∃d,φ i= .gone d:=by
 have hm:=h.Bp.mode;have K:c=true∧Eg (φ (B.N0+F.n)):=by
  split at hm
  ·rename_i K;refine⟨K,?_⟩;cases O:φ (B.N0+F.n) with
   | gone d=>trivial
   | ph p=>rw [O] at hm;cases p <;> simp [CF] at hm
  ·simp [CF] at hm
 refine⟨K.1,K.2,fun i hi U=>?_⟩;have:Eg (φ i):=by
  rcases h.Bp.Ey U with rfl | ⟨a,b⟩ | ⟨k',V,rfl⟩ | ⟨_,rfl⟩
  ·omega
  ·exact h.Bp.old i a b
  ·exact h.Bp.L5 K.1 (.inr (.inr (.inr (.inr K.2)))) k' V
  ·exact K.2
 cases O:φ i with
 | gone d=>exact⟨d,rfl⟩
 | ph p=>rw [O] at this;exact this.elim
theorem Inv.over(h:Inv P F B gs w t φ r bt S Sh j c v wt' sm true k){aB:List Nat}{vs:Lv_}(an:φ 0= .ph (.B6 aB vs)){s₀:St}(ao:Cf (S 0) s₀){g':Goroutine}(aC:F.fin g' s₀)
  (ap:gs'.size=gs.size) (aD:gs'[0]? =some g') (Z:∀a,a≠0→gs'[a]? =gs[a]?) {f1:FuncId} {p1:String}:
  Over P F B gs' w (t++ #[{g:=0,fn:=f1,pos:=p1,act:= .recvClosed F.ch}]):=by
 obtain⟨ac,aq,aE⟩:=h.OF;have aW:=h.Bp.pos;have ar:=h.Bp.size;have ah:0<gs.size:=by omega
 have aF:F.ch<w.heap.size:=h.Cx.Eu F.ch h.FB;generalize hu:(#[{g:=0,fn:=f1,pos:=p1,act:= .recvClosed F.ch}]:Trace)=u;have au:∀op∈u,op.act.touch? =none∧∀m,op.act≠ .mark m:=by
  intro op K;subst hu;simp at K;subst K;exact⟨rfl,by simp⟩
 have aa:=h.DX.CS h.Bp au;have aG:Deaf t 0=0:=by rw [h.DX.deaf 0 ah,an];rfl
 have av:∀i g,0<i→gs[i]? =some g→∃q d,φ i= .gone d∧QuitsD P q d g∧S i= .quiet:=by
  intro i g hi hg;obtain⟨d,aw⟩:=aE i hi (Array.getElem?_eq_some_iff.1 hg).1;have hs:=h.DY i g hg;rw [aw] at hs;generalize U:Nx.gone d=x at hs;generalize S i=s at hs ⊢;generalize r i=ρ at hs;generalize bt i=aX at hs;cases hs with
  | gone _ ae=>cases U;exact⟨_,_,aw,ae,rfl⟩
  | _=>cases U
 have ae:∀i,∃q,∀g,0<i→gs[i]? =some g→QuitsD P q (Deaf t i) g:=by
  intro i;by_cases hi:0<i∧i<gs.size
  ·obtain⟨q,d,O,Y,_⟩:=av i _ hi.1 (Array.getElem?_eq_getElem hi.2);refine⟨q,fun g _ hg=>?_⟩;rw [Array.getElem?_eq_getElem hi.2] at hg;obtain rfl:=Option.some.inj hg;rw [h.DX.deaf i hi.2,O];exact Y
  ·exact⟨0,fun g O Y=>absurd ⟨O,(Array.getElem?_eq_some_iff.1 Y).1⟩ hi⟩
 have ay:∀op∈u,op.g=0:=by intro op K;subst hu;simp at K;subst K;rfl
 have aH:B7 t w gs.size (lone s₀) Sh:=by
  have O:=h.Cx.ghost ah ao;refine O.congr fun i hi=>?_;by_cases e:i=0
  ·subst e;rw [upd_same];exact⟨rfl,rfl⟩
  ·rw [upd_ne _ _ e];obtain⟨_,_,_,_,aI⟩:=av i _ (by omega) (Array.getElem?_eq_getElem hi);rw [aI];simp [lone,e]
 have aJ:B7 (t++u) w gs.size (lone s₀) Sh:=aH.mute (g:=0) ay (fun op Z=>(au op Z).1) (fun op K=>by subst hu;simp at K;subst K;exact aF) rfl;refine⟨fun i=>Classical.choose (ae i),Sh,g',s₀,⟨aD,⟨fun i g hi hg=>?_,fun i hi=>?_⟩,by rw [ap];exact aJ,fun x g hg aK ai=>?_,?_⟩,aC,h.le.trans fun b o Z=>ao.ext b o Z,h.tape,h.os,h.output⟩
 ·rw [Deaf_other t (by omega) u ay];rw [Z i (by omega)] at hg;exact Classical.choose_spec (ae i) g hi hg
 ·exact aa.above i (by rw [← ap];exact hi)
 ·rcases aa.over x g hg aK ai with q | ⟨q1,q2⟩
  ·exact q
  obtain⟨p,V⟩:=aa.IM ac aq;have aY:p<t.size:=by
   obtain⟨aZ,a0⟩:=h.DX.IM ac aq;rcases Nat.lt_or_ge p t.size with q | q
   ·exact q
   ·have O:=V.1;obtain⟨op,K,aL⟩:=Option.map_eq_some_iff.1 O;rcases getElem?_append_cases K with⟨aM,_⟩ | ⟨_,hm⟩
    ·exact aM
    ·subst hu;simp at hm;subst hm;cases aL
  have aj:(t++u)[t.size]? =some {g:=0,fn:=f1,pos:=p1,act:= .recvClosed F.ch}:=by subst hu;simp
  have aN:(t++u).heard t.size:=⟨0,by simp [Trace.g?,aj],by rw [deaf_old (Nat.le_refl _)];exact aG⟩;have ag:HappensBefore (t++u) p t.size:= .single (.inr ⟨.closed V.1 (by rw [act?_of aj]),V.2.2.1,aN⟩);have az:(t++u).g? t.size=some 0:=by simp [Trace.g?,aj]
  have ak:∀{a b:Nat} {g:Nat},a<b→(t++u).g? a=some g→(t++u).g? b=some g→HappensBefore (t++u) a b:=fun O Y aO=> .single (.inl ⟨O,_,Y,aO⟩);rcases Nat.lt_or_ge g (B.N0+F.n) with aP | aP
  ·
   obtain⟨q,aQ,aR,aS,aT,aU⟩:=V.2.2.2.1;obtain⟨ρ,a1,aV,ab⟩:=aU (g - B.N0) (by omega);have al:B.N0+(g - B.N0)=g:=by omega
   rw [al] at ab;have aA:HappensBefore (t++u) ρ q:= .single (.inr ⟨.marked aV (.inr ab.act) aR (fun z O Y=>aa.norel z (by omega)),ab.heard,aT⟩);have e2:HappensBefore (t++u) q p:=ak aQ aS V.2.1;have hle:x≤ρ:=Nat.le_of_not_lt fun am=>ab.after x am hg ai;refine⟨t.size,az,?_⟩;rcases Nat.lt_or_ge x ρ with U | U
   ·exact((ak U hg ab.g).trans (aA.trans e2)).trans ag
   ·obtain rfl:x=ρ:=by omega
    exact(aA.trans e2).trans ag
  ·
   have al:g=B.N0+F.n:=by rw [ac] at ar;have:=h.Bp.cj ac;simp at ar;omega
   subst al;have hle:x≤p:=Nat.le_of_not_lt fun am=>V.2.2.2.2 x am hg ai;refine⟨t.size,az,?_⟩;rcases Nat.lt_or_ge x p with U | U
   ·exact(ak U hg V.2.1).trans ag
   ·obtain rfl:x=p:=by omega
    exact ag
 ·have:=aa.deaf 0 ah;rw [an] at this;exact this
theorem Inv.recv(h:Inv P F B gs w t φ r bt S Sh j c v wt' sm cl k)(aJ:∀k v E E',Le E E'→F.msg k v E→F.msg k v E'){x:Goroutine}(hi:gs[0]? =some x){ai:List Nat}{vs:Lv_}(aa:φ 0= .ph (.B6 ai vs))(aK:bt 0=true)
  {O:Goroutine} {s₀:St} (hg:Cf (S 0) s₀) (hs:Stop P F (.B6 ai vs) O s₀) (aj:∀w,stepG P true x w=stepG P true O w) (a2:x.frame=O.frame):
  Gy P F B gs w sl t 0 (mu F gs.size φ r bt):=by
 have ak:0<gs.size:=(Array.getElem?_eq_some_iff.1 hi).1;obtain⟨z,aL,_,aM⟩:=hs.law.recv ai vs rfl;have al:stepG P (0==0) x w= .comm O #[rcase F.ch z] true (.recv true) w #[]:=by rw [show((0:Nat)==0)=true from rfl,aj];exact aL w
 have am:∀(a:Nat) (fn:FuncId) (pos:String),MemOp.ofEvents a fn pos #[]= #[]:=fun a fn pos=>by rw [ofEvents_eq];simp
 by_cases ab:partners (gs.setIfInBounds 0 ph) F.ch true= []
 ·cases ac:cl with
  | false=>
   have Y:=h.Gj;rw [ac] at Y;have Z:=crowd_waits (sl:=sl) hi al fun a3 ay=>by
    simp at ay;subst ay;exact ways_recv_none (z:=z) Y ab
   have aN:∀a k',a<gs.size→φ a= .ph (.Cj k')→bt a=true:=by
    intro a k' ag an;cases hb:bt a with
    | true=>rfl
    | false=>
     have V:=h.DY a _ (Array.getElem?_eq_getElem ag);rw [an,hb] at V;obtain⟨g,y,ao,hgo,_⟩:=V.Mf;have ah:a≠0:=fun e=>by subst e;rw [aa] at an;cases an
     have:(a,0)∈partners (gs.setIfInBounds 0 ph) F.ch true:=mem_partners.2 ⟨gs[a],stand_get ah (Array.getElem?_eq_getElem ag),by rw [hgo,offersAt_parked_send];simp⟩;rw [ab] at this;cases this
   obtain⟨az,ap,aq⟩:=h.rest (g':=parked O #[rcase F.ch z] (.recv true)) (u:=MemOp.ofEvents 0 x.frame.fn x.frame.place #[]) ak aK hg (by rw [aa];exact .EN rfl hs) (am _ _ _) (fun _=>⟨ac,aN⟩) (fun k' e=>by rw [aa] at e;cases e) (fun Y e=>by have:=h.Bp.pos;omega);exact⟨_,_,_,_,Z,.inl ⟨_,_,_,_,_,_,_,_,_,_,_,_,ap,aq⟩⟩
  | true=>
   subst ac;have Z:=crowd_recv_closed (sl:=sl) hi al h.Gj ab;rw [finishComm_recv,am] at Z;obtain⟨Y,a4,aO⟩:=h.OF;have aP:=aM fun k' U hh=>by
    have aQ:k'<j:=by rw [h.Bp.cj Y];exact U
    have aA:=h.Bp.Gi k' aQ hh;rw [aa] at aA;have a5:=h.Bp.size;have a6:=h.Bp.pos;obtain⟨d,aB⟩:=aO (B.N0+k') (by omega) (by omega);apply Classical.byContradiction;intro aR;rw [aA.2 aR] at aB;cases aB
   have aS:=h.over (gs':=gs.setIfInBounds 0 (served O (recvd true z false))) aa hg aP (by simp) (by rw [Array.getElem?_setIfInBounds_self_of_lt ak];rfl) (fun a ag=>by rw [Array.getElem?_setIfInBounds_ne (Ne.symm ag)]) (f1:=O.frame.fn) (p1:=O.frame.place);refine⟨_,_,_,_,Z,.inr ?_⟩;rw [Array.empty_append];exact aS
 ·have ac:cl=false:=by
   obtain⟨⟨a,b⟩,ar⟩:=List.exists_mem_of_ne_nil _ ab;obtain⟨o,au,K⟩:=mem_partners.1 ar;rcases getElem?_stand gs 0 a o au with⟨_,rfl⟩ | ⟨_,ae⟩
   ·rw [offersAt_ph] at K;cases K
   ·obtain⟨k',U,_⟩:=(h.DY a o ae).LU fun e=>by rw [e] at K;cases K
    cases aj:cl with
    | false=>rfl
    | true=>exact absurd U (h.noSend aj a k' (Array.getElem?_eq_some_iff.1 ae).1)
  subst ac;obtain⟨a,av,aC,a7,a8,d,ah,aD,Z⟩:=crowd_recv_meets_some (sl:=sl) hi al h.Gj ab fun a b ar=>by
   obtain⟨o,au,K⟩:=mem_partners.1 ar;rcases getElem?_stand gs 0 a o au with⟨_,rfl⟩ | ⟨aT,ae⟩
   ·rw [offersAt_ph] at K;cases K
   ·have V:=h.DY a o ae;obtain⟨k',U,aw⟩:=V.LU fun e=>by rw [e] at K;cases K
    rw [U,aw] at V;obtain⟨g,y,ao,hgo,_⟩:=V.Mf;rw [hgo,offersAt_parked_send] at K;simp at K;exact⟨K,aT,g,y,ao,_,by rw [ae,hgo]⟩
  have aE:a<gs.size:=(Array.getElem?_eq_some_iff.1 aD).1;have V:=h.DY a _ aD;obtain⟨k',U,aw⟩:=V.LU (by rw [offersAt_parked_send];simp);rw [U,aw] at V;obtain⟨g,y,ao,hgo,aU,a9,aF⟩:=V.Mf;obtain⟨aG,e2,aV⟩:=QO hgo;have aW:aC=y:=by simp [scase] at aG;exact aG.1
  subst aW;subst e2;rw [finishComm_recv,finishComm_send,am] at Z;rw [← aV] at aF;have aH:k'<j∧a=B.N0+k':=by
   rcases h.Bp.Ey aE with rfl | ⟨q1,q2⟩ | ⟨aX,aI,rfl⟩ | ⟨Y,rfl⟩
   ·exact absurd rfl ah
   ·have:=h.Bp.old a q1 q2;rw [U] at this;exact this.elim
   ·have:=h.Bp.work aX aI;rw [U] at this;obtain⟨rfl,_⟩:=this;exact⟨aI,rfl⟩
   ·have:=h.Bp.cls Y;rw [U] at this;exact this.elim
  obtain⟨aY,aZ,az,S',ap,aq⟩:=(h.at_ d).meet aJ aH.1 aH.2 U aa hg (.refl _) hs aU aF (gs':=(gs.setIfInBounds a (served av undef)).setIfInBounds 0 (served O (recvd true aC true))) (by simp)
   (by rw [Array.getElem?_setIfInBounds_self_of_lt (by simpa using ak)];rfl) (by rw [Array.getElem?_setIfInBounds_ne (Ne.symm ah),Array.getElem?_setIfInBounds_self_of_lt aE]) (fun b a0 a1=>by rw [Array.getElem?_setIfInBounds_ne (Ne.symm a0),Array.getElem?_setIfInBounds_ne (Ne.symm a1)]) rfl
   (f1:=av.frame.fn) (f2:=O.frame.fn) (p1:=av.frame.place) (p2:=O.frame.place)
  refine⟨_,_,_,_,Z,.inl ⟨aY,aZ,az,S',Sh,j,c,v,wt',sm,false,k+1,?_,aq⟩⟩;rw [Array.empty_append];exact ap
theorem Inv.spawn(h:Inv P F B gs w t φ r bt S Sh j c v wt' sm cl k){g g' child:Goroutine}(hi:gs[0]? =some g){p U O:Ph}(ah:φ 0= .ph p)(au:c=false){s₀:St}(hg:Cf (S 0) s₀)(av:stepG P true g w= .spawn g' child w #[])
  (aw:Way P true (Stop P F U) g' s₀) (ay:Way P false (Stop P F O) child ⟨s₀.E,fun _=>none,false⟩) (az:Fam.C6 U=true) (aA:Fam.C6 O=false) (aB:Fam.Dx U=false) (aC:Fam.Dx O=false) {ai:Nat} {aj:Bool}
  (aD:B5 F B.N0 (gs.size+1) ai aj (upd (upd φ gs.size (.ph O)) 0 (.ph U)) v wt' sm cl)
  (aa:DF (.ph p)=0∧DF (.ph U)=0∧DF (.ph O)=0) (aE:∀k,k<ai→late (upd (upd φ gs.size (.ph O)) 0 (.ph U) (B.N0+k))→k<j∧late (φ (B.N0+k))) (an:aj=true→B.N0+F.n=gs.size∧O= .CK)
  (hm:wt F.n (.ph U)+wt F.n (.ph O)<wt F.n (.ph p)) (aF:sm=0):
  Gy P F B gs w sl t 0 (mu F gs.size φ r bt):=by
 have Y:0<gs.size:=(Array.getElem?_eq_some_iff.1 hi).1;have ak:=runT_crowd_spawn (P:=P) (sl:=sl) (i:=0) hi (show stepG P (0==0) g w=_ from av);have aG:∀(a:Nat) (fn:FuncId) (pos:String),MemOp.ofEvents a fn pos #[]= #[]:=fun a fn pos=>by rw [ofEvents_eq];simp
 rw [aG] at ak;generalize aH:({g:=0,fn:=g.frame.fn,pos:=g.frame.place,act:= .go gs.size}:MemOp)=x at ak;generalize aI:({g:=gs.size,fn:=child.frame.fn,pos:=g.frame.place,act:= .start}:MemOp)=y at ak;have ab:x.g=0∧x.act= .go gs.size:=by subst aH;exact⟨rfl,rfl⟩
 have ac:y.g=gs.size∧y.act= .start:=by subst aI;exact⟨rfl,rfl⟩
 have aJ:((#[]:Trace).push x).push y= #[x,y]:=rfl;have al:((gs.setIfInBounds 0 g').push child).size=gs.size+1:=by simp
 have f0:upd (upd φ gs.size (.ph O)) 0 (.ph U) 0= .ph U:=upd_same _ _ _;have am:upd (upd φ gs.size (.ph O)) 0 (.ph U) gs.size= .ph O:=by rw [upd_ne _ _ (by omega),upd_same]
 have aq:∀a,a≠0→a≠gs.size→upd (upd φ gs.size (.ph O)) 0 (.ph U) a=φ a:=fun a aK aL=>by rw [upd_ne _ _ aK,upd_ne _ _ aL]
 have hu:∀op∈(#[x,y]:Array MemOp),op.act.touch? =none∧∀m,op.act≠ .mark m:=by
  intro op K;simp only [List.mem_toArray,List.mem_cons,List.not_mem_nil,or_false] at K;rcases K with rfl | rfl
  ·rw [ab.2];exact⟨rfl,by simp⟩
  ·rw [ac.2];exact⟨rfl,by simp⟩
 have aM:Dm F B.N0 B.t0 (gs.size+1) ai aj (upd (upd φ gs.size (.ph O)) 0 (.ph U)) (t++ #[x,y]):=by
  refine h.DX.spawn h.Bp au (fun a ao=>?_) (by rw [am];exact aa.2.2) (by rw [ah];exact aa.1) aE (fun e=>⟨(an e).1,by rw [(an e).1,am,(an e).2]⟩) ab ac;by_cases e:a=0
  ·subst e;rw [f0,ah,aa.1,aa.2.1]
  ·rw [aq a e (by omega)]
 have ar:B7 t w gs.size (upd S 0 s₀) Sh:=h.Cx.ghost Y hg;have aN:B7 (t++ #[x,y]) w gs.size (upd S 0 s₀) Sh:=by
  refine ar.ext (fun said=>?_) (fun op K a ao=>by rw [(hu op K).1] at ao;cases ao) (fun op K=>?_) rfl fun _ _=>rfl
  ·have e:t++ #[x,y]=(t++ #[x])++ #[y]:=by apply Array.ext';simp
   rw [e];exact noRace_append (g:=gs.size) (noRace_append (g:=0) (h.Cx.clean said) (fun op K=>by simp at K;subst K;exact ab.1) fun z a _ op K b hb _=>by rw [(hu op (by simp at K ⊢;exact .inl K)).1] at hb;cases hb)
    (fun op K=>by simp at K;subst K;exact ac.1) fun z a _ op K b hb _=>by rw [(hu op (by simp at K ⊢;exact .inr K)).1] at hb;cases hb
  ·simp only [List.mem_toArray,List.mem_cons,List.not_mem_nil,or_false] at K;rcases K with rfl | rfl
   ·rw [ab.2];trivial
   ·rw [ac.2];trivial
 have aO:B7 (t++ #[x,y]) w (gs.size+1) (upd (upd S 0 s₀) gs.size ⟨s₀.E,fun _=>none,false⟩) Sh:=by
  refine aN.push (i:=0) Y (E:=s₀.E) (fun b o ae=>by rw [upd_same];exact ae) fun b hb z a aP aQ aR=>?_;have hold:touchAt t z=some a:=by
   obtain⟨op,ae,ap⟩:=touch_of aP;rcases getElem?_append_cases ae with⟨_,aS⟩ | ⟨_,aT⟩
   ·rw [touchAt_of aS];exact ap
   ·rw [(hu op aT).1] at ap;cases ap
  exact fork_knows ab ac (by rw [h.DX.deaf 0 Y,ah];exact aa.1) (h.DX.above _ (Nat.le_refl _)) (ar.kE 0 Y b (by rw [upd_same];exact hb) z a hold aQ aR)
 obtain⟨aU,aV⟩:=aw;obtain⟨aW,aX⟩:=ay;have ag:∀{α:Type} (f:Nat→α) (a b:α),upd (upd f 0 a) gs.size b 0=a:=fun f a b=>by rw [upd_ne _ _ (by omega),upd_same]
 refine⟨_,_,_,_,ak,.inl ⟨upd (upd φ gs.size (.ph O)) 0 (.ph U),upd (upd r 0 aU) gs.size aW,upd (upd bt 0 true) gs.size true,upd (upd S 0 s₀) gs.size ⟨s₀.E,fun _=>none,false⟩,Sh,ai,aj,v,wt',sm,cl,k,?_,?_⟩⟩
 ·rw [aJ];refine⟨by rw [al];exact aD,by rw [al];exact aM,fun a o V=>?_,by rw [al];exact aO,h.G7,h.FB,h.ne,h.wg,h.Gj,fun hb=>(by rw [ag] at hb;cases hb),fun _ _=>aF,?_,h.tape,h.os,h.output⟩
  ·by_cases e:a=0
   ·subst e;rw [Array.getElem?_push_lt (by simpa using Y)] at V;simp at V;subst V;rw [f0,ag,ag,ag];exact .walk az.symm (fun q=>by rw [aB] at q;cases q) aV
   ·by_cases Z:a=gs.size
    ·subst Z;have:child=o:=by
      rw [show gs.size=(gs.setIfInBounds 0 g').size by simp,Array.getElem?_push_size] at V;exact Option.some.inj V
     subst this;rw [am,upd_same,upd_same,upd_same];have aY:(gs.size==0)=false:=by rw [beq_eq_false_iff_ne];omega
     rw [aY];exact .walk aA.symm (fun q=>by rw [aC] at q;cases q) aX
    ·rw [aq a e Z,upd_ne _ _ Z,upd_ne _ _ e,upd_ne _ _ Z,upd_ne _ _ e,upd_ne _ _ Z,upd_ne _ _ e];have:gs[a]? =some o:=by
      rw [Array.getElem?_push] at V;simp [Z] at V;simpa [Array.getElem?_setIfInBounds_ne (Ne.symm e)] using V
     exact h.DY a o this
  ·rw [ag];exact h.le.trans fun b o ae=>hg.ext b o ae
 ·rw [al];refine PU ?_;simp only [sumTo];rw [am];have aZ:=sumTo_upd (upd φ gs.size (.ph O)) (.ph U) (wt F.n) Y;rw [upd_ne _ _ (by omega),ah] at aZ;have a0:=sumTo_upd_out φ (.ph O) (wt F.n) (i:=gs.size) (j:=gs.size) (Nat.le_refl _);omega
theorem Inv.step(h:Inv P F B gs w t φ r bt S Sh j c v wt' sm cl k)(aA:∀k v E E',Le E E'→F.msg k v E→F.msg k v E'):
  ∃gs' w' aB u,stepT P (crowd gs w sl)=(.next (crowd gs' w' aB),u)∧
  ((∃aN aO aP S' aZ O a0 v' a1 sm' cl' k',Inv P F B gs' w' (t++u) aN aO aP S' aZ O a0 v' a1 sm' cl' k'∧Mu.lt (mu F gs'.size aN aO aP) (mu F gs.size φ r bt))∨Over P F B gs' w' (t++u)):=by
 have br:=h.Bp.pos;have ah:=h.Bp.size;have aC:0<gs.size:=by omega
 have a2:∀x∈gs,awake x:=by
  intro x K;obtain⟨i,hi,rfl⟩:=Array.mem_iff_getElem.1 K;exact(h.DY i _ (Array.getElem?_eq_getElem hi)).awake
 have aD:∀i (hi:i<gs.size) p,φ i= .ph p→bt i=true→(gs[i]).status= .running:=by
  intro i hi p a3 hb;have hs:=h.DY i _ (Array.getElem?_eq_getElem hi);rw [a3,hb] at hs;generalize K:Nx.ph p=x at hs;generalize Z:true=b at hs;generalize gs[i]=o at hs ⊢;generalize r i=ρ at hs;generalize S i=s at hs;cases hs with
  | walk _ _ al=>exact al.running
  | again _ _=>rfl
  | EN _ _=>cases Z
  | Fg _ _ _ _=>cases Z
  | blk _ _=>cases Z
  | gone _ _=>cases K
 have a4:∃(i:Nat) (g:Goroutine),gs[i]? =some g∧g.status= .running:=by
  obtain⟨p0,aa,am⟩:=h.Bp.main;cases aE:bt 0 with
  | true=>exact⟨0,_,Array.getElem?_eq_getElem aC,aD 0 aC p0 aa aE⟩
  | false=>
   obtain⟨a5,a6⟩:=h.Ls aE;have aQ:=h.DY 0 _ (Array.getElem?_eq_getElem aC);rw [aa,aE] at aQ;obtain⟨ai,vs,aR,bu,rfl,_,_⟩:=aQ.receiver rfl rfl;obtain⟨al,U⟩:=am;have aF:B.N0+F.n<gs.size:=by rw [U] at ah;simp at ah;omega
   have a7:=h.Bp.cls U;have ab:=h.Bp.mode;rw [if_pos U] at ab;cases ap:φ (B.N0+F.n) with
   | gone d=>rw [ap] at ab;have:=ab.2.2.2.2.2;rw [a5] at this;cases this
   | ph aG=>
    cases aH:bt (B.N0+F.n) with
    | true=>exact⟨_,_,Array.getElem?_eq_getElem aF,aD _ aF aG ap aH⟩
    | false=>
     have aq:=h.blk U aH;have ac:=h.DY _ _ (Array.getElem?_eq_getElem aF);have a8:aG= .C4:=by
      have ar:=a7;rw [ap] at ac ar;rw [aH] at ac;generalize gs[B.N0+F.n]=o at ac;generalize r (B.N0+F.n)=ρ at ac;generalize S (B.N0+F.n)=s at ac;generalize K:Nx.ph aG=x at ac ar;generalize Z:false=b at ac;cases ac with
      | walk _ _ _=>cases Z
      | again _ _=>cases Z
      | EN _ _=>cases K;exact ar.elim
      | Fg _ _ _ _=>cases K;exact ar.elim
      | blk _ _=>cases K;rfl
      | gone _ _=>cases K
     subst a8;rw [ap] at ab;obtain⟨a9,_,_⟩:=ab;have aS:=h.Bp.cnt;rw [aa] at aS;simp only [pend,Nat.add_zero] at aS;have hex:∃i,i<gs.size∧1≤cU (φ i)+cL (φ i)+cS (φ i):=by
      apply Classical.byContradiction;intro ba;have aI:∀i,i<gs.size→cU (φ i)=0∧cL (φ i)=0∧cS (φ i)=0:=fun i hi=>by
       have:¬1≤cU (φ i)+cL (φ i)+cS (φ i):=fun q=>ba ⟨i,hi,q⟩;omega
      have zero:∀f:Nat→Nat,(∀i,i<gs.size→f i=0)→sumTo gs.size f=0:=fun f bb=>by
       have:=sumTo_le (f:=f) (c:=0) (j:=gs.size) (fun i hi=>by rw [bb i hi];exact Nat.le_refl _);omega
      have z1:=zero (fun i=>cU (φ i)) fun i hi=>(aI i hi).1;have bv:=zero (fun i=>cL (φ i)) fun i hi=>(aI i hi).2.1;have bw:=zero (fun i=>cS (φ i)) fun i hi=>(aI i hi).2.2;omega
     obtain⟨i,hi,aj⟩:=hex;cases an:φ i with
     | gone d=>rw [an] at aj;simp [cU,cL,cS] at aj
     | ph pi=>
      have bc:bt i=true:=by
       cases hb:bt i with
       | true=>rfl
       | false=>
        have hs:=h.DY i _ (Array.getElem?_eq_getElem hi);rw [an,hb] at hs;rw [an] at aj;generalize gs[i]=o at hs;generalize r i=ρ at hs;generalize S i=s at hs;generalize K:Nx.ph pi=x at hs aj;generalize Z:false=b at hs;cases hs with
        | walk _ _ _=>cases Z
        | again _ _=>cases Z
        | EN _ _=>simp [cU,cL,cS] at aj
        | Fg _ _ _ _=>have:=a6 i _ hi (an.trans K);rw [hb] at this;cases this
        | blk _ _=>simp [cU,cL,cS] at aj
        | gone _ _=>cases K
      exact⟨i,_,Array.getElem?_eq_getElem hi,aD i hi pi an bc⟩
 obtain⟨i,g,d,aB,hi,au,bd⟩:=crowd_pick (P:=P) (w:=w) (sl:=sl) a2 a4
 suffices Gy P F B gs (w.at d) aB t i (mu F gs.size φ r bt) by
  obtain⟨gs',w',be,u,aJ,av⟩:=this;exact⟨gs',w',be,u,bd.trans aJ,av⟩
 have V:=h.at_ d;have aK:i<gs.size:=(Array.getElem?_eq_some_iff.1 hi).1;have hs:=h.DY i g hi;generalize K:φ i=x at hs;generalize aT:r i=ρ at hs;generalize hb:bt i=b at hs;generalize aw:S i=s at hs;cases hs with
 | EN _ _=>cases au
 | Fg _ _ _ _=>cases au
 | blk _ _=>cases au
 | gone hm ak=>exact V.slip hi au K aT hm ak aw
 | @again ai vs _ aR _ z hm Y=>
  have ag:i=0:=by simpa using hm
  subst ag;refine V.recv aA hi K hb (by rw [aw];exact .refl _) Y (fun w=>?_) rfl;rw [stepG_tries];congr 1;have:=Y.law.run;obtain⟨a,b,c,d,e⟩:=aR;simp only at this;subst this;rfl
 | @walk p _ _ _ hm ak al=>
  have bf:JQ (Stop P F p) g s∨∃f,ρ= .node f∧(∀w,Fits s w→∃g' s' w' es,stepG P (i==0) g w= .go g' w' es∧Jr P (i==0) (JQ (Stop P F p)) (f w) g' s'∧Fits s' w'∧Fr s w s' w'∧(∀e∈es,Ev s w w' e)∧(s= .quiet→s'= .quiet∧w'=w∧es= #[])):=by
   cases ρ with
   | leaf=>exact .inl al
   | node f=>
    rcases al with q | ⟨_,q⟩
    ·exact .inl q
    ·exact .inr ⟨f,rfl,q⟩
  rcases bf with⟨s₀,hg,Y⟩ | ⟨f,rfl,hgo⟩
  ·subst aw;by_cases aU:∃k',p= .Cj k'
   ·obtain⟨k',rfl⟩:=aU;exact V.send aA hi K hb hm hg Y
   by_cases c2:∃O,p= .Ej O
   ·obtain⟨O,rfl⟩:=c2;have ag:i=0:=by simpa [Fam.C6] using hm
    subst ag;obtain⟨p0,aa,am⟩:=h.Bp.main;have:p0= .Ej O:=by rw [K] at aa;exact(Nx.ph.inj aa).symm
    subst this;obtain⟨rfl,bg,U⟩:=am;obtain⟨g',child,_,_,hgo,aL,aM⟩:=Y.law.go _ rfl;have aq:sm=0:=by have:=h.Bp.mode;rw [U] at this;exact this.2.2.1
    have bh:=h.Bp.spawn K;have ay:F.Dg O= .ER∨F.Dg O= .Es (O+1):=by unfold Fam.Dg;split;exact .inl rfl;exact .inr rfl
    have ao:F.start O= .Cj O∨F.start O= .CH:=by unfold Fam.start;split;exact .inl rfl;exact .inr rfl
    have bi:gs.size=B.N0+O:=by rw [U] at ah;simpa using ah
    refine V.spawn hi K U hg (hgo _) aM aL ?_ ?_ ?_ ?_ bh ⟨rfl,?_,?_⟩ (fun k' aV ae=>?_) (fun e=>by rw [U] at e;cases e) ?_ aq
    ·rcases ay with e | e <;> rw [e] <;> rfl
    ·rcases ao with e | e <;> rw [e] <;> rfl
    ·rcases ay with e | e <;> rw [e] <;> rfl
    ·rcases ao with e | e <;> rw [e] <;> rfl
    ·rcases ay with e | e <;> rw [e] <;> rfl
    ·rcases ao with e | e <;> rw [e] <;> rfl
    ·by_cases e:k'=O
     ·subst e;rw [upd_ne _ _ (by omega),show B.N0+k'=gs.size by omega,upd_same] at ae;rcases ao with e | e <;> rw [e] at ae <;> exact ae.elim
     ·rw [upd_ne _ _ (by omega),upd_ne _ _ (by omega)] at ae;exact⟨by omega,ae⟩
    ·have:wt F.n (.ph (F.start O))≤10:=by rcases ao with e | e <;> rw [e] <;> simp [wt]
     have av:wt F.n (.ph (F.Dg O))+20≤5*F.n+60+20*(F.n - O):=by
      rcases ay with e | e <;> rw [e] <;> simp only [wt] <;> omega
     have aW:wt F.n (.ph (.Ej O))=5*F.n+55+20*(F.n - O):=rfl;omega
   by_cases c3:p= .ER
   ·subst c3;have ag:i=0:=by simpa [Fam.C6] using hm
    subst ag;obtain⟨p0,aa,am⟩:=h.Bp.main;have:p0= .ER:=by rw [K] at aa;exact(Nx.ph.inj aa).symm
    subst this;obtain⟨bg,U⟩:=am;obtain⟨g',child,_,_,hgo,aL,aM⟩:=Y.law.FV rfl;have aq:sm=0:=by have:=h.Bp.mode;rw [U] at this;exact this.2.2.1
    have bi:gs.size=B.N0+j:=by rw [U] at ah;simpa using ah
    refine V.spawn hi K U hg (hgo _) aM aL rfl rfl rfl rfl (h.Bp.TY K) ⟨rfl,rfl,rfl⟩ (fun k' aV ae=>?_) (fun _=>⟨by omega,rfl⟩) (by simp only [wt];omega) aq;rw [upd_ne _ _ (by omega),upd_ne _ _ (by omega)] at ae;exact⟨aV,ae⟩
   by_cases c4:∃ai vs,p= .B6 ai vs
   ·obtain⟨ai,vs,rfl⟩:=c4;have ag:i=0:=by simpa [Fam.C6] using hm
    subst ag;exact V.recv aA hi K hb hg Y (fun _=>rfl) rfl
   by_cases aX:p= .Df
   ·subst aX;exact V.close hi K hm Y
   by_cases az:p= .C4∧sm=0
   ·obtain⟨rfl,az⟩:=az;exact V.block hi K hb hm hg Y az
   obtain⟨v',w',sm',es,bx,bj⟩:=h.Bp.enabled aK K (fun k e=>aU ⟨k,e⟩) (fun k e=>c2 ⟨k,e⟩) c3 (fun ai vs e=>c4 ⟨ai,vs,e⟩) aX (fun e=>by
    have ab:=h.Bp.mode
    subst e
    have aY:c=true∧i=B.N0+F.n:=by
     rcases h.Bp.Ey aK with rfl | ⟨a,b⟩ | ⟨k',bl,rfl⟩ | q
     ·obtain⟨q,ak,bm⟩:=h.Bp.main;rw [K] at ak;cases ak;exact bm.elim
     ·have:=h.Bp.old i a b;rw [K] at this;exact this.elim
     ·have:=h.Bp.work k' bl;rw [K] at this;exact this.elim
     ·exact q
    rw [if_pos aY.1,← aY.2,K] at ab
    obtain⟨a9,_⟩:=ab
    have:sm≠0:=fun q=>az ⟨rfl,q⟩
    omega)
   exact V.act hi K hm hg Y bj
  ·subst aw;have bn:Fits (S i) (w.at d):=V.Cx.fits i aK;obtain⟨g',s',w',es,aJ,av,aW,bo,bp,bq⟩:=hgo (w.at d) bn;exact V.own hi K hm ak aJ av aW bo bp bq (by rw [aT];exact⟨f,_,rfl,rfl⟩)
theorem Inv.run(Y:∀k v E E',Le E E'→F.msg k v E→F.msg k v E'):∀(K:Mu) (gs:Array Goroutine) (w:World) (sl:Option (Nat×Nat)) (t:Trace) (φ:Nat→Nx) (r:Nat→Rk) (bt:Nat→Bool) (S:Nat→St) (Sh:Nat→Prop) (j:Nat) (c:Bool) (v wt' sm:Nat) (cl:Bool) (k:Nat),
  mu F gs.size φ r bt=K→Inv P F B gs w t φ r bt S Sh j c v wt' sm cl k→∃n gs' w' O U,runNT P n (crowd gs w sl) t=(.next (crowd gs' w' O),U)∧Over P F B gs' w' U:=by
 intro K
 induction K using Mu.wf.induction with
 | _ K Z=>
  intro gs w sl t φ r bt S Sh j c v wt' sm cl k aa h;obtain⟨gs',w',O,u,V,hh⟩:=h.step (sl:=sl) Y;rcases hh with⟨ab,ac,ae,S',ag,ah,ai,v',aj,sm',cl',k',ak,al⟩ | am
  ·obtain⟨n,an,ao,ap,aq,ar,au⟩:=Z _ (aa▸al) gs' w' O (t++u) ab ac ae S' ag ah ai v' aj sm' cl' k' rfl ak;exact⟨n+1,an,ao,ap,aq,Kg V ar,au⟩
  ·exact⟨1,gs',w',O,t++u,Kg V rfl,am⟩
end
end Pal
namespace Pal
open Go Go.Conc
open Go.ConcN (upd upd_same upd_ne sumTo sumTo_upd sumTo_upd_out sumTo_congr le_sumTo sumTo_le)
def Hl(H:LH)(a b:Nat):LH:=fun x=>if x=b then none else if x=a then none else H x
theorem Ty{P:Program}(F:Fam){Q:GP}{g:Goroutine}{s:St}(ac:1≤F.n)(al:F.n<2147483647)(am:∀k v E E',Le E E'→F.msg k v E→F.msg k v E')
  (V:F.wg≠F.ch) (Y:s.H F.wg=some (F.FX 0 0)) (Z:s.H F.ch=some (.chan 0 #[] false 0 0 false))
  (an:Way P true (Stop P F (.Es 0)) g ⟨s.E,Hl s.H F.wg F.ch,false⟩) (ao:∀g s,F.fin g s→(C5 P).ok Q g s):(C5 P).ok Q g s:=by
 intro gs w sl t q Sh hC;have O:0<gs.size:=(Array.getElem?_eq_some_iff.1 hC.main).1;let s1:St:={s with H:=fun b=>if b=F.wg then none else s.H b}
 have ae:lone s 0=s:=rfl;have ap:B7 t w gs.size (upd (lone s) 0 s1) (fun b=>Sh b∨b=F.wg):=by
  have:=hC.Cx.share (i:=0) O (b₀:=F.wg) (o₀:=F.FX 0 0) (by rw [ae];exact Y);exact this
 have c2:B7 t w gs.size (upd (upd (lone s) 0 s1) 0 ⟨s.E,Hl s.H F.wg F.ch,false⟩) (fun b=>(Sh b∨b=F.wg)∨b=F.ch):=by
  have:=ap.share (i:=0) O (b₀:=F.ch) (o₀:= .chan 0 #[] false 0 0 false) (by rw [upd_same];simp [s1,Ne.symm V,Z]);refine this.congr fun i hi=>?_;by_cases e:i=0
  ·subst e;rw [upd_same,upd_same,upd_same];exact⟨rfl,rfl⟩
  ·have h:∀(f:Nat→St) (x:St),upd f 0 x i=f i:=fun f x=>upd_ne f x e;constructor <;> simp only [h]
 have ag:∀b,s.H b≠none→∀x a,touchAt t x=some a→Dd a.loc=some b→Knows t 0 x:=fun b hb=>hC.Cx.kH 0 O b (by rw [ae];exact hb);have ah:∀b,(b=F.wg∨b=F.ch)→s.H b≠none:=by rintro b (rfl | rfl) <;> simp [Y,Z]
 have ai:=hC.Cx.fits 0 O;obtain⟨ρ,aq⟩:=an;let φ:Nat→Nx:=fun i=>if i=0 then .ph (.Es 0) else .gone (Deaf t i)
 have z:∀f:Nx→Nat,(∀d,f (.gone d)=0)→f (.ph (.Es 0))=0→(sumTo gs.size fun i=>f (φ i))=0:=by
  intro f aj ak;have:=sumTo_le (f:=fun i=>f (φ i)) (c:=0) (j:=gs.size) fun i _=>by
   show f (φ i)≤0;by_cases e:i=0
   ·simp [φ,e,ak]
   ·simp [φ,e,aj]
  omega
 have ar:∀i,(upd (upd (lone s) 0 s1) 0 ⟨s.E,Hl s.H F.wg F.ch,false⟩) i=if i=0 then⟨s.E,Hl s.H F.wg F.ch,false⟩ else .quiet:=by
  intro i;by_cases e:i=0
  ·subst e;rw [upd_same];rfl
  ·rw [upd_ne _ _ e,upd_ne _ _ e];simp [lone,e]
 have au:F.FX (Fam.word 0 0) (0:Nat)=F.FX 0 0:=by simp [Fam.word]
 have av:Inv P F ⟨gs.size,t.size,s.E,w⟩ gs w t φ (fun i=>if i=0 then ρ else chain (q i)) (fun _=>true) (upd (upd (lone s) 0 s1) 0 ⟨s.E,Hl s.H F.wg F.ch,false⟩) (fun b=>(Sh b∨b=F.wg)∨b=F.ch) 0 false 0 0 0 false 0:=by
  refine⟨⟨O,ac,al,by simp,Nat.zero_le _,by simp,⟨.Es 0,rfl,rfl,ac,rfl⟩,fun i aj ak=>?_,fun k K=>by omega,by simp,?_,by simp [φ,pend],?_,fun k K=>by omega,.nil,fun k K=>by cases K⟩,
   ⟨fun i hi=>?_,fun i hi=>hC.lv.above i hi,fun x a b U hb aa K i hi aw=>?_,fun x a b U hb aa K=>?_,fun x g hg V ay=> .inl (hC.over x g hg V ay),fun x U e=>?_,Nat.le_refl _,fun k K=>by omega,by simp,by simp⟩,fun i g' ab=>?_,c2,.inl (.inr rfl),.inr rfl,V,?_,?_,by simp,by simp,?_,rfl,rfl,rfl⟩
  ·have:i≠0:=by omega
   simp [φ,this,Eg]
  ·rw [z cU (fun _=>rfl) rfl];simp [φ,pend]
  ·simp only [Bool.false_eq_true,if_false,CF];exact⟨z cL (fun _=>rfl) rfl,z cS (fun _=>rfl) rfl,trivial,trivial,trivial⟩
  ·by_cases e:i=0
   ·subst e;simp [φ,DF];exact hC.hears
   ·simp [φ,e,DF]
  ·have:i=0:=by
    rcases aw with e | e
    ·exact e
    ·exact absurd hi (Nat.not_lt.2 e)
   subst this;exact ag b (ah b aa) x a U hb
  ·exact ag b (ah b aa) x a U hb
  ·have:=lt_of_act? e;have aS:t.size≤x:=U;omega
  ·rw [ar];by_cases e:i=0
   ·subst e;rw [hC.main] at ab;obtain rfl:=Option.some.inj ab;simp only [if_true,φ];exact .walk rfl (fun h=>by cases h) aq
   ·have hm:(i==0)=false:=by rw [beq_eq_false_iff_ne];exact e
    simp only [e,if_false,φ];exact .gone hm (hC.lv.old i g' (by omega) ab)
  ·show w.heap[F.wg]? =_;rw [au];exact ai.h _ _ Y
  ·exact ai.h _ _ Z
  ·rw [upd_same];exact Le.refl _
 obtain⟨n,gs',w',az,aA,aB,aC,aD,g',s',aE,aF,hle,aG,aH,aI⟩:=Inv.run am _ _ _ sl _ _ _ _ _ _ _ _ _ _ _ _ _ rfl av;obtain⟨n2,aJ,w2,aK,t2,q2,aL,g2,s2,k1,aM,aN,aO,aP,aQ,aR⟩:=ao g' s' aF gs' w' az aA aC aD aE;refine⟨n+n2,aJ,w2,aK,t2,q2,aL,g2,s2,?_,aM,aN,fun b o h=>aO b o (hle b o h),aP.trans aG,aQ.trans aH,aR.trans aI⟩;rw [runNT_add,aB];exact k1
end Pal
namespace Pal
open Go Go.Conc
section
variable {P:Program}{F:Fam}{J:Judge P}{Q:GP}{n:Nat}{L L':Env}{ds:Ld_}{k:Li_}{cs:Lf_}{s s':St}{b:Frame}{main:Bool}
theorem Cz(hb:b.roundOf=none)(T:Aw)(todo:Li_):fr b T ds todo=b.at ⟨T,ds⟩ todo:=by simp [fr,Frame.at,hb]
theorem H9(hb:b.roundOf=none)(T:Aw)(todo:Li_):DI b T ds todo={b.at ⟨T,ds⟩ todo with mode:= .returning}:=by simp [DI,Frame.at,hb]
theorem Ef(T:Aw)(ds:Ld_)(x:Operand):(⟨T,ds⟩:Act).eval x=BB T x:=by cases x <;> rfl
theorem Fb(T:Aw)(ds:Ld_)(d:Option Tmp)(v:Value):(⟨T,ds⟩:Act).put d v=⟨Cr T d v,ds⟩:=by cases d <;> rfl
def JO(J:Judge P)(Q:GP)(b:Frame)(n:Nat)(L:Env)(ds:Ld_)(cs:Lf_)(s:St):Prop:=
 ∀T,Has n L T→∀todo,J.ok Q (G (DI b T ds todo) cs) s
theorem JL.out(K:b.roundOf=none)(h:JO J Q b n L ds cs s):JL J Q b n L ds [] cs s:=fun T O=>
 Judge.CS rfl (fun w=>by simp [G,stepG,stepG.exec,fr,DI,K]) (h T O [])
theorem Eo(K:b.roundOf=none)(h:JO J Q b n L ds cs s):JL J Q b n L ds (.code .ret::k) cs s:=fun T O=>
 Judge.CS rfl (fun w=>by simp [G,stepG,stepG.exec,fr,DI,K]) (h T O (.code .ret::k))
theorem JO.leave{c:Frame}{v:Value}(O:b.kind= .normal)(K:BP P b.fn L n s v)(h:J.ok Q (G (c.finish v) cs) s):JO J Q b n L [] (c::cs) s:=fun T U todo=>by
 obtain⟨fn,V,K⟩:=K
 exact Judge.leave O V (K T U) h
theorem JO.leaveD{c:Frame}{fn:Func}(O:b.kind= .deferred)(U:P.funcs[b.fn]? =some fn)(K:fn.results= #[])(V:c.mode= .returning∨c.mode= .panicking [goexitEntry])(h:J.ok Q (G c cs) s):JO J Q b n L [] (c::cs) s:=fun T Z todo=>by
 refine Judge.CS rfl (fun w=>?_) h
 have Y:=results_none K T P w
 have e2:=fun(x:Array Event)=>events_results_none (P:=P) (w:=w) K T x
 rcases V with e | e <;> simp [G,stepG,unwind,DI,U,Y,e2,doReturn,O,GStep.after,seen_none,e,goexitEntry]
theorem JO.enter{f:FuncId}{fn:Func}{c:Code}{vs:Lv_}(O:b.roundOf=none)(V:P.funcs[f]? =some fn)(Y:(fn.name== "runtime.NumGoroutine")=false)(hb:fn.body=some c)(ab:vs.length≤fn.ntmps)
  (h:∀T,Has n L T→∀todo,JL J Q (baseD f) fn.ntmps (EO 0 vs) [] [.code c] (DI b T ds todo::cs) s):JO J Q b n L (dcall f vs.toArray::ds) cs s:=fun T Z todo=>by
 refine Judge.CS rfl (fun w=>?_) (h T Z todo (vs.toArray++Array.replicate (fn.ntmps - vs.length) undef) ⟨by simp;omega,fun t v ht=>?_⟩)
 ·rw [H9 O,stepG_unwind_enter (a:=⟨T,dcall f vs.toArray::ds⟩) rfl V Y hb,H9 O]
  rw [Cz (b:=baseD f) rfl];simp
 ·obtain⟨_,K⟩:=H4 ht;have aa:t<vs.length:=by
   rcases Nat.lt_or_ge t vs.length with U | U
   ·exact U
   ·simp at K;have:=(List.getElem?_eq_some_iff.1 K).1;omega
  rw [Array.getD_eq_getD_getElem?,Array.getElem?_append_left (by simpa using aa)];simp at K;simp [K]
theorem JL.defer{ops:Ao_}{i:Nat}{rest:List Nat}{d:Option Tmp}{f:FuncId}{args:Array Operand}{ats:Array TypeId}{ty:TypeId}{p:String}{af:Ae_}{g:On_}{vs:Lv_}
  (U:ops[i]? =some ⟨d,.defer ⟨.value (.func f),args,ats⟩,ty,p,af,g⟩) (V:b.roundOf=none) (hw:A5 L ops ⟨d,.defer ⟨.value (.func f),args,ats⟩,ty,p,af,g⟩=some true) (K:((b.kind != .early)&&Bs n d)=true)
  (Y:evs L args.toList=some vs) (h:JL J Q b n (Ax L d undef) (dcall f vs.toArray::ds) (.inRegion ops rest::k) cs s):
  JL J Q b n L ds (.inRegion ops (i::rest)::k) cs s:=fun T O=>by
 simp only [Bool.and_eq_true] at K
 have Z:args.map (BB T)=vs.toArray:=by
  rw [← EX O.Fx Y];apply Array.ext';simp
 refine Judge.oper U (CL O hw) (by simpa using K.1) (.inl V) ?_;have aa:execOp (BB T) ⟨d,.defer ⟨.value (.func f),args,ats⟩,ty,p,af,g⟩= .pure (.defer (dcall f vs.toArray)):=by
  simp only [execOp,resolve,bind,Sem.bind,Deferred.ofValue,BB,pure,dcall];rw [Z];simp
 rw [aa];exact h _ (O.put K.2 undef)
def Ih:Ph→Bool
 | .Cj _ | .Ej _ | .ER | .B6 _ _ | .Df | .C4=>false
 | _=>true
theorem Gp{p:Ph}{g:Goroutine}(K:Ih p=true)(V:g.status= .running)(Y:g.offers=none)(O:if Fam.Dx p=true then s= .quiet else s.q=false)(Z:p= .DW→mayWake P g=true)
  (h:∀v wt sm v' wt' sm' es U,F.act p v wt sm=some ((v',wt',sm'),es,U)→∃g',(∀w,F.WG w v wt sm→stepG P (Fam.C6 p) g w= .go g' (F.put w v' wt' sm') es)∧g'.status= .running∧JF P (Stop P F) (Fam.C6 p) U g' (Fam.FU p s)):Stop P F p g s:=
 ES.stop {
  run:=V
  offers:=Y
  quiet:=fun e=>by rw [if_pos e] at O;exact O
  live:=fun e=>by rw [if_neg (by rw [e];simp)] at O;exact O
  act:=h
  Gc:=fun e=>by rcases e with e | e;exact Z e;subst e;cases K
  DZ:=fun e=>by subst e;cases K
  close:=fun e=>by subst e;cases K
  send:=fun k e=>by subst e;cases K
  go:=fun j e=>by subst e;cases K
  FV:=fun e=>by subst e;cases K
  recv:=fun aa vs e=>by subst e;cases K}
theorem H7{w:World}{v wt sm:Nat}(h:F.WG w v wt sm):F.put w v wt sm=w:=by
 unfold Fam.put;have:w.heap.setIfInBounds F.wg (F.FX (Fam.word v wt) sm)=w.heap:=by
  apply Array.ext_getElem?;intro i;by_cases e:F.wg=i
  ·subst e;unfold Fam.WG at h;have O:F.wg<w.heap.size:=by
    rcases Nat.lt_or_ge F.wg w.heap.size with K | K
    ·exact K
    ·simp [Array.getElem?_eq_none K] at h
   rw [Array.getElem?_setIfInBounds_self_of_lt O,h]
  ·rw [Array.getElem?_setIfInBounds_ne e]
 rw [this]
theorem Gs{w:World}{v wt sm:Nat}(h:F.WG w v wt sm):w.cell? F.sA=some (.int .u64 (Fam.word v wt))∧w.cell? F.mA=some (.int .u32 sm)∧w.frozen? F.sA=false∧w.frozen? F.mA=false:=by
 unfold Fam.WG Fam.FX at h;refine⟨?_,?_,?_,?_⟩
 ·simp [World.cell?,Fam.sA,h]
 ·simp [World.cell?,Fam.mA,h]
 ·simp [World.frozen?,Fam.sA,h]
 ·simp [World.frozen?,Fam.mA,h]
theorem Kh{w:World}{v wt sm v' wt':Nat}(h:F.WG w v wt sm):w.setCell F.sA (.int .u64 (Fam.word v' wt'))=F.put w v' wt' sm:=by
 unfold Fam.put World.setCell;congr 1;apply Array.ext_getElem?;intro i;unfold Fam.WG Fam.FX at h;rw [Array.getElem?_modify];have O:F.wg<w.heap.size:=by
  rcases Nat.lt_or_ge F.wg w.heap.size with K | K
  ·exact K
  ·simp [Array.getElem?_eq_none K] at h
 by_cases e:F.wg=i
 ·subst e;rw [Array.getElem?_setIfInBounds_self_of_lt O,h];simp [Fam.sA,Fam.FX]
 ·rw [Array.getElem?_setIfInBounds_ne e];simp [Fam.sA,e]
theorem Nh{w:World}{v wt sm sm':Nat}(h:F.WG w v wt sm):w.setCell F.mA (.int .u32 sm')=F.put w v wt sm':=by
 unfold Fam.put World.setCell;congr 1;apply Array.ext_getElem?;intro i;unfold Fam.WG Fam.FX at h;rw [Array.getElem?_modify];have O:F.wg<w.heap.size:=by
  rcases Nat.lt_or_ge F.wg w.heap.size with K | K
  ·exact K
  ·simp [Array.getElem?_eq_none K] at h
 by_cases e:F.wg=i
 ·subst e;rw [Array.getElem?_setIfInBounds_self_of_lt O,h];simp [Fam.mA,Fam.FX]
 ·rw [Array.getElem?_setIfInBounds_ne e];simp [Fam.mA,e]
structure Cm (P:Program) (f:FuncId) (e:Aw→Sem Value):Prop where
 h:∃fn,P.funcs[f]? =some fn∧(fn.name== "runtime.NumGoroutine")=false∧fn.body.isNone=true∧Extern.findNext fn=none∧Extern.find fn=some e
section
variable {ops:Ao_}{i:Nat}{rest:List Nat}{d:Option Tmp}{f:FuncId}{args:Array Operand}{ats:Array TypeId}{ty:TypeId}{pp:String}{af:Ae_}{g:On_}{vs:Lv_}{p q:Ph}
theorem MK{T:Aw}(K:Has n L T)(O:evs L args.toList=some vs):args.map (⟨T,ds⟩:Act).eval=vs.toArray:=by
 have:(⟨T,ds⟩:Act).eval=BB T:=funext fun x=>Ef T ds x;rw [this,← EX K.Fx O];apply Array.ext';simp
theorem I7{m:Mark}(Y:Ih p=true)(Z:if Fam.Dx p=true then s= .quiet else s.q=false)(aa:p≠ .DW)(ab:∀v wt sm,F.act p v wt sm=some ((v,wt,sm),#[Fam.DK m],.ph q))(ac:Fam.FU p s=s)
  (ae:ops[i]? =some ⟨d,.call ⟨.value (.func f),args,ats⟩,ty,pp,af,g⟩) (O:b.roundOf=none) (hw:A5 L ops ⟨d,.call ⟨.value (.func f),args,ats⟩,ty,pp,af,g⟩=some true) (K:((b.kind != .early)&&Bs n d)=true)
  (hm:∀x,m≠ .extern x) (he:Cm P f (fun _=>do mark m;pure Extern.Race.none_))
  (h:JL (Bo P (Fam.C6 p)) (Stop P F q) b n (Ax L d (.tuple #[])) ds (.inRegion ops rest::k) cs s):
  JL (Bo P (Fam.C6 p)) (Stop P F p) b n L ds (.inRegion ops (i::rest)::k) cs s:=fun T U=>by
 simp only [Bool.and_eq_true] at K
 obtain⟨fn,ag,ah,hb,ai,he⟩:=he.h
 refine(Bo P _).stop (Gp Y rfl rfl Z (fun e=>absurd e aa) fun v wt sm v' wt' sm' es ak V=>?_)
 rw [ab] at V;cases V
 refine⟨_,fun w aj=>?_,rfl,by rw [ac];exact h _ (U.put K.2 _)⟩
 rw [Cz O,Cz O,stepG_mark0 (a:=⟨T,ds⟩) m hm ae (CL U hw) (by simpa using K.1) rfl ag ah hb ai he,H7 aj,Fb]
 rfl
theorem I5{mk:Addr→Mark}{ad:Addr}(Y:Ih p=true)(Z:if Fam.Dx p=true then s= .quiet else s.q=false)(aa:p≠ .DW)(ab:∀v wt sm,F.act p v wt sm=some ((v,wt,sm),#[Fam.DK (mk ad)],.ph q))
  (ac:ops[i]? =some ⟨d,.call ⟨.value (.func f),args,ats⟩,ty,pp,af,g⟩) (U:b.roundOf=none) (hw:A5 L ops ⟨d,.call ⟨.value (.func f),args,ats⟩,ty,pp,af,g⟩=some true) (K:((b.kind != .early)&&Bs n d)=true)
  (hm:∀ad x,mk ad≠ .extern x) (he:Cm P f (Extern.Race.marked mk)) (ae:evs L args.toList=some vs) (ag:vs[0]? =some (.pointer (some ad)))
  (h:JL (Bo P (Fam.C6 p)) (Stop P F q) b n (Ax L d (.tuple #[])) ds (.inRegion ops rest::k) cs (Fam.FU p s)):
  JL (Bo P (Fam.C6 p)) (Stop P F p) b n L ds (.inRegion ops (i::rest)::k) cs s:=fun T O=>by
 simp only [Bool.and_eq_true] at K
 obtain⟨fn,ah,ai,hb,aj,he⟩:=he.h
 refine(Bo P _).stop (Gp Y rfl rfl Z (fun e=>absurd e aa) fun v wt sm v' wt' sm' es al V=>?_)
 rw [ab] at V;cases V
 refine⟨_,fun w ak=>?_,rfl,h _ (O.put K.2 _)⟩
 rw [Cz U,Cz U,stepG_markAt (a:=⟨T,ds⟩) mk hm ac (CL O hw) (by simpa using K.1) rfl ah ai hb aj he (ad:=ad) (by rw [MK O ae];simpa using ag),H7 ak,Fb]
 rfl
end
end
end Pal
namespace Pal
open Go Go.Conc
section
variable {E H:LH}{S:List Seg}{j l:Nat}{o o':Obj}
theorem Kt(ae:Ar E H S)(V:S[j]? =some [(l,o)])(o':Obj):(Am E H S).upd l o'=Am E H (S.set j [(l,o')])∧Ar E H (S.set j [(l,o')]):=by
 obtain⟨K,Y⟩:=EL ae V;have U:=Nd.iff.1 Y;have Z:E l=none:=(U.2 (l,o) (by simp)).1;have ag:H l=none:=(U.2 (l,o) (by simp)).2;have aa:Nd E H (S.set j []).flatten:=Hh.Nd.left Y;have ah:∀q∈(S.set j []).flatten,q.1≠l:=fun q O e=>by
  have:=U.1;rw [List.map_append,List.nodup_append] at this;exact this.2.2 q.1 (List.mem_map_of_mem O) l (by simp) e
 have ab:A9 (S.set j []).flatten H l=none:=by
  have key:∀(B:List (Nat×Obj)),(∀q∈B,q.1≠l)→A9 B H l=none:=by
   intro B
   induction B with
   | nil=>intro _;exact ag
   | cons q B ai=>
    intro O;obtain⟨c,aj⟩:=q;have ac:l≠c:=fun e=>O (c,aj) (by simp) e.symm;have K:=ai fun ak al=>O ak (List.mem_cons_of_mem _ al);simp only [A9]
    first
    | rw [if_neg ac];exact K
    | rw [if_neg (Ne.symm ac)];exact K
  exact key _ ah
 have f1:=HG (E:=E) (H:=H) (B:=(S.set j []).flatten) (r:=l) Z ab o aa;have f2:=HG (E:=E) (H:=H) (B:=(S.set j []).flatten) (r:=l) Z ab o' aa;obtain⟨am,g2⟩:=F9 (seg:= [(l,o)]) V f2.1;refine⟨?_,g2⟩;rw [K,← am,← f1.2,← f2.2];unfold St.upd;congr 1;funext x;by_cases an:x=l <;> simp [an]
end
section
variable {P:Program}{J:Judge P}{Q:Gs_}{b:Frame}{n:Nat}{L:Env}{ds:Ld_}{k:Li_}{cs:Lf_}{E H:LH}{S:List Seg}{j l:Nat}
theorem Judge.DZ{α:Type}{g:Goroutine}{g':α→Goroutine}{s:St}(x:Sem α)(Z:s.q=false)(aa:g.status= .running)
  (ab:∀w a w',x.run P w= .ok a w'→∃es,stepG P J.main g w= .go (g' a) w' es∧∀e∈es,e∈x.events P w #[])
  (h:lp P x s (fun a s'=>J.ok Q (g' a) s') (fun _ _=>False)):J.ok Q g s:=by
 refine J.step ⟨aa,fun w f=>?_,fun e=>by subst e;cases Z⟩;obtain⟨s',O,U,V,K⟩:=Kl _ h f;cases Y:x.run P w with
 | ok a w'=>
  rw [Y] at O U V K;simp only [HS] at O U V;obtain⟨es,he,hm⟩:=ab w a w' Y;exact⟨g' a,s',w',es,he,K,O,U,fun e ac=>V e (hm e ac)⟩
 | halt a w'=>rw [Y] at K;exact K.elim
theorem Kf{r:Loop}{s:St}{K:Loop→St→Prop}{X:Halt→St→Prop}(h:s.get l=some (.loop r))(k:K r s):lp P (Instr.getLoop l) s K X:=by
 unfold Instr.getLoop getObj;simp only [bind,Sem.bind,lp];exact⟨_,h,rfl,k⟩
theorem Na{r:Loop}{T:Aw}(j:Nat)(K:Ar E H S)(O:S[j]? =some [(l,.loop r)])(hs:(r.state== .busy)=false)(U:r.pending=none)
  (h:Ar E H (S.set j [(l,.loop {r with state:= .exhausted})])→J.ok Q (G (fr b T ds k) cs) (Am E H (S.set j [(l,.loop {r with state:= .exhausted})]))):
  J.ok Q (G (fr b T ds (.endRangeFunc l::k)) cs) (Am E H S):=by
 obtain⟨u1,u2⟩:=Kt K O (.loop {r with state:= .exhausted});have V:lp P (Instr.endLoop l) (Am E H S) (fun a s'=>a=none∧s'=Am E H (S.set j [(l,.loop {r with state:= .exhausted})])) (fun _ _=>False):=by
  unfold Instr.endLoop;refine Ay _ _ (Kf (D5 (i:=0) K O rfl) ?_);rw [if_neg (by rw [hs];simp)];have Y:(Am E H S).H l=some (.loop r):=by
   have:=D5 (i:=0) K O rfl;have Z:E l=none:=KX K O;unfold St.get at this;rw [show(Am E H S).E l=none from Z] at this;exact this
  simp only [bind,Sem.bind,lp,setObj,pure];refine⟨⟨_,Y,rfl⟩,rfl,U,?_⟩;exact u1
 refine Judge.DZ (g':=fun aa=>G (fr b T ds ((aa.map Item.code).toList++k)) cs) (Instr.endLoop l) rfl rfl (fun w a w' ab=>?_) (CO _ V (fun a s' ⟨ac,ae⟩=>by subst ac ae;exact h u2) (fun _ _ h=>h));refine⟨seen P b.fn ((Instr.endLoop l).events P w #[])++ #[],?_,fun e he=>?_⟩
 ·simp [G,stepG,stepG.exec,fr,ab,GStep.after]
 ·exact mem_seen (by simpa using he)
def PR(l:Nat)(f:FuncId):Frame:={(default:Frame) with fn:=f,kind:= .normal,roundOf:=some l}
theorem D7.yield{r:Loop}{t:Tmp}{v:Value}{B:Seg}{R:Value→LH→Seg→Prop}{i:Nat}(K:B[i]? =some (l,.loop r))(O:r.params= #[t])
  (h:∀(Q:Gs_) (U:Frame) (cs:Lf_) (H:LH),Ar E H [B]→(∀w E' S' B',Le E E'→S'.flatten=B'→R w E' B'→Ar E' H S'→J.ok Q (G (U.finish w) cs) (Am E' H S'))→
   J.ok Q (G (fr (PR l r.fn) (r.tmps.setIfInBounds t v) [] [.code r.assign,.beginRound,.code r.body]) (U::cs)) (Am E H [B])):
  D7 J (.func (.yield l) #[] #[]) [v] E B R:=fun H V Q c cs Y=>by
 have hg:(mk E H B).get l=some (.loop r):=LN V K
 simp only [Deferred.ofValue,bind,Sem.bind,pure,invoke]
 unfold Instr.yield
 refine Ay _ _ (Kf hg ?_)
 have Z:¬((#[]:Aw)++ [v].toArray).size≠r.params.size:=by rw [O];simp
 rw [if_neg Z];have e2:((r.params.zip ((#[]:Aw)++ [v].toArray)).foldl (fun tmps (t,a)=>tmps.setIfInBounds t a) r.tmps)=r.tmps.setIfInBounds t v:=by rw [O];simp [Array.zip,Array.zipWith,Array.zipWithMAux]
 simp only [lp,pure];have aa:mk E H B=Am E H [B]:=by unfold Am;simp
 rw [e2,aa];exact h Q c cs H (by unfold Ar;simpa using V) fun w E' S' B' hle K ab ac=>by
  subst K;exact Y w _ ⟨E',S'.flatten,hle,ab,ac,rfl⟩
theorem JL.beginRound{r:Loop}(j:Nat)(U:b.roundOf=some l)(V:b.kind= .normal)(K:Ar E H S)(O:S[j]? =some [(l,.loop r)])(hs:r.state= .ready)
  (h:Ar E H (S.set j [(l,.loop {r with state:= .busy})])→JL J Q b n L ds k cs (Am E H (S.set j [(l,.loop {r with state:= .busy})]))):
  JL J Q b n L ds (.beginRound::k) cs (Am E H S):=fun T Y=>by
 obtain⟨u1,u2⟩:=Kt K O (.loop {r with state:= .busy})
 have Z:lp P (Instr.beginRound l) (Am E H S) (fun _ s'=>s'=Am E H (S.set j [(l,.loop {r with state:= .busy})])) (fun _ _=>False):=by
  unfold Instr.beginRound;refine Ay _ _ (Kf (D5 (i:=0) K O rfl) ?_);have aa:(Am E H S).H l=some (.loop r):=by
   have:=D5 (i:=0) K O rfl;have ab:E l=none:=KX K O;unfold St.get at this;rw [show(Am E H S).E l=none from ab] at this;exact this
  simp only [bind,Sem.bind,lp,setObj,pure,hs];exact⟨⟨_,aa,rfl⟩,rfl,u1⟩
 refine Judge.DZ (g':=fun _=>G (fr b T ds k) cs) (Instr.beginRound l) rfl rfl (fun w a w' ac=>?_) (CO _ Z (fun a s' ae=>by subst ae;exact h u2 T Y) (fun _ _ h=>h));refine⟨seen P b.fn ((Instr.beginRound l).events P w #[])++ #[],?_,fun e he=>?_⟩
 ·simp [G,stepG,stepG.exec,fr,stepG.apply,U,V,ac,GStep.after,Frame.finish]
 ·exact mem_seen (by simpa using he)
theorem Ll{o:Obj}{seg:Seg}(K:Ar E H S)(O:S[j]? =some ((l,o)::seg)):(Am E H S).H l=some o:=by
 have:=D5 (i:=0) K O rfl;have U:E l=none:=KX K O;unfold St.get at this;rw [show(Am E H S).E l=none from U] at this;exact this
theorem JL.endRound{r:Loop}{c:Frame}(j:Nat)(U:b.roundOf=some l)(V:b.kind= .normal)(K:Ar E H S)(O:S[j]? =some [(l,.loop r)])
  (h:Ar E H (S.set j [(l,.loop {r with state:= .ready,pending:=none})])→J.ok Q (G (c.finish (.bool true)) cs) (Am E H (S.set j [(l,.loop {r with state:= .ready,pending:=none})]))):
  JL J Q b n L [] [] (c::cs) (Am E H S):=fun T ac=>by
 obtain⟨u1,u2⟩:=Kt K O (.loop {r with state:= .ready,pending:=none})
 have Y:lp P (Instr.endRound l none) (Am E H S) (fun a s'=>a= .bool true∧s'=Am E H (S.set j [(l,.loop {r with state:= .ready,pending:=none})])) (fun _ _=>False):=by
  unfold Instr.endRound;refine Ay _ _ (Kf (D5 (i:=0) K O rfl) ?_);simp only [bind,Sem.bind,lp,setObj,pure];exact⟨⟨_,Ll K O,rfl⟩,rfl,rfl,u1⟩
 refine Judge.DZ (g':=fun v=>G (c.finish v) cs) (Instr.endRound l none) rfl rfl (fun w a w' Z=>?_) (CO _ Y (fun a s' ⟨aa,ab⟩=>by subst aa ab;exact h u2) (fun _ _ h=>h));refine⟨seen P b.fn ((Instr.endRound l none).events P w #[])++ #[],?_,fun e he=>?_⟩
 ·simp [G,stepG,stepG.exec,fr,U,V,Z,GStep.after,doReturn]
 ·exact mem_seen (by simpa using he)
theorem JL.rangeFunc{x:Operand}{params:Array Tmp}{as O:Code}{f:FuncId}{caps:Lv_}(ag:b.roundOf=none)(ah:b.kind≠ .early)(aa:ev L x=some (.func (.func f) #[] caps.toArray))(hb:Dj P f=true)(ai:Ar E H S)
  (h:∀K l T,Has n L T→Ar E H (S++ [[(K,.deferred (some []))]]++ [[(l,.loop ⟨.ready,none,b.fn,T,params,as,O,K⟩)]])→
   J.ok Q (G (Frame.enter P f (.func (.yield l) #[] #[]::caps).toArray .normal) (fr b T (⟨.collected K,#[]⟩::ds) (.inRangeFunc l::k)::cs)) (Am E H (S++ [[(K,.deferred (some []))]]++ [[(l,.loop ⟨.ready,none,b.fn,T,params,as,O,K⟩)]]))):
  JL J Q b n L ds (.code (.rangeFunc x params as O)::k) cs (Am E H S):=fun T ab=>by
 have aj:lp P (Instr.enterLoop b.fn T params as O b.roundOf) (Am E H S) (fun q s'=>∃K,q.2= [⟨.collected K,#[]⟩]∧Ar E H (S++ [[(K,.deferred (some []))]]++ [[(q.1,.loop ⟨.ready,none,b.fn,T,params,as,O,K⟩)]])∧s'=Am E H (S++ [[(K,.deferred (some []))]]++ [[(q.1,.loop ⟨.ready,none,b.fn,T,params,as,O,K⟩)]])) (fun _ _=>False):=by
  unfold Instr.enterLoop;rw [ag];simp only [newObj,bind,Sem.bind,lp,pure];refine⟨rfl,fun K V Y=>?_⟩;obtain⟨Z,ak⟩:=HG V Y (.deferred (some [])) ai;obtain⟨p1,p2⟩:=Ee Z;have al:(Am E H S).upd K (.deferred (some []))=Am E H (S++ [[(K,.deferred (some []))]]):=by rw [← p1,← ak];rfl
  rw [al];refine⟨rfl,fun l am an=>?_⟩;obtain⟨ao,ap⟩:=HG am an (.loop ⟨.ready,none,b.fn,T,params,as,O,K⟩) p2;obtain⟨p3,p4⟩:=Ee ao;exact⟨K,rfl,p4,by rw [← p3,← ap];rfl⟩
 refine Judge.DZ (g':=fun q=>G (Frame.enter P f (.func (.yield q.1) #[] #[]::caps).toArray .normal) (fr b T (q.2++ds) (.inRangeFunc q.1::k)::cs)) (Instr.enterLoop b.fn T params as O b.roundOf) rfl rfl (fun w a w' aq=>?_) (CO _ aj (fun a s' ⟨K,V,Y,Z⟩=>by subst Z;simp only [V];exact h K a.1 T ab Y) (fun _ _ h=>h));obtain⟨l,mk⟩:=a;have ar:BB T x= .func (.func f) #[] caps.toArray:=ab.ev aa;obtain⟨fn,U,au,ac⟩:∃fn,P.funcs[f]? =some fn∧(fn.name== "runtime.NumGoroutine")=false∧fn.body.isNone=false:=by
  unfold Dj at hb;cases U:P.funcs[f]? with
  | none=>rw [U] at hb;cases hb
  | some fn=>
   rw [U] at hb;simp only [Bool.and_eq_true,Bool.not_eq_true'] at hb;exact⟨fn,rfl,hb.1,by cases aa:fn.body <;> simp_all⟩
 refine⟨seen P b.fn ((Instr.enterLoop b.fn T params as O b.roundOf).events P w #[])++ #[],?_,fun e he=>?_⟩
 ·have ae:=NS (b:=b) (ds:=mk++ds) T (.inRangeFunc l::k);simp only [fr] at ae;have av:¬fn.name= "runtime.NumGoroutine" :=by simpa using au
  have aw:¬fn.body=none:=by intro e;rw [e] at ac;cases ac
  have ay:BB T (.const (.func (.yield l) #[] #[]))= .func (.yield l) #[] #[]:=rfl;simp [G,stepG,stepG.exec,fr,aq,GStep.after,stepG.apply,resolve,ae,ar,Deferred.ofValue,invoke,callFunc,U,av,aw,ah,ay,seen_none]
 ·exact mem_seen (by simpa using he)
theorem JO.collected{K:Nat}(j:Nat)(ac:b.roundOf=none)(O:Ar E H S)(U:S[j]? =some [(K,.deferred (some []))])
  (h:Ar E H (S.set j [(K,.deferred none)])→JO J Q b n L ds cs (Am E H (S.set j [(K,.deferred none)]))):JO J Q b n L (⟨.collected K,#[]⟩::ds) cs (Am E H S):=fun T V todo=>by
 obtain⟨u1,u2⟩:=Kt O U (.deferred none)
 have Y:lp P (Instr.takeDeferred K) (Am E H S) (fun a s'=>a= []∧s'=Am E H (S.set j [(K,.deferred none)])) (fun _ _=>False):=by
  unfold Instr.takeDeferred getObj;simp only [bind,Sem.bind,lp,setObj,pure];exact⟨_,D5 (i:=0) O U rfl,rfl,⟨_,Ll O U,rfl⟩,rfl,rfl,u1⟩
 refine Judge.DZ (g':=fun l=>G (DI b T (l++ds) todo) cs) (Instr.takeDeferred K) rfl rfl (fun w a w' Z=>?_) (CO _ Y (fun a s' ⟨aa,ab⟩=>by subst aa ab;exact h u2 T V todo) (fun _ _ h=>h));refine⟨seen P b.fn ((Instr.takeDeferred K).events P w #[])++ #[],?_,fun e he=>?_⟩
 ·simp [G,stepG,unwind,DI,Z,GStep.after]
 ·exact mem_seen (by simpa using he)
def Jt(f:FuncId)(args caps:Aw):Deferred:={target:= .fn (.func f) caps,args:=args}
theorem JO.Pc{f:FuncId}{fn:Func}{c:Code}{vs caps:Lv_}(ac:b.roundOf=none)(O:P.funcs[f]? =some fn)(V:(fn.name== "runtime.NumGoroutine")=false)(hb:fn.body=some c)(Y:(vs++caps).length≤fn.ntmps){s:St}
  (h:∀T,Has n L T→∀todo,JL J Q (baseD f) fn.ntmps (EO 0 (vs++caps)) [] [.code c] (DI b T ds todo::cs) s):JO J Q b n L (Jt f vs.toArray caps.toArray::ds) cs s:=fun T Z todo=>by
 have aa:¬fn.name= "runtime.NumGoroutine" :=by simpa using V
 refine Judge.CS rfl (fun w=>?_) (h T Z todo ((vs++caps).toArray++Array.replicate (fn.ntmps - (vs++caps).length) undef) ⟨by simp;simp at Y;omega,fun t v ht=>?_⟩)
 ·rw [Cz (b:=baseD f) rfl];have:=enter_atD (P:=P) (vs++caps).toArray O hb;simp only [List.size_toArray] at this;rw [← this];simp [G,stepG,unwind,callDeferred,DI,Jt,invoke,callFunc,O,aa,hb,GStep.after,seen_none]
 ·obtain⟨_,K⟩:=H4 ht;have ab:t<(vs++caps).length:=by
   rcases Nat.lt_or_ge t (vs++caps).length with U | U
   ·exact U
   ·simp only [Nat.sub_zero] at K;have:=(List.getElem?_eq_some_iff.1 K).1;omega
  rw [Array.getD_eq_getD_getElem?,Array.getElem?_append_left (by simpa using ab)];simp only [Nat.sub_zero] at K;rw [List.getElem?_toArray,K];rfl
theorem NJ{ops:Ao_}{i:Nat}{rest:List Nat}{d:Option Tmp}{x:Operand}{f:FuncId}{caps:Lv_}{args:Array Operand}{ats:Array TypeId}{ty:TypeId}{p:String}{af:Ae_}{g:On_}{vs:Lv_}{s:St}
  (U:ops[i]? =some ⟨d,.defer ⟨.value x,args,ats⟩,ty,p,af,g⟩) (V:b.roundOf=none) (hw:A5 L ops ⟨d,.defer ⟨.value x,args,ats⟩,ty,p,af,g⟩=some true) (O:((b.kind != .early)&&Bs n d)=true)
  (Y:ev L x=some (.func (.func f) #[] caps.toArray)) (Z:evs L args.toList=some vs) (h:JL J Q b n (Ax L d undef) (Jt f vs.toArray caps.toArray::ds) (.inRegion ops rest::k) cs s):
  JL J Q b n L ds (.inRegion ops (i::rest)::k) cs s:=fun T K=>by
 simp only [Bool.and_eq_true] at O
 have aa:args.map (BB T)=vs.toArray:=by
  rw [← EX K.Fx Z];apply Array.ext';simp
 refine Judge.oper U (CL K hw) (by simpa using O.1) (.inl V) ?_;have ab:execOp (BB T) ⟨d,.defer ⟨.value x,args,ats⟩,ty,p,af,g⟩= .pure (.defer (Jt f vs.toArray caps.toArray)):=by
  simp only [execOp,resolve,bind,Sem.bind,Deferred.ofValue,K.ev Y,pure,Jt];rw [aa];simp
 rw [ab];exact h _ (K.put O.2 undef)
end
end Pal
namespace Pal
open Go Go.Conc
section
variable {P:Program}{s:St}{ρ:Operand→Value}{x y z:Operand}{d:Option Tmp}{t u ty e:TypeId}{p:String}{af:Ae_}{g:On_}{a:Option Addr}{l c:Nat}
theorem Ki(ht:P.underlying t=some (.slice e))(K:ρ x= .slice a l c)(O:ρ (.const (.slice none 0 0))= .slice none 0 0):Yl P ⟨d,.binOp .eql t x (.const (.slice none 0 0)) u,ty,p,af,g⟩ ρ s (.bool a.isNone):=by
 refine El (sm:=do eqGuard .eql t x (.const (.slice none 0 0)) (ρ x) (ρ (.const (.slice none 0 0)));binOp .eql t (ρ x) (ρ (.const (.slice none 0 0)))) rfl ?_
 rw [K,O];have hg:lp P (eqGuard .eql t x (.const (.slice none 0 0)) (.slice a l c) (.slice none 0 0)) s (fun _ s'=>s'=s) (fun _ _=>False):=by
  simp [eqGuard,lp,pure]
 refine Ay _ _ (CO _ hg ?_ (fun _ _ h=>h));rintro _ _ rfl;have hb:binOp .eql t (.slice a l c) (.slice none 0 0)=(do pure (.bool (← Op.equal t (.slice a l c) (.slice none 0 0)))):=rfl
 rw [hb];refine Ay (x:=Op.equal t (.slice a l c) (.slice none 0 0)) _ ?_;unfold Op.equal Op.maxDepth Op.equalIn;refine Ay _ _ (CY ht ?_);cases a <;> exact⟨rfl,rfl⟩
end
def Gx{α B:Type}(step:B→α→Option B):List α→B→Option B
 | [],b=>some b
 | x::l,b=>(step b x).bind fun K=>Gx step l K
section
variable {P:Program}{J:Judge P}{Q:Gs_}{b:Frame}{n:Nat}{L:Env}{ds:Ld_}{k:Li_}{cs:Lf_}{s:St}
theorem QM{α B:Type}{c:Code}{l:List α}{step:B→α→Option B}{acc acc':B}(ac:Gx step l acc=some acc')(I:Env→St→Nat→B→Prop)(ae:I L s 0 acc)
  (round:∀L s i K x O,I L s i K→l[i]? =some x→i<l.length→step K x=some O→(∀L' s',I L' s' (i+1) O→JL J Q b n L' ds (.inLoop c::k) cs s')→JL J Q b n L ds (.code c:: .inLoop c::k) cs s)
  (exit:∀L s,I L s l.length acc'→JL J Q b n L ds (.code c:: .inLoop c::k) cs s):JL J Q b n L ds (.code (.loop c)::k) cs s:=by
 refine HB ?_;have key:∀(rest:List α) (i:Nat) (K:B),l.drop i=rest→Gx step rest K=some acc'→∀L s,I L s i K→i≤l.length→JL J Q b n L ds (.code c:: .inLoop c::k) cs s:=by
  intro rest
  induction rest with
  | nil=>
   intro i K U V L s Y hle;have:l.length≤i:=by simpa using U
   obtain rfl:i=l.length:=by omega
   obtain rfl:K=acc':=Option.some.inj V;exact exit L s Y
  | cons x rest ag=>
   intro i K U V L s Y hle;have aa:l[i]? =some x:=by
    have Z:(l.drop i)[0]? =some x:=by rw [U];rfl
    simpa using Z
   have ab:i<l.length:=(List.getElem?_eq_some_iff.1 aa).1;obtain⟨O,Z,ah⟩:=Option.bind_eq_some_iff.1 V;refine round L s i K x O Y aa ab Z fun L' s' ai=>JL.again (ag (i+1) O ?_ ah L' s' ai ab);rw [← List.drop_drop,U];rfl
 exact key l 0 acc rfl ac L s ae (Nat.zero_le _)
end
section
variable {P:Program}{J:Judge P}{Q:Gs_}{b:Frame}{n:Nat}{ds:Ld_}{ops:Ao_}{k:Li_}{cs:Lf_}{m fuel:Nat}{listed:Array Bool}{L:Env}{E H:LH}{S:List Seg}
variable {d:Option Tmp}{x y:Operand}{t u ty e:TypeId}{p:String}{af:Ae_}{g:On_}{v:Value}{i:Nat}
theorem Take.Qa(O:Ar E H S)(U:ops[i]? =some ⟨d,.box e x,ty,p,af,g⟩)(hw:A5 L ops ⟨d,.box e x,ty,p,af,g⟩=some true)(V:Bs n d=true)(Y:ev L x=some v)
  (h:∀r,Ar E H (S++ [[(r,.cells v.cells e (0,0))]])→AQ J Q b n ds ops k cs m CQ fuel (A4 listed i) (Ax L d (.pointer (some ⟨r,0,none⟩))) (Am E H (S++ [[(r,.cells v.cells e (0,0))]]))):
  Take J Q b n ds ops k cs m CQ fuel listed L (Am E H S) i:=
 Take.IL U (by simp [CV,V]) hw fun ρ Z=>by
  show lp P (do pure (Next.value (← Instr.box e (ρ x)))) _ _ _
  rw [Z x v Y]
  refine Ay _ _ ?_
  unfold Instr.box
  refine Ay _ _ (GL O fun r K=>?_)
  rw [(Ee K).1]
  exact h r (Ee K).2
end
end Pal
namespace Pal
open Go Go.Conc
def Gf(P:Program)(d:Nat):GP:=fun g _=>∃q,QuitsD P q d g
def GY(P:Program):Frame:={(default:Frame) with fn:=P.funcs.size,defers:= [],mode:= .panicking [goexitEntry]}
section
variable {P:Program}{F:Fam}{J:Judge P}{Q:GP}{n:Nat}{L L':Env}{ds:Ld_}{k:Li_}{cs:Lf_}{s s':St}{b:Frame}{main:Bool}
theorem Lv.quits{d:Nat}:∀{m:Nat} {g:Goroutine},Lv P (Gf P d) m g→∃q,QuitsD P q d g
 | 0,_,h=>h
 | m+1,_,h=>by
  rcases h with h | ⟨K,g',O,h⟩
  ·exact h
  ·obtain⟨q,U⟩:=h.quits;exact⟨q+1,.ctl K O U⟩
theorem Kb{d:Nat}{g:Goroutine}(h:(FI P).ok (Gf P d) g .quiet):∃q,QuitsD P q d g:=by
 obtain⟨m,hm⟩:=h rfl;exact hm.quits
theorem I0:(FI P).ok (Gf P 0) (G (GY P) []) .quiet:=by
 refine Judge.CS (g':={frame:=GY P,callers:= [],status:= .finished,dying:=none}) rfl (fun w=>?_) ((FI P).stop ⟨0,rfl,rfl⟩);have K:(default:Frame).todo= []:=rfl;have O:∀(m:FrameMode),Frame.catches P {fn:=P.funcs.size,tmps:=(default:Frame).tmps,todo:= [],defers:= [],mode:=m,kind:=(default:Frame).kind,roundOf:=(default:Frame).roundOf}=false:=fun m=>by simp [Frame.catches]
 simp [G,stepG,unwind,GY,goexitEntry,K,O]
theorem R1{ops:Ao_}{i:Nat}{rest:List Nat}{d:Option Tmp}{f:FuncId}{args:Array Operand}{ats:Array TypeId}{ty:TypeId}{pp:String}{af:Ae_}{g:On_}{T:Aw}{e:Aw→Sem Value}
  (K:ops[i]? =some ⟨d,.call ⟨.value (.func f),args,ats⟩,ty,pp,af,g⟩) (he:Cm P f e):mayWake P (G (fr b T ds (.inRegion ops (i::rest)::k)) cs)=true:=by
 obtain⟨fn,O,_,hb,_⟩:=he.h;have U:fn.body.isSome=false:=by cases h:fn.body <;> simp_all
 simp [mayWake,G,fr,K,Frame.eval,O,U]
theorem Sx{v wt:Nat}(K:1≤v)(O:v<2147483648)(U:wt≤1):IntKind.u64.wrap (Fam.word v wt+18446744069414584320)=Fam.word (v - 1) wt:=by
 simp only [Fam.word,Fam.KK,IntKind.wrap,IntKind.bits,IntKind.signed];simp;omega
theorem SE{v:Nat}(h:v<2147483647):IntKind.u64.wrap (Fam.word v 0+4294967296)=Fam.word (v+1) 0:=by
 simp only [Fam.word,Fam.KK,IntKind.wrap,IntKind.bits,IntKind.signed];simp;omega
theorem word_inj{v v' wt:Nat}(h:Fam.word v wt=Fam.word v' wt):v=v':=by
 simp only [Fam.word,Fam.KK] at h;omega
section
variable {ops:Ao_}{i:Nat}{rest:List Nat}{d:Option Tmp}{f:FuncId}{x y z:Operand}{ats:Array TypeId}{ty:TypeId}{pp:String}{af:Ae_}{g:On_}{p q:Ph}
theorem TB(aa:ops[i]? =some ⟨d,.call ⟨.value (.func f),#[x,y],ats⟩,ty,pp,af,g⟩)(Y:b.roundOf=none)(hw:A5 L ops ⟨d,.call ⟨.value (.func f),#[x,y],ats⟩,ty,pp,af,g⟩=some true)(O:((b.kind != .early)&&Bs n d)=true)
  (he:Cm P f (Extern.Atomic.update (Op.intArith .add) .u64 true)) (ab:ev L x=some (.pointer (some F.sA))) (ac:ev L y=some (.int .u64 18446744069414584320))
  (ae:JL (Bo P false) (Stop P F .Fz) b n (Ax L d (.int .u64 (Fam.word 0 1))) ds (.inRegion ops rest::k) cs .quiet)
  (ag:∀v wt:Nat,v<2147483647→wt≤1→¬(v=0∧wt=1)→JL (FI P) (Gf P 1) b n (Ax L d (.int .u64 (Fam.word v wt))) ds (.inRegion ops rest::k) cs .quiet):
  JL (Bo P false) (Stop P F .Gd) b n L ds (.inRegion ops (i::rest)::k) cs .quiet:=fun T K=>by
 simp only [Bool.and_eq_true] at O
 obtain⟨fn,ah,ai,hb,aj,he⟩:=he.h
 refine(Bo P _).stop (Gp rfl rfl rfl rfl (by simp) fun v wt sm v' wt' sm' es al U=>?_)
 simp only [Fam.act] at U
 split at U
 ·rename_i V
  cases U;refine⟨G (fr b (Cr T d (.int .u64 (Fam.word (v - 1) wt))) ds (.inRegion ops rest::k)) cs,fun w Z=>?_,rfl,?_⟩
  ·obtain⟨ak,_,c3,_⟩:=Gs Z;rw [Cz Y,Cz Y];show stepG P false _ w=_;rw [stepG_add_atomic (a:=⟨T,ds⟩) aa (CL K hw) (by simpa using O.1) rfl ah ai hb aj .u64 he (by rw [Ef];exact K.ev ab) (by rw [Ef];exact K.ev ac) ak c3,Sx V.1 V.2.1 V.2.2,Kh Z,Fb]
   rfl
  ·split
   ·rename_i e;obtain⟨rfl,rfl⟩:=e;exact ae _ (K.put O.2 _)
   ·rename_i e;exact Kb (ag (v - 1) wt (by omega) V.2.2 (by omega) _ (K.put O.2 _))
 ·cases U
theorem S6{j:Nat}(aa:s.q=false)(ab:ops[i]? =some ⟨d,.call ⟨.value (.func f),#[x,y],ats⟩,ty,pp,af,g⟩)(Y:b.roundOf=none)(hw:A5 L ops ⟨d,.call ⟨.value (.func f),#[x,y],ats⟩,ty,pp,af,g⟩=some true)(O:((b.kind != .early)&&Bs n d)=true)
  (he:Cm P f (Extern.Atomic.update (Op.intArith .add) .u64 true)) (ac:ev L x=some (.pointer (some F.sA))) (ae:ev L y=some (.int .u64 4294967296))
  (ag:JL (Bo P true) (Stop P F (.Gh j)) b n (Ax L d (.int .u64 (Fam.word 1 0))) ds (.inRegion ops rest::k) cs s)
  (ah:∀v:Nat,1≤v→v<2147483647→JL (Bo P true) (Stop P F (.Fj j)) b n (Ax L d (.int .u64 (Fam.word (v+1) 0))) ds (.inRegion ops rest::k) cs s):
  JL (Bo P true) (Stop P F (.Gz j)) b n L ds (.inRegion ops (i::rest)::k) cs s:=fun T K=>by
 simp only [Bool.and_eq_true] at O
 obtain⟨fn,ai,aj,hb,ak,he⟩:=he.h
 refine(Bo P _).stop (Gp rfl rfl rfl aa (by simp) fun v wt sm v' wt' sm' es am U=>?_)
 simp only [Fam.act] at U
 split at U
 ·rename_i V
  obtain⟨V,rfl⟩:=V;cases U;refine⟨G (fr b (Cr T d (.int .u64 (Fam.word (v+1) 0))) ds (.inRegion ops rest::k)) cs,fun w Z=>?_,rfl,?_⟩
  ·obtain⟨al,_,c3,_⟩:=Gs Z;rw [Cz Y,Cz Y];show stepG P true _ w=_;rw [stepG_add_atomic (a:=⟨T,ds⟩) ab (CL K hw) (by simpa using O.1) rfl ai aj hb ak .u64 he (by rw [Ef];exact K.ev ac) (by rw [Ef];exact K.ev ae) al c3,SE V,Kh Z,Fb]
   rfl
  ·split
   ·rename_i e;subst e;exact ag _ (K.put O.2 _)
   ·rename_i e;exact ah v (by omega) V _ (K.put O.2 _)
 ·cases U
theorem Ua(ab:Ih p=true)(ac:if Fam.Dx p=true then s= .quiet else s.q=false)(ae:p≠ .DW)(ag:Fam.FU p s=s)(ah:∀v wt sm r,F.act p v wt sm=some r→r.1=(v,wt,sm)∧r.2.1= #[Fam.Ei F.sA])
  (ai:ops[i]? =some ⟨d,.call ⟨.value (.func f),#[x],ats⟩,ty,pp,af,g⟩) (U:b.roundOf=none) (hw:A5 L ops ⟨d,.call ⟨.value (.func f),#[x],ats⟩,ty,pp,af,g⟩=some true) (K:((b.kind != .early)&&Bs n d)=true)
  (he:Cm P f (Extern.Atomic.loadT (.int .u64))) (aj:ev L x=some (.pointer (some F.sA)))
  (h:∀v wt sm r,F.act p v wt sm=some r→∃q,r.2.2= .ph q∧JL (Bo P (Fam.C6 p)) (Stop P F q) b n (Ax L d (.int .u64 (Fam.word v wt))) ds (.inRegion ops rest::k) cs s):
  JL (Bo P (Fam.C6 p)) (Stop P F p) b n L ds (.inRegion ops (i::rest)::k) cs s:=fun T O=>by
 simp only [Bool.and_eq_true] at K
 obtain⟨fn,ak,al,hb,am,he⟩:=he.h
 refine(Bo P _).stop (Gp ab rfl rfl ac (fun e=>absurd e ae) fun v wt sm v' wt' sm' es ap V=>?_)
 obtain⟨Y,e2⟩:=ah _ _ _ _ V
 obtain⟨q,Z,an⟩:=h _ _ _ _ V
 simp only at Y e2 Z
 cases Y
 subst e2 Z
 refine⟨_,fun w aa=>?_,rfl,by rw [ag];exact an _ (O.put K.2 _)⟩
 obtain⟨ao,_,_,_⟩:=Gs aa
 rw [Cz U,Cz U,stepG_load_atomic (a:=⟨T,ds⟩) ai (CL O hw) (by simpa using K.1) rfl ak al hb am .u64 he (by rw [Ef];exact O.ev aj) ao,H7 aa,Fb]
 rfl
theorem Uk(Z:ops[i]? =some ⟨d,.call ⟨.value (.func f),#[x,y],ats⟩,ty,pp,af,g⟩)(V:b.roundOf=none)(hw:A5 L ops ⟨d,.call ⟨.value (.func f),#[x,y],ats⟩,ty,pp,af,g⟩=some true)(U:((b.kind != .early)&&Bs n d)=true)
  (he:Cm P f Extern.Atomic.storeT) (aa:ev L x=some (.pointer (some F.sA))) (ab:ev L y=some (.int .u64 0))
  (h:JL (Bo P false) (Stop P F .DW) b n (Ax L d (.tuple #[])) ds (.inRegion ops rest::k) cs .quiet):
  JL (Bo P false) (Stop P F .FN) b n L ds (.inRegion ops (i::rest)::k) cs .quiet:=fun T K=>by
 simp only [Bool.and_eq_true] at U
 obtain⟨fn,ac,ae,hb,ag,he⟩:=he.h
 refine(Bo P _).stop (Gp rfl rfl rfl rfl (by simp) fun v wt sm v' wt' sm' es ak O=>?_)
 simp only [Fam.act] at O
 split at O
 ·rename_i ah
  obtain⟨rfl,rfl⟩:=ah;cases O;refine⟨_,fun w Y=>?_,rfl,h _ (K.put U.2 _)⟩;obtain⟨ai,_,c3,_⟩:=Gs Y;have aj:(.int .u64 0:Value)= .int .u64 (Fam.word 0 0):=by simp [Fam.word]
  rw [Cz V,Cz V];show stepG P false _ w=_;rw [stepG_store_atomic (a:=⟨T,ds⟩) Z (CL K hw) (by simpa using U.1) rfl ac ae hb ag he (by rw [Ef];exact K.ev aa) (by rw [Ef];exact K.ev ab) ai c3,aj,Kh Y,Fb]
  rfl
 ·cases O
theorem TP{m:Nat}(aj:s.q=false)(aa:ops[i]? =some ⟨d,.call ⟨.value (.func f),#[x,y,z],ats⟩,ty,pp,af,g⟩)(Y:b.roundOf=none)(hw:A5 L ops ⟨d,.call ⟨.value (.func f),#[x,y,z],ats⟩,ty,pp,af,g⟩=some true)(U:((b.kind != .early)&&Bs n d)=true)
  (he:Cm P f (Extern.Atomic.casT (.int .u64))) (ab:ev L x=some (.pointer (some F.sA))) (ac:ev L y=some (.int .u64 (Fam.word m 0))) (ae:ev L z=some (.int .u64 (Fam.word m 1)))
  (ak:JL (Bo P false) (Stop P F .GD) b n (Ax L d (.bool true)) ds (.inRegion ops rest::k) cs s)
  (al:JL (Bo P false) (Stop P F (.EP (m - 1))) b n (Ax L d (.bool false)) ds (.inRegion ops rest::k) cs s):
  JL (Bo P false) (Stop P F (.Ge m)) b n L ds (.inRegion ops (i::rest)::k) cs s:=fun T K=>by
 simp only [Bool.and_eq_true] at U
 obtain⟨fn,ag,ah,hb,ai,he⟩:=he.h
 refine(Bo P _).stop (Gp rfl rfl rfl aj (by simp) fun v wt sm v' wt' sm' es an O=>?_)
 simp only [Fam.act] at O
 split at O
 ·rename_i am
  obtain⟨_,_,rfl⟩:=am;split at O
  ·rename_i e;subst e;cases O;refine⟨_,fun w V=>?_,rfl,ak _ (K.put U.2 _)⟩;obtain⟨Z,_,c3,_⟩:=Gs V;rw [Cz Y,Cz Y];show stepG P false _ w=_;rw [stepG_cas_hit (a:=⟨T,ds⟩) aa (CL K hw) (by simpa using U.1) rfl ag ah hb ai .u64 he (by rw [Ef];exact K.ev ab) (by rw [Ef];exact K.ev ac) (by rw [Ef];exact K.ev ae) Z c3,Kh V,Fb]
   rfl
  ·rename_i e;cases O;refine⟨_,fun w V=>?_,rfl,al _ (K.put U.2 _)⟩;obtain⟨Z,_,c3,_⟩:=Gs V;rw [Cz Y,Cz Y];show stepG P false _ w=_;rw [stepG_cas_miss (a:=⟨T,ds⟩) aa (CL K hw) (by simpa using U.1) rfl ag ah hb ai .u64 he (by rw [Ef];exact K.ev ab) (by rw [Ef];exact K.ev ac) (by rw [Ef];exact K.ev ae) Z c3 (fun q=>e (word_inj q)),H7 V,Fb]
   rfl
 ·cases O
theorem SK{args:Array Operand}{vs:Lv_}(V:ops[i]? =some ⟨d,.call ⟨.value (.func f),args,ats⟩,ty,pp,af,g⟩)(Y:b.roundOf=none)(hw:A5 L ops ⟨d,.call ⟨.value (.func f),args,ats⟩,ty,pp,af,g⟩=some true)(O:((b.kind != .early)&&Bs n d)=true)
  (he:Cm P f Extern.Sync.semrelease) (aa:evs L args.toList=some vs) (ab:vs[0]? =some (.pointer (some F.mA)))
  (h:JL (FI P) (Gf P 1) b n (Ax L d (.tuple #[])) ds (.inRegion ops rest::k) cs .quiet):
  JL (Bo P false) (Stop P F .DW) b n L ds (.inRegion ops (i::rest)::k) cs .quiet:=fun T U=>by
 simp only [Bool.and_eq_true] at O
 have ac:=R1 (P:=P) (b:=b) (ds:=ds) (k:=k) (cs:=cs) (rest:=rest) (T:=T) V he
 obtain⟨fn,ae,ag,hb,ah,he⟩:=he.h
 refine(Bo P _).stop (Gp rfl rfl rfl rfl (fun _=>ac) fun v wt sm v' wt' sm' es ak K=>?_)
 simp only [Fam.act] at K
 split at K
 ·rename_i ai
  subst ai;cases K;refine⟨_,fun w Z=>?_,rfl,Kb (h _ (U.put O.2 _))⟩;obtain⟨_,c2,_,c4⟩:=Gs Z;rw [Cz Y,Cz Y];show stepG P false _ w=_;rw [stepG_semrelease (a:=⟨T,ds⟩) V (CL U hw) (by simpa using O.1) rfl ae ag hb ah he (ad:=F.mA) (by rw [MK U aa];simpa using ab) c2 c4,Fb];have aj:IntKind.u32.wrap (((0:Nat):Int)+1)=((1:Nat):Int):=by decide
  rw [aj,Nh Z]
 ·cases K
theorem QU{args:Array Operand}{vs:Lv_}(ag:s.q=false)(Z:ops[i]? =some ⟨d,.call ⟨.value (.func f),args,ats⟩,ty,pp,af,g⟩)(V:b.roundOf=none)(hw:A5 L ops ⟨d,.call ⟨.value (.func f),args,ats⟩,ty,pp,af,g⟩=some true)(Y:((b.kind != .early)&&Bs n d)=true)
  (he:Cm P f Extern.Sync.semacquire) (ah:evs L args.toList=some vs) (ai:vs[0]? =some (.pointer (some F.mA)))
  (h:JL (Bo P false) (Stop P F .FO) b n (Ax L d (.tuple #[])) ds (.inRegion ops rest::k) cs s):
  JL (Bo P false) (Stop P F .C4) b n L ds (.inRegion ops (i::rest)::k) cs s:=fun T K=>by
 simp only [Bool.and_eq_true] at Y
 obtain⟨fn,aa,ab,hb,ac,he⟩:=he.h
 have ae:(args.map (⟨T,ds⟩:Act).eval)[0]? =some (.pointer (some F.mA)):=by rw [MK K ah];simpa using ai
 refine(Bo P _).stop (ES.stop {
  run:=rfl,offers:=rfl,quiet:=(by simp [Fam.Dx]),live:=fun _=>ag,act:=?_,Gc:=(by simp),DZ:=?_,close:=(by simp),send:=(by simp),go:=(by simp),FV:=(by simp),recv:=(by simp)})
 ·intro v wt sm v' wt' sm' es al O;simp only [Fam.act] at O;split at O
  ·rename_i aj;subst aj;cases O;refine⟨_,fun w U=>?_,rfl,h _ (K.put Y.2 _)⟩;obtain⟨_,c2,_,c4⟩:=Gs U;rw [Cz V,Cz V];show stepG P false _ w=_;rw [stepG_semacquire (a:=⟨T,ds⟩) Z (CL K hw) (by simpa using Y.1) rfl aa ab hb ac he (ad:=F.mA) ae c2 (by decide) c4,Fb];have ak:(((1:Nat):Int) - 1)=((0:Nat):Int):=by decide
   rw [ak,Nh U]
  ·cases O
 ·intro _ w v wt U;obtain⟨_,c2,_,c4⟩:=Gs U;rw [Cz V];exact stepG_semacquire_wait (a:=⟨T,ds⟩) Z (CL K hw) rfl aa ab hb ac he (ad:=F.mA) ae c2
theorem Rz(Y:s.q=false)(U:ops[i]? =some ⟨d,.call ⟨.builtin .close,#[x],ats⟩,ty,pp,af,g⟩)(V:b.roundOf=none)(hw:A5 L ops ⟨d,.call ⟨.builtin .close,#[x],ats⟩,ty,pp,af,g⟩=some true)(K:((b.kind != .early)&&Bs n d)=true)
  (Z:ev L x=some (.chan (some F.ch))) (aa:(P.funcs[b.fn]?).any (·.norace)=false)
  (h:JL (FI P) (Gf P 0) b n (Ax L d (.tuple #[])) ds (.inRegion ops rest::k) cs .quiet):
  JL (Bo P false) (Stop P F .Df) b n L ds (.inRegion ops (i::rest)::k) cs s:=fun T O=>by
 simp only [Bool.and_eq_true] at K
 refine(Bo P _).stop (ES.stop {
  run:=rfl,offers:=rfl,quiet:=(by simp [Fam.Dx]),live:=fun _=>Y,act:=(by simp [Fam.act]),Gc:=fun _=>(by simp [mayWake,G,fr,U]),DZ:=(by simp),close:=fun _=>?_,send:=(by simp),go:=(by simp),FV:=(by simp),recv:=(by simp)})
 refine⟨_,?_,fun w k' ab=>?_,Kb (h _ (O.put K.2 _))⟩
 ·rfl
 ·rw [Cz V,Cz V,stepG_close (a:=⟨T,ds⟩) U (CL O hw) (by simpa using K.1) rfl (by rw [Ef];exact O.ev Z) ab aa,Fb]
theorem Oc{kk:Nat}{v:Value}(Y:s.q=false)(U:ops[i]? =some ⟨d,.send x y,ty,pp,af,g⟩)(Z:b.roundOf=none)(hw:A5 L ops ⟨d,.send x y,ty,pp,af,g⟩=some true)(O:((b.kind != .early)&&Bs n d)=true)
  (aa:ev L x=some (.chan (some F.ch))) (ab:ev L y=some v) (hm:F.msg kk v s.E)
  (h:JL (Bo P false) (Stop P F .CH) b n (Ax L d undef) ds (.inRegion ops rest::k) cs s):
  JL (Bo P false) (Stop P F (.Cj kk)) b n L ds (.inRegion ops (i::rest)::k) cs s:=fun T K=>by
 simp only [Bool.and_eq_true] at O
 have V:execOp (BB T) ⟨d,.send x y,ty,pp,af,g⟩= .pure (.comm #[scase F.ch v (.tuple #[])] true .send):=by
  simp [execOp,K.ev aa,K.ev ab,scase,pure]
 refine(Bo P _).stop (ES.stop {
  run:=rfl,offers:=rfl,quiet:=(by simp [Fam.Dx]),live:=fun _=>Y,act:=(by simp [Fam.act]),Gc:=(by simp),DZ:=(by simp),close:=(by simp),send:=fun k' e=>?_,go:=(by simp),FV:=(by simp),recv:=(by simp)})
 cases e;refine⟨v,.tuple #[],hm,fun w=>?_,?_⟩
 ·have he:(⟨T,ds⟩:Act).eval=BB T:=funext fun x=>Ef T ds x;rw [Cz Z,stepG_comm (a:=⟨T,ds⟩) (w':=w) U (CL K hw) (by simpa using O.1) (by rw [he,V];rfl),listed_none (by rw [he,V];simp [Sem.events_pure'])]
 ·have:Conc.served (G (fr b T ds (.inRegion ops (i::rest)::k)) cs) undef=G (fr b (Cr T d undef) ds (.inRegion ops rest::k)) cs:=by
   have:=Fp (b:=b) (ds:=ds) (k:=k) T ops i rest undef _ U;simp only [Conc.served,G,this]
  rw [this];exact h _ (K.put O.2 _)
end
end
end Pal
namespace Pal
open Go Go.Conc
section
variable {P:Program}{F:Fam}{J:Judge P}{Q:GP}{n:Nat}{L L':Env}{ds:Ld_}{k:Li_}{cs:Lf_}{s s':St}{b:Frame}{main:Bool}
variable {ops:Ao_}{i:Nat}{rest:List Nat}{d:Option Tmp}{f:FuncId}{x y z:Operand}{ats:Array TypeId}{ty t e:TypeId}{pp:String}{af:Ae_}{g:On_}{p q:Ph}
theorem Nq{T:Aw}{o:Oper}(K:ops[i]? =some o)(v:Value):Conc.served (G (fr b T ds (.inRegion ops (i::rest)::k)) cs) v=G (fr b (Cr T o.dst v) ds (.inRegion ops rest::k)) cs:=by
 have:=Fp (b:=b) (ds:=ds) (k:=k) T ops i rest v _ K;simp only [Conc.served,G,this]
theorem HC(T:Aw)(ds:Ld_):(⟨T,ds⟩:Act).eval=BB T:=funext fun x=>Ef T ds x
theorem Sz{O:List Nat}{vs:Lv_}{K:Value}{dir:ChanDir}(ac:s.q=false)(Y:ops[i]? =some ⟨d,.recv t x true,ty,pp,af,g⟩)(ae:b.roundOf=none)(hw:A5 L ops ⟨d,.recv t x true,ty,pp,af,g⟩=some true)(U:((b.kind != .early)&&Bs n d)=true)
  (ag:ev L x=some (.chan (some F.ch))) (ht:P.underlying t=some (.chan dir e)) (ah:zeroOf P e=some K)
  (Z:∀kk v E',kk<F.n→F.has kk=true→kk ∉ O→Le s.E E'→(∀b,E' b≠none→s.H b=none)→F.msg kk v E'→JL (Bo P true) (Stop P F (.B6 (O++ [kk]) (vs++ [v]))) b n (Ax L d (.tuple #[v,.bool true])) ds (.inRegion ops rest::k) cs ⟨E',s.H,false⟩)
  (aa:(∀kk,kk<F.n→F.has kk=true→kk∈O)→∀T,Has n (Ax L d (.tuple #[K,.bool false])) T→F.fin (G (fr b T ds (.inRegion ops rest::k)) cs) s):
  JL (Bo P true) (Stop P F (.B6 O vs)) b n L ds (.inRegion ops (i::rest)::k) cs s:=fun T V=>by
 simp only [Bool.and_eq_true] at U
 have ab:∀w,(execOp (BB T) ⟨d,.recv t x true,ty,pp,af,g⟩).run P w= .ok (.comm #[rcase F.ch K] true (.recv true)) w∧listed P b.fn ⟨T,ds⟩ ⟨d,.recv t x true,ty,pp,af,g⟩ w= #[]:=by
  have ai:∀s,lp P (execOp (BB T) ⟨d,.recv t x true,ty,pp,af,g⟩) s (fun aj s'=>aj= .comm #[rcase F.ch K] true (.recv true)∧s'=s) (fun _ _=>False):=by
   intro s;unfold execOp;simp only;refine Ay (x:=underlying t) _ (CY ht ?_);simp only;refine Ay (x:=zeroValue e) _ (FG ah ?_);rw [V.ev ag];exact⟨rfl,rfl⟩
  obtain⟨es,Z,aa,ak⟩:=L3 _ (ai .quiet);rcases ak with⟨a,⟨rfl,_⟩,al⟩ | ⟨_,am,_⟩
  ·intro w;refine⟨al w,?_⟩;unfold listed;rw [HC,Z];exact LI aa
  ·exact am.elim
 refine(Bo P _).stop (ES.stop {
  run:=rfl,offers:=rfl,quiet:=(by simp [Fam.Dx]),live:=fun _=>ac,act:=(by simp [Fam.act]),Gc:=(by simp),DZ:=(by simp),close:=(by simp),send:=(by simp),go:=(by simp),FV:=(by simp),recv:=fun ay az an=>?_})
 cases an;refine⟨K,fun w=>?_,fun kk v E' ao ap aq ar au av=>?_,fun aw=>?_⟩
 ·rw [Cz ae,stepG_comm (a:=⟨T,ds⟩) (w':=w) Y (CL V hw) (by simpa using U.1) (by rw [HC];exact(ab w).1),(ab w).2]
 ·rw [Nq Y];exact Z kk v E' ao ap aq ar au av _ (V.put U.2 _)
 ·rw [Nq Y];exact aa aw _ (V.put U.2 _)
theorem N4{X:GP}{fn:Func}{c:Code}{vs:Lv_}{caps:Aw}{args:Aw}(O:P.funcs[f]? =some fn)(Y:(fn.name== "runtime.NumGoroutine")=false)(hb:fn.body=some c)(Z:args++caps=vs.toArray)(ac:vs.length≤fn.ntmps)
  (h:JL (Bo P false) X (baseD f) fn.ntmps (EO 0 vs) [] [.code c] [GY P] s):Way P false X (born P {target:= .fn (.func f) caps,args:=args}) s:=by
 have aa:¬fn.name= "runtime.NumGoroutine" :=by simpa using Y
 refine Judge.CS (J:=Bo P false) rfl (fun w=>?_) (h (vs.toArray++Array.replicate (fn.ntmps - vs.length) undef) ⟨by simp;omega,fun t v ht=>?_⟩)
 ·show stepG P false _ w=_;have U:=enter_atD (P:=P) vs.toArray O hb;rw [Cz (b:=baseD f) rfl];simp only [List.size_toArray] at U;simp [G,born,stepG,unwind,callDeferred,invoke,callFunc,O,aa,hb,GStep.after,seen_none,Z,GY,U]
 ·obtain⟨_,K⟩:=H4 ht;have ab:t<vs.length:=by
   rcases Nat.lt_or_ge t vs.length with V | V
   ·exact V
   ·simp at K;have:=(List.getElem?_eq_some_iff.1 K).1;omega
  rw [Array.getD_eq_getD_getElem?,Array.getElem?_append_left (by simpa using ab)];simp at K;simp [K]
theorem Pl{T:Aw}{args:Array Operand}{K:Go.Fn}{fi O:Aw}{as:Lv_}(U:Has n L T)(V:ev L x=some (.func K fi O))(Y:evs L args.toList=some as):
  execOp (BB T) ⟨d,.go ⟨.value x,args,ats⟩,ty,pp,af,g⟩= .pure (.spawn {target:= .fn K O,args:=fi++as.toArray}):=by
 have Z:args.map (BB T)=as.toArray:=by
  rw [← EX U.Fx Y];apply Array.ext';simp
 simp only [execOp,resolve,bind,Sem.bind,Deferred.ofValue,U.ev V,pure,Z]
theorem T5{j:Nat}{args:Array Operand}{fi U:Aw}{as:Lv_}{V:FuncId}(aa:s.q=false)(ab:ops[i]? =some ⟨d,.go ⟨.value x,args,ats⟩,ty,pp,af,g⟩)(Y:b.roundOf=none)(hw:A5 L ops ⟨d,.go ⟨.value x,args,ats⟩,ty,pp,af,g⟩=some true)(K:((b.kind != .early)&&Bs n d)=true)
  (ac:ev L x=some (.func (.func V) fi U)) (ae:evs L args.toList=some as)
  (ag:Way P false (Stop P F (F.start j)) (born P {target:= .fn (.func V) U,args:=fi++as.toArray}) ⟨s.E,fun _=>none,false⟩)
  (ah:JL (Bo P true) (Stop P F (F.Dg j)) b n (Ax L d undef) ds (.inRegion ops rest::k) cs s):
  JL (Bo P true) (Stop P F (.Ej j)) b n L ds (.inRegion ops (i::rest)::k) cs s:=fun T O=>by
 simp only [Bool.and_eq_true] at K
 have Z:=Pl (d:=d) (ats:=ats) (ty:=ty) (pp:=pp) (af:=af) (g:=g) O ac ae
 refine(Bo P _).stop (ES.stop {
  run:=rfl,offers:=rfl,quiet:=(by simp [Fam.Dx]),live:=fun _=>aa,act:=(by simp [Fam.act]),Gc:=(by simp),DZ:=(by simp),close:=(by simp),send:=(by simp),go:=fun ai e=>?_,FV:=(by simp),recv:=(by simp)})
 cases e
 refine⟨G (fr b (Cr T d undef) ds (.inRegion ops rest::k)) cs,_,rfl,rfl,fun w=>?_,ag,ah _ (O.put K.2 _)⟩
 rw [Cz Y,Cz Y,stepG_spawn (a:=⟨T,ds⟩) (w':=w) ab (CL O hw) (by simpa using K.1) (by rw [HC,Z];rfl) rfl,listed_none (by rw [HC,Z];simp [Sem.events_pure']),Fb]
theorem JL.FV{args:Array Operand}{fi U:Aw}{as:Lv_}{V:FuncId}(aa:s.q=false)(ab:ops[i]? =some ⟨d,.go ⟨.value x,args,ats⟩,ty,pp,af,g⟩)(Y:b.roundOf=none)(hw:A5 L ops ⟨d,.go ⟨.value x,args,ats⟩,ty,pp,af,g⟩=some true)(K:((b.kind != .early)&&Bs n d)=true)
  (ac:ev L x=some (.func (.func V) fi U)) (ae:evs L args.toList=some as)
  (ag:Way P false (Stop P F .CK) (born P {target:= .fn (.func V) U,args:=fi++as.toArray}) ⟨s.E,fun _=>none,false⟩)
  (ah:JL (Bo P true) (Stop P F (.B6 [] [])) b n (Ax L d undef) ds (.inRegion ops rest::k) cs s):
  JL (Bo P true) (Stop P F .ER) b n L ds (.inRegion ops (i::rest)::k) cs s:=fun T O=>by
 simp only [Bool.and_eq_true] at K
 have Z:=Pl (d:=d) (ats:=ats) (ty:=ty) (pp:=pp) (af:=af) (g:=g) O ac ae
 refine(Bo P _).stop (ES.stop {
  run:=rfl,offers:=rfl,quiet:=(by simp [Fam.Dx]),live:=fun _=>aa,act:=(by simp [Fam.act]),Gc:=(by simp),DZ:=(by simp),close:=(by simp),send:=(by simp),go:=(by simp),FV:=fun _=>?_,recv:=(by simp)})
 refine⟨G (fr b (Cr T d undef) ds (.inRegion ops rest::k)) cs,_,rfl,rfl,fun w=>?_,ag,ah _ (O.put K.2 _)⟩
 rw [Cz Y,Cz Y,stepG_spawn (a:=⟨T,ds⟩) (w':=w) ab (CL O hw) (by simpa using K.1) (by rw [HC,Z];rfl) rfl,listed_none (by rw [HC,Z];simp [Sem.events_pure']),Fb]
theorem JO.Oz{j:Nat}(V:s.q=false)(K:b.roundOf=none)(he:Cm P f (fun _=>do mark .enable;pure Extern.Race.none_))
  (h:JO (Bo P true) (Stop P F (.Ej j)) b n L ds cs s):JO (Bo P true) (Stop P F (.Fj j)) b n L (dcall f #[]::ds) cs s:=fun T Y todo=>by
 obtain⟨fn,Z,aa,hb,ab,he⟩:=he.h
 refine(Bo P _).stop (Gp rfl rfl rfl V (by simp) fun v wt sm v' wt' sm' es ae O=>?_)
 simp only [Fam.act] at O
 cases O
 refine⟨G (DI b T ds todo) cs,fun w ac=>?_,rfl,h T Y todo⟩
 rw [H9 K,H9 K,H7 ac]
 exact stepG_unwind_entry (a:=⟨T,dcall f #[]::ds⟩) (v:= .tuple #[]) (evs:= #[Fam.DK .enable]) rfl Z aa hb ab he (by simp [Extern.Race.none_]) (by simp;rfl) (by
  intro x U
  simp at U
  subst U
  exact⟨rfl,fun g h=>by cases h⟩)
theorem JO.Ku(K:b.roundOf=none)(he:Cm P f (fun _=>do mark .enable;pure Extern.Race.none_))
  (h:JO (FI P) (Gf P 0) b n L ds cs .quiet):JO (FI P) (Gf P 1) b n L (dcall f #[]::ds) cs .quiet:=fun T U todo=>by
 obtain⟨fn,V,Y,hb,Z,he⟩:=he.h
 refine(FI P).stop ?_
 obtain⟨q,O⟩:=Kb (h T U todo)
 rw [H9 K] at O
 rw [H9 K]
 exact⟨q+1,QuitsD.unwind_mark (a:=⟨T,dcall f #[]::ds⟩) .enable rfl (by simp) rfl V Y hb Z he O⟩
end
end Pal
namespace Pal
open Go Go.Conc
def P8:BinOp→Int→Int→Option Bool
 | .lss,m,m'=>some (decide (m<m'))
 | .leq,m,m'=>some (decide (m≤m'))
 | .gtr,m,m'=>some (decide (m'<m))
 | .geq,m,m'=>some (decide (m'≤m))
 | .eql,m,m'=>some (decide (m=m'))
 | .neq,m,m'=>some (decide (m≠m'))
 | _,_,_=>none
def HT(L:Env):Op→Option Value
 | .move x=>ev L x
 | .assign x=>ev L x
 | .pick z x y=>match ev L z with
  | some (.bool true)=>ev L x
  | some (.bool false)=>ev L y
  | _=>none
 | .extract x i=>match ev L x with
  | some (.tuple vs)=>vs[i]?
  | _=>none
 | .nilCheck x=>match ev L x with
  | some (.pointer (some a))=>some (.pointer (some a))
  | _=>none
 | .binOp op _ x y _=>match ev L x with
  | some (.int kd m)=>match ev L y with
   | some (.int kd' m')=>if kd=kd' then(match P8 op m m' with | some t=>some (.bool t) | none=>none) else none
   | _=>none
  | _=>none
 | _=>none
theorem Tm{P:Program}{s:St}{ρ:Operand→Value}{d:Option Tmp}{x y:Operand}{t u ty:TypeId}{p:String}{af:Ae_}{g:On_}{kd:IntKind}{m m':Int}(K:ρ x= .int kd m)(O:ρ y= .int kd m'):Yl P ⟨d,.binOp .neq t x y u,ty,p,af,g⟩ ρ s (.bool (decide (m≠m'))):=by
 have h:=Yl.neq (P:=P) (s:=s) (d:=d) (t:=t) (u:=u) (ty:=ty) (p:=p) (af:=af) (g:=g) K O;simpa using h
theorem Kx{P:Program}{L:Env}{ρ:Operand→Value}{s:St}{o:Oper}{v:Value}(K:DJ L ρ)(h:HT L o.op=some v):Yl P o ρ s v:=by
 obtain⟨d,op,ty,p,af,g⟩:=o;simp only at h;unfold HT at h;split at h
 ·exact Yl.move (K _ _ h)
 ·exact Yl.assign (K _ _ h)
 ·split at h
  ·rename_i e;exact Rg (K _ _ e) (K _ _ h)
  ·rename_i e;exact Ro (K _ _ e) (K _ _ h)
  ·cases h
 ·split at h
  ·rename_i e;exact Yl.extract (K _ _ e) h
  ·cases h
 ·split at h
  ·rename_i e;cases h;exact Yl.nilCheck (K _ _ e)
  ·cases h
 ·split at h
  ·rename_i O;split at h
   ·rename_i U;split at h
    ·rename_i e;subst e;split at h
     ·rename_i e;cases h;unfold P8 at e;split at e
      ·cases e;exact Yl.lss (K _ _ O) (K _ _ U)
      ·cases e;exact Yl.leq (K _ _ O) (K _ _ U)
      ·cases e;exact Yl.gtr (K _ _ O) (K _ _ U)
      ·cases e;exact Yl.geq (K _ _ O) (K _ _ U)
      ·cases e;exact Yl.eql (K _ _ O) (K _ _ U)
      ·cases e;exact Tm (K _ _ O) (K _ _ U)
      ·cases e
     ·cases h
    ·cases h
   ·cases h
  ·cases h
 ·cases h
def G2:List Oper→Nat→Option Oper
 | [],_=>none
 | o::_,0=>some o
 | _::os,i+1=>G2 os i
theorem Ik:∀(os:List Oper) (i:Nat),G2 os i=os[i]?
 | [],i=>by simp [G2]
 | _::_,0=>rfl
 | _::os,i+1=>by simp [G2,Ik os i]
def KZ(b:Frame)(n:Nat)(L:Env):Li_→Option (Li_×Env)
 | .code (.seq x y)::k=>some (.code x:: .code y::k,L)
 | .code (.block i c)::k=>some (.code c:: .inBlock i::k,L)
 | .code (.scope c)::k=>some (.code c:: .inScope c::k,L)
 | .code .skip::k=>some (k,L)
 | .code (.exit i)::k=>match exitTo i k with
  | some k'=>some (k',L)
  | none=>none
 | .code (.cond c x y)::k=>match ev L c with
  | some (.bool true)=>some (.code x::k,L)
  | some (.bool false)=>some (.code y::k,L)
  | _=>none
 | .code (.region _ ops false)::k=>some (.inRegion ops (List.range ops.size)::k,L)
 | .inBlock _::k=>some (k,L)
 | .inScope _::k=>some (k,L)
 | .inRegion _ []::k=>some (k,L)
 | .inRegion ops (i::rest)::k=>match G2 ops.toList i with
  | some ⟨d,op,ty,p,af,g⟩=>match A5 L ops ⟨d,op,ty,p,af,g⟩ with
   | some true=>match Ct b n ⟨d,op,ty,p,af,g⟩ with
    | true=>match HT L op with
     | some v=>match d with
      | some d=>some (.inRegion ops rest::k,(d,v)::L)
      | none=>some (.inRegion ops rest::k,L)
     | none=>none
    | false=>none
   | some false=>match Bs n d with
    | true=>match d with
     | some d=>some (.inRegion ops rest::k,(d,undef)::L)
     | none=>some (.inRegion ops rest::k,L)
    | false=>none
   | none=>none
  | none=>none
 | _=>none
def KH(b:Frame)(n:Nat):Nat→Li_→Env→Option (Li_×Env)
 | 0,k,L=>some (k,L)
 | m+1,k,L=>match KZ b n L k with
  | some (k',L')=>KH b n m k' L'
  | none=>none
section
variable {P:Program}{J:Judge P}{Q:Gs_}{b:Frame}{n:Nat}{L L':Env}{ds:Ld_}{k k':Li_}{cs:Lf_}{s:St}
theorem Pu(h:KZ b n L k=some (k',L'))(K:JL J Q b n L' ds k' cs s):JL J Q b n L ds k cs s:=by
 unfold KZ at h;split at h
 ·cases h;exact JL.seq K
 ·cases h;exact JL.block K
 ·cases h;exact JL.scope K
 ·cases h;exact JL.skip K
 ·split at h
  ·rename_i e;cases h;exact JL.exit e K
  ·cases h
 ·split at h
  ·rename_i e;cases h;exact Rh e K
  ·rename_i e;cases h;exact Rn e K
  ·cases h
 ·cases h;exact JL.region K
 ·cases h;exact M8 K
 ·cases h;exact QD K
 ·cases h;exact JL.done K
 ·split at h
  ·rename_i d op ty p af g O;rw [Ik,Array.getElem?_toList] at O;split at h
   ·rename_i hw;split at h
    ·rename_i U;split at h
     ·rename_i v Y;cases d with
      | none=>cases h;exact AY O hw U (fun ρ V=>Kx V Y) K
      | some d=>cases h;exact AY O hw U (fun ρ V=>Kx V Y) K
     ·cases h
    ·cases h
   ·rename_i hw;split at h
    ·rename_i U;cases d with
     | none=>cases h;exact P0 O hw U K
     | some d=>cases h;exact P0 O hw U K
    ·cases h
   ·cases h
  ·cases h
 ·cases h
theorem JL.go(m:Nat)(h:KH b n m k L=some (k',L'))(K:JL J Q b n L' ds k' cs s):JL J Q b n L ds k cs s:=by
 induction m generalizing k L with
 | zero=>cases h;exact K
 | succ m O=>
  unfold KH at h;split at h
  ·rename_i e;exact Pu e (O h)
  ·cases h
end
abbrev pV(a o:Nat):Value:= .pointer (some ⟨a,o,none⟩)
abbrev sV{α:Type}(a:Option Addr)(l:List α)(c:Nat):Value:= .slice a l.length c
abbrev fV(n:Nat):Value:= .func (.func n) #[] #[]
abbrev nS:Value:= .slice none 0 0
abbrev Aj(r:Nat):Option Addr:=some ⟨r,0,none⟩
abbrev uV(n:Nat):Value:= .int .u16 ((n:Nat):Int)
end Pal
namespace Pal
open Go Go.Conc Go.Conc.Lib
open Go.ConcR.Gen
theorem Em{P:Program}{t:TypeId}{n:Nat}(h:∀w,Sem.run P (Go.sizeOf t) w= .ok n w):Br P t=some n:=by
 have K:=h default;unfold Br;simp only [Go.sizeOf,typeInfo,bind,Sem.bind,program,Sem.run] at K;cases hi:P.info? t with
 | none=>rw [hi] at K;simp [stuck,Sem.run,Sem.bind] at K
 | some i=>
  rw [hi] at K;simp [pure,Sem.bind,Sem.run] at K;simp [K]
section
variable {P:Program}{L:WgLink}(H:WgLib P L)
include H
theorem LK:Cm P L.disable (fun _=>do mark .disable;pure Extern.Race.none_):=⟨⟨_,H.f_disable,x_disable_n L,x_disable_b L,x_disable_x L,x_disable_f L⟩⟩
theorem Hg:Cm P L.enable (fun _=>do mark .enable;pure Extern.Race.none_):=⟨⟨_,H.f_enable,x_enable_n L,x_enable_b L,x_enable_x L,x_enable_f L⟩⟩
theorem QA:Cm P L.relMerge (Extern.Race.marked .releaseMerge):=⟨⟨_,H.f_relMerge,x_relMerge_n L,x_relMerge_b L,x_relMerge_x L,x_relMerge_f L⟩⟩
theorem M6:Cm P L.acquire (Extern.Race.marked .acquire):=⟨⟨_,H.f_acquire,x_acquire_n L,x_acquire_b L,x_acquire_x L,x_acquire_f L⟩⟩
theorem RU:Cm P L.raceRead (Extern.Race.marked .read):=⟨⟨_,H.f_raceRead,x_raceRead_n L,x_raceRead_b L,x_raceRead_x L,x_raceRead_f L⟩⟩
theorem Ry:Cm P L.raceWrite (Extern.Race.marked .write):=⟨⟨_,H.f_raceWrite,x_raceWrite_n L,x_raceWrite_b L,x_raceWrite_x L,x_raceWrite_f L⟩⟩
theorem OT:Cm P L.addU64 (Extern.Atomic.update (Op.intArith .add) .u64 true):=⟨⟨_,H.f_addU64,x_addU64_n L,x_addU64_b L,x_addU64_x L,x_addU64_f L⟩⟩
theorem Sb:Cm P L.loadU64 (Extern.Atomic.loadT (.int .u64)):=⟨⟨_,H.f_loadU64,x_loadU64_n L,x_loadU64_b L,x_loadU64_x L,x_loadU64_f L⟩⟩
theorem Rc:Cm P L.storeU64 Extern.Atomic.storeT:=⟨⟨_,H.f_storeU64,x_storeU64_n L,x_storeU64_b L,x_storeU64_x L,x_storeU64_f L⟩⟩
theorem SO:Cm P L.casU64 (Extern.Atomic.casT (.int .u64)):=⟨⟨_,H.f_casU64,x_casU64_n L,x_casU64_b L,x_casU64_x L,x_casU64_f L⟩⟩
theorem RG:Cm P L.semrelease Extern.Sync.semrelease:=⟨⟨_,H.f_semrelease,x_semrelease_n L,x_semrelease_b L,x_semrelease_x L,x_semrelease_f L⟩⟩
theorem QE:Cm P L.semacquire Extern.Sync.semacquire:=⟨⟨_,H.f_semacquire,x_semacquire_n L,x_semacquire_b L,x_semacquire_x L,x_semacquire_f L⟩⟩
theorem Ng:Cm P L.inBubble (fun _=>pure (.bool false)):=⟨⟨_,H.f_inBubble,x_inBubble_n L,x_inBubble_b L,x_inBubble_x L,x_inBubble_f L⟩⟩
end
section
variable {P:Program}{F:Fam}{J:Judge P}{Q:GP}{n:Nat}{L L':Env}{ds:Ld_}{k:Li_}{cs:Lf_}{s s':St}{b:Frame}{main:Bool}
variable {ops:Ao_}{i:Nat}{rest:List Nat}{d:Option Tmp}{f:FuncId}{x y z:Operand}{ats:Array TypeId}{ty t u e tw:TypeId}{pp:String}{af:Ae_}{g:On_}{p q:Ph}
theorem Yl.to{o:Oper}{ρ:Operand→Value}{v v':Value}(h:Yl P o ρ s v)(e:v=v'):Yl P o ρ s v':=e▸h
theorem Jf{ad:Addr}(ag:Ih p=true)(ah:if Fam.Dx p=true then s= .quiet else s.q=false)(ai:p≠ .DW)(aj:∀v wt sm,F.act p v wt sm=some ((v,wt,sm),#[],.ph q))(ak:Fam.FU p s=s)
  (al:ops[i]? =some ⟨d,.convert t u x,ty,pp,af,g⟩) (U:b.roundOf=none) (hw:A5 L ops ⟨d,.convert t u x,ty,pp,af,g⟩=some true) (K:((b.kind != .early)&&Bs n d)=true)
  (ht:P.underlying t=some (.pointer tw)) (hu:P.underlying u=some .unsafePointer) (V:(P.info? tw).map (fun i=>decide (i.size=0))=some false) (am:ev L x=some (.pointer (some ad))) (hb:ad=F.sA∨ad=F.mA)
  (h:JL (Bo P (Fam.C6 p)) (Stop P F q) b n (Ax L d (.pointer (some ad))) ds (.inRegion ops rest::k) cs s):
  JL (Bo P (Fam.C6 p)) (Stop P F p) b n L ds (.inRegion ops (i::rest)::k) cs s:=fun T O=>by
 simp only [Bool.and_eq_true] at K
 refine(Bo P _).stop (Gp ag rfl rfl ah (fun e=>absurd e ai) fun v wt sm v' wt' sm' es ap Y=>?_)
 rw [aj] at Y;cases Y
 refine⟨_,fun w Z=>?_,rfl,by rw [ak];exact h _ (O.put K.2 _)⟩
 obtain⟨aa,ab⟩:∃aa,w.cell? ad=some aa:=by
  obtain⟨an,c2,_,_⟩:=Gs Z;rcases hb with e | e <;> rw [e]
  ·exact⟨_,an⟩
  ·exact⟨_,c2⟩
 have ac:=run_convert_to_unsafe (P:=P) (w:=w) ht hu V ab;have ao:=events_convert_to_unsafe (P:=P) (w:=w) ht hu V ab;have ae:execOp (⟨T,ds⟩:Act).eval ⟨d,.convert t u x,ty,pp,af,g⟩=(do pure (Next.value (← Go.convert t u (.pointer (some ad))))):=by
  rw [HC];simp only [execOp,O.ev am]
 rw [Cz U,Cz U,stepG_value (a:=⟨T,ds⟩) (v:= .pointer (some ad)) (w':=w) al (CL O hw) (by simpa using K.1) (by rw [ae];simp [ac,Result.andThen]),H7 Z,Fb];have e2:listed P b.fn ⟨T,ds⟩ ⟨d,.convert t u x,ty,pp,af,g⟩ w= #[]:=by
  unfold listed;rw [ae];simp [ac,ao,Result.evThen,seen_none]
 rw [e2]
end
end Pal
namespace Pal
open Go Go.Conc Go.Conc.Lib
open Go.ConcR.Gen
section
variable {P:Program}{F:Fam}{J:Judge P}{Q:GP}{n:Nat}{L L':Env}{ds:Ld_}{k:Li_}{cs:Lf_}{s s':St}{b:Frame}{main:Bool}
variable {ops:Ao_}{i:Nat}{rest:List Nat}{d:Option Tmp}{f:FuncId}{x y z:Operand}{args:Array Operand}{ats:Array TypeId}{ty t u e tw:TypeId}{pp:String}{af:Ae_}{g:On_}{p q:Ph}{vs:Lv_}
def U0(P:Program)(b:Frame)(n:Nat)(L:Env)(d:Option Tmp)(ds:Ld_)(todo:Li_)(cs:Lf_)(U:Frame):Prop:=
 ∀(K:Judge P) (O:GP) (v:Value) (s':St),JL K O b n (Ax L d v) ds todo cs s'→K.ok O (G (U.finish v) cs) s'
theorem Hk{fn:Func}{c:Code}(V:ops[i]? =some ⟨d,.call ⟨.value (.func f),args,ats⟩,ty,pp,af,g⟩)(hw:A5 L ops ⟨d,.call ⟨.value (.func f),args,ats⟩,ty,pp,af,g⟩=some true)(O:((b.kind != .early)&&Bs n d)=true)
  (Y:P.funcs[f]? =some fn) (ab:(fn.name== "runtime.NumGoroutine")=false) (hb:fn.body=some c) (ac:evs L args.toList=some vs) (al:vs.length≤fn.ntmps)
  (h:∀Z:Frame,U0 P b n L d ds (.inRegion ops rest::k) cs Z→JL J Q (base f) fn.ntmps (EO 0 vs) [] [.code c] (Z::cs) s):
  JL J Q b n L ds (.inRegion ops (i::rest)::k) cs s:=fun T U=>by
 simp only [Bool.and_eq_true] at O
 have ae:args.map (BB T)=vs.toArray:=by
  rw [← EX U.Fx ac];apply Array.ext';simp
 refine Judge.oper V (CL U hw) (by simpa using O.1) (.inr fun c ag=>by cases ag) ?_;have ah:Dj P f=true:=by unfold Dj;rw [Y];simp [ab,hb]
 have ai:lp P (execOp (BB T) ⟨d,.call ⟨.value (.func f),args,ats⟩,ty,pp,af,g⟩) s (upon J Q b T ds ops i rest k cs d) (Lh J Q b T ds ops i rest k cs):=by
  simp only [execOp,resolve,bind,Sem.bind,Deferred.ofValue,BB,pure,invoke];have e: #[]++args.map (BB T)++ #[]=vs.toArray:=by rw [ae];simp
  rw [e];refine H2 ah ?_;have he:Frame.enter P f vs.toArray .normal=fr (base f) (vs.toArray++Array.replicate (fn.ntmps - vs.length) undef) [] [.code c]:=by
   simp [Frame.enter,fr,Y,hb,base];rfl
  show J.ok Q (G (Frame.enter P f vs.toArray .normal) _) s;rw [he];refine h _ (fun am an v s' aj=>?_) _ ⟨by simp;omega,fun t v ht=>?_⟩
  ·rw [Fp (o:=⟨d,.call ⟨.value (.func f),args,ats⟩,ty,pp,af,g⟩) _ _ _ _ _ V];exact aj _ (U.put O.2 v)
  ·obtain⟨_,K⟩:=H4 ht;have ak:t<vs.length:=by
    rcases Nat.lt_or_ge t vs.length with aa | aa
    ·exact aa
    ·simp at K;have:=(List.getElem?_eq_some_iff.1 K).1;omega
   rw [Array.getD_eq_getD_getElem?,Array.getElem?_append_left (by simpa using ak)];simp at K;simp [K]
 exact ai
theorem Yl.ext{e:Aw→Sem Value}{v:Value}{ρ:Operand→Value}(he:Cm P f e)(O:args.map ρ=vs.toArray)(h:e vs.toArray= .pure v):Yl P ⟨d,.call ⟨.value (.func f),args,ats⟩,ty,pp,af,g⟩ ρ s v∨ρ (.func f)≠ .func (.func f) #[] #[]:=by
 by_cases K:ρ (.func f)= .func (.func f) #[] #[]
 ·left;obtain⟨fn,U,V,Y,Z,aa⟩:=he.h;unfold Yl;simp only [execOp,resolve,bind,Sem.bind,Deferred.ofValue,K,pure,invoke];have ab: #[]++args.map ρ++ #[]=vs.toArray:=by rw [O];simp
  rw [ab];have ac:fn.body=none:=by simpa using Y
  simp only [callFunc,bind,Sem.bind,program,lp,U,V,ac,Option.isNone_none,Bool.false_eq_true,if_false,if_true,mark,Z,aa,h,pure];exact⟨.inr ⟨f,rfl⟩,trivial,trivial⟩
 ·exact .inr K
theorem JL.ext{e:Aw→Sem Value}{v:Value}(O:ops[i]? =some ⟨d,.call ⟨.value (.func f),args,ats⟩,ty,pp,af,g⟩)(hw:A5 L ops ⟨d,.call ⟨.value (.func f),args,ats⟩,ty,pp,af,g⟩=some true)(U:Ct b n ⟨d,.call ⟨.value (.func f),args,ats⟩,ty,pp,af,g⟩=true)
  (he:Cm P f e) (V:evs L args.toList=some vs) (Y:e vs.toArray= .pure v) (h:JL J Q b n (Ax L d v) ds (.inRegion ops rest::k) cs s):JL J Q b n L ds (.inRegion ops (i::rest)::k) cs s:=
 AY O hw U (fun ρ K=>by
  have Z:args.map ρ=vs.toArray:=by
   rw [← EX K V]
   apply Array.ext';simp
  rcases Yl.ext (s:=s) (d:=d) (ats:=ats) (ty:=ty) (pp:=pp) (af:=af) (g:=g) he Z Y with q | q
  ·exact q
  ·exact absurd (K (.func f) _ rfl) q) h
end
section
variable {P:Program}{L:WgLink}(H:WgLib P L){F:Fam}{n:Nat}{M:Env}{ds:Ld_}{k:Li_}{cs:Lf_}{s:St}{b:Frame}
variable {ops:Ao_}{i:Nat}{rest:List Nat}{d:Option Tmp}{x y z:Operand}{ats:Array TypeId}{ty:TypeId}{pp:String}{af:Ae_}{g:On_}{p q:Ph}
include H
theorem R9(K:ops[i]? =some ⟨d,.call ⟨.value (.func L.uAdd),#[x,y],ats⟩,ty,pp,af,g⟩)(hw:A5 M ops ⟨d,.call ⟨.value (.func L.uAdd),#[x,y],ats⟩,ty,pp,af,g⟩=some true)(O:((b.kind != .early)&&Bs n d)=true)
  (U:ev M x=some (.pointer (some F.sA))) (V:ev M y=some (.int .u64 18446744069414584320))
  (Y:JL (Bo P false) (Stop P F .Fz) b n (Ax M d (.int .u64 (Fam.word 0 1))) ds (.inRegion ops rest::k) cs .quiet)
  (Z:∀v wt:Nat,v<2147483647→wt≤1→¬(v=0∧wt=1)→JL (FI P) (Gf P 1) b n (Ax M d (.int .u64 (Fam.word v wt))) ds (.inRegion ops rest::k) cs .quiet):
  JL (Bo P false) (Stop P F .Gd) b n M ds (.inRegion ops (i::rest)::k) cs .quiet:=by
 refine Hk (vs:= [.pointer (some F.sA),.int .u64 18446744069414584320]) K hw O H.f_uAdd (nm_uAdd L) rfl (by simp [evs,U,V]) (Nat.le_of_ble_eq_true rfl) fun ae back=>JL.go 8 rfl (AY rfl rfl rfl (fun ρ h=>Yl.fieldAddr H.underlying_tAU rfl (Em H.sizeOf_tU64) (h _ _ rfl)) ?_);refine JL.go 1 rfl (TB rfl rfl rfl rfl (OT H) rfl rfl ?_ fun v wt aa ab ac=>?_)
 ·refine AY rfl rfl rfl (fun ρ h=>Yl.assign (h _ _ rfl)) (JL.done ?_);exact JL.ret rfl rfl (BP.one H.f_uAdd rfl rfl) (back _ _ _ _ Y)
 ·refine AY rfl rfl rfl (fun ρ h=>Yl.assign (h _ _ rfl)) (JL.done ?_);exact JL.ret rfl rfl (BP.one H.f_uAdd rfl rfl) (back _ _ _ _ (Z v wt aa ab ac))
theorem Sy{j:Nat}(K:s.q=false)(O:ops[i]? =some ⟨d,.call ⟨.value (.func L.uAdd),#[x,y],ats⟩,ty,pp,af,g⟩)(hw:A5 M ops ⟨d,.call ⟨.value (.func L.uAdd),#[x,y],ats⟩,ty,pp,af,g⟩=some true)(U:((b.kind != .early)&&Bs n d)=true)
  (V:ev M x=some (.pointer (some F.sA))) (Y:ev M y=some (.int .u64 4294967296))
  (Z:JL (Bo P true) (Stop P F (.Gh j)) b n (Ax M d (.int .u64 (Fam.word 1 0))) ds (.inRegion ops rest::k) cs s)
  (aa:∀v:Nat,1≤v→v<2147483647→JL (Bo P true) (Stop P F (.Fj j)) b n (Ax M d (.int .u64 (Fam.word (v+1) 0))) ds (.inRegion ops rest::k) cs s):
  JL (Bo P true) (Stop P F (.Gz j)) b n M ds (.inRegion ops (i::rest)::k) cs s:=by
 refine Hk (vs:= [.pointer (some F.sA),.int .u64 4294967296]) O hw U H.f_uAdd (nm_uAdd L) rfl (by simp [evs,V,Y]) (Nat.le_of_ble_eq_true rfl) fun ae back=>JL.go 8 rfl (AY rfl rfl rfl (fun ρ h=>Yl.fieldAddr H.underlying_tAU rfl (Em H.sizeOf_tU64) (h _ _ rfl)) ?_);refine JL.go 1 rfl (S6 K rfl rfl rfl rfl (OT H) rfl rfl ?_ fun v ab ac=>?_)
 ·refine AY rfl rfl rfl (fun ρ h=>Yl.assign (h _ _ rfl)) (JL.done ?_);exact JL.ret rfl rfl (BP.one H.f_uAdd rfl rfl) (back _ _ _ _ Z)
 ·refine AY rfl rfl rfl (fun ρ h=>Yl.assign (h _ _ rfl)) (JL.done ?_);exact JL.ret rfl rfl (BP.one H.f_uAdd rfl rfl) (back _ _ _ _ (aa v ab ac))
theorem JL.uLoad(K:Ih p=true)(O:if Fam.Dx p=true then s= .quiet else s.q=false)(U:p≠ .DW)(V:Fam.FU p s=s)(Y:∀v wt sm r,F.act p v wt sm=some r→r.1=(v,wt,sm)∧r.2.1= #[Fam.Ei F.sA])(Z:ops[i]? =some ⟨d,.call ⟨.value (.func L.uLoad),#[x],ats⟩,ty,pp,af,g⟩)(hw:A5 M ops ⟨d,.call ⟨.value (.func L.uLoad),#[x],ats⟩,ty,pp,af,g⟩=some true)(aa:((b.kind != .early)&&Bs n d)=true)
  (ab:ev M x=some (.pointer (some F.sA)))
  (h:∀v wt sm r,F.act p v wt sm=some r→∃q,r.2.2= .ph q∧JL (Bo P (Fam.C6 p)) (Stop P F q) b n (Ax M d (.int .u64 (Fam.word v wt))) ds (.inRegion ops rest::k) cs s):
  JL (Bo P (Fam.C6 p)) (Stop P F p) b n M ds (.inRegion ops (i::rest)::k) cs s:=by
 refine Hk (vs:= [.pointer (some F.sA)]) Z hw aa H.f_uLoad (nm_uLoad L) rfl (by simp [evs,ab]) (Nat.le_of_ble_eq_true rfl) fun ah back=>JL.go 8 rfl (AY rfl rfl rfl (fun ρ h=>Yl.fieldAddr H.underlying_tAU rfl (Em H.sizeOf_tU64) (h _ _ rfl)) ?_);refine Ua K O U V Y rfl rfl rfl rfl (Sb H) rfl fun v wt sm r ac=>?_;obtain⟨q,ae,ag⟩:=h v wt sm r ac;refine⟨q,ae,?_⟩
 ·refine AY rfl rfl rfl (fun ρ h=>Yl.assign (h _ _ rfl)) (JL.done ?_);exact JL.ret rfl rfl (BP.one H.f_uLoad rfl rfl) (back _ _ _ _ ag)
theorem JL.uStore(K:ops[i]? =some ⟨d,.call ⟨.value (.func L.uStore),#[x,y],ats⟩,ty,pp,af,g⟩)(hw:A5 M ops ⟨d,.call ⟨.value (.func L.uStore),#[x,y],ats⟩,ty,pp,af,g⟩=some true)(O:((b.kind != .early)&&Bs n d)=true)
  (U:ev M x=some (.pointer (some F.sA))) (V:ev M y=some (.int .u64 0))
  (h:JL (Bo P false) (Stop P F .DW) b n (Ax M d (.tuple #[])) ds (.inRegion ops rest::k) cs .quiet):
  JL (Bo P false) (Stop P F .FN) b n M ds (.inRegion ops (i::rest)::k) cs .quiet:=by
 refine Hk (vs:= [.pointer (some F.sA),.int .u64 0]) K hw O H.f_uStore (nm_uStore L) rfl (by simp [evs,U,V]) (Nat.le_of_ble_eq_true rfl) fun Y back=>JL.go 3 rfl (AY rfl rfl rfl (fun ρ h=>Yl.fieldAddr H.underlying_tAU rfl (Em H.sizeOf_tU64) (h _ _ rfl)) ?_);refine JL.go 1 rfl (Uk rfl rfl rfl rfl (Rc H) rfl rfl ?_);exact JL.done (JL.fin rfl rfl (BP.none H.f_uStore rfl) (back _ _ _ _ h))
theorem JL.uCas{m:Nat}(K:s.q=false)(O:ops[i]? =some ⟨d,.call ⟨.value (.func L.uCas),#[x,y,z],ats⟩,ty,pp,af,g⟩)(hw:A5 M ops ⟨d,.call ⟨.value (.func L.uCas),#[x,y,z],ats⟩,ty,pp,af,g⟩=some true)(U:((b.kind != .early)&&Bs n d)=true)
  (V:ev M x=some (.pointer (some F.sA))) (Y:ev M y=some (.int .u64 (Fam.word m 0))) (Z:ev M z=some (.int .u64 (Fam.word m 1)))
  (aa:JL (Bo P false) (Stop P F .GD) b n (Ax M d (.bool true)) ds (.inRegion ops rest::k) cs s)
  (ab:JL (Bo P false) (Stop P F (.EP (m - 1))) b n (Ax M d (.bool false)) ds (.inRegion ops rest::k) cs s):
  JL (Bo P false) (Stop P F (.Ge m)) b n M ds (.inRegion ops (i::rest)::k) cs s:=by
 refine Hk (vs:= [.pointer (some F.sA),.int .u64 (Fam.word m 0),.int .u64 (Fam.word m 1)]) O hw U H.f_uCas (nm_uCas L) rfl (by simp [evs,V,Y,Z]) (Nat.le_of_ble_eq_true rfl) fun ac back=>JL.go 8 rfl (AY rfl rfl rfl (fun ρ h=>Yl.fieldAddr H.underlying_tAU rfl (Em H.sizeOf_tU64) (h _ _ rfl)) ?_);refine JL.go 2 rfl (TP (m:=m) K rfl rfl rfl rfl (SO H) rfl rfl rfl ?_ ?_)
 ·refine AY rfl rfl rfl (fun ρ h=>Yl.assign (h _ _ rfl)) (JL.done ?_);exact JL.ret rfl rfl (BP.one H.f_uCas rfl rfl) (back _ _ _ _ aa)
 ·refine AY rfl rfl rfl (fun ρ h=>Yl.assign (h _ _ rfl)) (JL.done ?_);exact JL.ret rfl rfl (BP.one H.f_uCas rfl rfl) (back _ _ _ _ ab)
end
end Pal
namespace Pal
open Go Go.Conc Go.Conc.Lib
open Go.ConcR.Gen
theorem It{v wt:Nat}(K:v<2147483648)(O:wt≤1):IntKind.u64.wrap (BitVec.ofInt IntKind.u64.bits (Fam.word v wt)&&& BitVec.ofInt IntKind.u64.bits 2147483648).toNat=0:=by
 have:=Go.ConcN.st_flag v wt K O;simpa [bits,Fam.word,Fam.KK] using this
theorem Ix{v wt:Nat}(K:v<2147483648)(O:wt≤1):IntKind.u64.wrap (BitVec.ofInt IntKind.u64.bits (Fam.word v wt)&&& BitVec.ofInt IntKind.u64.bits 2147483647).toNat=(wt:Int):=by
 have:=Go.ConcN.st_waiters v wt K O;simpa [bits,Fam.word,Fam.KK] using this
theorem Ib{v wt:Nat}(K:wt≤1):(Fam.word v wt).fdiv (2 ^ (min (32:Int).toNat IntKind.u64.bits))=(v:Int):=by
 have e:(2:Int) ^ (min (32:Int).toNat IntKind.u64.bits)=4294967296:=by decide
 rw [e,Int.fdiv_eq_ediv_of_nonneg _ (by decide)];simp only [Fam.word,Fam.KK];omega
theorem wrap_i32{v:Nat}(K:v<2147483648):IntKind.i32.wrap (v:Int)=v:=by
 simp only [IntKind.wrap,IntKind.bits,IntKind.signed];simp;split <;> omega
theorem wrap_u32{v:Nat}(K:v≤1):IntKind.u32.wrap (v:Int)=v:=by
 simp only [IntKind.wrap,IntKind.bits,IntKind.signed];simp;omega
theorem RF{F:Fam}:∀v wt sm r,F.act .Fz v wt sm=some r→r.1=(v,wt,sm)∧r.2.1= #[Fam.Ei F.sA]:=by
 intro v wt sm r h;simp only [Fam.act] at h;split at h
 ·rename_i K;obtain⟨rfl,rfl⟩:=K;cases h;exact⟨rfl,rfl⟩
 ·cases h
theorem SF{F:Fam}{v wt sm:Nat}{r}(h:F.act .Fz v wt sm=some r):v=0∧wt=1∧r.2.2= .ph .FN:=by
 simp only [Fam.act] at h;split at h
 ·rename_i K;cases h;exact⟨K.1,K.2,rfl⟩
 ·cases h
section
variable {P:Program}{L:WgLink}(H:WgLib P L){F:Fam}{n:Nat}{M:Env}{ds:Ld_}{k:Li_}{cs:Lf_}{s:St}{b:Frame}
variable {ops:Ao_}{i:Nat}{rest:List Nat}{d:Option Tmp}{x y z:Operand}{ats:Array TypeId}{ty:TypeId}{pp:String}{af:Ae_}{g:On_}{p q:Ph}
include H
theorem RS(U:s.q=false)(V:ops[i]? =some ⟨d,.call ⟨.value (.func L.add),#[x,y],ats⟩,ty,pp,af,g⟩)(hw:A5 M ops ⟨d,.call ⟨.value (.func L.add),#[x,y],ats⟩,ty,pp,af,g⟩=some true)(Y:((b.kind != .early)&&Bs n d)=true)
  (Z:ev M x=some (.pointer (some F.sA))) (aa:ev M y=some (.int .i64 (-1)))
  (h:JL (FI P) (Gf P 0) b n (Ax M d (.tuple #[])) ds (.inRegion ops rest::k) cs .quiet):
  JL (Bo P false) (Stop P F .CH) b n M ds (.inRegion ops (i::rest)::k) cs s:=by
 refine Hk (vs:= [.pointer (some F.sA),.int .i64 (-1)]) V hw Y H.f_add (nm_add L) rfl (by simp [evs,Z,aa]) (Nat.le_of_ble_eq_true rfl) fun ac back=>JL.go 11 rfl (Jf (p:= .CH) (q:= .FA) (ad:=F.sA) rfl U (by simp) (fun _ _ _=>rfl) rfl rfl rfl rfl rfl H.underlying_tWgP H.underlying_tUP H.room_tWg rfl (.inl rfl) ?_)
 refine I5 (p:= .FA) (q:= .G4) (mk:= .releaseMerge) (ad:=F.sA) (vs:= [.pointer (some F.sA)]) rfl U (by simp) (fun _ _ _=>rfl) rfl rfl rfl rfl (by simp) (QA H) rfl rfl (JL.go 3 rfl ?_);refine I7 (p:= .G4) (q:= .Gd) rfl rfl (by simp) (fun _ _ _=>rfl) rfl rfl rfl rfl rfl (by simp) (LK H) (JL.go 2 rfl ?_);refine JL.defer (vs:= []) rfl rfl rfl rfl rfl (JL.go 8 rfl ?_);refine JL.ext (vs:= []) rfl rfl rfl (Ng H) rfl rfl (JL.go 7 rfl ?_);refine AY rfl rfl rfl (fun ρ h=>Yl.fieldAddr H.underlying_tWg rfl (Em H.sizeOf_tAU) (h _ _ rfl)) (JL.go 1 rfl ?_);refine AY rfl rfl rfl (fun ρ h=>DO H.underlying_t3 H.underlying_tU64 (h _ _ rfl)) ?_
 refine AY (v:= .int .u64 18446744069414584320) rfl rfl rfl (fun ρ h=>(Yl.shl (h _ _ rfl) (h _ _ rfl) (by decide)).to (congrArg _ (by decide))) (R9 H rfl rfl rfl rfl rfl ?_ fun v wt ae K ag=>?_)
 ·refine AY rfl rfl rfl (fun ρ h=>Yl.assign (h _ _ rfl)) (JL.go 5 rfl ?_);refine AY (v:= .int .u64 0) rfl rfl rfl (fun ρ h=>(Yl.and (h _ _ rfl) (h _ _ rfl)).to (congrArg _ (It (v:=0) (wt:=1) (by decide) (by decide)))) (AY rfl rfl rfl (fun ρ h=>Yl.neq (h _ _ rfl) (h _ _ rfl)) ?_);refine JL.go 10 rfl (AY (v:= .int .u64 (0:Nat)) rfl rfl rfl (fun ρ h=>(Yl.shr (h _ _ rfl) (h _ _ rfl) (by decide)).to (congrArg _ (Ib (v:=0) (wt:=1) (by decide)))) ?_);refine AY (v:= .int .i32 (0:Nat)) rfl rfl rfl (fun ρ h=>(DO H.underlying_tU64 H.underlying_t21 (h _ _ rfl)).to (congrArg _ (wrap_i32 (by decide)))) ?_
  refine JL.go 5 rfl (AY (v:= .int .u64 (1:Nat)) rfl rfl rfl (fun ρ h=>(Yl.and (h _ _ rfl) (h _ _ rfl)).to (congrArg _ (Ix (v:=0) (wt:=1) (by decide) (by decide)))) ?_);refine AY (v:= .int .u32 (1:Nat)) rfl rfl rfl (fun ρ h=>(DO H.underlying_tU64 H.underlying_tU32 (h _ _ rfl)).to (congrArg _ (wrap_u32 (by decide)))) ?_
  refine JL.go 30 rfl (AY rfl rfl rfl (fun ρ h=>Yl.neq (h _ _ rfl) (h _ _ rfl)) ?_);refine JL.go 30 rfl (AY rfl rfl rfl (fun ρ h=>Yl.fieldAddr H.underlying_tWg rfl (Em H.sizeOf_tAU) (h _ _ rfl)) ?_);refine JL.uLoad H (p:= .Fz) rfl rfl (by simp) rfl RF rfl rfl rfl rfl fun v wt sm r ab=>?_;obtain⟨rfl,rfl,e⟩:=SF ab;refine⟨.FN,e,?_⟩;refine JL.go 1 rfl (AY (v:= .bool false) rfl rfl rfl (fun ρ h=>(Yl.neq (h _ _ rfl) (h _ _ rfl)).to (by simp)) ?_);refine JL.go 7 rfl (AY rfl rfl rfl (fun ρ h=>Yl.fieldAddr H.underlying_tWg rfl (Em H.sizeOf_tAU) (h _ _ rfl)) ?_);refine JL.uStore H rfl rfl rfl rfl rfl (JL.go 9 rfl ?_);refine HB (JL.go 4 rfl ?_);refine AY rfl rfl rfl (fun ρ h=>Yl.neq (h _ _ rfl) (h _ _ rfl)) (JL.go 8 rfl ?_);refine AY rfl rfl rfl (fun ρ h=>Yl.fieldAddr H.underlying_tWg rfl (Em H.sizeOf_tU32) (h _ _ rfl)) (SK (vs:= [.pointer (some F.mA),.bool false,.int .i64 0]) rfl rfl rfl rfl (RG H) rfl rfl ?_);refine JL.go 4 rfl (AY (v:= .int .u32 ((0:Nat):Int)) rfl rfl rfl (fun ρ h=>(Yl.sub (h _ _ rfl) (h _ _ rfl)).to (congrArg _ (by decide))) ?_);refine JL.go 2 rfl (JL.again ?_);refine JL.go 4 rfl (AY rfl rfl rfl (fun ρ h=>Yl.neq (h _ _ rfl) (h _ _ rfl)) ?_);refine JL.go 3 rfl (JL.out rfl (JO.Ku rfl (Hg H) (JO.leave rfl (BP.none H.f_add rfl) (back _ _ _ _ h))))
 ·refine AY rfl rfl rfl (fun ρ h=>Yl.assign (h _ _ rfl)) (JL.go 5 rfl ?_);refine AY (v:= .int .u64 0) rfl rfl rfl (fun ρ h=>(Yl.and (h _ _ rfl) (h _ _ rfl)).to (congrArg _ (It (v:=v) (wt:=wt) (by omega) K))) (AY rfl rfl rfl (fun ρ h=>Yl.neq (h _ _ rfl) (h _ _ rfl)) ?_);refine JL.go 10 rfl (AY (v:= .int .u64 (v:Nat)) rfl rfl rfl (fun ρ h=>(Yl.shr (h _ _ rfl) (h _ _ rfl) (by decide)).to (congrArg _ (Ib (v:=v) (wt:=wt) K))) ?_);refine AY (v:= .int .i32 (v:Nat)) rfl rfl rfl (fun ρ h=>(DO H.underlying_tU64 H.underlying_t21 (h _ _ rfl)).to (congrArg _ (wrap_i32 (by omega)))) ?_
  refine JL.go 5 rfl (AY (v:= .int .u64 (wt:Nat)) rfl rfl rfl (fun ρ h=>(Yl.and (h _ _ rfl) (h _ _ rfl)).to (congrArg _ (Ix (v:=v) (wt:=wt) (by omega) K))) ?_);refine AY (v:= .int .u32 (wt:Nat)) rfl rfl rfl (fun ρ h=>(DO H.underlying_tU64 H.underlying_tU32 (h _ _ rfl)).to (congrArg _ (wrap_u32 K))) ?_
  refine JL.go 22 rfl (AY (v:= .bool false) rfl rfl rfl (fun ρ h=>(Yl.lss (h _ _ rfl) (h _ _ rfl)).to (by simp)) ?_);refine JL.go 6 rfl ?_;by_cases O:wt=0
  ·refine AY rfl rfl rfl (fun ρ h=>Yl.move (h _ _ rfl)) (AY (v:= .bool false) rfl rfl rfl (fun ρ h=>(Yl.neq (h _ _ rfl) (h _ _ rfl)).to (by simp [O])) ?_);refine JL.go 16 rfl ?_;by_cases ah:0<v
   ·refine AY rfl rfl rfl (fun ρ h=>Yl.move (h _ _ rfl)) (AY (v:= .bool true) rfl rfl rfl (fun ρ h=>(Yl.gtr (h _ _ rfl) (h _ _ rfl)).to (by simp <;> omega)) ?_);refine JL.go 6 rfl (Eo rfl (JO.Ku rfl (Hg H) (JO.leave rfl (BP.none H.f_add rfl) (back _ _ _ _ h))))
   ·refine AY rfl rfl rfl (fun ρ h=>Yl.move (h _ _ rfl)) (AY (v:= .bool false) rfl rfl rfl (fun ρ h=>(Yl.gtr (h _ _ rfl) (h _ _ rfl)).to (by simp <;> omega)) ?_);refine JL.go 2 rfl (AY (v:= .bool true) rfl rfl rfl (fun ρ h=>(Yl.eql (h _ _ rfl) (h _ _ rfl)).to (by simp [O])) ?_);refine JL.go 3 rfl (Eo rfl (JO.Ku rfl (Hg H) (JO.leave rfl (BP.none H.f_add rfl) (back _ _ _ _ h))))
  ·refine AY rfl rfl rfl (fun ρ h=>Yl.move (h _ _ rfl)) (AY (v:= .bool true) rfl rfl rfl (fun ρ h=>(Yl.neq (h _ _ rfl) (h _ _ rfl)).to (by simp [O])) ?_);refine JL.go 17 rfl (AY (v:= .bool true) rfl rfl rfl (fun ρ h=>(Yl.gtr (h _ _ rfl) (h _ _ rfl)).to (by simp <;> omega)) ?_);refine JL.go 6 rfl (Eo rfl (JO.Ku rfl (Hg H) (JO.leave rfl (BP.none H.f_add rfl) (back _ _ _ _ h))))
theorem RL{j:Nat}(K:s.q=false)(O:ops[i]? =some ⟨d,.call ⟨.value (.func L.add),#[x,y],ats⟩,ty,pp,af,g⟩)(hw:A5 M ops ⟨d,.call ⟨.value (.func L.add),#[x,y],ats⟩,ty,pp,af,g⟩=some true)(U:((b.kind != .early)&&Bs n d)=true)
  (V:ev M x=some (.pointer (some F.sA))) (Y:ev M y=some (.int .i64 1))
  (h:JL (Bo P true) (Stop P F (.Ej j)) b n (Ax M d (.tuple #[])) ds (.inRegion ops rest::k) cs s):
  JL (Bo P true) (Stop P F (.Es j)) b n M ds (.inRegion ops (i::rest)::k) cs s:=by
 refine Hk (vs:= [.pointer (some F.sA),.int .i64 1]) O hw U H.f_add (nm_add L) rfl (by simp [evs,V,Y]) (Nat.le_of_ble_eq_true rfl) fun Z back=>JL.go 12 rfl (I7 (p:= .Es j) (q:= .Gz j) rfl K (by simp) (fun _ _ _=>rfl) rfl rfl rfl rfl rfl (by simp) (LK H) ?_);refine JL.go 2 rfl (JL.defer (vs:= []) rfl rfl rfl rfl rfl ?_);refine JL.go 8 rfl (JL.ext (vs:= []) rfl rfl rfl (Ng H) rfl rfl ?_);refine JL.go 7 rfl (AY rfl rfl rfl (fun ρ h=>Yl.fieldAddr H.underlying_tWg rfl (Em H.sizeOf_tAU) (h _ _ rfl)) ?_);refine JL.go 1 rfl (AY rfl rfl rfl (fun ρ h=>DO H.underlying_t3 H.underlying_tU64 (h _ _ rfl)) ?_)
 refine AY (v:= .int .u64 4294967296) rfl rfl rfl (fun ρ h=>(Yl.shl (h _ _ rfl) (h _ _ rfl) (by decide)).to (congrArg _ (by decide))) (Sy H K rfl rfl rfl rfl rfl ?_ fun v aa ab=>?_)
 ·refine AY rfl rfl rfl (fun ρ h=>Yl.assign (h _ _ rfl)) (JL.go 5 rfl ?_);refine AY (v:= .int .u64 0) rfl rfl rfl (fun ρ h=>(Yl.and (h _ _ rfl) (h _ _ rfl)).to (congrArg _ (It (v:=1) (wt:=0) (by decide) (by decide)))) (AY rfl rfl rfl (fun ρ h=>Yl.neq (h _ _ rfl) (h _ _ rfl)) ?_);refine JL.go 10 rfl (AY (v:= .int .u64 (1:Nat)) rfl rfl rfl (fun ρ h=>(Yl.shr (h _ _ rfl) (h _ _ rfl) (by decide)).to (congrArg _ (Ib (v:=1) (wt:=0) (by decide)))) ?_);refine AY (v:= .int .i32 (1:Nat)) rfl rfl rfl (fun ρ h=>(DO H.underlying_tU64 H.underlying_t21 (h _ _ rfl)).to (congrArg _ (wrap_i32 (by decide)))) ?_
  refine JL.go 5 rfl (AY (v:= .int .u64 (0:Nat)) rfl rfl rfl (fun ρ h=>(Yl.and (h _ _ rfl) (h _ _ rfl)).to (congrArg _ (Ix (v:=1) (wt:=0) (by decide) (by decide)))) ?_);refine AY (v:= .int .u32 (0:Nat)) rfl rfl rfl (fun ρ h=>(DO H.underlying_tU64 H.underlying_tU32 (h _ _ rfl)).to (congrArg _ (wrap_u32 (by decide)))) ?_
  refine JL.go 12 rfl (AY (v:= .int .i32 1) rfl rfl rfl (fun ρ h=>(DO H.underlying_t3 H.underlying_t21 (h _ _ rfl)).to (congrArg _ (by decide))) ?_)
  refine AY (v:= .bool true) rfl rfl rfl (fun ρ h=>(Yl.eql (h _ _ rfl) (h _ _ rfl)).to (by simp)) (JL.go 6 rfl ?_);refine AY rfl rfl rfl (fun ρ h=>Yl.fieldAddr H.underlying_tWg rfl (Em H.sizeOf_tU32) (h _ _ rfl)) (Jf (p:= .Gh j) (q:= .FQ j) (ad:=F.mA) rfl K (by simp) (fun _ _ _=>rfl) rfl rfl rfl rfl rfl H.underlying_tPU32 H.underlying_tUP H.room_tU32 rfl (.inr rfl) ?_)
  refine I5 (p:= .FQ j) (q:= .Fj j) (mk:= .read) (ad:=F.mA) (vs:= [.pointer (some F.mA)]) rfl K (by simp) (fun _ _ _=>rfl) rfl rfl rfl rfl (by simp) (RU H) rfl rfl (JL.go 5 rfl ?_);refine AY (v:= .bool false) rfl rfl rfl (fun ρ h=>(Yl.lss (h _ _ rfl) (h _ _ rfl)).to (by simp)) (JL.go 7 rfl ?_);refine AY (v:= .bool false) rfl rfl rfl (fun ρ h=>(Yl.neq (h _ _ rfl) (h _ _ rfl)).to (by simp)) (JL.go 17 rfl ?_);refine AY (v:= .bool true) rfl rfl rfl (fun ρ h=>(Yl.gtr (h _ _ rfl) (h _ _ rfl)).to (by simp)) (JL.go 6 rfl ?_);exact Eo rfl (JO.Oz K rfl (Hg H) (JO.leave rfl (BP.none H.f_add rfl) (back _ _ _ _ h)))
 ·refine AY rfl rfl rfl (fun ρ h=>Yl.assign (h _ _ rfl)) (JL.go 5 rfl ?_);refine AY (v:= .int .u64 0) rfl rfl rfl (fun ρ h=>(Yl.and (h _ _ rfl) (h _ _ rfl)).to (congrArg _ (It (v:=(v+1)) (wt:=0) (by omega) (by decide)))) (AY rfl rfl rfl (fun ρ h=>Yl.neq (h _ _ rfl) (h _ _ rfl)) ?_);refine JL.go 10 rfl (AY (v:= .int .u64 ((v+1):Nat)) rfl rfl rfl (fun ρ h=>(Yl.shr (h _ _ rfl) (h _ _ rfl) (by decide)).to (congrArg _ (Ib (v:=(v+1)) (wt:=0) (by decide)))) ?_);refine AY (v:= .int .i32 ((v+1):Nat)) rfl rfl rfl (fun ρ h=>(DO H.underlying_tU64 H.underlying_t21 (h _ _ rfl)).to (congrArg _ (wrap_i32 (by omega)))) ?_
  refine JL.go 5 rfl (AY (v:= .int .u64 (0:Nat)) rfl rfl rfl (fun ρ h=>(Yl.and (h _ _ rfl) (h _ _ rfl)).to (congrArg _ (Ix (v:=(v+1)) (wt:=0) (by omega) (by decide)))) ?_);refine AY (v:= .int .u32 (0:Nat)) rfl rfl rfl (fun ρ h=>(DO H.underlying_tU64 H.underlying_tU32 (h _ _ rfl)).to (congrArg _ (wrap_u32 (by decide)))) ?_
  refine JL.go 12 rfl (AY (v:= .int .i32 1) rfl rfl rfl (fun ρ h=>(DO H.underlying_t3 H.underlying_t21 (h _ _ rfl)).to (congrArg _ (by decide))) ?_)
  refine AY (v:= .bool false) rfl rfl rfl (fun ρ h=>(Yl.eql (h _ _ rfl) (h _ _ rfl)).to (by simp <;> omega)) (JL.go 8 rfl ?_);refine AY (v:= .bool false) rfl rfl rfl (fun ρ h=>(Yl.lss (h _ _ rfl) (h _ _ rfl)).to (by simp <;> omega)) (JL.go 7 rfl ?_);refine AY (v:= .bool false) rfl rfl rfl (fun ρ h=>(Yl.neq (h _ _ rfl) (h _ _ rfl)).to (by simp)) (JL.go 17 rfl ?_);refine AY (v:= .bool true) rfl rfl rfl (fun ρ h=>(Yl.gtr (h _ _ rfl) (h _ _ rfl)).to (by simp <;> omega)) (JL.go 6 rfl ?_);exact Eo rfl (JO.Oz K rfl (Hg H) (JO.leave rfl (BP.none H.f_add rfl) (back _ _ _ _ h)))
omit H in
theorem Rw{m:Nat}:∀v wt sm r,F.act (.EP m) v wt sm=some r→r.1=(v,wt,sm)∧r.2.1= #[Fam.Ei F.sA]:=by
 intro v wt sm r h;simp only [Fam.act] at h;split at h
 ·rename_i K;obtain⟨_,rfl⟩:=K;cases h;exact⟨rfl,rfl⟩
 ·cases h
omit H in
theorem So{m v wt sm:Nat}{r}(h:F.act (.EP m) v wt sm=some r):v≤m∧wt=0∧r.2.2=if v=0 then .ph .Ew else .ph (.Ge v):=by
 simp only [Fam.act] at h;split at h
 ·rename_i K;cases h;exact⟨K.1,K.2,rfl⟩
 ·cases h
omit H in
theorem Q5:∀v wt sm r,F.act .FO v wt sm=some r→r.1=(v,wt,sm)∧r.2.1= #[Fam.Ei F.sA]:=by
 intro v wt sm r h;simp only [Fam.act] at h;split at h
 ·rename_i K;obtain⟨rfl,rfl⟩:=K;cases h;exact⟨rfl,rfl⟩
 ·cases h
omit H in
theorem RB{v wt sm:Nat}{r}(h:F.act .FO v wt sm=some r):v=0∧wt=0∧r.2.2= .ph .Ew:=by
 simp only [Fam.act] at h;split at h
 ·rename_i K;cases h;exact⟨K.1,K.2,rfl⟩
 ·cases h
omit H in
theorem Rr{v:Nat}(K:v<2147483648):IntKind.u64.wrap (Fam.word v 0+1)=Fam.word v 1:=by
 simp only [Fam.word,Fam.KK,IntKind.wrap,IntKind.bits,IntKind.signed];simp;omega
theorem JL.wait(Y:F.n<2147483648)(K:s.q=false)(Z:ops[i]? =some ⟨d,.call ⟨.value (.func L.wait),#[x],ats⟩,ty,pp,af,g⟩)(hw:A5 M ops ⟨d,.call ⟨.value (.func L.wait),#[x],ats⟩,ty,pp,af,g⟩=some true)(aa:((b.kind != .early)&&Bs n d)=true)
  (ab:ev M x=some (.pointer (some F.sA)))
  (h:JL (Bo P false) (Stop P F .Df) b n (Ax M d (.tuple #[])) ds (.inRegion ops rest::k) cs s):
  JL (Bo P false) (Stop P F .CK) b n M ds (.inRegion ops (i::rest)::k) cs s:=by
 refine Hk (vs:= [.pointer (some F.sA)]) Z hw aa H.f_wait (nm_wait L) rfl (by simp [evs,ab]) (Nat.le_of_ble_eq_true rfl) fun ae back=>JL.go 3 rfl (I7 (p:= .CK) (q:= .EP F.n) rfl K (by simp) (fun _ _ _=>rfl) rfl rfl rfl rfl rfl (by simp) (LK H) ?_);refine JL.go 2 rfl (HB ?_);refine Ie (L':= [(0,.pointer (some F.sA))]) ⟨rfl,trivial⟩ ?_;generalize F.n=m at Y ⊢
 induction m using Nat.strongRecOn with
 | _ m ac=>?_
 refine JL.go 5 rfl (AY rfl rfl rfl (fun ρ h=>Yl.fieldAddr H.underlying_tWg rfl (Em H.sizeOf_tAU) (h _ _ rfl)) ?_);refine JL.uLoad H (p:= .EP m) rfl K (by simp) rfl Rw rfl rfl rfl rfl fun v wt sm r U=>?_;obtain⟨ag,rfl,e⟩:=So U;have O:v<2147483648:=by omega
 by_cases V:v=0
 ·subst V;refine⟨.Ew,e,?_⟩;refine JL.go 5 rfl (AY (v:= .int .u64 (0:Nat)) rfl rfl rfl (fun ρ h=>(Yl.shr (h _ _ rfl) (h _ _ rfl) (by decide)).to (congrArg _ (Ib (v:=0) (wt:=0) (by decide)))) ?_);refine AY (v:= .int .i32 (0:Nat)) rfl rfl rfl (fun ρ h=>(DO H.underlying_tU64 H.underlying_t21 (h _ _ rfl)).to (congrArg _ (wrap_i32 (by decide)))) ?_
  refine JL.go 5 rfl (AY (v:= .int .u64 ((0:Nat):Int)) rfl rfl rfl (fun ρ h=>(Yl.and (h _ _ rfl) (h _ _ rfl)).to (congrArg _ (Ix (v:=0) (wt:=0) (by decide) (by decide)))) ?_);refine AY (v:= .int .u32 ((0:Nat):Int)) rfl rfl rfl (fun ρ h=>(DO H.underlying_tU64 H.underlying_tU32 (h _ _ rfl)).to (congrArg _ (wrap_u32 (by decide)))) ?_
  refine JL.go 6 rfl (AY (v:= .bool true) rfl rfl rfl (fun ρ h=>(Yl.eql (h _ _ rfl) (h _ _ rfl)).to (by simp)) ?_);refine JL.go 6 rfl (I7 (p:= .Ew) (q:= .GC) rfl K (by simp) (fun _ _ _=>rfl) rfl rfl rfl rfl rfl (by simp) (Hg H) ?_);refine JL.go 3 rfl (Jf (p:= .GC) (q:= .FT) (ad:=F.sA) rfl K (by simp) (fun _ _ _=>rfl) rfl rfl rfl rfl rfl H.underlying_tWgP H.underlying_tUP H.room_tWg rfl (.inl rfl) ?_)
  refine I5 (p:= .FT) (q:= .Df) (mk:= .acquire) (ad:=F.sA) (vs:= [.pointer (some F.sA)]) rfl K (by simp) (fun _ _ _=>rfl) rfl rfl rfl rfl (by simp) (M6 H) rfl rfl (JL.go 5 rfl ?_);refine AY (v:= .bool true) rfl rfl rfl (fun ρ h=>(Yl.eql (h _ _ rfl) (h _ _ rfl)).to (by simp)) (JL.go 2 rfl ?_);refine AY (v:= .int .u64 0) rfl rfl rfl (fun ρ h=>(Yl.and (h _ _ rfl) (h _ _ rfl)).to (congrArg _ (It (v:=0) (wt:=0) (by decide) (by decide)))) (AY (v:= .bool false) rfl rfl rfl (fun ρ h=>(Yl.neq (h _ _ rfl) (h _ _ rfl)).to (by simp)) ?_);exact JL.go 8 rfl (JL.ret rfl rfl (BP.none H.f_wait rfl) (back _ _ _ _ h))
 ·refine⟨.Ge v,by rw [e,if_neg V],?_⟩;refine JL.go 5 rfl (AY (v:= .int .u64 (v:Nat)) rfl rfl rfl (fun ρ h=>(Yl.shr (h _ _ rfl) (h _ _ rfl) (by decide)).to (congrArg _ (Ib (v:=v) (wt:=0) (by decide)))) ?_);refine AY (v:= .int .i32 (v:Nat)) rfl rfl rfl (fun ρ h=>(DO H.underlying_tU64 H.underlying_t21 (h _ _ rfl)).to (congrArg _ (wrap_i32 O))) ?_
  refine JL.go 5 rfl (AY (v:= .int .u64 ((0:Nat):Int)) rfl rfl rfl (fun ρ h=>(Yl.and (h _ _ rfl) (h _ _ rfl)).to (congrArg _ (Ix (v:=v) (wt:=0) O (by decide)))) ?_);refine AY (v:= .int .u32 ((0:Nat):Int)) rfl rfl rfl (fun ρ h=>(DO H.underlying_tU64 H.underlying_tU32 (h _ _ rfl)).to (congrArg _ (wrap_u32 (by decide)))) ?_
  refine JL.go 6 rfl (AY (v:= .bool false) rfl rfl rfl (fun ρ h=>(Yl.eql (h _ _ rfl) (h _ _ rfl)).to (by simp <;> omega)) ?_);refine JL.go 7 rfl (AY rfl rfl rfl (fun ρ h=>Yl.fieldAddr H.underlying_tWg rfl (Em H.sizeOf_tAU) (h _ _ rfl)) ?_);refine JL.go 2 rfl (AY (v:= .int .u64 (Fam.word v 1)) rfl rfl rfl (fun ρ h=>(Yl.add (h _ _ rfl) (h _ _ rfl)).to (congrArg _ (Rr O))) ?_);refine JL.uCas H (m:=v) K rfl rfl rfl rfl rfl rfl ?_ ?_
  ·refine JL.done (JL.go 6 rfl ?_);refine AY (v:= .bool true) rfl rfl rfl (fun ρ h=>(Yl.eql (h _ _ rfl) (h _ _ rfl)).to (by simp)) (JL.go 6 rfl ?_);refine AY rfl rfl rfl (fun ρ h=>Yl.fieldAddr H.underlying_tWg rfl (Em H.sizeOf_tU32) (h _ _ rfl)) (Jf (p:= .GD) (q:= .Gk) (ad:=F.mA) rfl K (by simp) (fun _ _ _=>rfl) rfl rfl rfl rfl rfl H.underlying_tPU32 H.underlying_tUP H.room_tU32 rfl (.inr rfl) ?_)
   refine I5 (p:= .Gk) (q:= .C4) (mk:= .write) (ad:=F.mA) (vs:= [.pointer (some F.mA)]) rfl K (by simp) (fun _ _ _=>rfl) rfl rfl rfl rfl (by simp) (Ry H) rfl rfl (JL.go 9 rfl ?_);refine AY (v:= .int .u64 0) rfl rfl rfl (fun ρ h=>(Yl.and (h _ _ rfl) (h _ _ rfl)).to (congrArg _ (It (v:=v) (wt:=0) O (by decide)))) (AY (v:= .bool false) rfl rfl rfl (fun ρ h=>(Yl.neq (h _ _ rfl) (h _ _ rfl)).to (by simp)) ?_);refine JL.go 10 rfl (AY rfl rfl rfl (fun ρ h=>Yl.fieldAddr H.underlying_tWg rfl (Em H.sizeOf_tU32) (h _ _ rfl)) ?_);refine JL.go 1 rfl (QU (vs:= [.pointer (some F.mA),.bool false]) K rfl rfl rfl rfl (QE H) rfl rfl ?_);refine JL.go 5 rfl (AY rfl rfl rfl (fun ρ h=>Yl.fieldAddr H.underlying_tWg rfl (Em H.sizeOf_tAU) (h _ _ rfl)) ?_);refine JL.uLoad H (p:= .FO) rfl K (by simp) rfl Q5 rfl rfl rfl rfl fun v wt sm r U=>?_;obtain⟨rfl,rfl,e⟩:=RB U;refine⟨.Ew,e,?_⟩;refine AY (v:= .bool false) rfl rfl rfl (fun ρ h=>(Yl.neq (h _ _ rfl) (h _ _ rfl)).to (by simp [Fam.word])) (JL.go 6 rfl ?_);refine I7 (p:= .Ew) (q:= .GC) rfl K (by simp) (fun _ _ _=>rfl) rfl rfl rfl rfl rfl (by simp) (Hg H) (JL.go 3 rfl ?_);refine Jf (p:= .GC) (q:= .FT) (ad:=F.sA) rfl K (by simp) (fun _ _ _=>rfl) rfl rfl rfl rfl rfl H.underlying_tWgP H.underlying_tUP H.room_tWg rfl (.inl rfl) ?_
   refine I5 (p:= .FT) (q:= .Df) (mk:= .acquire) (ad:=F.sA) (vs:= [.pointer (some F.sA)]) rfl K (by simp) (fun _ _ _=>rfl) rfl rfl rfl rfl (by simp) (M6 H) rfl rfl (JL.go 8 rfl ?_);exact JL.ret rfl rfl (BP.none H.f_wait rfl) (back _ _ _ _ h)
  ·refine JL.done (JL.go 3 rfl ?_);refine JL.again (Ie (L':= [(0,.pointer (some F.sA))]) ⟨rfl,trivial⟩ ?_);exact ac (v - 1) (by omega) (by omega)
theorem JO.La(K:b.roundOf=none)(O:s.q=false)(h:JO (FI P) (Gf P 0) b n M ds cs .quiet):
  JO (Bo P false) (Stop P F .CH) b n M (dcall L.done #[.pointer (some F.sA)]::ds) cs s:=by
 refine JO.enter (vs:= [.pointer (some F.sA)]) K H.f_done (nm_done L) rfl (Nat.le_of_ble_eq_true rfl) fun T U todo=>JL.go 2 rfl (RS H O rfl rfl rfl rfl rfl ?_);exact JL.done (JL.out rfl (JO.leaveD rfl H.f_done rfl (.inl rfl) (h T U todo)))
end
end Pal
namespace Pal
open Go Go.Conc
section
variable {P:Program}{J:Judge P}{Q:Gs_}{g:Goroutine}{cs:Lf_}{c:Frame}{E H:LH}{S S':List Seg}
theorem L9(K:S.flatten.Perm S'.flatten)(O:Ar E H S)(h:Ar E H S'→J.ok Q g (Am E H S')):J.ok Q g (Am E H S):=by
 have U:Am E H S=Am E H S':=Ep O K;rw [U];exact h (Nd.perm O K)
theorem O1(K:S'.flatten=S.flatten)(O:Ar E H S)(h:Ar E H S'→J.ok Q g (Am E H S')):J.ok Q g (Am E H S):=L9 (by rw [K]) O h
theorem Oi{f:FuncId}{vs:Lv_}{seg:Seg}{R:Value→LH→Seg→Prop}(j:Nat)(ab:AT J f vs E seg R)(K:Ar E H S)(O:S[j]? =some seg)
  (ac:∀v E' seg',Le E E'→R v E' seg'→Ar E' H (S.set j seg')→J.ok Q (G (c.finish v) cs) (Am E' H (S.set j seg'))):
  J.ok Q (G (Frame.enter P f vs.toArray .normal) (c::cs)) (Am E H S):=by
 have U:S.flatten.Perm (seg++(S.set j []).flatten):=(DG (seg':=seg) O).1.trans List.perm_append_comm;have V:Nd E H (seg++(S.set j []).flatten):=Nd.perm K U;have ae:Am E H S=mk E (A9 (S.set j []).flatten H) seg:=by
  rw [show Am E H S=mk E H S.flatten from rfl,Ep K U];unfold mk;rw [EY]
 have Y:=Dt.IC (ab (A9 (S.set j []).flatten H) (Nd.front V)) (by rintro v s' ⟨E',B',_,_,_,rfl⟩;rfl);rw [← ae] at Y;refine Y Q c cs ?_;rintro v ap ⟨⟨E',B',hle,ag,ah,rfl⟩,w,ai⟩;have e2:mk E' (A9 (S.set j []).flatten H) B'=mk E' H (B'++(S.set j []).flatten):=by unfold mk;rw [EY]
 have aj:Nd E H (S.set j []).flatten:=by
  have:=V;rw [Nd.iff] at this ⊢;rw [List.map_append,List.nodup_append] at this;exact⟨this.1.2.1,fun q ak=>this.2 q (List.mem_append_right _ ak)⟩
 have al:Nd E' H (S.set j []).flatten:=aj.grow fun x am=>by
  have an:=ai.d x am;have ao:A9 B' (A9 (S.set j []).flatten H) x=none:=an;exact(F2 ao).1
 have Z:Nd E' H (B'++(S.set j []).flatten):=Nd.glue ah al;rw [e2];have aa:(B'++(S.set j []).flatten).Perm (S.set j B').flatten:=List.perm_append_comm.trans (DG O).2.symm;rw [Ep Z aa];exact ac v E' B' hle ag (Nd.perm Z aa)
theorem Pw{e p d l:Seg}:([e,p]++ [d]++ [l]:List Seg).flatten.Perm ([e++(l++p),d]:List Seg).flatten:=by
 simp only [List.cons_append,List.nil_append,List.flatten_cons,List.flatten_nil,List.append_nil,List.append_assoc];refine List.Perm.append_left e ?_;rw [← List.append_assoc];exact List.perm_append_comm
end
section
variable {P:Program}{J:Judge P}{Q:Gs_}{b:Frame}{n:Nat}{L:Env}{ds:Ld_}{k:Li_}{cs:Lf_}{E H:LH}{S:List Seg}{ops:Ao_}{i:Nat}{rest:List Nat}{d:Option Tmp}{t ty e:TypeId}{p:String}{af:Ae_}{g:On_}
theorem JS.makeChan{dir:ChanDir}{K:Nat}(O:ops[i]? =some ⟨d,.makeChan t (.const (.int .i64 0)),ty,p,af,g⟩)(hw:A5 L ops ⟨d,.makeChan t (.const (.int .i64 0)),ty,p,af,g⟩=some true)(U:Ct b n ⟨d,.makeChan t (.const (.int .i64 0)),ty,p,af,g⟩=true)
  (ht:P.underlying t=some (.chan dir e)) (hb:D6 P e=some K) (V:Ar E H S)
  (h:∀r,Ar E H (S++ [[(r,.chan 0 #[] false 0 0 false)]])→JL J Q b n (Ax L d (.chan (some r))) ds (.inRegion ops rest::k) cs (Am E H (S++ [[(r,.chan 0 #[] false 0 0 false)]]))):
  JL J Q b n L ds (.inRegion ops (i::rest)::k) cs (Am E H S):=
 JL.op O hw U fun ρ Y=>by
  show lp P (do pure (Next.value (← Instr.makeChan t (ρ (.const (.int .i64 0)))))) _ _ _
  rw [Y _ _ rfl]
  obtain⟨inf,hi,ah⟩:=LQ hb
  refine Ay _ _ ?_
  unfold Instr.makeChan
  simp only [asInt,bind,Sem.bind,pure]
  refine Ay (x:=underlying t) _ (CY ht ?_)
  simp only
  refine Ay (x:=typeInfo e) _ (HA hi ?_)
  have Z:¬((0:Int)<0∨(0:Int)>IntKind.i64.max∨(inf.bytes:Int)*0>2 ^ 48 - 112):=by
   simp [IntKind.max,IntKind.signed,IntKind.bits]
  rw [if_neg Z];simp only [newObj,Sem.bind,lp];refine⟨rfl,fun r aa ab=>?_⟩;obtain⟨ac,ae⟩:=HG aa ab (.chan 0 #[] false 0 0 false) V;obtain⟨p1,p2⟩:=Ee ac;have ag:(Am E H S).upd r (.chan 0 #[] false 0 0 false)=Am E H (S++ [[(r,.chan 0 #[] false 0 0 false)]]):=by rw [← p1,← ae];rfl
  show JL J Q b n (Ax L d (.chan (some r))) ds (.inRegion ops rest::k) cs ((Am E H S).upd r (.chan 0 #[] false 0 0 false));rw [ag];exact h r p2
end
theorem QR{E H:LH}{a b:Nat}{K O:Obj}(V:Ar E H [[(a,K)],[(b,O)]]):(⟨E,Hl (Am E H [[(a,K)],[(b,O)]]).H b a,false⟩:St)=Am E H []:=by
 have h:=Nd.iff.1 V;have Y:H a=none:=(h.2 (a,K) (by simp)).2;have Z:H b=none:=(h.2 (b,O) (by simp)).2;unfold Am mk;congr 1;funext x;simp only [Hl,Am,mk,List.flatten_cons,List.flatten_nil,List.append_nil,List.cons_append,List.nil_append,A9];by_cases U:x=a
 ·subst U;simp [Y]
 ·by_cases e2:x=b
  ·subst e2;simp [U,Z]
  ·simp [U,e2]
theorem Ar.up{E E' H:LH}{S:List Seg}(U:Ar E H S)(h:∀x,E' x≠none→(Am E H S).H x=none):Ar E' H S:=by
 have K:=Nd.iff.1 U;refine Nd.iff.2 ⟨K.1,fun q O=>⟨?_,(K.2 q O).2⟩⟩;cases V:E' q.1 with
 | none=>rfl
 | some o=>
  have Y:=h q.1 (by rw [V];simp);have Z:A9 S.flatten H q.1=none:=Y;exact absurd rfl ((F2 Z).2 q O)
end Pal
namespace Pal
open Go Go.Conc
theorem Ja{P:Program}{J:Judge P}{Q:Gs_}{b:Frame}{n:Nat}{L:Env}{ds:Ld_}{cs:Lf_}{E H:LH}{S:List Seg}{todo:Li_}{A B:Seg}(j K:Nat)(O:S[j]? =some A)(Y:(S.set j [])[K]? =some B)(Z:Ar E H S)
  (h:Ar E H (((S.set j []).set K []).set j (A++B))→JL J Q b n L ds todo cs (Am E H (((S.set j []).set K []).set j (A++B)))):JL J Q b n L ds todo cs (Am E H S):=by
 refine JS.perm ?_ Z h;have U:j<S.length:=(List.getElem?_eq_some_iff.1 O).1;have aa:=(DG (seg':=A) O).1;have ab:=(DG (seg':=B) Y).1;have ac:((S.set j []).set K [])[j]? =some []:=by
  by_cases e:K=j
  ·subst e;rw [List.getElem?_set_self (by simpa using U)]
  ·rw [List.getElem?_set_ne e,List.getElem?_set_self U]
 have V:=(DG (seg':=A++B) ac).2;have ae:(((S.set j []).set K []).set j [])=(S.set j []).set K []:=by
  by_cases e:K=j
  ·subst e;simp
  ·rw [List.set_comm _ _ e];simp
 rw [ae] at V;refine aa.trans (List.Perm.trans ?_ V.symm);refine(List.Perm.append_right A ab).trans ?_;rw [List.append_assoc];exact List.Perm.append_left _ List.perm_append_comm
end Pal
namespace Pal
open Go Go.Conc
def WL{α:Type}(e:TypeId)(pp:Rp α)(E:LH)(bk c n:Nat)(f:Aw)(xs:List α):Prop:=
 OL e pp E (some ⟨bk,0,none⟩) c [(bk,.cells f e (0,0))] xs∧xs.length=n
theorem WL.Ad{α:Type}{e:TypeId}{pp:Rp α}{E E':LH}{bk c n:Nat}{f:Aw}{xs:List α}(h:WL e pp E bk c n f xs)(hle:Le E E'):WL e pp E' bk c n f xs:=⟨h.1.Ad hle,h.2⟩
theorem WL.at{α:Type}{e:TypeId}{pp:Rp α}{E:LH}{bk c n:Nat}{f:Aw}{xs:List α}{m:Int}{x:α}(h:WL e pp E bk c n f xs)(hm:ix xs m=some x):
  ∃ws,pp.r E ws x∧(∀j w,ws[j]? =some w→f[m.toNat*pp.n+j]? =some w):=by
 obtain⟨ws,K,O,_,_⟩:=OL.again h.1 hm rfl;exact⟨ws,K,O⟩
theorem WL.put{α:Type}{e:TypeId}{pp:Rp α}{E:LH}{bk c n:Nat}{f:Aw}{xs O:List α}{m:Int}{U x':α}{ws':Lv_}(h:WL e pp E bk c n f xs)(V:O.length=n)(hm:ix O m=some U)(Y:pp.r E ws' x'):
  WL e pp E bk c n (AI f (m.toNat*pp.n) ws') (xs.set m.toNat x')∧m.toNat*pp.n+pp.n≤f.size:=by
 obtain⟨K,rfl,Z⟩:=Gt hm;have aa:K<xs.length:=by rw [h.2,← V];exact(List.getElem?_eq_some_iff.1 Z).1
 have ab:ix xs (K:Int)=some xs[K]:=by simp [ix,aa]
 obtain⟨ws,ag,ah,ac,ae⟩:=OL.again h.1 ab rfl;exact⟨⟨ae x' ws' Y,by rw [List.length_set];exact h.2⟩,ac⟩
theorem OL.cases{α:Type}{e:TypeId}{pp:Rp α}{E:LH}{a:Option Addr}{c:Nat}{seg:Seg}{xs:List α}(h:OL e pp E a c seg xs):
  (a=none∧c=0∧seg= []∧xs= [])∨∃bk f,a=some ⟨bk,0,none⟩∧seg= [(bk,.cells f e (0,0))]∧WL e pp E bk c xs.length f xs:=by
 have V:=h;obtain⟨Z,hg,aa,ab⟩:=h;rcases hg with⟨K,O,U,Y,ac⟩ | ⟨bk,f,K,O,U⟩
 ·exact .inl ⟨K,U,Y,List.length_eq_zero_iff.1 O⟩
 ·subst K O;exact .inr ⟨bk,f,rfl,rfl,V,rfl⟩
theorem FM{P:Program}{s:St}{ρ:Operand→Value}{x y:Operand}{d:Option Tmp}{t ty e:TypeId}{p:String}{af:Ae_}{g:On_}{kd:IntKind}{α:Type}{xs:List α}{xv:α}{m:Int}{bk c K n:Nat}(O:xs.length=n)(hm:ix xs m=some xv)(ht:P.underlying t=some (.slice e))(U:Br P e=some K)(V:ρ x= .slice (some ⟨bk,0,none⟩) n c)(Y:ρ y= .int kd m):
  Yl P ⟨d,.indexAddr t x y,ty,p,af,g⟩ ρ s (.pointer (some ⟨bk,m.toNat*K,none⟩)):=by
 subst O;exact Od hm ht U V Y
theorem OB{P:Program}{s:St}{ρ:Operand→Value}{x:Operand}{d:Option Tmp}{t ty e:TypeId}{p:String}{af:Ae_}{g:On_}{α:Type}{xs:List α}{a:Option Addr}{n c:Nat}{ats:Array TypeId}(K:xs.length=n)(O:ats[0]? =some t)(ht:P.underlying t=some (.slice e))(U:ρ x= .slice a n c):
  Yl P ⟨d,.call ⟨.builtin .len,#[x],ats⟩,ty,p,af,g⟩ ρ s (.int .i64 (xs.length:Int)):=by
 subst K;exact Yl.len O ht U
section
variable {P:Program}{J:Judge P}{Q:Gs_}{b:Frame}{n:Nat}{ds:Ld_}{ops:Ao_}{k:Li_}{cs:Lf_}{m fuel:Nat}{D:Nat→Bool}{listed:Array Bool}{L:Env}{s:St}{E E' H:LH}{S:List Seg}
variable {d:Option Tmp}{x y:Operand}{t u ty e:TypeId}{p:String}{af:Ae_}{g:On_}{v:Value}{i:Nat}{kd:IntKind}
theorem Rm{f:FuncId}{args:Array Operand}{ats:Array TypeId}{vs:Lv_}{R:Value→St→Prop}(U:s.q=false)(V:Region.ready .any ops listed= [i])
  (Y:ops[i]? =some ⟨d,.call ⟨.value x,args,ats⟩,ty,p,af,g⟩) (Z:ev L x=some (.func (.func f) #[] #[])) (aa:Bs n d=true) (hw:A5 L ops ⟨d,.call ⟨.value x,args,ats⟩,ty,p,af,g⟩=some true) (hb:Dj P f=true) (ab:evs L args.toList=some vs)
  (ac:Dt J f vs.toArray s R) (h:∀v K,R v K→K.q=false∧(∀x o,(Bu D s).E x=some o→(Bu D K).E x=some o)∧AQ J Q b n ds ops k cs m D fuel (A4 listed i) (Ax L d v) K):
  AQ J Q b n ds ops k cs m D (fuel+1) listed L s:=by
 refine AQ.one U V Y (by simp [CV,aa]) hw fun ρ O=>?_;have ae:args.map ρ=vs.toArray:=by
  rw [← EX O ab];apply Array.ext';simp
 have ag:ρ x= .func (.func f) #[] #[]:=O _ _ Z;simp only [execOp,resolve,bind,Sem.bind,Deferred.ofValue,ag,pure,invoke];have e: #[]++args.map ρ++ #[]=vs.toArray:=by rw [ae];simp
 rw [e];refine H2 hb ?_;rw [I3];exact⟨R,ac,h⟩
theorem GK{bks:List Nat}{f:FuncId}{args:Array Operand}{ats:Array TypeId}{vs:Lv_}{R:Value→LH→Seg→Prop}(ae:Fw S bks)(ag:AT J f vs E [] R)(ah:Region.ready .any ops listed= [i])
  (ai:ops[i]? =some ⟨d,.call ⟨.value x,args,ats⟩,ty,p,af,g⟩) (K:ev L x=some (.func (.func f) #[] #[])) (aj:Bs n d=true) (hw:A5 L ops ⟨d,.call ⟨.value x,args,ats⟩,ty,p,af,g⟩=some true) (hb:Dj P f=true) (ak:evs L args.toList=some vs) (Z:Ar E H S)
  (al:∀v E' seg',Le E E'→R v E' seg'→Ar E' H (S++ [seg'])→AQ J Q b n ds ops k cs m (AX bks) fuel (A4 listed i) (Ax L d v) (Am E' H (S++ [seg']))):
  AQ J Q b n ds ops k cs m (AX bks) (fuel+1) listed L (Am E H S):=by
 have am:=Dt.IC (ag (A9 S.flatten H) trivial) (by rintro v s' ⟨E',B',_,_,_,rfl⟩;rfl);refine Rm rfl ah ai K aj hw hb ak am ?_;rintro v aw ⟨⟨E',B',hle,an,ao,rfl⟩,w,ap⟩;have e2:mk E' (A9 S.flatten H) B'=mk E' H (B'++S.flatten):=by unfold mk;rw [EY]
 have aq:Nd E' H S.flatten:=Nd.grow Z fun x K=>by
  have ar:=ap.d x K;have U:A9 B' (A9 S.flatten H) x=none:=ar;exact(F2 U).1
 have aa:Nd E' H (B'++S.flatten):=Nd.glue ao aq;have ab:(B'++S.flatten).Perm (S++ [B']).flatten:=by rw [F4];exact List.perm_append_comm
 have ac:Ar E' H (S++ [B']):=Nd.perm aa ab;rw [e2,Ep aa ab];refine⟨rfl,fun x o K=>?_,al v E' B' hle an ac⟩;by_cases V:AX bks x=true
 ·obtain⟨j,o',Y⟩:=ae.mem x (by simpa [AX] using V);have U:(Am E H S).get x=some o':=D5 (i:=0) Z Y rfl;have au:j<S.length:=(List.getElem?_eq_some_iff.1 Y).1;have av:(Am E' H (S++ [B'])).get x=some o':=D5 (i:=0) ac (by rw [List.getElem?_append_left au];exact Y) rfl;have O:(if AX bks x then(Am E H S).get x else E x)=some o:=K
  show(if AX bks x then(Am E' H (S++ [B'])).get x else E' x)=some o
  rw [if_pos V] at O ⊢;rw [av,← U];exact O
 ·have O:(if AX bks x then(Am E H S).get x else E x)=some o:=K
  show(if AX bks x then(Am E' H (S++ [B'])).get x else E' x)=some o
  rw [if_neg V] at O ⊢;exact hle _ _ O
end
section
variable {P:Program}{J:Judge P}{Q:Gs_}{b:Frame}{n:Nat}{ds:Ld_}{ops:Ao_}{k:Li_}{cs:Lf_}{L:Env}{s:St}{E E' H:LH}{S:List Seg}
variable {d:Option Tmp}{x y:Operand}{t u ty e:TypeId}{p:String}{af:Ae_}{g:On_}{v:Value}{i:Nat}{rest:List Nat}{kd:IntKind}
theorem I8{f:FuncId}{args:Array Operand}{ats:Array TypeId}{vs:Lv_}{R:Value→LH→Seg→Prop}
  (O:AT J f vs E [] R) (U:ops[i]? =some ⟨d,.call ⟨.value x,args,ats⟩,ty,p,af,g⟩) (V:ev L x=some (.func (.func f) #[] ([]:Lv_).toArray)) (hw:A5 L ops ⟨d,.call ⟨.value x,args,ats⟩,ty,p,af,g⟩=some true) (Y:((b.kind != .early)&&Bs n d)=true) (hb:Dj P f=true)
  (Z:evs L args.toList=some vs) (aa:Ar E H S) (ab:∀v E' seg',Le E E'→R v E' seg'→Ar E' H (S++ [seg'])→JL J Q b n (Ax L d v) ds (.inRegion ops rest::k) cs (Am E' H (S++ [seg']))):
  JL J Q b n L ds (.inRegion ops (i::rest)::k) cs (Am E H S):=by
 have ac:D7 J (.func (.func f) #[] ([]:Lv_).toArray) vs E [] R:=D7.ofFn hb (by rw [List.append_nil];exact O);have ae:Ar E H (S++ [[]]):=by unfold Ar at*;rw [F4,List.append_nil];exact aa
 have ag:Am E H S=Am E H (S++ [[]]):=by unfold Am;rw [F4,List.append_nil]
 rw [ag];refine H8 (seg:= []) S.length ac U hw Y V Z ae (by simp) fun v E' seg' hle ah K=>?_;have ai:(S++ [([]:Seg)]).set S.length seg'=S++ [seg']:=Gq _ _ _ _;rw [ai] at K ⊢;exact ab v E' seg' hle ah K
end
def GB(a b:Int):Option Int:=if b=0 then none else AA (a.tdiv b)
def Jw(l:List Nat)(i:Int):Option Nat:=if 0≤i then l[i.toNat]? else none
section
variable {P:Program}{s:St}{ρ:Operand→Value}{x y z:Operand}{d:Option Tmp}{t u ty e:TypeId}{p:String}{af:Ae_}{g:On_}{v:Value}{kd kd':IntKind}{m m':Int}{a b:Nat}
theorem Jh{r:Int}(K:ρ x=iV m)(O:ρ y=iV m')(h:GB m m'=some r):Yl P ⟨d,.binOp .quo t x y u,ty,p,af,g⟩ ρ s (iV r):=by
 unfold GB at h;split at h
 ·cases h
 ·rename_i U;obtain⟨rfl,hb⟩:=I1 h;have:=Yl.quo (P:=P) (s:=s) (d:=d) (t:=t) (u:=u) (ty:=ty) (p:=p) (af:=af) (g:=g) K O U
  rwa [I4 hb] at this
theorem Qf{a:Nat}:IntKind.u8.wrap (a:Int)=((a % 256:Nat):Int):=by
 simp only [IntKind.wrap,IntKind.bits,IntKind.signed];simp
theorem SA(K:ρ x= .int .u8 (a:Int))(O:ρ y= .int .u8 (b:Int)):Yl P ⟨d,.binOp .add t x y u,ty,p,af,g⟩ ρ s (.int .u8 (((a+b) % 256:Nat):Int)):=by
 have h:=Yl.add (P:=P) (s:=s) (d:=d) (t:=t) (u:=u) (ty:=ty) (p:=p) (af:=af) (g:=g) K O;rw [← Int.natCast_add,Qf] at h;exact h
theorem S3(ht:P.underlying t=some (.int .u64))(hu:P.underlying u=some (.int .u8))(K:ρ x= .int .u64 (a:Int)):Yl P ⟨d,.convert t u x,ty,p,af,g⟩ ρ s (.int .u8 ((a % 256:Nat):Int)):=by
 have h:=DO (P:=P) (s:=s) (d:=d) (ty:=ty) (p:=p) (af:=af) (g:=g) ht hu K
 rw [Qf] at h;exact h
theorem OY{r:Int}(ht:P.underlying t=some (.int .u8))(hu:P.underlying u=some (.int .i64))(K:ρ x= .int .u8 (a:Int))(h:AA ((a:Nat):Int)=some r):Yl P ⟨d,.convert t u x,ty,p,af,g⟩ ρ s (iV r):=by
 obtain⟨rfl,hb⟩:=I1 h;have h:=DO (P:=P) (s:=s) (d:=d) (ty:=ty) (p:=p) (af:=af) (g:=g) ht hu K
 rwa [I4 hb] at h
theorem R2(c:Nat)(K:ρ x= .int .u16 (a:Int))(O:ρ y= .int .u64 (c:Int))(U:c≤16):Yl P ⟨d,.binOp .shr t x y u,ty,p,af,g⟩ ρ s (.int .u16 ((a>>>c:Nat):Int)):=by
 have h:=Yl.shr (P:=P) (s:=s) (d:=d) (t:=t) (u:=u) (ty:=ty) (p:=p) (af:=af) (g:=g) K O (by omega);have e:min (c:Int).toNat IntKind.u16.bits=c:=by simp [IntKind.bits];omega
 rw [e,Int.fdiv_eq_ediv_of_nonneg _ (Int.pow_nonneg (by decide))] at h;have e2:(a:Int) / 2 ^ c=((a>>>c:Nat):Int):=by rw [Nat.shiftRight_eq_div_pow,Int.natCast_ediv];rfl
 rw [e2] at h;exact h
theorem LV{l:List Nat}{bs:ByteArray}{r:Nat}(O:(bs.data.toList.map UInt8.toNat==l)=true)(ht:P.underlying t=some .string)(U:ρ y= .int kd m)(V:ρ (.const (.string bs))= .string bs)(h:Jw l m=some r):Yl P ⟨d,.index t (.const (.string bs)) y,ty,p,af,g⟩ ρ s (.int .u8 (r:Int)):=by
 unfold Jw at h;split at h
 ·rename_i Y;have Z:=eq_of_beq O;rw [← Z,List.getElem?_map] at h;obtain⟨K,hb,rfl⟩:=Option.map_eq_some_iff.1 h;have aa:bs[m.toNat]? =some K:=by
   have ab:bs.data[m.toNat]? =some K:=by rw [← Array.getElem?_toList];exact hb
   obtain⟨ac,ae⟩:=Array.getElem?_eq_some_iff.1 ab;rw [getElem?_pos bs m.toNat ac];exact congrArg some ae
  simp [Yl,execOp,lp,pure,bind,Sem.bind,V,U,Instr.index,underlying,program,ht,Y,aa,asIntOf]
 ·cases h
end
end Pal
namespace Pal
open Go Go.Conc
section
variable {P:Program}(J:Judge P)(Q:Gs_)(b:Frame)(ds:Ld_)(ops:Ao_)(k:Li_)(cs:Lf_)(X D:Nat→Bool)
def JB:Nat→Array Bool→Aw→St→Prop
 | 0,listed,T,s=>Region.ready .any ops listed= []∧J.ok Q (G (fr b T ds (.inRegion ops []::k)) cs) s
 | fuel+1,listed,T,s=>
  Region.ready .any ops listed≠ []∧s.q=false∧∀i∈Region.ready .any ops listed,∀o,ops[i]? =some o→(∀c,o.op≠ .defer c)∧
   (Region.wanted o (yielded ops T)=false→JB fuel (A4 listed i) (Cr T o.dst undef) s)∧
   (Region.wanted o (yielded ops T)=true→X i=true→lp P (execOp (BB T) o) s (fun K s'=>match K with
    | .value v=>JB fuel (A4 listed i) (Cr T o.dst v) s'
    | .skip=>JB fuel (A4 listed i) (Cr T o.dst undef) s'
    | _=>False) (fun _ _=>False))∧
   (Region.wanted o (yielded ops T)=true→X i=false→lp P (execOp (BB T) o) (Bu D s) (fun K s'=>match K with
    | .value v=>JB fuel (A4 listed i) (Cr T o.dst v) (Cp D s s')
    | .skip=>JB fuel (A4 listed i) (Cr T o.dst undef) (Cp D s s')
    | _=>False) (fun _ _=>False))
variable {J Q b ds ops k cs X D}
theorem Sv(Y:b.kind≠ .early):∀(fuel t:Nat) (listed:Array Bool) (T:Aw) (s:St),JB J Q b ds ops k cs X D fuel listed T s→
  J.ok Q (G (fr b T ds (.inRegion ops (Region.linearise.go .any ops fuel t listed [])::k)) cs) s:=by
 intro fuel
 induction fuel with
 | zero=>intro t listed T s h;simpa [Region.linearise.go] using h.2
 | succ fuel O=>
  intro t listed T s h;obtain⟨ac,ae,h⟩:=h;obtain⟨i,hi⟩:∃i,(Region.ready .any ops listed)[t % (Region.ready .any ops listed).length]? =some i:=by
   have:0<(Region.ready .any ops listed).length:=List.length_pos_iff.2 ac;exact⟨_,List.getElem?_eq_getElem (Nat.mod_lt _ this)⟩
  have Z:=List.mem_of_getElem? hi;have hgo:Region.linearise.go .any ops (fuel+1) t listed []=i::Region.linearise.go .any ops fuel (t / (Region.ready .any ops listed).length) (A4 listed i) []:=by
   simp only [Region.linearise.go];change (match(Region.ready .any ops listed)[t % (Region.ready .any ops listed).length]? with
    | some i=>Region.linearise.go .any ops fuel (t / (Region.ready .any ops listed).length) (listed.setIfInBounds i true) [i]
    | none=> [].reverse)=_
   rw [hi];simp only;rw [linearise_go_acc];rfl
  rw [hgo];obtain⟨_,o,U,_⟩:=mem_ready.1 Z;obtain⟨aa,ag,ah,ai⟩:=h i Z o U;cases hw:Region.wanted o (yielded ops T) with
  | false=>exact Judge.unwanted U hw (O _ _ _ _ (ag hw))
  | true=>
   cases ab:X i with
   | true=>
    refine Judge.oper U hw Y (.inr aa) (CO _ (ah hw ab) ?_ (fun _ _ h=>h.elim));intro V s' K;cases V with
    | value v=>exact O _ _ _ _ K
    | skip=>exact O _ _ _ _ K
    | _=>exact K.elim
   | false=>
    refine Judge.O4 D U hw Y aa ae (CO _ (ai hw ab) ?_ (fun _ _ h=>h));intro V s' K;cases V with
    | value v=>exact O _ _ _ _ K
    | skip=>exact O _ _ _ _ K
    | _=>exact K.elim
def waitAll(ops:Ao_)(X:Nat→Bool)(i:Nat):Bool:=(List.range ops.size).all fun j=> !X j || waits ops ops.size j i
theorem JB.take{i:Nat}{oi:Oper}{w pure:Bool}{v:Value}(hi:ops[i]? =some oi)(aU:X i=false)(aL:(pure || waitAll ops X i)=true)(aV:Region.noSelect ops=true)(aW:∀c,oi.op≠ .defer c):
  ∀(fuel:Nat) (listed:Array Bool) (T:Aw) (s:St),GW ops listed i oi=true→F8 ops listed=true→listed.size=ops.size→i∈Region.ready .any ops listed→s.q=false→Region.wanted oi (yielded ops T)=w→
   (w=true→∀s',s'.q=false→(pure=false→∀x o,(Bu D s).E x=some o→s'.E x=some o)→Yl P oi (BB T) s' v)→
   JB J Q b ds ops k cs X D fuel (A4 listed i) (Cr T oi.dst (if w then v else undef)) s→JB J Q b ds ops k cs X D (fuel+1) listed T s:=by
 have ab:∀(j:Nat) (Y:Oper),ops[j]? =some Y→∀cs b,Y.op≠Op.select cs b:=fun j Y h cs b=>Region.noSelect_spec aV j Y cs b h;intro fuel
 induction fuel with
 | zero=>?_
 | succ fuel ai=>?_
 all_goals
  intro listed T s aM aN aj ay ak hw ac h;refine⟨fun e=>(by rw [e] at ay;cases ay),ak,fun j aO Y O=>?_⟩;by_cases al:j=i
  ·subst al;obtain rfl:Y=oi:=by rw [hi] at O;exact(Option.some.inj O).symm
   refine⟨aW,fun aC=>?_,fun ae K=>?_,fun ae K=>?_⟩
   ·rw [aC] at hw;subst hw;exact h
   ·rw [aU] at K;cases K
   ·rw [ae] at hw;subst hw;refine CO _ (ac rfl (Bu D s) ak fun _ _ _ h=>h).out ?_ (fun _ _ h=>h);rintro az s' ⟨rfl,rfl⟩;rw [I3];exact h
  ·
   have aP:j∈Region.ready .any ops (A4 listed i):=ready_mono aO al;obtain⟨ag,U,aQ,aD⟩:=mem_ready.1 aO;obtain rfl:U=Y:=by rw [O] at aQ;exact(Option.some.inj aQ).symm
   have aE:=(mem_ready.1 ay).1;have aX:(U.after.any fun e=>Region.binds .any e&&e.on==i)=false:=by
    rw [Array.any_eq_false];intro e he K;simp only [Bool.and_eq_true,beq_iff_eq] at K;have:=aD _ (Array.getElem_mem he) K.1;rw [K.2] at this;have ah:listed.getD i true=listed.getD i false∨listed.size≤i:=by
     rcases Nat.lt_or_ge i listed.size with q | q
     ·left;simp [Array.getD_eq_getD_getElem?,q]
     ·exact .inr q
    rcases ah with ah | ah
    ·rw [aE,this] at ah;cases ah
    ·rw [Array.getD_eq_getD_getElem?,Array.getElem?_eq_none ah] at this;simp at this
   have aY:oi.apart ops U=true:=by
    have aF:j<ops.size:=(Array.getElem?_eq_some_iff.1 O).1;have:=List.all_eq_true.1 aM j (List.mem_range.2 aF);simp only [Bool.or_eq_true,beq_iff_eq] at this;rcases this with(q | q) | q
    ·exact absurd q al
    ·rw [ag] at q;cases q
    ·rw [O] at q;simp only [Bool.or_eq_true] at q;rw [aX] at q;exact q.resolve_left (by simp)
   obtain⟨aZ,am,an⟩:=Oper.apart_spec aY;obtain⟨p1,p2⟩:=F3 (ops:=ops) (T:=T) (v:=if w then v else undef) (ab j U O) aZ
   first
    | exact absurd aP (by rw [h.1];simp)
    | (
     obtain⟨ba,_,h⟩:=h
     obtain⟨a0,aC,a1,a2⟩:=h j aP U O
     have ao:A4 (A4 listed i) j=A4 (A4 listed j) i:=by
      unfold A4;exact Array.setIfInBounds_comm _ _ (Ne.symm al)
     have ap:i∈Region.ready .any ops (A4 listed j):=ready_mono ay (Ne.symm al)
     have aq:GW ops (A4 listed j) i oi=true:=by
      refine List.all_eq_true.2 fun x K=>?_
      have:=List.all_eq_true.1 aM x K
      simp only [Bool.or_eq_true,beq_iff_eq] at this ⊢
      rcases this with(q | q) | q
      ·exact .inl (.inl q)
      ·left;right
       by_cases e:j=x
       ·subst e;rw [ag] at q;cases q
       ·rw [A4,getD_set_ne true e];exact q
      ·exact .inr q
     have ar:(A4 listed j).size=ops.size:=by unfold A4;simpa using aj
     have au:F8 ops (A4 listed j)=true:=by
      refine List.all_eq_true.2 fun x K=>?_
      cases aG:ops[x]? with
      | none=>simp
      | some a3=>
       simp only [Bool.or_eq_true,Bool.not_eq_true']
       by_cases e:j=x
       ·subst e
        obtain rfl:a3=U:=by rw [O] at aG;exact(Option.some.inj aG).symm
        right
        refine Array.all_eq_true'.2 fun e he=>?_
        cases hb:Region.binds .any e with
        | false=>simp
        | true=>
         have:=aD e he hb
         by_cases e2:j=e.on
         ·rw [← e2] at this
          have aH:j<listed.size:=by rw [aj];exact(Array.getElem?_eq_some_iff.1 O).1
          simp [Array.getD_eq_getD_getElem?,aH] at this ag
          rw [ag] at this;cases this
         ·rw [A4,getD_set_ne false e2];simpa using this
       ·cases aR:(A4 listed j).getD x false with
        | false=>exact .inl rfl
        | true=>
         right
         have a4:listed.getD x false=true:=by rw [A4,getD_set_ne false e] at aR;exact aR
         refine Array.all_eq_true'.2 fun aI he=>?_
         cases hb:Region.binds .any aI with
         | false=>simp
         | true=>
          have:=LJ aN aG a4 aI he hb
          by_cases e2:j=aI.on
          ·rw [← e2] at this
           have aH:j<listed.size:=by rw [aj];exact(Array.getElem?_eq_some_iff.1 O).1
           simp [Array.getD_eq_getD_getElem?,aH] at this ag
           rw [ag] at this;cases this
          ·rw [A4,getD_set_ne false e2];simpa using this
     refine⟨a0,fun a5=>?_,fun aJ aA=>?_,fun aJ aA=>?_⟩
     ·have:=aC (by rw [p2];exact a5)
      rw [ao,GJ am] at this
      obtain⟨q1,q2⟩:=F3 (ops:=ops) (T:=T) (d:=U.dst) (v:=undef) (o:=oi) (ab i oi hi) an
      exact ai _ _ _ aq au ar ap ak (by rw [q2];exact hw) (fun V s' a6 aB=>by unfold Yl;rw [q1];exact(ac V s' a6 aB).out) this
     ·
      have a7:pure=true:=by
       cases a8:pure with
       | true=>rfl
       | false=>
        exfalso
        rw [a8,Bool.false_or] at aL
        have aF:j<ops.size:=(Array.getElem?_eq_some_iff.1 O).1
        have ae:=List.all_eq_true.1 aL j (List.mem_range.2 aF)
        rw [aA] at ae
        simp only [Bool.not_true,Bool.false_or] at ae
        rcases M4 aN _ j U O (fun e he hb=>aD e he hb) ae with q | ⟨x,q1,q2⟩
        ·have a9:i<listed.size:=by rw [aj];exact(Array.getElem?_eq_some_iff.1 hi).1
         simp [Array.getD_eq_getD_getElem?,a9] at q aE
         rw [aE] at q;cases q
        ·have:¬x<listed.size:=by rw [aj];intro K;simp [K] at q1
         simp [Array.getD_eq_getD_getElem?,this] at q2
      have av:=Lo _ (a1 (by rw [p2];exact aJ) aA)
      rw [p1] at av
      refine CO _ av ?_ (fun _ _ h=>h)
      rintro az s' ⟨K,aB,aK⟩
      have aw:s'.q=false:=aK.trans ak
      have aS:pure=false→∀{α:Prop},α:=fun e=>by rw [a7] at e;cases e
      cases az with
      | value u=>
       simp only at K ⊢
       rw [ao,GJ am] at K
       obtain⟨q1,q2⟩:=F3 (ops:=ops) (T:=T) (d:=U.dst) (v:=u) (o:=oi) (ab i oi hi) an
       exact ai _ _ _ aq au ar ap aw (by rw [q2];exact hw) (fun V s2 Z aa=>by unfold Yl;rw [q1];exact(ac V s2 Z (fun e=>aS e)).out) K
      | skip=>
       simp only at K ⊢
       rw [ao,GJ am] at K
       obtain⟨q1,q2⟩:=F3 (ops:=ops) (T:=T) (d:=U.dst) (v:=undef) (o:=oi) (ab i oi hi) an
       exact ai _ _ _ aq au ar ap aw (by rw [q2];exact hw) (fun V s2 Z aa=>by unfold Yl;rw [q1];exact(ac V s2 Z (fun e=>aS e)).out) K
      | _=>exact K.elim
     ·have av:=Lo _ (a2 (by rw [p2];exact aJ) aA)
      rw [p1] at av
      refine CO _ av ?_ (fun _ _ h=>h)
      rintro az s' ⟨K,aB,aK⟩
      have aT:=M9 (D:=D) aB
      have aw:(Cp D s s').q=false:=by show s'.q=false;rw [aK];exact ak
      cases az with
      | value u=>
       simp only at K ⊢
       rw [ao,GJ am] at K
       obtain⟨q1,q2⟩:=F3 (ops:=ops) (T:=T) (d:=U.dst) (v:=u) (o:=oi) (ab i oi hi) an
       exact ai _ _ _ aq au ar ap aw (by rw [q2];exact hw) (fun V s2 Z aa=>by unfold Yl;rw [q1];exact(ac V s2 Z (fun e=>by rw [aT] at aa;exact aa e)).out) K
      | skip=>
       simp only at K ⊢
       rw [ao,GJ am] at K
       obtain⟨q1,q2⟩:=F3 (ops:=ops) (T:=T) (d:=U.dst) (v:=undef) (o:=oi) (ab i oi hi) an
       exact ai _ _ _ aq au ar ap aw (by rw [q2];exact hw) (fun V s2 Z aa=>by unfold Yl;rw [q1];exact(ac V s2 Z (fun e=>by rw [aT] at aa;exact aa e)).out) K
      | _=>exact K.elim)
end
section
variable {P:Program}(J:Judge P)(Q:Gs_)(b:Frame)(n:Nat)(ds:Ld_)(ops:Ao_)(k:Li_)(cs:Lf_)(X D:Nat→Bool)
def Ex(fuel:Nat)(listed:Array Bool)(L:Env)(s:St):Prop:=∀T,Has n L T→JB J Q b ds ops k cs X D fuel listed T s
end
def ID(ops:Ao_)(listed:Array Bool)(xs:List Nat)(pure:Bool)(i:Nat):Bool:=match ops[i]? with
 | some oi=> !AX xs i&&(pure || waitAll ops (AX xs) i)&&Region.noSelect ops&& !CV oi.op&&GW ops listed i oi&&F8 ops listed&&listed.size==ops.size&&(Region.ready .any ops listed).contains i
 | none=>false
section
variable {P:Program}{J:Judge P}{Q:Gs_}{b:Frame}{n:Nat}{ds:Ld_}{ops:Ao_}{k:Li_}{cs:Lf_}{fuel:Nat}{X D:Nat→Bool}{listed:Array Bool}{L:Env}{s:St}{E H:LH}{S:List Seg}{xl bks:List Nat}
variable {d:Option Tmp}{x y:Operand}{t u ty e:TypeId}{p:String}{af:Ae_}{g:On_}{v:Value}{i:Nat}{kd:IntKind}
theorem F5(xl bks:List Nat){id:Nat}(hm:P.follows .mixedOrders=true)(K:(b.kind != .early)=true)
  (h:Ex J Q b n ds ops k cs (AX xl) (AX bks) ops.size (Array.replicate ops.size false) L (Am E H S)):JL J Q b n L ds (.code (.region id ops true)::k) cs (Am E H S):=
 Ox rfl hm fun t T O=>Sv (by simpa using K) ops.size t _ T _ (h T O)
theorem Pn{oi:Oper}(i:Nat)(pure:Bool)(hi:ops[i]? =some oi)(K:ID ops listed xl pure i=true)(V:s.q=false)
  (hw:A5 L ops oi=some true) (Y:Bs n oi.dst=true) (Z:∀ρ,DJ L ρ→∀s':St,(pure=false→∀x o,(Bu D s).E x=some o→s'.E x=some o)→Yl P oi ρ s' v)
  (h:Ex J Q b n ds ops k cs (AX xl) D fuel (A4 listed i) (Ax L oi.dst v) s):Ex J Q b n ds ops k cs (AX xl) D (fuel+1) listed L s:=fun T O=>by
 simp only [ID,hi,Bool.and_eq_true] at K
 obtain⟨⟨⟨⟨⟨⟨⟨aa,ab⟩,ac⟩,U⟩,ae⟩,ag⟩,ah⟩,ai⟩:=K
 refine JB.take (w:=true) (v:=v) (pure:=pure) hi (by simpa using aa) ab ac (fun c K=>by rw [K] at U;simp [CV] at U) fuel listed T s ae ag (by simpa using ah) (by simpa using ai) V (CL O hw) (fun _ s' ak aj=>Z _ O.Fx s' aj) ?_
 exact h _ (O.put Y v)
theorem JB.fin(K:Region.ready .any ops listed= [])(h:JL J Q b n L ds k cs s):Ex J Q b n ds ops k cs X D 0 listed L s:=fun T O=>⟨K,JL.done h T O⟩
theorem JB.store{bk off:Nat}{c:Aw}(i j:Nat)(U:Region.ready .any ops listed= [i])(aa:AX xl i=true)(ab:ops[i]? =some ⟨d,.store t x y,ty,p,af,g⟩)(hw:A5 L ops ⟨d,.store t x y,ty,p,af,g⟩=some true)(ac:Bs n d=true)(ae:Ar E H S)
  (ag:ev L x=some (.pointer (some ⟨bk,off,none⟩))) (ah:ev L y=some v) (ai:Br P t=some v.cells.size) (aj:∀u∈v.cells.toList,AL u=true) (V:S[j]? =some [(bk,.cells c e (0,0))]) (hle:off+v.cells.size≤c.size)
  (h:Ar E H (S.set j [(bk,.cells (AI c off v.cells.toList) e (0,0))])→Ex J Q b n ds ops k cs (AX xl) D fuel (A4 listed i) (Ax L d undef) (Am E H (S.set j [(bk,.cells (AI c off v.cells.toList) e (0,0))]))):
  Ex J Q b n ds ops k cs (AX xl) D (fuel+1) listed L (Am E H S):=fun T K=>by
 refine⟨by rw [U];simp,rfl,fun ar O o' Y=>?_⟩
 rw [U] at O
 simp at O
 subst O
 obtain rfl:o'=⟨d,.store t x y,ty,p,af,g⟩:=by rw [ab] at Y;exact(Option.some.inj Y).symm
 have ak:=CL K hw;refine⟨fun c al=>(by cases al),fun e=>?_,fun _ _=>?_,fun _ e=>?_⟩
 ·rw [ak] at e;cases e
 ·obtain⟨am,an⟩:=EL ae V;rw [am];show lp P (do Instr.storeAt t (BB T x) (BB T y);pure Next.skip) _ _ _
  rw [K.ev ag,K.ev ah];refine Ay _ _ ?_;unfold Instr.storeAt;simp only [Instr.sureAddr,bind,Sem.bind,pure];refine Kd (pl:=(S.set j []).flatten.length) ai aj an (c:=c) (e:=e) (by simp) hle fun Z=>?_;have ao:((S.set j []).flatten++ [(bk,Obj.cells c e (0,0))]).set (S.set j []).flatten.length (bk,.cells (AI c off v.cells.toList) e (0,0))=(S.set j []).flatten++ [(bk,.cells (AI c off v.cells.toList) e (0,0))]:=Gq _ _ _ _;rw [ao] at Z ⊢;obtain⟨ap,aq⟩:=F9 V Z;rw [ap];exact h aq _ (K.put ac undef)
 ·rw [aa] at e;cases e
end
end Pal
