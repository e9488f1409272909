/- ToothCheats Part 2 of 8. -/
import Derived.Test.YtboibffcmhheiaaGreatDoorTsa
import Derived.Conc.Beside
import Derived.Conc.CrowdComm
import Derived.Conc.TokenWalk
import Derived.Conc.MarkLaws
import Derived.Conc.AtomicLaws2
import Derived.Conc.WgLib
import Derived.Conc.WgArith
import Derived.Conc.WgGenW
set_option linter.all false
set_option maxRecDepth 100000
namespace Pal
open Go Go.Conc
open Go.ConcN (upd upd_same upd_ne)
def Cl:Loc→Option Nat | .cell a=>some a.block | .obj r=>some r | _=>none
structure BE (t:Trace) (w:World) (N:Nat) (S:Nat→St) (Sh:Nat→Prop):Prop where
 fits:∀i,i<N→Fits (S i) w
 hh:∀i j,i<N→j<N→i≠j→∀b,(S i).H b≠none→(S j).H b=none∧(S j).E b=none
 sh:∀i,i<N→∀b,Sh b→(S i).H b=none∧(S i).E b=none
 Dx:∀b,Sh b→b<w.heap.size
 clean:∀said,¬Race said t
 low:∀op∈t,op.act.low w.heap.size
 kH:∀i,i<N→∀b,(S i).H b≠none→∀x a,touchAt t x=some a→Cl a.loc=some b→Knows t i x
 kE:∀i,i<N→∀b,(S i).E b≠none→∀x a,touchAt t x=some a→Cl a.loc=some b→a.write=true→Knows t i x
theorem J3{t:Trace}{x:Nat}{a:Touch}{b n:Nat}(Z:∀op∈t,op.act.low n)(h:touchAt t x=some a)(hb:Cl a.loc=some b):b<n:=by
 obtain⟨op,aa,A⟩:=touch_of h;have K:=Z op (mem_of_getElem? aa);cases O:op.act with
 | access e=>
  rw [O] at A K;simp only [MemAct.touch?,Option.some.injEq] at A;subst A;simp only [MemAct.low] at K;cases U:e.loc with
  | cell ad=>rw [U] at K hb;simp only [Cl,Option.some.injEq] at hb;subst hb;exact K
  | obj r=>rw [U] at K hb;simp only [Cl,Option.some.injEq] at hb;subst hb;exact K
  | _=>rw [U] at hb;simp [Cl] at hb
 | mark m=>
  rw [O] at A K;cases m <;> simp only [MemAct.touch?] at A <;> first
   | (simp at A;done)
   | (simp only [Option.some.injEq] at A;subst A;simp only [Cl,Option.some.injEq] at hb;subst hb;exact K)
 | _=>rw [O] at A;simp [MemAct.touch?] at A
theorem Im{s:St}{w w':World}{e:Event}{a:Touch}{b:Nat}(h:Ev s w w' e)(A:(MemAct.ofEvent e).touch? =some a)(hb:Cl a.loc=some b):
  DX s w w' b a.write:=by
 obtain⟨loc,wr,U⟩:=e;cases loc with
 | cell ad=>
  obtain⟨K,O⟩:=h;simp only at K;subst K;simp only [MemAct.ofEvent,MemAct.touch?,Option.some.injEq] at A;subst A;simp only [Cl,Option.some.injEq] at hb;subst hb;exact O
 | obj r=>
  obtain⟨K,O⟩:=h;simp only at K;subst K;simp only [MemAct.ofEvent,MemAct.touch?,Option.some.injEq] at A;subst A;simp only [Cl,Option.some.injEq] at hb;subst hb;exact O
 | mark m=>
  cases m <;> simp only [Ev] at h <;> first | exact h.elim | simp [MemAct.ofEvent,MemAct.touch?] at A
 | _=>exact h.elim
theorem SH{s:St}{w w':World}{e:Event}(h:Ev s w w' e):(MemAct.ofEvent e).low w'.heap.size:=by
 obtain⟨loc,wr,O⟩:=e;cases loc with
 | cell ad=>obtain⟨A,K⟩:=h;simp only at A;subst A;exact K.1
 | obj r=>obtain⟨A,K⟩:=h;simp only at A;subst A;cases wr <;> exact K.1
 | mark m=>cases m <;> simp only [Ev] at h <;> first | exact h.elim | exact trivial
 | _=>exact h.elim
theorem Pr{l:Loc}(h:l.isMemory=true):∃b,Cl l=some b:=by
 cases l <;> simp [Loc.isMemory] at h <;> exact⟨_,rfl⟩
theorem BE.own{t:Trace}{w w':World}{N:Nat}{S:Nat→St}{Sh:Nat→Prop}(h:BE t w N S Sh){i:Nat}(hi:i<N){s':St}{fn:FuncId}{pos:String}{es:Array Event}
  (az:Fits s' w') (U:Fr (S i) w s' w') (ak:∀e∈es,Ev (S i) w w' e):BE (t++MemOp.ofEvents i fn pos es) w' N (upd S i s') Sh:=by
 have ar:∀j,j<N→j≠i→∀b o,((S j).H b=some o∨(S j).E b=some o)→w'.heap[b]? =some o∧(S i).H b=none:=by
  intro j O Z b o A;have hw:w.heap[b]? =some o:=A.elim ((h.fits j O).h b o) ((h.fits j O).e b o);have ac:b<w.heap.size:=by
   rcases Nat.lt_or_ge b w.heap.size with an | an
   ·exact an
   ·simp [Array.getElem?_eq_none an] at hw
  have au:(S i).H b=none:=by
   cases aA:(S i).H b with
   | none=>rfl
   | some u=>
    have:=h.hh i j hi O (Ne.symm Z) b (by rw [aA];simp);rcases A with A | A
    ·rw [this.1] at A;cases A
    ·rw [this.2] at A;cases A
  exact⟨by rw [U.keep b ac au,hw],au⟩
 have al:∀j,j<N→∀b,w.heap.size≤b→(S j).H b=none∧(S j).E b=none:=by
  intro j O b hb;constructor
  ·cases K:(S j).H b with
   | none=>rfl
   | some o=>have:=(h.fits j O).h b o K;simp [Array.getElem?_eq_none hb] at this
  ·cases K:(S j).E b with
   | none=>rfl
   | some o=>have:=(h.fits j O).e b o K;simp [Array.getElem?_eq_none hb] at this
 have ae:∀op∈MemOp.ofEvents i fn pos es,op.g=i∧∃e∈es,op.act=MemAct.ofEvent e:=by
  intro op ae;obtain⟨e,he,rfl⟩:=mem_ofEvents ae;exact⟨rfl,e,he,rfl⟩
 have hold:∀x a,touchAt t x=some a→touchAt (t++MemOp.ofEvents i fn pos es) x=some a:=by
  intro x a K;obtain⟨op,A,_⟩:=touch_of K;rw [touchAt_old (lt_size_of_getElem? A)];exact K
 have am:∀x a,touchAt (t++MemOp.ofEvents i fn pos es) x=some a→touchAt t x=some a∨(Knows (t++MemOp.ofEvents i fn pos es) i x∧∃e∈es,(MemAct.ofEvent e).touch? =some a):=by
  intro x a K;obtain⟨op,A,av⟩:=touch_of K;rcases getElem?_append_cases A with⟨ac,aB⟩ | ⟨_,aC⟩
  ·left;rw [touchAt_of aB];exact av
  ·right;obtain⟨aD,e,he,ah⟩:=ae op aC;exact⟨by have:=knows_own A;rwa [aD] at this,e,he,by rw [← ah];exact av⟩
 have aE:∀j,j<N→j≠i→∀b,s'.H b≠none→(S j).H b=none∧(S j).E b=none:=by
  intro j O Z b hb;rcases U.own b hb with K | K
  ·exact h.hh i j hi O (Ne.symm Z) b K
  ·exact al j O b K
 have aF:∀j,j<N→j≠i→∀b,(S j).H b≠none→s'.H b=none∧s'.E b=none:=by
  intro j O Z b hb;have aa:=h.hh j i O hi Z b hb;have ac:¬w.heap.size≤b:=fun K=>hb (al j O b K).1;constructor
  ·cases K:s'.H b with
   | none=>rfl
   | some o=>
    rcases U.own b (by rw [K];simp) with y | y
    ·exact absurd aa.1 y
    ·exact absurd y ac
  ·cases K:s'.E b with
   | none=>rfl
   | some o=>
    rcases U.CP b (by rw [K];simp) with y | y | y
    ·exact absurd aa.2 y
    ·exact absurd aa.1 y
    ·exact absurd y ac
 constructor
 ·intro j O;by_cases e:j=i
  ·subst e;rw [upd_same];exact az
  ·rw [upd_ne _ _ e];exact⟨fun b o A=>(ar j O e b o (.inr A)).1,fun b o A=>(ar j O e b o (.inl A)).1,(h.fits j O).d⟩
 ·intro a c aw ai Z b hb;by_cases e:a=i
  ·subst e;rw [upd_same] at hb;rw [upd_ne _ _ (Ne.symm Z)];exact aE c ai (Ne.symm Z) b hb
  ·rw [upd_ne _ _ e] at hb;by_cases ay:c=i
   ·subst ay;rw [upd_same];exact aF a aw Z b hb
   ·rw [upd_ne _ _ ay];exact h.hh a c aw ai Z b hb
 ·intro j O b hb;by_cases e:j=i
  ·subst e;rw [upd_same];have aa:=h.sh j O b hb;have ac:=h.Dx b hb;constructor
   ·cases K:s'.H b with
    | none=>rfl
    | some o=>
     rcases U.own b (by rw [K];simp) with y | y
     ·exact absurd aa.1 y
     ·omega
   ·cases K:s'.E b with
    | none=>rfl
    | some o=>
     rcases U.CP b (by rw [K];simp) with y | y | y
     ·exact absurd aa.2 y
     ·exact absurd aa.1 y
     ·omega
  ·rw [upd_ne _ _ e];exact h.sh j O b hb
 ·exact fun b hb=>Nat.lt_of_lt_of_le (h.Dx b hb) U.size
 ·intro said;refine noRace_append (g:=i) (h.clean said) (fun op A=>(ae op A).1) fun x a K op A c ai aG=>?_;obtain⟨_,e,he,ah⟩:=ae op A;rw [ah] at ai;obtain⟨aH,hm,ag,_⟩:=aG;obtain⟨b,hb⟩:=Pr hm;have aI:Cl c.loc=some b:=by rw [← aH];exact hb
  have aj:=Im (ak e he) ai aI;rcases aj.2 with y | y | ⟨y,ao⟩
  ·exact h.kH i hi b y x a K hb
  ·have:=J3 h.low K hb;omega
  ·rcases ag with z | z
   ·exact h.kE i hi b y x a K hb z
   ·rw [ao] at z;cases z
 ·intro op A;rcases Array.mem_append.1 A with A | A
  ·exact MemAct.low_mono U.size (h.low op A)
  ·obtain⟨_,e,he,ah⟩:=ae op A;rw [ah];exact SH (ak e he)
 ·intro j O b hb x a K ab;by_cases e:j=i
  ·subst e;rw [upd_same] at hb;rcases am x a K with A | ⟨ap,_⟩
   ·rcases U.own b hb with y | y
    ·exact(h.kH j O b y x a A ab).app _
    ·have:=J3 h.low A ab;omega
   ·exact ap
  ·rw [upd_ne _ _ e] at hb;rcases am x a K with A | ⟨_,ev,he,aq⟩
   ·exact(h.kH j O b hb x a A ab).app _
   ·have aj:=Im (ak ev he) aq ab;have aa:=h.hh j i O hi e b hb;rcases aj.2 with y | y | ⟨y,_⟩
    ·exact absurd aa.1 y
    ·exact absurd (al j O b y).1 hb
    ·exact absurd aa.2 y
 ·intro j O b hb x a K ab ag;by_cases e:j=i
  ·subst e;rw [upd_same] at hb;rcases am x a K with A | ⟨ap,_⟩
   ·rcases U.CP b hb with y | y | y
    ·exact(h.kE j O b y x a A ab ag).app _
    ·exact(h.kH j O b y x a A ab).app _
    ·have:=J3 h.low A ab;omega
   ·exact ap
  ·rw [upd_ne _ _ e] at hb;rcases am x a K with A | ⟨_,ev,he,aq⟩
   ·exact(h.kE j O b hb x a A ab ag).app _
   ·have aj:=Im (ak ev he) aq ab;rcases aj.2 with y | y | ⟨_,ao⟩
    ·exact absurd ((h.hh i j hi O (Ne.symm e) b y).2) hb
    ·exact absurd (al j O b y).2 hb
    ·rw [ao] at ag;cases ag
theorem BE.mute{t u:Trace}{w w':World}{N:Nat}{S:Nat→St}{Sh:Nat→Prop}(h:BE t w N S Sh){g:Nat}(hu:∀op∈u,op.g=g)(Z:∀op∈u,op.act.touch? =none)(ac:∀op∈u,op.act.low w'.heap.size)(hw:w'.heap=w.heap):BE (t++u) w' N S Sh:=by
 have aa:∀x a,touchAt (t++u) x=some a→touchAt t x=some a:=by
  intro x a K;obtain⟨op,A,O⟩:=touch_of K;rcases getElem?_append_cases A with⟨ai,ae⟩ | ⟨_,ag⟩
  ·rw [touchAt_of ae];exact O
  ·rw [Z op ag] at O;cases O
 exact⟨fun i hi=>⟨fun b o A=>by rw [hw];exact(h.fits i hi).e b o A,fun b o A=>by rw [hw];exact(h.fits i hi).h b o A,(h.fits i hi).d⟩,h.hh,h.sh,fun b hb=>by rw [hw];exact h.Dx b hb,
  fun said=>noRace_append (g:=g) (h.clean said) hu (fun x a _ op A c ab _=>by rw [Z op A] at ab;cases ab),
  fun op A=>(Array.mem_append.1 A).elim (fun A=>by rw [hw];exact h.low op A) (ac op),
  fun i hi b hb x a K U=>(h.kH i hi b hb x a (aa x a K) U).app _,fun i hi b hb x a K U ah=>(h.kE i hi b hb x a (aa x a K) U ah).app _⟩
theorem BE.ghost{t:Trace}{w:World}{N:Nat}{S:Nat→St}{Sh:Nat→Prop}(h:BE t w N S Sh){i:Nat}(hi:i<N){s₀:St}(ab:B5 (S i) s₀):BE t w N (upd S i s₀) Sh:=by
 have Z:∀b,s₀.H b≠none→(S i).H b≠none:=fun b hb=>by obtain⟨o,ac⟩:=EW hb;rw [ab.own b o ac];simp
 have ae:∀b,s₀.E b≠none→(S i).E b≠none∨(S i).H b≠none:=fun b hb=>by
  obtain⟨o,ac⟩:=EW hb;rcases ab.CP b o ac with x | x
  ·exact .inl (by rw [x];simp)
  ·exact .inr (by rw [x.1];simp)
 have EZ:∀{x:Option Obj},¬x≠none→x=none:=fun h=>Classical.not_not.1 h;constructor
 ·intro j A;by_cases e:j=i
  ·subst e;rw [upd_same];exact ab.fits (h.fits j A)
  ·rw [upd_ne _ _ e];exact h.fits j A
 ·intro a c ag ah aa b hb;by_cases e:a=i
  ·subst e;rw [upd_same] at hb;rw [upd_ne _ _ (Ne.symm aa)];exact h.hh a c ag ah aa b (Z b hb)
  ·rw [upd_ne _ _ e] at hb;by_cases ai:c=i
   ·subst ai;rw [upd_same];have K:=h.hh a c ag ah aa b hb;exact⟨EZ fun x=>Z b x K.1,EZ fun x=>(ae b x).elim (fun y=>y K.2) fun y=>y K.1⟩
   ·rw [upd_ne _ _ ai];exact h.hh a c ag ah aa b hb
 ·intro j A b hb;by_cases e:j=i
  ·subst e;rw [upd_same];have K:=h.sh j A b hb;exact⟨EZ fun x=>Z b x K.1,EZ fun x=>(ae b x).elim (fun y=>y K.2) fun y=>y K.1⟩
  ·rw [upd_ne _ _ e];exact h.sh j A b hb
 ·exact h.Dx
 ·exact h.clean
 ·exact h.low
 ·intro j A b hb x a O U;by_cases e:j=i
  ·subst e;rw [upd_same] at hb;exact h.kH j A b (Z b hb) x a O U
  ·rw [upd_ne _ _ e] at hb;exact h.kH j A b hb x a O U
 ·intro j A b hb x a O U aj;by_cases e:j=i
  ·subst e;rw [upd_same] at hb;rcases ae b hb with y | y
   ·exact h.kE j A b y x a O U aj
   ·exact h.kH j A b y x a O U
  ·rw [upd_ne _ _ e] at hb;exact h.kE j A b hb x a O U aj
end Pal
namespace Pal
open Go Go.Conc
open Go.ConcN (sumTo upd sumTo_upd upd_ne upd_same)
abbrev St.none:St:=St.quiet
def lone(s:St):Nat→St:=fun i=>if i=0 then s else St.none
structure El (P:Program) (gs:Array Goroutine) (w:World) (t:Trace) (q:Nat→Nat) (Sh:Nat→Prop) (g:Goroutine) (s:St):Prop where
 main:gs[0]? =some g
 lv:Leavers P t gs q
 BT:BE t w gs.size (lone s) Sh
 over:t.HandedOver
 hears:Deaf t 0=0
def Reaches(P:Program)(gs:Array Goroutine)(w:World)(sl:Option (Nat×Nat))(t:Trace)(s:St)(K:Goroutine→St→Prop):Prop:=
 ∃(n:Nat) (gs':Array Goroutine) (w':World) (O:Option (Nat×Nat)) (A:Trace) (U:Nat→Nat) (Z:Nat→Prop) (g':Goroutine) (s':St),
  runNT P n (crowd gs w sl) t=(.next (crowd gs' w' O),A)∧El P gs' w' A U Z g' s'∧K g' s'∧Le' s s'∧w'.tape=w.tape∧w'.os=w.os∧w'.output=w.output
 where
  Le' (s s' : St) : Prop := ∀ b o, s.E b = some o → s'.E b = some o
theorem Mq{s s':St}:upd (lone s) 0 s'=lone s':=by
 funext i;unfold upd lone;split <;> rfl
theorem Ig{P:Program}{m m':Machine}{t ops:Trace}{k:Nat}{r:Stepped×Trace}(h:stepT P m=(.next m',ops))(A:runNT P k m' (t++ops)=r):runNT P (k+1) m t=r:=by
 simp only [runNT,h];exact A
theorem El.at_{P:Program}{gs:Array Goroutine}{w:World}{t:Trace}{q:Nat→Nat}{Sh:Nat→Prop}{g:Goroutine}{s:St}(h:El P gs w t q Sh g s)(d:Nat):El P gs (w.at d) t q Sh g s:=
 ⟨h.main,h.lv,by
  have:=h.BT.mute (u:= #[]) (w':=w.at d) (g:=0) (by simp) (by simp) (by simp) rfl
  simpa using this,h.over,h.hears⟩
theorem Qc{P:Program}{g:Goroutine}{s:St}{K:Goroutine→St→Prop}(aw:Of P true g s K):
  ∀(M:Nat) (gs:Array Goroutine) (w:World) (sl:Option (Nat×Nat)) (t:Trace) (q:Nat→Nat) (Sh:Nat→Prop),sumTo gs.size q≤M→El P gs w t q Sh g s→Reaches P gs w sl t s K:=by
 intro M
 induction M with
 | zero=>?_
 | succ M aC=>?_
 all_goals
  intro gs w sl t q Sh aS hC;have aj:=aw.1;have aD:∀x∈gs,awake x:=by
   intro x ac;obtain⟨i,hi,rfl⟩:=Array.mem_iff_getElem.1 ac;rcases Nat.eq_zero_or_pos i with rfl | ak
   ·have:gs[0]=g:=by simpa [Array.getElem?_eq_getElem hi] using hC.main
    rw [this];exact awake_of (.inl aj)
   ·exact awake_of ((hC.lv.old i _ ak (Array.getElem?_eq_getElem hi)).status.elim .inl fun x=> .inr (.inr x))
  obtain⟨i,x,d,ae,hi,ac,ay⟩:=crowd_pick (P:=P) (w:=w) (sl:=sl) aD ⟨0,g,hC.main,aj⟩;have al:=hC.at_ d;have am:0<gs.size:=(Array.getElem?_eq_some_iff.1 hC.main).1;rcases Nat.eq_zero_or_pos i with rfl | ak
  ·obtain rfl:x=g:=by rw [hC.main] at hi;exact(Option.some.inj hi).symm
   have aE:Fits s (w.at d):=al.BT.fits 0 am;obtain⟨g',s',w',es,an,ao,ap,Z,ag⟩:=aw.2.1 (w.at d) aE;have aq:=runT_crowd_go (P:=P) (sl:=ae) (i:=0) hi (show stepG P (0==0) x (w.at d)=_ from an);have ah:((gs.map (woken P x g' w')).setIfInBounds 0 g').size=gs.size:=by simp
   have U:∀op∈MemOp.ofEvents 0 x.frame.fn x.frame.place es,op.g=0:=fun op A=>by obtain⟨e,_,rfl⟩:=mem_ofEvents A;rfl
   have aF:deafBehind (Deaf t 0) es=Deaf t 0:=deafBehind_still (fun e he=>by
    have:=ag e he
    unfold Ev at this
    constructor <;> intro aG <;> rw [aG] at this <;> exact this) _
   refine⟨1,_,w',ae,t++MemOp.ofEvents 0 x.frame.fn x.frame.place es,q,Sh,g',s',Ig (ay.trans aq) rfl,⟨by simp [am],⟨fun j y O aa=>?_,fun j O=>?_⟩,?_,?_,?_⟩,ao,Z.ext,Z.tape,Z.os,Z.output⟩
   ·have ar:0≠j:=by omega
    rw [Array.getElem?_setIfInBounds_ne ar,Array.getElem?_map] at aa;obtain⟨z,au,rfl⟩:=Option.map_eq_some_iff.1 aa;have ab:=hC.lv.old j z O au;rw [woken_quitsD ab,Deaf_other t (by omega) _ U];exact ab
   ·rw [Deaf_other t (g':=0) (by simp at O;omega) _ U];exact hC.lv.above j (by simpa using O)
   ·rw [ah,← Mq (s:=s)];exact al.BT.own am ap (by simpa [lone] using Z) (by simpa [lone] using ag)
   ·exact handedOver_app hC.over fun op A=> .inl (U op A)
   ·rw [Deaf_own,aF];exact hC.hears
  ·
   have ab:=hC.lv.old i x ak hi;have aH:(i==0)=false:=by simp;omega
   have az:i<gs.size:=(Array.getElem?_eq_some_iff.1 hi).1;cases av:q i with
   | zero=>rw [av] at ab;rw [ab.1] at ac;cases ac
   | succ k=>
    rw [av] at ab;rcases ab with⟨aI,_⟩ | ⟨_,x',es,hm,aJ,aK⟩
    ·rw [aI] at ac;cases ac
    have aT:sumTo gs.size (upd q i k)+(k+1)=sumTo gs.size q+k:=by
     have:=sumTo_upd q k id az;simpa [av] using this
    first
     | (exfalso;omega)
     | (
      have aq:=runT_crowd_go (P:=P) (sl:=ae) (i:=i) hi (by rw [aH];exact aJ (w.at d))
      have ah:((gs.map (woken P x x' (w.at d))).setIfInBounds i x').size=gs.size:=by simp
      have U:∀op∈MemOp.ofEvents i x.frame.fn x.frame.place es,op.g=i:=fun op A=>by obtain⟨e,_,rfl⟩:=mem_ofEvents A;rfl
      have aA:∀op∈MemOp.ofEvents i x.frame.fn x.frame.place es,op.act.touch? =none:=fun op A=>by obtain⟨e,he,rfl⟩:=mem_ofEvents A;exact touch_mute (hm e he)
      have aL:El P ((gs.map (woken P x x' (w.at d))).setIfInBounds i x') (w.at d) (t++MemOp.ofEvents i x.frame.fn x.frame.place es) (upd q i k) Sh g s:=by
       refine⟨?_,⟨fun j y O aa=>?_,fun j O=>?_⟩,?_,?_,?_⟩
       ·have ar:i≠0:=by omega
        rw [Array.getElem?_setIfInBounds_ne ar,Array.getElem?_map,hC.main]
        simp [woken_run aj]
       ·by_cases ai:i=j
        ·subst ai
         rw [Array.getElem?_setIfInBounds_self_of_lt (by simpa using az)] at aa
         obtain rfl:=Option.some.inj aa
         rw [upd_same,Deaf_own]
         exact aK
        ·rw [Array.getElem?_setIfInBounds_ne ai,Array.getElem?_map] at aa
         obtain⟨z,au,rfl⟩:=Option.map_eq_some_iff.1 aa
         have aB:=hC.lv.old j z O au
         rw [woken_quitsD aB,upd_ne q k (Ne.symm ai),Deaf_other t ai _ U]
         exact aB
       ·rw [Deaf_other t (g':=i) (by simp at O;omega) _ U]
        exact hC.lv.above j (by simpa using O)
       ·rw [ah]
        exact al.BT.mute U aA (fun op A=>by obtain⟨e,he,rfl⟩:=mem_ofEvents A;exact low_mute (hm e he) _) rfl
       ·exact handedOver_app hC.over fun op A=> .inr (aA op A)
       ·rw [Deaf_other t (by omega) _ U];exact hC.hears
      obtain⟨n,gs',w',aM,aN,aO,aP,g',s',an,ao,ap,Z,ag,aQ,aR⟩:=aC _ (w.at d) ae _ _ Sh (by rw [ah];omega) aL
      exact⟨n+1,gs',w',aM,aN,aO,aP,g',s',Ig (ay.trans aq) an,ao,ap,Z,ag,aQ,aR⟩)
def Cr(P:Program):Judge P where
 main:=true
 ok Q g s:=∀gs w sl t q Sh,El P gs w t q Sh g s→Reaches P gs w sl t s Q
 stop {Q g s} h:=fun gs w sl t q Sh hC=>⟨0,gs,w,sl,t,q,Sh,g,s,rfl,hC,h,fun _ _ h=>h,rfl,rfl,rfl⟩
 step {Q g s} h:=fun gs w sl t q Sh hC=>by
  obtain⟨n,gs',w',A,K,O,U,g',s',Z,aa,ab,ac,ae,ag,ah⟩:=Qc h _ gs w sl t q Sh (Nat.le_refl _) hC
  obtain⟨ai,aj,ak,al,am,an,ao,ap,aq,k1,ar,au,av,aw,ay,az⟩:=ab gs' w' A K O U aa
  refine⟨n+ai,aj,ak,al,am,an,ao,ap,aq,?_,ar,au,fun b o h=>av b o (ac b o h),aw.trans ae,ay.trans ag,az.trans ah⟩
  rw [runNT_add,Z];exact k1
 trans {Q R g s} h k:=fun gs w sl t q Sh hC=>by
  obtain⟨n,gs',w',A,K,O,U,g',s',Z,aa,ab,ac,ae,ag,ah⟩:=h gs w sl t q Sh hC
  obtain⟨ai,aj,ak,al,am,an,ao,ap,aq,k1,ar,au,av,aw,ay,az⟩:=k g' s' ab gs' w' A K O U aa
  refine⟨n+ai,aj,ak,al,am,an,ao,ap,aq,?_,ar,au,fun b o h=>av b o (ac b o h),aw.trans ae,ay.trans ag,az.trans ah⟩
  rw [runNT_add,Z];exact k1
 ghost {Q g s s₀} aA h:=fun gs w sl t q Sh hC=>by
  have aB:0<gs.size:=(Array.getElem?_eq_some_iff.1 hC.main).1
  have aC:El P gs w t q Sh g s₀:=⟨hC.main,hC.lv,by
   rw [← Mq (s:=s)];exact hC.BT.ghost aB (by simpa [lone] using aA),hC.over,hC.hears⟩
  obtain⟨n,gs',w',A,K,O,U,g',s',Z,aa,ab,ac,ae,ag,ah⟩:=h gs w sl t q Sh aC
  exact⟨n,gs',w',A,K,O,U,g',s',Z,aa,ab,fun b o h=>ac b o (aA.ext b o h),ae,ag,ah⟩
end Pal
namespace Pal
open Go Go.Conc
open Go.ConcN (upd upd_same upd_ne)
section
variable {t u:Trace}{w w':World}{N:Nat}{S:Nat→St}{Sh:Nat→Prop}
theorem BE.ext(h:BE t w N S Sh)(aa:∀said,¬Race said (t++u))(hu:∀op∈u,∀a,op.act.touch? =some a→∀b,Cl a.loc=some b→Sh b)
  (ab:∀op∈u,op.act.low w.heap.size) (hs:w'.heap.size=w.heap.size) (hw:∀b,¬Sh b→w'.heap[b]? =w.heap[b]?):BE (t++u) w' N S Sh:=by
 have hold:∀x a b,touchAt (t++u) x=some a→Cl a.loc=some b→¬Sh b→touchAt t x=some a:=by
  intro x a b O hb K;obtain⟨op,A,Z⟩:=touch_of O;rcases getElem?_append_cases A with⟨ai,ac⟩ | ⟨_,ae⟩
  ·rw [touchAt_of ac];exact Z
  ·exact absurd (hu op ae a Z b hb) K
 have K:∀i,i<N→∀b,((S i).H b≠none∨(S i).E b≠none)→¬Sh b:=by
  intro i hi b hb ag;have:=h.sh i hi b ag;exact hb.elim (fun x=>x this.1) (fun x=>x this.2)
 refine⟨fun i hi=>⟨fun b o A=>?_,fun b o A=>?_,(h.fits i hi).d⟩,h.hh,h.sh,fun b hb=>by rw [hs];exact h.Dx b hb,aa,fun op A=>?_,fun i hi b hb x a O U=>?_,fun i hi b hb x a O U ah=>?_⟩
 ·rw [hw b (K i hi b (.inr (by rw [A];simp)))];exact(h.fits i hi).e b o A
 ·rw [hw b (K i hi b (.inl (by rw [A];simp)))];exact(h.fits i hi).h b o A
 ·rcases Array.mem_append.1 A with A | A
  ·rw [hs];exact h.low op A
  ·rw [hs];exact ab op A
 ·exact(h.kH i hi b hb x a (hold x a b O U (K i hi b (.inl hb))) U).app _
 ·exact(h.kE i hi b hb x a (hold x a b O U (K i hi b (.inr hb))) U ah).app _
theorem BE.congr{S':Nat→St}(h:BE t w N S Sh)(A:∀i,i<N→(S' i).E=(S i).E∧(S' i).H=(S i).H):BE t w N S' Sh:=by
 refine⟨fun i hi=>⟨by rw [(A i hi).1];exact(h.fits i hi).e,by rw [(A i hi).2];exact(h.fits i hi).h,by rw [(A i hi).1,(A i hi).2];exact(h.fits i hi).d⟩,fun i j hi K O b=>?_,fun i hi b=>?_,h.Dx,h.clean,h.low,fun i hi b=>?_,fun i hi b=>?_⟩
 ·rw [(A i hi).2,(A j K).1,(A j K).2];exact h.hh i j hi K O b
 ·rw [(A i hi).1,(A i hi).2];exact h.sh i hi b
 ·rw [(A i hi).2];exact h.kH i hi b
 ·rw [(A i hi).1];exact h.kE i hi b
theorem BE.less(h:BE t w N S Sh){i:Nat}{s':St}(ae:∀b o,s'.E b=some o→(S i).E b=some o)(ag:∀b o,s'.H b=some o→(S i).H b=some o):BE t w N (upd S i s') Sh:=by
 have U:∀j b o,(upd S i s' j).E b=some o→(S j).E b=some o:=by
  intro j b o A;by_cases e:j=i
  ·subst e;rw [upd_same] at A;exact ae b o A
  ·rwa [upd_ne _ _ e] at A
 have Z:∀j b o,(upd S i s' j).H b=some o→(S j).H b=some o:=by
  intro j b o A;by_cases e:j=i
  ·subst e;rw [upd_same] at A;exact ag b o A
  ·rwa [upd_ne _ _ e] at A
 have n1:∀j b,(S j).E b=none→(upd S i s' j).E b=none:=by
  intro j b hb;cases O:(upd S i s' j).E b with
  | none=>rfl
  | some o=>rw [U j b o O] at hb;cases hb
 have n2:∀j b,(S j).H b=none→(upd S i s' j).H b=none:=by
  intro j b hb;cases O:(upd S i s' j).H b with
  | none=>rfl
  | some o=>rw [Z j b o O] at hb;cases hb
 have p1:∀j b,(upd S i s' j).E b≠none→(S j).E b≠none:=fun j b hb x=>hb (n1 j b x);have p2:∀j b,(upd S i s' j).H b≠none→(S j).H b≠none:=fun j b hb x=>hb (n2 j b x);exact⟨fun j K=>⟨fun b o A=>(h.fits j K).e b o (U j b o A),fun b o A=>(h.fits j K).h b o (Z j b o A),fun b hb=>n2 j b ((h.fits j K).d b (p1 j b hb))⟩,
  fun a c aa ab ac b hb=>⟨n2 c b (h.hh a c aa ab ac b (p2 a b hb)).1,n1 c b (h.hh a c aa ab ac b (p2 a b hb)).2⟩,
  fun j K b hb=>⟨n2 j b (h.sh j K b hb).1,n1 j b (h.sh j K b hb).2⟩,h.Dx,h.clean,h.low,
  fun j K b hb=>h.kH j K b (p2 j b hb),fun j K b hb=>h.kE j K b (p1 j b hb)⟩
theorem BE.grow(h:BE t w N S Sh){i:Nat}(hi:i<N){E':LH}{q:Bool}
  (ab:∀b o,E' b=some o→(S i).E b=some o∨∃j,j<N∧(S j).E b=some o∧∀x a,touchAt t x=some a→Cl a.loc=some b→a.write=true→Knows t i x):
  BE t w N (upd S i ⟨E',(S i).H,q⟩) Sh:=by
 have ah:∀{b},E' b≠none→∃j,j<N∧∃o,(S j).E b=some o:=by
  intro b hb;obtain⟨o,U⟩:=EW hb;rcases ab b o U with x | ⟨j,A,x,_⟩
  ·exact⟨i,hi,o,x⟩
  ·exact⟨j,A,o,x⟩
 have ai:∀a,a<N→∀b,(S a).H b≠none→E' b=none:=by
  intro a O b hb;cases K:E' b with
  | none=>rfl
  | some o=>
   obtain⟨j,A,o',Z⟩:=ah (b:=b) (by rw [K];simp);by_cases e:a=j
   ·subst e;have:=(h.fits a O).d b (by rw [Z];simp);exact absurd this hb
   ·have:=(h.hh a j O A e b hb).2;rw [Z] at this;cases this
 constructor
 ·intro j A;by_cases e:j=i
  ·subst e;rw [upd_same];refine⟨fun b o U=>?_,(h.fits j A).h,fun b hb=>?_⟩
   ·rcases ab b o U with x | ⟨k,aa,x,_⟩
    ·exact(h.fits j A).e b o x
    ·exact(h.fits k aa).e b o x
   ·cases K:(S j).H b with
    | none=>rfl
    | some o=>exact absurd (ai j A b (by rw [K];simp)) hb
  ·rw [upd_ne _ _ e];exact h.fits j A
 ·intro a c O aj ak b hb;have ac:(S a).H b≠none:=by
   by_cases e:a=i
   ·subst e;rwa [upd_same] at hb
   ·rwa [upd_ne _ _ e] at hb
  by_cases e:c=i
  ·subst e;rw [upd_same];exact⟨(h.hh a c O aj ak b ac).1,ai a O b ac⟩
  ·rw [upd_ne _ _ e];exact h.hh a c O aj ak b ac
 ·intro j A b hb;by_cases e:j=i
  ·subst e;rw [upd_same];refine⟨(h.sh j A b hb).1,?_⟩;cases K:E' b with
   | none=>exact K
   | some o=>
    obtain⟨k,aa,o',Z⟩:=ah (b:=b) (by rw [K];simp);rw [(h.sh k aa b hb).2] at Z;cases Z
  ·rw [upd_ne _ _ e];exact h.sh j A b hb
 ·exact h.Dx
 ·exact h.clean
 ·exact h.low
 ·intro j A b hb;by_cases e:j=i
  ·subst e;rw [upd_same] at hb;exact h.kH j A b hb
  ·rw [upd_ne _ _ e] at hb;exact h.kH j A b hb
 ·intro j A b hb x a K ae ag;by_cases e:j=i
  ·subst e;rw [upd_same] at hb;obtain⟨o,U⟩:=EW hb;rcases ab b o U with y | ⟨k,aa,y,al⟩
   ·exact h.kE j A b (by rw [y];simp) x a K ae ag
   ·exact al x a K ae ag
  ·rw [upd_ne _ _ e] at hb;exact h.kE j A b hb x a K ae ag
theorem BE.push(h:BE t w N S Sh){i:Nat}(hi:i<N){E:LH}(aa:∀b o,E b=some o→(S i).E b=some o)
  (ae:∀b,E b≠none→∀x a,touchAt t x=some a→Cl a.loc=some b→a.write=true→Knows t N x):BE t w (N+1) (upd S N ⟨E,fun _=>none,false⟩) Sh:=by
 have K:∀j,j<N→upd S N ⟨E,fun _=>none,false⟩ j=S j:=fun j A=>upd_ne _ _ (by omega);have ah:∀b,E b≠none→(S i).E b≠none:=fun b hb=>by obtain⟨o,U⟩:=EW hb;rw [aa b o U];simp
 have ac:∀b,(S i).E b=none→E b=none:=fun b hb=>by
  cases ab:E b with
  | none=>rfl
  | some o=>rw [aa b o ab] at hb;cases hb
 have cs:∀j,j<N+1→j<N∨j=N:=fun j A=>by omega
 constructor
 ·intro j A;rcases cs j A with A | rfl
  ·rw [K j A];exact h.fits j A
  ·rw [upd_same];exact⟨fun b o U=>(h.fits i hi).e b o (aa b o U),fun b o U=>(by cases U),fun b _=>rfl⟩
 ·intro a c O Z ag b hb;rcases cs a O with O | rfl
  ·rw [K a O] at hb;rcases cs c Z with Z | rfl
   ·rw [K c Z];exact h.hh a c O Z ag b hb
   ·rw [upd_same];refine⟨rfl,ac b ?_⟩;by_cases e:a=i
    ·subst e;cases ab:(S a).E b with
     | none=>rfl
     | some o=>exact absurd ((h.fits a O).d b (by rw [ab];simp)) hb
    ·exact(h.hh a i O hi e b hb).2
  ·rw [upd_same] at hb;exact absurd rfl hb
 ·intro j A b hb;rcases cs j A with A | rfl
  ·rw [K j A];exact h.sh j A b hb
  ·rw [upd_same];exact⟨rfl,ac b (h.sh i hi b hb).2⟩
 ·exact h.Dx
 ·exact h.clean
 ·exact h.low
 ·intro j A b hb;rcases cs j A with A | rfl
  ·rw [K j A] at hb;exact h.kH j A b hb
  ·rw [upd_same] at hb;exact absurd rfl hb
 ·intro j A b hb;rcases cs j A with A | rfl
  ·rw [K j A] at hb;exact h.kE j A b hb
  ·rw [upd_same] at hb;exact ae b hb
theorem BE.share(h:BE t w N S Sh){i:Nat}(hi:i<N){b₀:Nat}{o₀:Obj}(O:(S i).H b₀=some o₀):
  BE t w N (upd S i {S i with H:=fun b=>if b=b₀ then none else(S i).H b}) (fun b=>Sh b∨b=b₀):=by
 have A:BE t w N (upd S i {S i with H:=fun b=>if b=b₀ then none else(S i).H b}) Sh:=
  h.less (fun b o K=>K) (fun b o K=>by simp only at K;split at K <;> first | (cases K;done) | exact K)
 have aa:b₀<w.heap.size:=by
  have:=(h.fits i hi).h b₀ o₀ O;rcases Nat.lt_or_ge b₀ w.heap.size with U | U
  ·exact U
  ·simp [Array.getElem?_eq_none U] at this
 refine⟨A.fits,A.hh,fun j Z b hb=>?_,fun b hb=>hb.elim (A.Dx b) (fun e=>e▸aa),A.clean,A.low,A.kH,A.kE⟩;rcases hb with hb | rfl
 ·exact A.sh j Z b hb
 ·by_cases e:j=i
  ·subst e;rw [upd_same];refine⟨by simp,?_⟩;cases ab:(S j).E b with
   | none=>rfl
   | some o=>have:=(h.fits j Z).d b (by rw [ab];simp);rw [O] at this;cases this
  ·rw [upd_ne _ _ e];exact h.hh i j hi Z (Ne.symm e) b (by rw [O];simp)
end
end Pal
namespace Pal
open Go Go.Conc
open Go.ConcN (upd upd_same upd_ne sumTo sumTo_upd)
abbrev GP:=Goroutine→St→Prop
inductive Ph where
 | BN (k:Nat) | Ei | FJ | EJ | Eg | Ep | CW
 | BZ | DL (m:Nat) | EK (v:Nat) | ET | Cf | Er | Dy | Et | Cm
 | Dw (j:Nat) | Fq (j:Nat) | Es (j:Nat) | D3 (j:Nat) | Dp (j:Nat) | DN | BC (A:List Nat) (vs:List Value)
 | BY | Ft | Fp | EP (j:Nat)
inductive Nx where
 | ph (p:Ph) | gone (d:Nat)
structure Fam where
 wg:Nat
 ch:Nat
 ty:TypeId
 n:Nat
 has:Nat→Bool
 msg:Nat→Value→LH→Prop
 fin:GP
namespace Fam
variable (F:Fam)
def KK:Int:=4294967296
def Ew(st sm:Int):Obj:= .cells #[.int .u64 st,.int .u32 sm] F.ty (0,0)
def word(v wt:Nat):Int:=(v:Int)*KK+wt
def WG(w:World)(v wt sm:Nat):Prop:=w.heap[F.wg]? =some (F.Ew (word v wt) sm)
def put(w:World)(v wt sm:Nat):World:={w with heap:=w.heap.setIfInBounds F.wg (F.Ew (word v wt) sm)}
def sA:Addr:=⟨F.wg,0,none⟩
def mA:Addr:=⟨F.wg,1,none⟩
def Dm(a:Addr):Event:=⟨.cell a,false,true⟩
def Ga(a:Addr):Event:=⟨.cell a,true,true⟩
def CQ(m:Mark):Event:=⟨.mark m,false,true⟩
def ChanAt(w:World)(closed:Bool)(k:Nat):Prop:=w.heap[F.ch]? =some (.chan 0 #[] closed k k false)
def act:Ph→Nat→Nat→Nat→Option ((Nat×Nat×Nat)×Array Event×Nx)
 | .Ei,v,wt,sm=>some ((v,wt,sm),#[CQ (.releaseMerge F.sA)],.ph .FJ)
 | .FJ,v,wt,sm=>some ((v,wt,sm),#[CQ .disable],.ph .EJ)
 | .EJ,v,wt,sm=>if 1≤v∧v<2147483648∧wt≤1 then some ((v - 1,wt,sm),#[Dm F.sA,Ga F.sA],if v=1∧wt=1 then .ph .Eg else .gone 1) else none
 | .Eg,v,wt,sm=>if v=0∧wt=1 then some ((0,1,sm),#[Dm F.sA],.ph .Ep) else none
 | .Ep,v,wt,sm=>if v=0∧wt=1 then some ((0,0,sm),#[Ga F.sA],.ph .CW) else none
 | .CW,v,wt,sm=>if sm=0 then some ((v,wt,1),semEvents F.mA,.gone 1) else none
 | .BZ,v,wt,sm=>some ((v,wt,sm),#[CQ .disable],.ph (.DL F.n))
 | .DL m,v,wt,sm=>if v≤m∧wt=0 then some ((v,0,sm),#[Dm F.sA],if v=0 then .ph .Dy else .ph (.EK v)) else none
 | .EK m,v,wt,sm=>if v≤m∧1≤m∧wt=0 then some (if v=m then((v,1,sm),#[Dm F.sA,Ga F.sA],.ph .Ft) else((v,0,sm),#[Dm F.sA],.ph (.DL (m - 1)))) else none
 | .ET,v,wt,sm=>some ((v,wt,sm),#[CQ (.write F.mA)],.ph .Cf)
 | .Cf,v,wt,sm=>if sm=1 then some ((v,wt,0),semEvents F.mA,.ph .Er) else none
 | .Er,v,wt,sm=>if v=0∧wt=0 then some ((0,0,sm),#[Dm F.sA],.ph .Dy) else none
 | .Dy,v,wt,sm=>some ((v,wt,sm),#[CQ .enable],.ph .Fp)
 | .BY,v,wt,sm=>some ((v,wt,sm),#[],.ph .Ei)
 | .Ft,v,wt,sm=>some ((v,wt,sm),#[],.ph .ET)
 | .Fp,v,wt,sm=>some ((v,wt,sm),#[],.ph .Et)
 | .EP j,v,wt,sm=>some ((v,wt,sm),#[],.ph (.Es j))
 | .Et,v,wt,sm=>some ((v,wt,sm),#[CQ (.acquire F.sA)],.ph .Cm)
 | .Dw j,v,wt,sm=>some ((v,wt,sm),#[CQ .disable],.ph (.Fq j))
 | .Fq j,v,wt,sm=>if v<2147483647∧wt=0 then some ((v+1,0,sm),#[Dm F.sA,Ga F.sA],if v=0 then .ph (.EP j) else .ph (.D3 j)) else none
 | .Es j,v,wt,sm=>some ((v,wt,sm),#[CQ (.read F.mA)],.ph (.D3 j))
 | .D3 j,v,wt,sm=>some ((v,wt,sm),#[CQ .enable],.ph (.Dp j))
 | _,_,_,_=>none
def Ch:Ph→Bool
 | .Dw _ | .Fq _ | .Es _ | .D3 _ | .Dp _ | .DN | .BC _ _ | .EP _=>true
 | _=>false
def CB:Ph→Bool
 | .FJ | .EJ | .Eg | .Ep | .CW=>true
 | _=>false
def Eu:Ph→St→St
 | .Ei,_=> .quiet
 | _,s=>s
def start(k:Nat):Ph:=if F.has k then .BN k else .BY
def Cn(j:Nat):Ph:=if j+1=F.n then .DN else .Dw (j+1)
end Fam
def Way(P:Program)(main:Bool)(X:GP):GP:=(A8 P main).ok X
theorem Jr.mono{P:Program}{main:Bool}{Q A:GP}(h:∀g s,Q g s→A g s):∀{r:Rk} {g:Goroutine} {s:St},Jr P main Q r g s→Jr P main A r g s
 | .leaf,_,_,x=>h _ _ x
 | .node _,_,_,.inl x=> .inl (h _ _ x)
 | .node _,_,_,.inr ⟨K,x⟩=> .inr ⟨K,fun w f=>let ⟨g',s',w',es,O,U,Z⟩:=x w f;⟨g',s',w',es,O,Jr.mono h U,Z⟩⟩
theorem Way.mono{P:Program}{main:Bool}{Q A:GP}(h:∀g s,Q g s→A g s){g:Goroutine}{s:St}(x:Way P main Q g s):Way P main A g s:=
 let ⟨r,K⟩:=x;⟨r,Jr.mono (fun g s ⟨s₀,a,b⟩=>⟨s₀,a,h g s₀ b⟩) K⟩
section
variable (P:Program)(F:Fam)
def H2(X:Ph→GP)(main:Bool):Nx→GP
 | .ph p,g,s=>Way P main (X p) g s
 | .gone d,g,_=>∃q,QuitsD P q d g
structure DO (X:Ph→GP) (p:Ph) (g:Goroutine) (s:St):Prop where
 run:g.status= .running
 offers:g.offers=none
 quiet:Fam.CB p=true→s= .quiet
 live:Fam.CB p=false→s.q=false
 act:∀v wt sm v' wt' sm' es nx,F.act p v wt sm=some ((v',wt',sm'),es,nx)→
  ∃g',(∀w,F.WG w v wt sm→stepG P (Fam.Ch p) g w= .go g' (F.put w v' wt' sm') es)∧g'.status= .running∧H2 P X (Fam.Ch p) nx g' (Fam.Eu p s)
 EL:p= .CW∨p= .Cm→mayWake P g=true
 CY:p= .Cf→∀w v wt,F.WG w v wt 0→stepG P false g w= .go {g with status:= .blocked} w #[]
 close:p= .Cm→∃g',g'.status= .running∧(∀w k,F.ChanAt w false k→stepG P false g w= .go g' (w.setChan F.ch 0 #[] true k k false) (closeEvents F.ch))∧∃q,QuitsD P q 0 g'
 send:∀k,p= .BN k→∃v z,F.msg k v s.E∧(∀w,stepG P false g w= .comm g #[scase F.ch v z] true .send w #[])∧Way P false (X .BY) (served g undef) s
 go:∀j,p= .Dp j→∃g' child,g'.status= .running∧child.status= .running∧(∀w,stepG P true g w= .spawn g' child w #[])∧Way P false (X (F.start j)) child ⟨s.E,fun _=>none,false⟩∧Way P true (X (F.Cn j)) g' s
 Ey:p= .DN→∃g' child,g'.status= .running∧child.status= .running∧(∀w,stepG P true g w= .spawn g' child w #[])∧Way P false (X .BZ) child ⟨s.E,fun _=>none,false⟩∧Way P true (X (.BC [] [])) g' s
 recv:∀A vs,p= .BC A vs→∃z,(∀w,stepG P true g w= .comm g #[rcase F.ch z] true (.recv true) w #[])∧
  (∀k v E',k<F.n→F.has k=true→k ∉ A→Le s.E E'→(∀b,E' b≠none→s.H b=none)→F.msg k v E'→Way P true (X (.BC (A++ [k]) (vs++ [v]))) (served g (.tuple #[v,.bool true])) ⟨E',s.H,false⟩)∧
  ((∀k,k<F.n→F.has k=true→k∈A)→F.fin (served g (.tuple #[z,.bool false])) s)
theorem H2.mono{X A:Ph→GP}(h:∀p g s,X p g s→A p g s){main:Bool}{nx:Nx}{g:Goroutine}{s:St}(x:H2 P X main nx g s):H2 P A main nx g s:=by
 cases nx with
 | ph p=>exact Way.mono (h p) x
 | gone d=>exact x
theorem DO.mono{X aa:Ph→GP}(h:∀p g s,X p g s→aa p g s){p:Ph}{g:Goroutine}{s:St}(x:DO P F X p g s):DO P F aa p g s where
 run:=x.run
 offers:=x.offers
 quiet:=x.quiet
 live:=x.live
 act v wt sm v' wt' sm' es nx e:=let ⟨g',A,K,O⟩:=x.act v wt sm v' wt' sm' es nx e;⟨g',A,K,O.mono P h⟩
 EL:=x.EL
 CY:=x.CY
 close:=x.close
 send k e:=let ⟨v,z,A,K,O⟩:=x.send k e;⟨v,z,A,K,O.mono (h _)⟩
 go j e:=let ⟨g',c,A,K,O,U,Z⟩:=x.go j e;⟨g',c,A,K,O,U.mono (h _),Z.mono (h _)⟩
 Ey e:=let ⟨g',c,A,K,O,U,Z⟩:=x.Ey e;⟨g',c,A,K,O,U.mono (h _),Z.mono (h _)⟩
 recv ab vs e:=let ⟨z,A,K,O⟩:=x.recv ab vs e;⟨z,A,fun k v E' a b c d e f=>(K k v E' a b c d e f).mono (h _),O⟩
def Stop(p:Ph)(g:Goroutine)(s:St):Prop:=∃X:Ph→GP,(∀p g s,X p g s→DO P F X p g s)∧X p g s
variable {P F}
theorem Stop.law{p:Ph}{g:Goroutine}{s:St}(h:Stop P F p g s):DO P F (Stop P F) p g s:=by
 obtain⟨X,K,A⟩:=h;exact(K p g s A).mono P F fun p g s A=>⟨X,K,A⟩
theorem DO.stop{p:Ph}{g:Goroutine}{s:St}(h:DO P F (Stop P F) p g s):Stop P F p g s:=
 ⟨fun p g s=>DO P F (Stop P F) p g s,fun _ _ _ x=>x.mono P F fun _ _ _ y=>y.law,h⟩
end
end Pal
namespace Pal
open Go Go.Conc
open Go.ConcN (upd upd_same upd_ne sumTo sumTo_upd sumTo_upd_out sumTo_congr le_sumTo sumTo_le)
def cU:Nx→Nat
 | .ph (.BN _) | .ph .BY | .ph .Ei | .ph .FJ | .ph .EJ=>1
 | _=>0
def cL:Nx→Nat
 | .ph .Eg | .ph .Ep=>1
 | _=>0
def cS:Nx→Nat
 | .ph .CW=>1
 | _=>0
def pend:Nx→Nat
 | .ph (.EP _) | .ph (.Es _) | .ph (.D3 _) | .ph (.Dp _)=>1
 | _=>0
def got:Nx→List Nat
 | .ph (.BC A _)=>A
 | _=> []
def Dj:Nx→Prop
 | .gone _=>True
 | _=>False
def Fe(n j:Nat)(c:Bool):Ph→Prop
 | .Dw A | .Fq A | .EP A | .Es A | .D3 A | .Dp A=>A=j∧j<n∧c=false
 | .DN=>j=n∧c=false
 | .BC _ _=>j=n∧c=true
 | _=>False
def FB(F:Fam)(k:Nat):Nx→Prop
 | .gone _=>True
 | .ph (.BN k')=>k'=k∧F.has k=true
 | .ph .BY | .ph .Ei | .ph .FJ | .ph .EJ | .ph .Eg | .ph .Ep | .ph .CW=>True
 | _=>False
def Ff:Nx→Prop
 | .gone _=>True
 | .ph .BZ | .ph (.DL _) | .ph (.EK _) | .ph .Ft | .ph .ET | .ph .Cf | .ph .Er | .ph .Dy | .ph .Fp | .ph .Et | .ph .Cm=>True
 | _=>False
def BX(x:Nx)(v wt sm L S:Nat)(cl:Bool):Prop:=
 match x with
 | .ph .BZ=>L=0∧S=0∧sm=0∧wt=0∧cl=false
 | .ph (.DL m)=>L=0∧S=0∧sm=0∧wt=0∧cl=false∧v≤m
 | .ph (.EK m)=>L=0∧S=0∧sm=0∧wt=0∧cl=false∧v≤m∧1≤m
 | .ph .Ft | .ph .ET | .ph .Cf=>L+S+sm+min v 1=1∧wt=L+min v 1∧cl=false
 | .ph .Er | .ph .Dy | .ph .Fp | .ph .Et | .ph .Cm=>L=0∧S=0∧sm=0∧wt=0∧v=0∧cl=false
 | .gone _=>L=0∧S=0∧sm=0∧wt=0∧v=0∧cl=true
 | _=>False
structure BD (F:Fam) (N0 N j:Nat) (c:Bool) (φ:Nat→Nx) (v wt sm:Nat) (cl:Bool):Prop where
 pos:0<N0
 n1:1≤F.n
 Gb:F.n<2147483647
 size:N=N0+j+c.toNat
 jn:j≤F.n
 cj:c=true→j=F.n
 main:∃p,φ 0= .ph p∧Fe F.n j c p
 old:∀i,0<i→i<N0→Dj (φ i)
 work:∀k,k<j→FB F k (φ (N0+k))
 cls:c=true→Ff (φ (N0+F.n))
 cnt:v=sumTo N (fun i=>cU (φ i))+pend (φ 0)
 FQ:v≤j+pend (φ 0)
 mode:BX (if c=true then φ (N0+F.n) else .ph .BZ) v wt sm (sumTo N fun i=>cL (φ i)) (sumTo N fun i=>cS (φ i)) cl
 ES:∀k,k<j→F.has k=true→(φ (N0+k)= .ph (.BN k)↔k ∉ got (φ 0))
 nd:(got (φ 0)).Nodup
 sub:∀k∈got (φ 0),k<j∧F.has k=true
section
variable {F:Fam}{N0 N j:Nat}{c:Bool}{φ:Nat→Nx}{v wt sm v' wt' sm':Nat}{cl cl':Bool}
theorem BD.DD(h:BD F N0 N j c φ v wt sm cl){i:Nat}(hi:i<N):i=0∨(0<i∧i<N0)∨(∃k,k<j∧i=N0+k)∨(c=true∧i=N0+F.n):=by
 have:=h.size;rcases Nat.eq_zero_or_pos i with A | A
 ·exact .inl A
 rcases Nat.lt_or_ge i N0 with O | O
 ·exact .inr (.inl ⟨A,O⟩)
 rcases Nat.lt_or_ge i (N0+j) with U | U
 ·exact .inr (.inr (.inl ⟨i - N0,by omega,by omega⟩))
 ·cases K:c with
  | false=>rw [K] at this;simp at this;omega
  | true=>have e:=h.cj K;rw [K] at this;simp at this;exact .inr (.inr (.inr ⟨rfl,by omega⟩))
theorem BD.OM(h:BD F N0 N j c φ v wt sm cl):v≤F.n:=by
 have A:=h.FQ;obtain⟨p,K,hm⟩:=h.main;have:=h.jn;rw [K] at A;cases p <;> simp [Fe] at hm <;> simp [pend] at A <;> omega
theorem BD.FI(h:BD F N0 N j c φ v wt sm cl){k:Nat}(ac:k<j){x:Nx}(ae:FB F k x)(hs:∀k',φ (N0+k)≠ .ph (.BN k'))(ag:∀k',x≠ .ph (.BN k'))
  (ap:v'+cU (φ (N0+k))=v+cU x)
  (hm:∀L S,L+cL (φ (N0+k))=(sumTo N fun i=>cL (φ i))+cL x→S+cS (φ (N0+k))=(sumTo N fun i=>cS (φ i))+cS x→BX (if c=true then φ (N0+F.n) else .ph .BZ) v' wt' sm' L S cl'):
  BD F N0 N j c (upd φ (N0+k) x) v' wt' sm' cl':=by
 have aq:=h.size;have ar:=h.jn;have au:=h.pos;have U:N0+k<N:=by omega
 have A:upd φ (N0+k) x 0=φ 0:=upd_ne _ _ (by omega);have ah:(if c=true then upd φ (N0+k) x (N0+F.n) else .ph .BZ)=(if c=true then φ (N0+F.n) else .ph .BZ):=by
  cases K:c with
  | false=>rfl
  | true=>have:=h.cj K;simp only [if_true];exact upd_ne _ _ (by omega)
 have s1:=sumTo_upd φ x cU U;have s2:=sumTo_upd φ x cL U;have ai:=sumTo_upd φ x cS U;have av:=h.cnt;have aw:=h.FQ;refine⟨h.pos,h.n1,h.Gb,h.size,h.jn,h.cj,by rw [A];exact h.main,fun i aj ak=>by rw [upd_ne _ _ (by omega)];exact h.old i aj ak,fun k' O=>?_,fun K=>?_,by rw [A];omega,?_,?_,fun k' O hh=>?_,by rw [A];exact h.nd,by rw [A];exact h.sub⟩
 ·by_cases e:k'=k
  ·subst e;rw [upd_same];exact ae
  ·rw [upd_ne _ _ (by omega)];exact h.work k' O
 ·have:=h.cj K;rw [upd_ne _ _ (by omega)];exact h.cls K
 ·rw [A];have:cU x≤1:=by cases x with
   | gone d=>simp [cU]
   | ph p=>cases p <;> simp [cU]
  have hw:=h.work k ac;have key:cU x≤cU (φ (N0+k))∨cU (φ (N0+k))<cU x:=by omega
  rcases key with hle | ay
  ·omega
  ·
   have:(sumTo N fun a=>cU (upd φ (N0+k) x a))≤j:=by
    have hb:∀M,M≤N→(sumTo M fun a=>cU (upd φ (N0+k) x a))≤min (M - N0) j:=by
     intro M
     induction M with
     | zero=>intro _;simp [sumTo]
     | succ M al=>
      intro az;have:=al (by omega);simp only [sumTo];have aA:cU (upd φ (N0+k) x M)≤1:=by
       generalize upd φ (N0+k) x M=y;cases y with
       | gone d=>simp [cU]
       | ph p=>cases p <;> simp [cU]
      have aa:(M<N0∨N0+j≤M)→cU (upd φ (N0+k) x M)=0:=by
       intro aB;rw [upd_ne _ _ (by omega)];rcases h.DD (i:=M) (by omega) with rfl | ⟨a,b⟩ | ⟨k',a,rfl⟩ | ⟨a,rfl⟩
       ·obtain⟨p,am,hm⟩:=h.main;rw [am];cases p <;> simp [Fe] at hm <;> rfl
       ·have:=h.old M a b;cases Z:φ M with
        | gone d=>rfl
        | ph p=>rw [Z] at this;exact this.elim
       ·omega
       ·have:=h.cls a;cases Z:φ (N0+F.n) with
        | gone d=>rfl
        | ph p=>rw [Z] at this;cases p <;> simp [Ff] at this <;> rfl
      rcases Nat.lt_or_ge M N0 with q | q
      ·rw [aa (.inl q)];omega
      ·rcases Nat.lt_or_ge M (N0+j) with ab | ab
       ·omega
       ·rw [aa (.inr ab)];omega
    have:=hb N (Nat.le_refl _);omega
   omega
 ·rw [ah];exact hm _ _ s2 ai
 ·rw [A];by_cases e:k'=k
  ·subst e;rw [upd_same];have:=h.ES k' O hh;constructor
   ·intro an;exact absurd an (ag k')
   ·intro ao;exact absurd (this.2 ao) (hs k')
  ·rw [upd_ne _ _ (by omega)];exact h.ES k' O hh
theorem BD.D2(h:BD F N0 N j c φ v wt sm cl)(K:c=true){x:Nx}(Z:Ff x)
  (hm:BX x v wt' sm' (sumTo N fun i=>cL (φ i)) (sumTo N fun i=>cS (φ i)) cl'):
  BD F N0 N j c (upd φ (N0+F.n) x) v wt' sm' cl':=by
 have aa:=h.size;have ai:=h.pos;have aj:=h.cj K;have O:N0+F.n<N:=by rw [K] at aa;simp at aa;omega
 have A:upd φ (N0+F.n) x 0=φ 0:=upd_ne _ _ (by omega);have z:∀y,Ff y→cU y=0∧cL y=0∧cS y=0:=by
  intro y ab;cases y with
  | gone d=>exact⟨rfl,rfl,rfl⟩
  | ph p=>cases p <;> simp [Ff] at ab <;> exact⟨rfl,rfl,rfl⟩
 have z1:=z _ (h.cls K);have ak:=z x Z;have s1:=sumTo_upd φ x cU O;have s2:=sumTo_upd φ x cL O;have al:=sumTo_upd φ x cS O;have am:=h.cnt;refine⟨h.pos,h.n1,h.Gb,h.size,h.jn,h.cj,by rw [A];exact h.main,fun i ac ae=>by rw [upd_ne _ _ (by omega)];exact h.old i ac ae,fun k' U=>?_,fun K=>?_,by rw [A];omega,by rw [A];exact h.FQ,?_,fun k' U hh=>?_,by rw [A];exact h.nd,by rw [A];exact h.sub⟩
 ·rw [upd_ne _ _ (by omega)];exact h.work k' U
 ·rw [upd_same];exact Z
 ·rw [if_pos K,upd_same];have ag:(sumTo N fun i=>cL (upd φ (N0+F.n) x i))=sumTo N fun i=>cL (φ i):=by omega
  have ah:(sumTo N fun i=>cS (upd φ (N0+F.n) x i))=sumTo N fun i=>cS (φ i):=by omega
  rw [ag,ah];exact hm
 ·rw [A,upd_ne _ _ (by omega)];exact h.ES k' U hh
theorem L9{n j:Nat}{c:Bool}{p:Ph}(h:Fe n j c p):cU (.ph p)=0∧cL (.ph p)=0∧cS (.ph p)=0:=by
 cases p <;> simp [Fe] at h <;> exact⟨rfl,rfl,rfl⟩
theorem BD.Hd(h:BD F N0 N j c φ v wt sm cl){p:Ph}(U:Fe F.n j c p)(A:got (.ph p)=got (φ 0))(ak:v'+pend (φ 0)=v+pend (.ph p))(Z:v'≤j+pend (.ph p))
  (hm:BX (if c=true then φ (N0+F.n) else .ph .BZ) v' wt' sm' (sumTo N fun i=>cL (φ i)) (sumTo N fun i=>cS (φ i)) cl'):
  BD F N0 N j c (upd φ 0 (.ph p)) v' wt' sm' cl':=by
 have al:=h.size;have am:=h.pos;have K:0<N:=by omega
 obtain⟨an,aa,ab⟩:=h.main;have z1:=L9 ab;have ao:=L9 U;rw [← aa] at z1;have s1:=sumTo_upd φ (.ph p) cU K;have s2:=sumTo_upd φ (.ph p) cL K;have ap:=sumTo_upd φ (.ph p) cS K;have aq:=h.cnt;have ac:(if c=true then upd φ 0 (.ph p) (N0+F.n) else .ph .BZ)=(if c=true then φ (N0+F.n) else .ph .BZ):=by rw [upd_ne _ _ (by omega)]
 refine⟨h.pos,h.n1,h.Gb,h.size,h.jn,h.cj,⟨p,upd_same _ _ _,U⟩,fun i ae ag=>by rw [upd_ne _ _ (by omega)];exact h.old i ae ag,fun k' O=>by rw [upd_ne _ _ (by omega)];exact h.work k' O,fun ah=>by rw [upd_ne _ _ (by omega)];exact h.cls ah,by rw [upd_same];omega,by rw [upd_same];exact Z,?_,fun k' O hh=>?_,by rw [upd_same,A];exact h.nd,by rw [upd_same,A];exact h.sub⟩
 ·rw [ac];have ai:(sumTo N fun i=>cL (upd φ 0 (.ph p) i))=sumTo N fun i=>cL (φ i):=by omega
  have aj:(sumTo N fun i=>cS (upd φ 0 (.ph p) i))=sumTo N fun i=>cS (φ i):=by omega
  rw [ai,aj];exact hm
 ·rw [upd_same,A,upd_ne _ _ (by omega)];exact h.ES k' O hh
theorem BD.act(h:BD F N0 N j c φ v wt sm cl){i:Nat}(hi:i<N){p:Ph}(O:φ i= .ph p){es:Array Event}{nx:Nx}(A:F.act p v wt sm=some ((v',wt',sm'),es,nx)):
  BD F N0 N j c (upd φ i nx) v' wt' sm' cl:=by
 have K:=h.mode;have ar:=h.OM;rcases h.DD hi with rfl | ⟨a,b⟩ | ⟨k,ai,rfl⟩ | ⟨aa,rfl⟩
 ·
  obtain⟨am,aq,aj⟩:=h.main;have:am=p:=by rw [aq] at O;exact Nx.ph.inj O
  subst this;have av:∀q,Fe F.n j c q→(∀au vs,q≠ .BC au vs)→c=false:=by
   intro q an ao;cases q <;> simp [Fe] at an <;> first | exact an.2.2 | exact an.2 | exact absurd rfl (ao _ _)
  have ag:=h.FQ;cases am <;> simp only [Fe] at aj <;> (try exact aj.elim) <;> simp only [Fam.act] at A <;> (try (cases A;done))
  ·cases A;obtain⟨rfl,ah,rfl⟩:=aj;exact h.Hd (p:= .Fq _) ⟨rfl,ah,rfl⟩ (by rw [O];rfl) (by rw [O];rfl) (by rw [O] at ag;exact ag) (by simpa [BX] using K)
  ·split at A
   ·rename_i ab;cases A;obtain⟨rfl,ah,rfl⟩:=aj;rw [O] at ag;simp only [pend,Nat.add_zero] at ag;simp only [Bool.false_eq_true,if_false,BX] at K;split
    ·exact h.Hd (p:= .EP _) ⟨rfl,ah,rfl⟩ (by rw [O];rfl) (by rw [O];simp [pend]) (by simp [pend];omega) ⟨K.1,K.2.1,K.2.2.1,rfl,K.2.2.2.2⟩
    ·exact h.Hd (p:= .D3 _) ⟨rfl,ah,rfl⟩ (by rw [O];rfl) (by rw [O];simp [pend]) (by simp [pend];omega) ⟨K.1,K.2.1,K.2.2.1,rfl,K.2.2.2.2⟩
   ·cases A
  ·cases A;obtain⟨rfl,ah,rfl⟩:=aj;exact h.Hd (p:= .D3 _) ⟨rfl,ah,rfl⟩ (by rw [O];rfl) (by rw [O];rfl) (by rw [O] at ag;exact ag) (by simpa [BX] using K)
  ·cases A;obtain⟨rfl,ah,rfl⟩:=aj;exact h.Hd (p:= .Dp _) ⟨rfl,ah,rfl⟩ (by rw [O];rfl) (by rw [O];rfl) (by rw [O] at ag;exact ag) (by simpa [BX] using K)
  ·cases A;obtain⟨rfl,ah,rfl⟩:=aj;exact h.Hd (p:= .Es _) ⟨rfl,ah,rfl⟩ (by rw [O];rfl) (by rw [O];rfl) (by rw [O] at ag;exact ag) (by simpa [BX] using K)
 ·have:=h.old i a b;rw [O] at this;exact this.elim
 ·
  have hw:=h.work k ai;rw [O] at hw;have aw:∀q k',q=Nx.ph p→(∀k',p≠ .BN k')→q≠ .ph (.BN k'):=by
   rintro q k' rfl ao e;exact ao k' (Nx.ph.inj e)
  cases p <;> simp only [FB] at hw <;> (try exact hw.elim) <;> simp only [Fam.act] at A <;> (try (cases A;done))
  ·cases A;refine h.FI ai (x:= .ph .FJ) trivial (fun k'=>by rw [O];simp) (by simp) (by rw [O];rfl) fun L S U Z=>?_;rw [O] at U Z;simp only [cL,cS,Nat.add_zero] at U Z;subst U Z;exact K
  ·cases A;refine h.FI ai (x:= .ph .EJ) trivial (fun k'=>by rw [O];simp) (by simp) (by rw [O];rfl) fun L S U Z=>?_;rw [O] at U Z;simp only [cL,cS,Nat.add_zero] at U Z;subst U Z;exact K
  ·split at A
   ·rename_i ab;cases A;have al:∀y ac ae L S,y=(if c=true then φ (N0+F.n) else .ph .BZ)→BX y v wt sm ac ae cl→(if v=1∧wt=1 then L=ac+1 else L=ac)→S=ae→BX y (v - 1) wt sm L S cl:=by
     intro y ac ae L S ay hm U Z;cases y with
     | gone d=>simp only [BX] at hm ⊢;split at U <;> omega
     | ph q=>
      cases q <;> simp only [BX] at hm ⊢ <;> (try exact hm) <;> (try (split at U <;> omega))
      ·split at U
       ·exfalso;omega
       ·exact⟨by omega,by omega,by omega,by omega,hm.2.2.2.2⟩
      ·split at U
       ·exfalso;omega
       ·exact⟨by omega,by omega,by omega,by omega,hm.2.2.2.2.1,by omega⟩
      ·split at U
       ·exfalso;omega
       ·exact⟨by omega,by omega,by omega,by omega,hm.2.2.2.2.1,by omega,by omega⟩
      ·split at U
       ·exact⟨by omega,by omega,hm.2.2⟩
       ·exact⟨by omega,by omega,hm.2.2⟩
      ·split at U
       ·exact⟨by omega,by omega,hm.2.2⟩
       ·exact⟨by omega,by omega,hm.2.2⟩
      ·split at U
       ·exact⟨by omega,by omega,hm.2.2⟩
       ·exact⟨by omega,by omega,hm.2.2⟩
    split
    ·rename_i ak;refine h.FI ai (x:= .ph .Eg) trivial (fun k'=>by rw [O];simp) (by simp) (by rw [O];simp [cU];omega) fun L S U Z=>?_;rw [O] at U Z;simp only [cL,cS,Nat.add_zero] at U Z;exact al _ _ _ L S rfl K (by rw [if_pos ak];exact U) Z
    ·rename_i ak;refine h.FI ai (x:= .gone 1) trivial (fun k'=>by rw [O];simp) (by simp) (by rw [O];simp [cU];omega) fun L S U Z=>?_;rw [O] at U Z;simp only [cL,cS,Nat.add_zero] at U Z;exact al _ _ _ L S rfl K (by rw [if_neg ak];exact U) Z
   ·cases A
  ·split at A
   ·rename_i ab;cases A;refine h.FI ai (x:= .ph .Ep) trivial (fun k'=>by rw [O];simp) (by simp) (by rw [O];simp [cU];omega) fun L S U Z=>?_;rw [O] at U Z;simp only [cL,cS,Nat.add_zero] at U Z;have e:L=sumTo N fun i=>cL (φ i):=by
     have az:L+1=(sumTo N fun i=>cL (φ i))+1:=U;omega
    obtain⟨ak,ap⟩:=ab;subst e Z ak ap;exact K
   ·cases A
  ·split at A
   ·rename_i ab;cases A;obtain⟨ak,ap⟩:=ab;subst ak ap;refine h.FI ai (x:= .ph .CW) trivial (fun k'=>by rw [O];simp) (by simp) (by rw [O];simp [cU]) fun L S U Z=>?_;rw [O] at U Z;simp only [cL,cS,Nat.add_zero] at U Z;have al:∀y ac ae,BX y 0 1 sm ac ae cl→L+1=ac→S=ae+1→BX y 0 0 sm L S cl:=by
     intro y ac ae hm U Z;cases y with
     | gone d=>simp only [BX] at hm ⊢;omega
     | ph q=>
      cases q <;> simp only [BX] at hm ⊢ <;> (try exact hm) <;> (try (exfalso;omega))
      ·exact⟨by omega,by omega,hm.2.2⟩
      ·exact⟨by omega,by omega,hm.2.2⟩
      ·exact⟨by omega,by omega,hm.2.2⟩
    exact al _ _ _ K U Z
   ·cases A
  ·split at A
   ·rename_i ab;cases A;subst ab;refine h.FI ai (x:= .gone 1) trivial (fun k'=>by rw [O];simp) (by simp) (by rw [O];simp [cU]) fun L S U Z=>?_;rw [O] at U Z;simp only [cL,cS,Nat.add_zero] at U Z;have al:∀y ac ae,BX y v wt 0 ac ae cl→L=ac→S+1=ae→BX y v wt 1 L S cl:=by
     intro y ac ae hm U Z;cases y with
     | gone d=>simp only [BX] at hm ⊢;omega
     | ph q=>
      cases q <;> simp only [BX] at hm ⊢ <;> (try exact hm) <;> (try (exfalso;omega))
      ·exact⟨by omega,by omega,hm.2.2⟩
      ·exact⟨by omega,by omega,hm.2.2⟩
      ·exact⟨by omega,by omega,hm.2.2⟩
    exact al _ _ _ K U Z
   ·cases A
  ·cases A;refine h.FI ai (x:= .ph .Ei) trivial (fun k'=>by rw [O];simp) (by simp) (by rw [O];rfl) fun L S U Z=>?_;rw [O] at U Z;simp only [cL,cS,Nat.add_zero] at U Z;subst U Z;exact K
 ·
  have hw:=h.cls aa;rw [if_pos aa,O] at K;rw [O] at hw;obtain⟨am,aq,aj⟩:=h.main;cases p <;> simp only [Ff] at hw <;> (try exact hw.elim) <;> simp only [Fam.act] at A <;> (try (cases A;done)) <;> simp only [BX] at K
  ·cases A;exact h.D2 aa (x:= .ph (.DL F.n)) trivial ⟨K.1,K.2.1,K.2.2.1,K.2.2.2.1,K.2.2.2.2,ar⟩
  ·split at A
   ·rename_i m ab;cases A;split
    ·exact h.D2 aa (x:= .ph .Dy) trivial ⟨K.1,K.2.1,K.2.2.1,rfl,by assumption,K.2.2.2.2.1⟩
    ·exact h.D2 aa (x:= .ph (.EK _)) trivial ⟨K.1,K.2.1,K.2.2.1,rfl,K.2.2.2.2.1,Nat.le_refl _,by omega⟩
   ·cases A
  ·split at A
   ·rename_i m ab;split at A
    ·cases A;exact h.D2 aa (x:= .ph .Ft) trivial ⟨by omega,by omega,K.2.2.2.2.1⟩
    ·cases A;exact h.D2 aa (x:= .ph (.DL _)) trivial ⟨K.1,K.2.1,K.2.2.1,rfl,K.2.2.2.2.1,by omega⟩
   ·cases A
  ·cases A;exact h.D2 aa (x:= .ph .Cf) trivial K
  ·split at A
   ·rename_i ab;cases A;exact h.D2 aa (x:= .ph .Er) trivial ⟨by omega,by omega,rfl,by omega,by omega,K.2.2⟩
   ·cases A
  ·split at A
   ·rename_i ab;obtain⟨rfl,rfl⟩:=ab;cases A;exact h.D2 aa (x:= .ph .Dy) trivial K
   ·cases A
  ·cases A;exact h.D2 aa (x:= .ph .Fp) trivial K
  ·cases A;exact h.D2 aa (x:= .ph .Cm) trivial K
  ·cases A;exact h.D2 aa (x:= .ph .ET) trivial K
  ·cases A;exact h.D2 aa (x:= .ph .Et) trivial K
end
end Pal
namespace Pal
open Go Go.Conc
open Go.ConcN (upd upd_same upd_ne sumTo sumTo_upd sumTo_upd_out sumTo_congr le_sumTo sumTo_le fork_knows)
section
variable {F:Fam}{N0 N j:Nat}{c:Bool}{φ:Nat→Nx}{v wt sm:Nat}{cl:Bool}
theorem BD.spawn(h:BD F N0 N j c φ v wt sm cl)(O:φ 0= .ph (.Dp j)):
  BD F N0 (N+1) (j+1) c (upd (upd φ N (.ph (F.start j))) 0 (.ph (F.Cn j))) v wt sm cl:=by
 obtain⟨aj,ak,al⟩:=h.main;obtain rfl:aj= .Dp j:=by rw [ak] at O;exact Nx.ph.inj O
 obtain⟨_,ar,rfl⟩:=al;have am:=h.size;have au:=h.pos;simp only [Bool.toNat_false,Nat.add_zero] at am;have Z:cU (.ph (F.start j))=1∧cL (.ph (F.start j))=0∧cS (.ph (F.start j))=0:=by
  unfold Fam.start;split <;> exact⟨rfl,rfl,rfl⟩
 have A:cU (.ph (F.Cn j))=0∧cL (.ph (F.Cn j))=0∧cS (.ph (F.Cn j))=0∧pend (.ph (F.Cn j))=0∧got (.ph (F.Cn j))= []:=by
  unfold Fam.Cn;split <;> exact⟨rfl,rfl,rfl,rfl,rfl⟩
 have aa:cU (φ 0)=0∧cL (φ 0)=0∧cS (φ 0)=0:=by rw [O];exact⟨rfl,rfl,rfl⟩
 let U:Nat→Nx:=upd (upd φ N (.ph (F.start j))) 0 (.ph (F.Cn j));have K:U 0= .ph (F.Cn j):=upd_same _ _ _;have ab:U N= .ph (F.start j):=by show upd _ _ _ _=_;rw [upd_ne _ _ (by omega),upd_same]
 have ac:∀i,0<i→i≠N→U i=φ i:=fun i ae ag=>by show upd _ _ _ _=_;rw [upd_ne _ _ (by omega),upd_ne _ _ ag]
 have sum:∀f:Nx→Nat,f (φ 0)=0→f (.ph (F.Cn j))=0→(sumTo (N+1) fun i=>f (U i))=(sumTo N fun i=>f (φ i))+f (.ph (F.start j)):=by
  intro f f0 f1;simp only [sumTo,ab];congr 1;have an:0<N:=by omega
  have:=sumTo_upd (upd φ N (.ph (F.start j))) (.ph (F.Cn j)) f an;have ao:upd φ N (.ph (F.start j)) 0=φ 0:=upd_ne _ _ (by omega);rw [ao,f0,f1] at this;have av:=sumTo_upd_out φ (.ph (F.start j)) f (i:=N) (j:=N) (Nat.le_refl _);show sumTo N (fun i=>f (upd (upd φ N (.ph (F.start j))) 0 (.ph (F.Cn j)) i))=_;omega
 have ah:=h.cnt;have ai:=h.FQ;rw [O] at ah ai;simp only [pend] at ah ai;show BD F N0 (N+1) (j+1) false U v wt sm cl;have ap:got (φ 0)= []:=by rw [O];rfl
 refine⟨h.pos,h.n1,h.Gb,by simp;omega,by omega,by simp,⟨F.Cn j,K,?_⟩,fun i ae ag=>by rw [ac i ae (by omega)];exact h.old i ae ag,fun k aq=>?_,by simp,?_,?_,?_,fun k aq hh=>?_,by rw [K,A.2.2.2.2];exact .nil,by rw [K,A.2.2.2.2];simp⟩
 ·unfold Fam.Cn;split
  ·exact⟨by assumption,rfl⟩
  ·exact⟨rfl,by omega,rfl⟩
 ·by_cases e:k=j
  ·subst e;rw [show N0+k=N by omega,ab];unfold Fam.start;split
   ·exact⟨rfl,by assumption⟩
   ·trivial
  ·rw [ac _ (by omega) (by omega)];exact h.work k (by omega)
 ·rw [K,A.2.2.2.1,sum cU aa.1 A.1,Z.1];exact ah
 ·rw [K,A.2.2.2.1];exact ai
 ·have hm:=h.mode;simp only [Bool.false_eq_true,if_false] at hm ⊢;rw [sum cL aa.2.1 A.2.1,sum cS aa.2.2 A.2.2.1,Z.2.1,Z.2.2];exact hm
 ·rw [K,A.2.2.2.2];by_cases e:k=j
  ·subst e;rw [show N0+k=N by omega,ab];unfold Fam.start;simp [hh]
  ·rw [ac _ (by omega) (by omega)];have:=h.ES k (by omega) hh
   rwa [ap] at this
theorem BD.Sk(h:BD F N0 N j c φ v wt sm cl)(K:φ 0= .ph .DN):
  BD F N0 (N+1) j true (upd (upd φ N (.ph .BZ)) 0 (.ph (.BC [] []))) v wt sm cl:=by
 obtain⟨aj,ak,al⟩:=h.main;obtain rfl:aj= .DN:=by rw [ak] at K;exact Nx.ph.inj K
 obtain⟨ai,rfl⟩:=al;have am:=h.size;have aq:=h.pos;simp only [Bool.toNat_false,Nat.add_zero] at am;have U:cU (φ 0)=0∧cL (φ 0)=0∧cS (φ 0)=0:=by rw [K];exact⟨rfl,rfl,rfl⟩
 let O:Nat→Nx:=upd (upd φ N (.ph .BZ)) 0 (.ph (.BC [] []));have A:O 0= .ph (.BC [] []):=upd_same _ _ _;have Z:O N= .ph .BZ:=by show upd _ _ _ _=_;rw [upd_ne _ _ (by omega),upd_same]
 have aa:∀i,0<i→i≠N→O i=φ i:=fun i ab ac=>by show upd _ _ _ _=_;rw [upd_ne _ _ (by omega),upd_ne _ _ ac]
 have sum:∀f:Nx→Nat,f (φ 0)=0→f (.ph (.BC [] []))=0→f (.ph .BZ)=0→(sumTo (N+1) fun i=>f (O i))=(sumTo N fun i=>f (φ i)):=by
  intro f f0 f1 f2;simp only [sumTo,Z,f2];have an:0<N:=by omega
  have:=sumTo_upd (upd φ N (.ph .BZ)) (.ph (.BC [] [])) f an;have ao:upd φ N (.ph .BZ) 0=φ 0:=upd_ne _ _ (by omega);rw [ao,f0,f1] at this;have ar:=sumTo_upd_out φ (.ph .BZ) f (i:=N) (j:=N) (Nat.le_refl _);show sumTo N (fun i=>f (upd (upd φ N (.ph .BZ)) 0 (.ph (.BC [] [])) i))+0=_;omega
 have ae:=h.cnt;have ag:=h.FQ;rw [K] at ae ag;simp only [pend] at ae ag;show BD F N0 (N+1) j true O v wt sm cl;have ap:got (φ 0)= []:=by rw [K];rfl
 refine⟨h.pos,h.n1,h.Gb,by simp;omega,h.jn,fun _=>ai,⟨.BC [] [],A,ai,rfl⟩,fun i ab ac=>by rw [aa i ab (by omega)];exact h.old i ab ac,fun k ah=>?_,fun _=>by rw [show N0+F.n=N by omega,Z];trivial,?_,?_,?_,fun k ah hh=>?_,by rw [A];exact .nil,by rw [A];simp [got]⟩
 ·rw [aa _ (by omega) (by omega)];exact h.work k ah
 ·rw [A,sum cU U.1 rfl rfl];exact ae
 ·rw [A];exact ag
 ·have hm:=h.mode;simp only [Bool.false_eq_true,if_false,if_true] at hm ⊢;rw [show N0+F.n=N by omega,Z,sum cL U.2.1 rfl rfl,sum cS U.2.2 rfl rfl];exact hm
 ·rw [A];rw [aa _ (by omega) (by omega)];have:=h.ES k ah hh
  rwa [ap] at this
theorem BD.meet(h:BD F N0 N j c φ v wt sm cl){A:List Nat}{vs:List Value}{k:Nat}{x:Value}(K:φ 0= .ph (.BC A vs))(ae:k<j)(hw:φ (N0+k)= .ph (.BN k)):
  BD F N0 N j c (upd (upd φ (N0+k) (.ph .BY)) 0 (.ph (.BC (A++ [k]) (vs++ [x])))) v wt sm cl:=by
 obtain⟨ak,al,am⟩:=h.main;obtain rfl:ak= .BC A vs:=by rw [al] at K;exact Nx.ph.inj K
 obtain⟨an,rfl⟩:=am;have ao:=h.size;have aw:=h.pos;have ag:F.has k=true:=by have:=h.work k ae;rw [hw] at this;exact this.2
 have ap:k ∉ A:=by have:=(h.ES k ae ag).1 hw;rwa [K] at this
 let U:Nat→Nx:=upd (upd φ (N0+k) (.ph .BY)) 0 (.ph (.BC (A++ [k]) (vs++ [x])));have O:U 0= .ph (.BC (A++ [k]) (vs++ [x])):=upd_same _ _ _;have ah:U (N0+k)= .ph .BY:=by show upd _ _ _ _=_;rw [upd_ne _ _ (by omega),upd_same]
 have Z:∀i,0<i→i≠N0+k→U i=φ i:=fun i aa ab=>by show upd _ _ _ _=_;rw [upd_ne _ _ (by omega),upd_ne _ _ ab]
 have sum:∀f:Nx→Nat,f (φ 0)=f (.ph (.BC (A++ [k]) (vs++ [x])))→f (.ph (.BN k))=f (.ph .BY)→(sumTo N fun i=>f (U i))=(sumTo N fun i=>f (φ i)):=by
  intro f f0 f1;have aq:0<N:=by omega
  have aa:=sumTo_upd (upd φ (N0+k) (.ph .BY)) (.ph (.BC (A++ [k]) (vs++ [x]))) f aq;have ar:upd φ (N0+k) (.ph .BY) 0=φ 0:=upd_ne _ _ (by omega);have ab:=sumTo_upd φ (.ph .BY) f (show N0+k<N by omega);rw [ar] at aa;rw [hw] at ab;show sumTo N (fun i=>f (upd (upd φ (N0+k) (.ph .BY)) 0 (.ph (.BC (A++ [k]) (vs++ [x]))) i))=_;omega
 have ai:=h.cnt;have aj:=h.FQ;rw [K] at ai aj;show BD F N0 N j true U v wt sm cl;refine⟨h.pos,h.n1,h.Gb,ao,h.jn,h.cj,⟨_,O,an,rfl⟩,fun i aa ab=>by rw [Z i aa (by omega)];exact h.old i aa ab,fun k' ac=>?_,fun au=>?_,?_,?_,?_,fun k' ac hh=>?_,?_,?_⟩
 ·by_cases e:k'=k
  ·subst e;rw [ah];trivial
  ·rw [Z _ (by omega) (by omega)];exact h.work k' ac
 ·rw [Z _ (by omega) (by omega)];exact h.cls au
 ·rw [O,sum cU (by rw [K];rfl) rfl];exact ai
 ·rw [O];exact aj
 ·have hm:=h.mode;simp only [if_true] at hm ⊢;rw [Z _ (by omega) (by omega),sum cL (by rw [K];rfl) rfl,sum cS (by rw [K];rfl) rfl];exact hm
 ·rw [O];show _↔k' ∉ A++ [k];by_cases e:k'=k
  ·subst e;rw [ah];simp
  ·rw [Z _ (by omega) (by omega)];have:=h.ES k' ac hh;rw [K] at this;rw [this];show k' ∉ A↔_;simp [e]
 ·rw [O];have:=h.nd;rw [K] at this;show(A++ [k]).Nodup;rw [List.nodup_append];exact⟨this,by simp,fun a av b hb=>by simp at hb;subst hb;exact fun e=>ap (e▸av)⟩
 ·rw [O];intro k' ac;have hs:=h.sub;rw [K] at hs;rcases List.mem_append.1 ac with q | q
  ·exact hs k' q
  ·simp at q;subst q;exact⟨ae,ag⟩
theorem BD.close(h:BD F N0 N j c φ v wt sm cl)(A:c=true)(K:φ (N0+F.n)= .ph .Cm):BD F N0 N j c (upd φ (N0+F.n) (.gone 0)) v wt sm true:=by
 have hm:=h.mode;rw [if_pos A,K] at hm;exact h.D2 A (x:= .gone 0) trivial ⟨hm.1,hm.2.1,hm.2.2.1,hm.2.2.2.1,hm.2.2.2.2.1,rfl⟩
theorem BD.leave(h:BD F N0 N j c φ v wt sm cl){i d A:Nat}(hi:i<N)(K:φ i= .gone d):BD F N0 N j c (upd φ i (.gone A)) v wt sm cl:=by
 rcases h.DD hi with rfl | ⟨a,b⟩ | ⟨k,U,rfl⟩ | ⟨Z,rfl⟩
 ·obtain⟨p,aa,_⟩:=h.main;rw [K] at aa;cases aa
 ·have ag:=hi;have z:∀f:Nx→Nat,f (.gone d)=0→f (.gone A)=0→(sumTo N fun a=>f (upd φ i (.gone A) a))=sumTo N fun a=>f (φ a):=by
   intro f f0 f1;have:=sumTo_upd φ (.gone A) f ag;rw [K] at this;omega
  have al:=h.size;have O:upd φ i (.gone A) 0=φ 0:=upd_ne _ _ (by omega);refine⟨h.pos,h.n1,h.Gb,h.size,h.jn,h.cj,by rw [O];exact h.main,fun ab ah ai=>?_,fun k U=>by rw [upd_ne _ _ (by omega)];exact h.work k U,fun Z=>by rw [upd_ne _ _ (by omega)];exact h.cls Z,by rw [O,z cU rfl rfl];exact h.cnt,by rw [O];exact h.FQ,?_,fun k U hh=>by rw [O,upd_ne _ _ (by omega)];exact h.ES k U hh,by rw [O];exact h.nd,by rw [O];exact h.sub⟩
  ·by_cases e:ab=i
   ·subst e;rw [upd_same];trivial
   ·rw [upd_ne _ _ e];exact h.old ab ah ai
  ·rw [z cL rfl rfl,z cS rfl rfl,upd_ne _ _ (by omega)];exact h.mode
 ·refine h.FI U (x:= .gone A) trivial (by rw [K];simp) (by simp) (by rw [K];rfl) fun L S ac ae=>?_;rw [K] at ac ae;have aj:L=sumTo N fun i=>cL (φ i):=ac;have ak:S=sumTo N fun i=>cS (φ i):=ae;subst aj ak;exact h.mode
 ·have hm:=h.mode;rw [if_pos Z,K] at hm;exact h.D2 Z (x:= .gone A) trivial hm
theorem BD.Kb(h:BD F N0 N j c φ v wt sm cl)(K:c=true)(O:φ (N0+F.n)= .ph .Er∨φ (N0+F.n)= .ph .Dy∨φ (N0+F.n)= .ph .Et∨φ (N0+F.n)= .ph .Cm∨Dj (φ (N0+F.n))):∀k,k<j→Dj (φ (N0+k)):=by
 intro k U;have hm:=h.mode;rw [if_pos K] at hm;have Z:=h.size;have aa:=h.cnt;have ab:cU (φ (N0+k))≤sumTo N fun i=>cU (φ i):=le_sumTo (f:=fun i=>cU (φ i)) (show N0+k<N by omega);have ac:cL (φ (N0+k))≤sumTo N fun i=>cL (φ i):=le_sumTo (f:=fun i=>cL (φ i)) (show N0+k<N by omega);have ae:cS (φ (N0+k))≤sumTo N fun i=>cS (φ i):=le_sumTo (f:=fun i=>cS (φ i)) (show N0+k<N by omega);have ag:v=0∧(sumTo N fun i=>cL (φ i))=0∧(sumTo N fun i=>cS (φ i))=0:=by
  rcases O with e | e | e | e | e
  ·rw [e] at hm;exact⟨hm.2.2.2.2.1,hm.1,hm.2.1⟩
  ·rw [e] at hm;exact⟨hm.2.2.2.2.1,hm.1,hm.2.1⟩
  ·rw [e] at hm;exact⟨hm.2.2.2.2.1,hm.1,hm.2.1⟩
  ·rw [e] at hm;exact⟨hm.2.2.2.2.1,hm.1,hm.2.1⟩
  ·cases A:φ (N0+F.n) with
   | gone d=>rw [A] at hm;exact⟨hm.2.2.2.2.1,hm.1,hm.2.1⟩
   | ph p=>rw [A] at e;exact e.elim
 have hw:=h.work k U;cases A:φ (N0+k) with
 | gone d=>trivial
 | ph p=>
  have ah:1≤cU (φ (N0+k))+cL (φ (N0+k))+cS (φ (N0+k)):=by
   rw [A] at hw ⊢;cases p <;> simp only [FB] at hw <;> simp [cU,cL,cS]
  exfalso;omega
end
open Go.ConcN (RelBy)
def CI:Nx→Nat
 | .gone d=>d
 | .ph .EJ | .ph .Eg | .ph .Ep | .ph .CW=>1
 | .ph (.DL _) | .ph (.EK _) | .ph .Ft | .ph .ET | .ph .Cf | .ph .Er | .ph .Dy=>1
 | .ph (.Fq _) | .ph (.EP _) | .ph (.Es _) | .ph (.D3 _)=>1
 | _=>0
def late:Nx→Prop
 | .ph (.BN _) | .ph .BY | .ph .Ei=>False
 | _=>True
def Gt(F:Fam)(N0 t0:Nat)(t:Trace)(q:Nat):Prop:=
 t.act? q=some (.mark (.acquire F.sA))∧t.g? q=some (N0+F.n)∧t.heard q∧∀k,k<F.n→∃ρ,t0≤ρ∧ρ<q∧RelBy F.sA t (N0+k) ρ
def HW(F:Fam)(N0 t0:Nat)(t:Trace)(p:Nat):Prop:=
 t.act? p=some (.close F.ch)∧t.g? p=some (N0+F.n)∧t.heard p∧(∃q,q<p∧Gt F N0 t0 t q)∧∀x,p<x→t.g? x=some (N0+F.n)→¬t.counts x
structure Cu (F:Fam) (N0 t0 N j:Nat) (c:Bool) (φ:Nat→Nx) (t:Trace):Prop where
 deaf:∀i,i<N→Deaf t i=CI (φ i)
 above:∀i,N≤i→Deaf t i=0
 plain:∀x a b,touchAt t x=some a→Cl a.loc=some b→(b=F.wg∨b=F.ch)→a.kind= .plain→∀i,i<N→(i=0∨N0≤i)→Knows t i x
 said:∀x a b,touchAt t x=some a→Cl a.loc=some b→(b=F.wg∨b=F.ch)→a.kind= .said→Knows t (if c=true then N0+F.n else 0) x
 over:∀x g,t.g? x=some g→g≠0→t.counts x→(∃y,t.g? y=some 0∧HappensBefore t x y)∨(N0≤g∧g<N)
 norel:∀x,t0≤x→t.act? x≠some (.mark (.release F.sA))
 HR:t0≤t.size
 rel:∀k,k<j→late (φ (N0+k))→∃ρ,t0≤ρ∧RelBy F.sA t (N0+k) ρ
 acq:c=true→(φ (N0+F.n)= .ph .Cm∨Dj (φ (N0+F.n)))→∃q,Gt F N0 t0 t q
 Hg:c=true→Dj (φ (N0+F.n))→∃p,HW F N0 t0 t p
section
variable {F:Fam}{N0 t0 N j:Nat}{c:Bool}{φ:Nat→Nx}{t u:Trace}
def EvS(F:Fam)(A:Prop)(e:Event):Prop:=
 (∀a,(MemAct.ofEvent e).touch? =some a→(∃b,Cl a.loc=some b∧(b=F.wg∨b=F.ch))∧a.kind≠ .plain∧(a.kind= .said→A))∧e.loc≠ .mark (.release F.sA)
theorem Cu.noRace(h:Cu F N0 t0 N j c φ t)(Z:∀said,¬Race said t){i:Nat}(hi:i<N)(aa:i=0∨N0≤i){fn:FuncId}{pos:String}{es:Array Event}
  (ab:∀e∈es,EvS F (i=if c=true then N0+F.n else 0) e):∀said,¬Race said (t++MemOp.ofEvents i fn pos es):=by
 intro said;refine noRace_append (g:=i) (Z said) (fun op A=>by obtain⟨e,_,rfl⟩:=mem_ofEvents A;rfl) fun x a K op A d ac ae=>?_;obtain⟨e,he,rfl⟩:=mem_ofEvents A;obtain⟨⟨b,hb,O⟩,ag,hs⟩:=(ab e he).1 d ac;obtain⟨ah,hm,ak,ai⟩:=ae;have U:Cl a.loc=some b:=by rw [ah];exact hb
 rcases ai with q | q | ⟨_,q,aj⟩
 ·exact h.plain x a b K U O q i hi aa
 ·exact absurd q ag
 ·have:=h.said x a b K U O q
  rwa [← hs aj] at this
theorem Gt.app{q:Nat}(h:Gt F N0 t0 t q)(U:∀k ρ,k<F.n→RelBy F.sA t (N0+k) ρ→RelBy F.sA (t++u) (N0+k) ρ):Gt F N0 t0 (t++u) q:=by
 obtain⟨K,Z,aa,ab⟩:=h;have A:=lt_of_act? K;exact⟨by rw [act?_old A];exact K,by rw [g?_old A];exact Z,(heard_old A).2 aa,fun k O=>let ⟨ρ,a,b,d⟩:=ab k O;⟨ρ,a,b,U k ρ O d⟩⟩
theorem HW.app{p:Nat}(h:HW F N0 t0 t p)(Z:∀k ρ,k<F.n→RelBy F.sA t (N0+k) ρ→RelBy F.sA (t++u) (N0+k) ρ)(aa:∀x,t.size≤x→(t++u).g? x=some (N0+F.n)→¬(t++u).counts x):HW F N0 t0 (t++u) p:=by
 obtain⟨K,ab,ac,⟨q,ae,ag⟩,ah⟩:=h;have A:=lt_of_act? K;refine⟨by rw [act?_old A];exact K,by rw [g?_old A];exact ab,(heard_old A).2 ac,⟨q,ae,ag.app Z⟩,fun x ai O U=>?_⟩;rcases Nat.lt_or_ge x t.size with q | q
 ·exact ah x ai (by rw [← g?_old (u:=u) q];exact O) ((counts_old q).1 U)
 ·exact aa x q O U
theorem Mx(h:∀x g,t.g? x=some g→g≠0→t.counts x→(∃y,t.g? y=some 0∧HappensBefore t x y)∨(N0≤g∧g<N))(hu:∀op∈u,op.g=0∨(N0≤op.g∧op.g<N)∨op.act.touch? =none):
  ∀x g,(t++u).g? x=some g→g≠0→(t++u).counts x→(∃y,(t++u).g? y=some 0∧HappensBefore (t++u) x y)∨(N0≤g∧g<N):=by
 intro x g K O U;rcases Nat.lt_or_ge x t.size with q | q
 ·rcases h x g (by rw [← g?_old (u:=u) q];exact K) O ((counts_old q).1 U) with⟨y,A,hb⟩ | hh
  ·have ac:y<t.size:=by
    unfold Trace.g? at A;obtain⟨z,ae,_⟩:=Option.map_eq_some_iff.1 A;exact lt_size_of_getElem? ae
   exact .inl ⟨y,by rw [g?_old ac];exact A,hb_app u hb⟩
  ·exact .inr hh
 ·obtain⟨a,ag,_⟩:=U;obtain⟨op,Z,aa⟩:=touch_of ag;have ab:op.g=g:=by simpa [Trace.g?,Z] using K
  rcases getElem?_append_cases Z with⟨ai,_⟩ | ⟨_,ah⟩
  ·omega
  ·rcases hu op ah with z | z | z
   ·exact absurd (ab▸z) O
   ·exact .inr (ab▸z)
   ·rw [z] at aa;cases aa
theorem LY(h:∀x,t0≤x→t.act? x≠some (.mark (.release F.sA)))(hu:∀op∈u,op.act≠ .mark (.release F.sA)):∀x,t0≤x→(t++u).act? x≠some (.mark (.release F.sA)):=by
 intro x K e;obtain⟨op,O,A⟩:=Option.map_eq_some_iff.1 e;rcases getElem?_append_cases O with⟨_,U⟩ | ⟨_,Z⟩
 ·exact h x K (by rw [act?_of U,A])
 ·exact hu op Z A
theorem OZ{i g:Nat}(hu:∀op∈u,op.g=i)(A:i≠g):∀x,t.size≤x→(t++u).g? x=some g→¬(t++u).counts x:=by
 intro x aa K;obtain⟨op,O,U⟩:=Option.map_eq_some_iff.1 K;rcases getElem?_append_cases O with⟨ab,_⟩ | ⟨_,Z⟩
 ·omega
 ·exact absurd ((hu op Z).symm.trans U) A
theorem Lp{g:Nat}(hu:∀op∈u,op.g=g→op.act.touch? =none):∀x,t.size≤x→(t++u).g? x=some g→¬(t++u).counts x:=by
 intro x ab O U;obtain⟨a,Z,_⟩:=U;obtain⟨op,A,K⟩:=touch_of Z;rcases getElem?_append_cases A with⟨ac,_⟩ | ⟨_,aa⟩
 ·omega
 ·rw [hu op aa (by simpa [Trace.g?,A] using O)] at K;cases K
theorem Cu.app(h:Cu F N0 t0 N j c φ t){i:Nat}(hi:i<N){x:Nx}{fn:FuncId}{pos:String}{es:Array Event}(aG:j≤F.n)
  (av:deafBehind (CI (φ i)) es=CI x)
  (al:∀e∈es,(∀a b,(MemAct.ofEvent e).touch? =some a→Cl a.loc=some b→(b=F.wg∨b=F.ch)→a.kind≠ .plain∧(a.kind= .said→i=if c=true then N0+F.n else 0))∧e.loc≠ .mark (.release F.sA))
  (aw:(i=0∨N0≤i)∨∀e∈es,(MemAct.ofEvent e).touch? =none)
  (am:c=true→(φ (N0+F.n)= .ph .Cm∨Dj (φ (N0+F.n)))→∀k,k<F.n→late (φ (N0+k)))
  (ay:∀k,k<F.n→i=N0+k→late (φ i)→∀ρ,RelBy F.sA t i ρ→RelBy F.sA (t++MemOp.ofEvents i fn pos es) i ρ)
  (az:∀k,k<j→i=N0+k→late x→¬late (φ i)→∃ρ,t0≤ρ∧RelBy F.sA (t++MemOp.ofEvents i fn pos es) i ρ)
  (aA:c=true→i=N0+F.n→(x= .ph .Cm∨Dj x)→(∃q,Gt F N0 t0 (t++MemOp.ofEvents i fn pos es) q)∨(φ i= .ph .Cm∨Dj (φ i)))
  (aB:c=true→i=N0+F.n→Dj x→(∃p,HW F N0 t0 (t++MemOp.ofEvents i fn pos es) p)∨(Dj (φ i)∧∀e∈es,(MemAct.ofEvent e).touch? =none)):
  Cu F N0 t0 N j c (upd φ i x) (t++MemOp.ofEvents i fn pos es):=by
 generalize hu:MemOp.ofEvents i fn pos es=u at*;have aa:∀op∈u,op.g=i:=fun op K=>by rw [← hu] at K;obtain⟨e,_,rfl⟩:=mem_ofEvents K;rfl
 have aj:∀op∈u,∃e∈es,op.act=MemAct.ofEvent e:=fun op K=>by rw [← hu] at K;obtain⟨e,he,rfl⟩:=mem_ofEvents K;exact⟨e,he,rfl⟩
 have hold:∀{y a},touchAt (t++u) y=some a→touchAt t y=some a∨(Knows (t++u) i y∧∃e∈es,(MemAct.ofEvent e).touch? =some a):=by
  intro y a O;obtain⟨op,K,ar⟩:=touch_of O;rcases getElem?_append_cases K with⟨aH,aC⟩ | ⟨_,au⟩
  ·left;rw [touchAt_of aC];exact ar
  ·right;obtain⟨e,he,ab⟩:=aj op au;exact⟨by have:=knows_own K;rwa [aa op au] at this,e,he,by rw [← ab];exact ar⟩
 have ak:∀k ρ,k<F.n→late (φ (N0+k))→RelBy F.sA t (N0+k) ρ→RelBy F.sA (t++u) (N0+k) ρ:=by
  intro k ρ A ae Z;by_cases e:i=N0+k
  ·have:=ay k A e (e▸ae) ρ (e▸Z)
   rwa [e] at this
  ·exact Z.appOther aa e
 refine⟨fun ac ag=>?_,fun ac ag=>?_,fun y a b an hb ah A ac ag ai=>?_,fun y a b an hb ah A=>?_,Mx h.over fun op K=>?_,LY h.norel fun op K e=>?_,by simp;have:=h.HR;omega,fun k A ae=>?_,fun U O=>?_,fun U O=>?_⟩
 ·by_cases e:ac=i
  ·subst e;rw [upd_same,← hu,Deaf_own,h.deaf ac hi,av]
  ·rw [upd_ne _ _ e,Deaf_other t (Ne.symm e) u aa];exact h.deaf ac ag
 ·rw [Deaf_other t (by omega) u aa];exact h.above ac ag
 ·rcases hold an with q | ⟨_,e,he,ao⟩
  ·exact(h.plain y a b q hb ah A ac ag ai).app _
  ·exact absurd A ((al e he).1 a b ao hb ah).1
 ·rcases hold an with q | ⟨aD,e,he,ao⟩
  ·exact(h.said y a b q hb ah A).app _
  ·rw [← ((al e he).1 a b ao hb ah).2 A];exact aD
 ·rw [aa op K];rcases aw with(q | q) | q
  ·exact .inl q
  ·exact .inr (.inl ⟨q,hi⟩)
  ·obtain⟨e,he,ab⟩:=aj op K;rw [ab];exact .inr (.inr (q e he))
 ·obtain⟨ev,ap,ab⟩:=aj op K;rw [ab] at e;exact(al ev ap).2 (by
   obtain⟨loc,wr,aE⟩:=ev
   cases loc with
   | mark m=>simp only [MemAct.ofEvent,MemAct.mark.injEq] at e;rw [e]
   | obj r=>cases wr <;> cases aE <;> simp [MemAct.ofEvent] at e
   | _=>simp [MemAct.ofEvent] at e)
 ·by_cases e:i=N0+k
  ·subst e;rw [upd_same] at ae;by_cases aq:late (φ (N0+k))
   ·obtain⟨ρ,a,b⟩:=h.rel k A aq;exact⟨ρ,a,ak k ρ (by omega) aq b⟩
   ·exact az k A rfl ae aq
  ·rw [upd_ne _ _ (Ne.symm e)] at ae;obtain⟨ρ,a,b⟩:=h.rel k A ae;exact⟨ρ,a,b.appOther aa e⟩
 ·have old:(φ (N0+F.n)= .ph .Cm∨Dj (φ (N0+F.n)))→∃q,Gt F N0 t0 (t++u) q:=by
   intro O;obtain⟨q,aF⟩:=h.acq U O;exact⟨q,aF.app fun k ρ A Z=>ak k ρ A (am U O k A) Z⟩
  by_cases e:i=N0+F.n
  ·subst e;rw [upd_same] at O;rcases aA U rfl O with q | q
   ·exact q
   ·exact old q
  ·rw [upd_ne _ _ (Ne.symm e)] at O;exact old O
 ·by_cases e:i=N0+F.n
  ·subst e;rw [upd_same] at O;rcases aB U rfl O with q | ⟨q,hm⟩
   ·exact q
   ·obtain⟨p,ai⟩:=h.Hg U q;exact⟨p,ai.app (fun k ρ A Z=>ak k ρ A (am U (.inr q) k A) Z) (Lp fun op K _=>by obtain⟨ev,ap,ab⟩:=aj op K;rw [ab];exact hm ev ap)⟩
  ·rw [upd_ne _ _ (Ne.symm e)] at O;obtain⟨p,ai⟩:=h.Hg U O;exact⟨p,ai.app (fun k ρ A Z=>ak k ρ A (am U (.inr O) k A) Z) (OZ aa e)⟩
end
end Pal
namespace Pal
open Go Go.Conc
open Go.ConcN (upd upd_same upd_ne sumTo sumTo_upd sumTo_upd_out sumTo_congr le_sumTo sumTo_le fork_knows RelBy)
section
variable {F:Fam}{N0 t0 N j:Nat}{c:Bool}{φ:Nat→Nx}{t u:Trace}{v wt sm v' wt' sm':Nat}{cl:Bool}
theorem Lu{x:Nx}(h:Dj x):late x:=by
 cases x with
 | gone d=>trivial
 | ph p=>exact h.elim
theorem J6{α:Type}(f:Nat→α)(i:Nat):upd f i (f i)=f:=by
 funext a;unfold upd;split
 ·rename_i e;rw [e]
 ·rfl
theorem BD.IK(A:BD F N0 N j c φ v wt sm cl)(K:c=true)(h:φ (N0+F.n)= .ph .Cm∨Dj (φ (N0+F.n))):∀k,k<F.n→late (φ (N0+k)):=fun k O=>
 Lu (A.Kb K (h.elim (fun e=> .inr (.inr (.inr (.inl e)))) fun e=> .inr (.inr (.inr (.inr e)))) k (by rw [A.cj K];exact O))
theorem P2{m:Mark}(A:∀a,m≠ .read a)(K:∀a,m≠ .write a):(MemAct.ofEvent (Fam.CQ m)).touch? =none:=by
 cases m <;> first | rfl | exact absurd rfl (A _) | exact absurd rfl (K _)
theorem NF(p:Ph){es:Array Event}{nx:Nx}(A:F.act p v wt sm=some ((v',wt',sm'),es,nx)):
  (∀e∈es,EvS F (p= .ET∨∃j,p= .Es j) e)∧deafBehind (CI (.ph p)) es=CI nx∧(∀e∈es,∀B,F.wg<B→(MemAct.ofEvent e).low B):=by
 have am:∀b w,(MemAct.ofEvent ⟨.cell F.sA,w,b⟩).touch? =some ⟨.cell F.sA,w,if b then .atomic else .plain⟩:=by intro b w;cases b <;> cases w <;> rfl
 have ab:∀(a:Addr) w (T:Prop),a.block=F.wg→EvS F T ⟨.cell a,w,true⟩:=by
  intro a w T hb;refine⟨fun x O=>?_,by simp⟩;have:x=⟨.cell a,w,.atomic⟩:=by cases w <;> (simp [MemAct.ofEvent,MemAct.touch?] at O;exact O.symm)
  subst this;exact⟨⟨F.wg,by simp [Cl,hb],.inl rfl⟩,by simp,by simp⟩
 have ac:∀(a:Addr) w B,a.block=F.wg→F.wg<B→(MemAct.ofEvent ⟨.cell a,w,true⟩).low B:=by
  intro a w B hb K;cases w <;> simp [MemAct.ofEvent,MemAct.low,Loc.low,hb,K]
 have aa:∀(m:Mark) (T:Prop),(∀a,m≠ .read a)→(∀a,m≠ .write a)→(∀a,m≠ .release a)→EvS F T (Fam.CQ m):=by
  intro m T aj ak al;exact⟨fun x O=>(by rw [P2 aj ak] at O;cases O),fun e=>al _ (Loc.mark.inj e)⟩
 have ae:F.mA.block=F.wg:=rfl;have Z:F.sA.block=F.wg:=rfl;have CY:∀(T:Prop),∀e∈semEvents F.mA,EvS F T e:=by
  intro T e he;simp only [semEvents,List.mem_toArray,List.mem_cons,List.not_mem_nil,or_false] at he;rcases he with rfl | rfl | rfl | rfl
  ·exact aa .disable T (by simp) (by simp) (by simp)
  ·exact ab _ _ _ ae
  ·exact ab _ _ _ ae
  ·exact aa .enable T (by simp) (by simp) (by simp)
 have ai:∀e∈semEvents F.mA,∀B,F.wg<B→(MemAct.ofEvent e).low B:=by
  intro e he B K;simp only [semEvents,List.mem_toArray,List.mem_cons,List.not_mem_nil,or_false] at he;rcases he with rfl | rfl | rfl | rfl
  ·trivial
  ·exact ac _ _ _ ae K
  ·exact ac _ _ _ ae K
  ·trivial
 have ag:∀(T:Prop),∀e∈(#[Fam.Dm F.sA,Fam.Ga F.sA]:Array Event),EvS F T e:=by
  intro T e he;simp only [List.mem_toArray,List.mem_cons,List.not_mem_nil,or_false] at he;rcases he with rfl | rfl <;> exact ab _ _ _ Z
 have ah:∀e∈(#[Fam.Dm F.sA,Fam.Ga F.sA]:Array Event),∀B,F.wg<B→(MemAct.ofEvent e).low B:=by
  intro e he B K;simp only [List.mem_toArray,List.mem_cons,List.not_mem_nil,or_false] at he;rcases he with rfl | rfl <;> exact ac _ _ _ Z K
 have one:∀{e:Event} {T:Prop},EvS F T e→∀x∈(#[e]:Array Event),EvS F T x:=by
  intro e T h x O;simp at O;subst O;exact h
 have U:∀{e:Event},(∀B,F.wg<B→(MemAct.ofEvent e).low B)→∀x∈(#[e]:Array Event),∀B,F.wg<B→(MemAct.ofEvent x).low B:=by
  intro e h x O;simp at O;subst O;exact h
 cases p <;> simp only [Fam.act] at A <;> (try (cases A;done))
 ·cases A;exact⟨one (aa _ _ (by simp) (by simp) (by simp)),rfl,U fun B K=>K⟩
 ·cases A;exact⟨one (aa _ _ (by simp) (by simp) (by simp)),rfl,U fun B K=>trivial⟩
 ·split at A
  ·cases A;exact⟨ag _,by split <;> rfl,ah⟩
  ·cases A
 ·split at A
  ·cases A;exact⟨one (ab _ _ _ Z),rfl,U fun B K=>ac _ _ _ Z K⟩
  ·cases A
 ·split at A
  ·cases A;exact⟨one (ab _ _ _ Z),rfl,U fun B K=>ac _ _ _ Z K⟩
  ·cases A
 ·split at A
  ·cases A;exact⟨CY _,rfl,ai⟩
  ·cases A
 ·cases A;exact⟨one (aa _ _ (by simp) (by simp) (by simp)),rfl,U fun B K=>trivial⟩
 ·split at A
  ·cases A;exact⟨one (ab _ _ _ Z),by split <;> rfl,U fun B K=>ac _ _ _ Z K⟩
  ·cases A
 ·split at A
  ·split at A
   ·cases A;exact⟨ag _,rfl,ah⟩
   ·cases A;exact⟨one (ab _ _ _ Z),rfl,U fun B K=>ac _ _ _ Z K⟩
  ·cases A
 ·cases A;refine⟨one ⟨fun x O=>?_,by simp [Fam.CQ]⟩,rfl,U fun B K=>K⟩;simp [Fam.CQ,MemAct.ofEvent,MemAct.touch?] at O;subst O;exact⟨⟨F.wg,rfl,.inl rfl⟩,by simp,fun _=> .inl rfl⟩
 ·split at A
  ·cases A;exact⟨CY _,rfl,ai⟩
  ·cases A
 ·split at A
  ·cases A;exact⟨one (ab _ _ _ Z),rfl,U fun B K=>ac _ _ _ Z K⟩
  ·cases A
 ·cases A;exact⟨one (aa _ _ (by simp) (by simp) (by simp)),rfl,U fun B K=>trivial⟩
 ·cases A;exact⟨one (aa _ _ (by simp) (by simp) (by simp)),rfl,U fun B K=>K⟩
 ·cases A;exact⟨one (aa _ _ (by simp) (by simp) (by simp)),rfl,U fun B K=>trivial⟩
 ·split at A
  ·cases A;exact⟨ag _,by split <;> rfl,ah⟩
  ·cases A
 ·cases A;refine⟨one ⟨fun x O=>?_,by simp [Fam.CQ]⟩,rfl,U fun B K=>K⟩;simp [Fam.CQ,MemAct.ofEvent,MemAct.touch?] at O;subst O;exact⟨⟨F.wg,rfl,.inl rfl⟩,by simp,fun _=> .inr ⟨_,rfl⟩⟩
 ·cases A;exact⟨one (aa _ _ (by simp) (by simp) (by simp)),rfl,U fun B K=>trivial⟩
 all_goals
  cases A;exact⟨by simp,rfl,by simp⟩
theorem Qk(p:Ph){es:Array Event}{nx:Nx}(A:F.act p v wt sm=some ((v',wt',sm'),es,nx)){k:Nat}(hw:FB F k (.ph p))(K:late (.ph p)):
  ∀m e,es[m]? =some e→(MemAct.ofEvent e).touch? =none∨((∃ad wr,e=⟨.cell ad,wr,true⟩)∧0<deafBehind (CI (.ph p)) (es.extract 0 m)):=by
 have two:∀m e,(#[Fam.Dm F.sA,Fam.Ga F.sA]:Array Event)[m]? =some e→(∃ad wr,e=⟨.cell ad,wr,true⟩)∧0<deafBehind 1 ((#[Fam.Dm F.sA,Fam.Ga F.sA]:Array Event).extract 0 m):=by
  intro m e h
  match m with
  | 0=>simp at h;subst h;exact⟨⟨_,_,rfl⟩,by simp [deafBehind]⟩
  | 1=>simp at h;subst h;exact⟨⟨_,_,rfl⟩,by simp [deafBehind,Fam.Dm]⟩
  | m+2=>simp at h
 cases p <;> simp only [FB] at hw <;> (try exact hw.elim) <;> simp only [late] at K <;> (try exact K.elim) <;> simp only [Fam.act] at A <;> (try (cases A;done))
 ·cases A;intro m e h
  match m with
  | 0=>simp at h;subst h;exact .inl rfl
  | m+1=>simp at h
 ·split at A
  ·cases A;exact fun m e h=> .inr (two m e h)
  ·cases A
 ·split at A
  ·cases A;intro m e h
   match m with
   | 0=>simp at h;subst h;exact .inr ⟨⟨_,_,rfl⟩,by simp [deafBehind,CI]⟩
   | m+1=>simp at h
  ·cases A
 ·split at A
  ·cases A;intro m e h
   match m with
   | 0=>simp at h;subst h;exact .inr ⟨⟨_,_,rfl⟩,by simp [deafBehind,CI]⟩
   | m+1=>simp at h
  ·cases A
 ·split at A
  ·cases A;intro m e h
   match m with
   | 0=>simp [semEvents] at h;subst h;exact .inl rfl
   | 1=>simp [semEvents] at h;subst h;exact .inr ⟨⟨_,_,rfl⟩,by simp [deafBehind,CI,semEvents]⟩
   | 2=>simp [semEvents] at h;subst h;exact .inr ⟨⟨_,_,rfl⟩,by simp [deafBehind,CI,semEvents]⟩
   | 3=>simp [semEvents] at h;subst h;exact .inl rfl
   | m+4=>simp [semEvents] at h
  ·cases A
theorem Cu.act(h:Cu F N0 t0 N j c φ t)(K:BD F N0 N j c φ v wt sm cl){i:Nat}(hi:i<N){p:Ph}(O:φ i= .ph p){es:Array Event}{nx:Nx}(A:F.act p v wt sm=some ((v',wt',sm'),es,nx))(fn:FuncId)(pos:String):
  Cu F N0 t0 N j c (upd φ i nx) (t++MemOp.ofEvents i fn pos es)∧(∀e∈es,EvS F (i=if c=true then N0+F.n else 0) e)∧(i=0∨N0≤i):=by
 obtain⟨ah,al,_⟩:=NF p A;have aw:=K.size;have am:=K.jn;have an:(p= .ET∨∃j,p= .Es j)→i=if c=true then N0+F.n else 0:=by
  rintro(rfl | ⟨ay,rfl⟩)
  ·rcases K.DD hi with rfl | ⟨a,b⟩ | ⟨k,Z,rfl⟩ | ⟨U,rfl⟩
   ·obtain⟨q,ac,hm⟩:=K.main;rw [O] at ac;cases ac;exact hm.elim
   ·have:=K.old i a b;rw [O] at this;exact this.elim
   ·have:=K.work k Z;rw [O] at this;exact this.elim
   ·rw [if_pos U]
  ·rcases K.DD hi with rfl | ⟨a,b⟩ | ⟨k,Z,rfl⟩ | ⟨U,rfl⟩
   ·obtain⟨q,ac,hm⟩:=K.main;rw [O] at ac;cases ac;obtain⟨_,_,rfl⟩:=hm;rfl
   ·have:=K.old i a b;rw [O] at this;exact this.elim
   ·have:=K.work k Z;rw [O] at this;exact this.elim
   ·have:=K.cls U;rw [O] at this;exact this.elim
 have ai:∀e∈es,EvS F (i=if c=true then N0+F.n else 0) e:=fun e he=>⟨fun a ae=>let ⟨x,y,z⟩:=(ah e he).1 a ae;⟨x,y,fun q=>an (z q)⟩,(ah e he).2⟩
 have aj:i=0∨N0≤i:=by
  rcases K.DD hi with rfl | ⟨a,b⟩ | ⟨k,Z,rfl⟩ | ⟨U,rfl⟩
  ·exact .inl rfl
  ·have:=K.old i a b;rw [O] at this;exact this.elim
  ·exact .inr (by omega)
  ·exact .inr (by omega)
 refine⟨h.app hi am (by rw [O];exact al) (fun e he=>⟨fun a b ae hb az=>⟨((ai e he).1 a ae).2.1,((ai e he).1 a ae).2.2⟩,(ah e he).2⟩) (.inl aj) (fun U aa=>K.IK U aa) (fun k Z e ag ρ ao=>?_) (fun k Z e ag ak=>?_) (fun U e aa=>?_) (fun U e aa=>?_),ai,aj⟩
 ·subst e;rw [O] at ag;refine ao.appOwn fn pos es fun m e he=>?_;have ab:k<j∨(c=true∧F.n=k):=by
   rcases K.DD hi with q | ⟨a,b⟩ | ⟨k',aA,q⟩ | ⟨U,q⟩
   ·have:=K.pos;omega
   ·omega
   ·left;omega
   ·omega
  rcases ab with ab | ⟨_,q⟩
  ·have hw:=K.work k ab;rw [O] at hw;rw [h.deaf _ hi,O];exact Qk p A hw ag m e he
  ·omega
 ·subst e;rw [O] at ak;have hw:=K.work k Z;rw [O] at hw;have ap:p= .Ei:=by
   cases p <;> simp only [FB] at hw <;> (try exact hw.elim) <;> simp [late] at ak
   ·simp [Fam.act] at A
   ·rfl
   ·simp only [Fam.act] at A;cases A;exact ag.elim
  subst ap;simp only [Fam.act] at A;cases A;exact⟨t.size,h.HR,.new (by rw [h.deaf _ hi,O];rfl) fn pos⟩
 ·subst e;left;have hw:=K.cls U;rw [O] at hw;have aq:p= .Et∧nx= .ph .Cm:=by
   rcases aa with rfl | aa
   ·cases p <;> simp only [Ff] at hw <;> (try exact hw.elim) <;> simp only [Fam.act] at A <;> (try (cases A;done))
    ·split at A
     ·split at A <;> cases A
     ·cases A
    ·split at A
     ·split at A <;> cases A
     ·cases A
    ·split at A <;> cases A
    ·split at A <;> cases A
    ·exact⟨rfl,rfl⟩
   ·cases nx with
    | ph q=>exact aa.elim
    | gone d=>
     exfalso;cases p <;> simp only [Ff] at hw <;> (try exact hw.elim) <;> simp only [Fam.act] at A <;> (try (cases A;done))
     ·split at A
      ·split at A <;> cases A
      ·cases A
     ·split at A
      ·split at A <;> cases A
      ·cases A
     ·split at A <;> cases A
     ·split at A <;> cases A
  obtain⟨rfl,rfl⟩:=aq;simp only [Fam.act] at A;cases A;have ar:MemOp.ofEvents (N0+F.n) fn pos #[Fam.CQ (.acquire F.sA)]= #[{g:=N0+F.n,fn,pos,act:= .mark (.acquire F.sA)}]:=by rw [ofEvents_eq];simp [Fam.CQ,MemAct.ofEvent]
  rw [ar];have au:(t++ #[({g:=N0+F.n,fn,pos,act:= .mark (.acquire F.sA)}:MemOp)])[t.size]? =some {g:=N0+F.n,fn,pos,act:= .mark (.acquire F.sA)}:=by simp
  refine⟨t.size,by rw [act?_of au],by simp [Trace.g?],⟨N0+F.n,by simp [Trace.g?],by rw [deaf_old (Nat.le_refl _)];have:=h.deaf _ hi;rw [O] at this;exact this⟩,fun k Z=>?_⟩;have av:=K.Kb U (.inr (.inr (.inl O)));have ab:k<j:=by rw [K.cj U];exact Z
  obtain⟨ρ,a,b⟩:=h.rel k ab (Lu (av k ab));exact⟨ρ,a,lt_of_act? b.act,b.appOther (g:=N0+F.n) (by simp) (by omega)⟩
 ·subst e;exfalso;have hw:=K.cls U;rw [O] at hw;cases nx with
  | ph q=>exact aa.elim
  | gone d=>
   cases p <;> simp only [Ff] at hw <;> (try exact hw.elim) <;> simp only [Fam.act] at A <;> (try (cases A;done))
   ·split at A
    ·split at A <;> cases A
    ·cases A
   ·split at A
    ·split at A <;> cases A
    ·cases A
   ·split at A <;> cases A
   ·split at A <;> cases A
theorem Cu.B9(h:Cu F N0 t0 N j c φ t)(ar:BD F N0 N j c φ v wt sm cl)(hu:∀op∈u,op.act.touch? =none∧∀m,op.act≠ .mark m):Cu F N0 t0 N j c φ (t++u):=by
 have ah:∀g,Deaf (t++u) g=Deaf t g:=by
  intro g;obtain⟨l⟩:=u;rw [Deaf_append]
  induction l generalizing t with
  | nil=>rfl
  | cons y l au=>
   have O:=(hu y (by simp)).2;have aj:deafStep g (Deaf t g) y=Deaf t g:=by
    unfold deafStep;split <;> first | (rename_i e;exact absurd e (O _)) | rfl
   rw [List.foldl_cons,aj];have key:∀(l:List MemOp) (d:Nat),(∀op∈l,∀m,op.act≠ .mark m)→l.foldl (deafStep g) d=d:=by
    intro l
    induction l with
    | nil=>intro d _;rfl
    | cons z l ak=>
     intro d aa;have al:=aa z (by simp);have am:deafStep g d z=d:=by
      unfold deafStep;split <;> first | (rename_i e;exact absurd e (al _)) | rfl
     rw [List.foldl_cons,am];exact ak d fun op A=>aa op (by simp [A])
   exact key l _ fun op A=>(hu op (by simp at A ⊢;exact .inr A)).2
 have hold:∀{y a},touchAt (t++u) y=some a→touchAt t y=some a:=by
  intro y a K;obtain⟨op,A,ab⟩:=touch_of K;rcases getElem?_append_cases A with⟨av,an⟩ | ⟨_,ao⟩
  ·rw [touchAt_of an];exact ab
  ·rw [(hu op ao).1] at ab;cases ab
 have ai:∀g x,t.size≤x→(t++u).g? x=some g→¬(t++u).counts x:=fun g=>Lp fun op A _=>(hu op A).1;have U:∀g ρ,RelBy F.sA t g ρ→RelBy F.sA (t++u) g ρ:=fun g ρ U=>U.app fun x K ap=>ai g x K ap;refine⟨fun i hi=>by rw [ah];exact h.deaf i hi,fun i hi=>by rw [ah];exact h.above i hi,fun y a b O hb ac Z i hi ae=>(h.plain y a b (hold O) hb ac Z i hi ae).app _,fun y a b O hb ac Z=>(h.said y a b (hold O) hb ac Z).app _,
  Mx h.over fun op A=> .inr (.inr (hu op A).1),LY h.norel fun op A=>(hu op A).2 _,by simp;have:=h.HR;omega,fun k Z aa=>let ⟨ρ,a,b⟩:=h.rel k Z aa;⟨ρ,a,U _ _ b⟩,
  fun ag K=>let ⟨q,aq⟩:=h.acq ag K;⟨q,aq.app fun k ρ _=>U _ ρ⟩,fun ag K=>let ⟨p,ae⟩:=h.Hg ag K;⟨p,ae.app (fun k ρ _=>U _ ρ) (ai _)⟩⟩
theorem Cu.R7(h:Cu F N0 t0 N j c φ t){O:Nat→Nx}(aa:∀i,i<N→CI (O i)=CI (φ i))(ab:∀k,k<j→late (O (N0+k))→late (φ (N0+k)))(U:c=true→O (N0+F.n)=φ (N0+F.n)):Cu F N0 t0 N j c O t:=
 ⟨fun i hi=>by rw [aa i hi];exact h.deaf i hi,h.above,h.plain,h.said,h.over,h.norel,h.HR,fun k Z A=>h.rel k Z (ab k Z A),fun K A=>h.acq K (by rwa [U K] at A),fun K A=>h.Hg K (by rwa [U K] at A)⟩
theorem Cu.spawn(h:Cu F N0 t0 N j c φ t)(ab:BD F N0 N j c φ v wt sm cl)(am:c=false){Z:Nat→Nx}{ag:Nat}{ah:Bool}(an:∀i,i<N→CI (Z i)=CI (φ i))(ao:CI (Z N)=0)(ap:CI (φ 0)=0)
  (aq:∀k,k<ag→late (Z (N0+k))→k<j∧late (φ (N0+k))) (ac:ah=true→N0+F.n=N∧Z (N0+F.n)= .ph .BZ)
  {x y:MemOp} (A:x.g=0∧x.act= .go N) (ai:y.g=N∧y.act= .start):Cu F N0 t0 (N+1) ag ah Z (t++ #[x,y]):=by
 have aj:0<N:=by have:=ab.size;have:=ab.pos;omega
 have hu:∀op∈(#[x,y]:Array MemOp),op.act.touch? =none∧∀m,op.act≠ .mark m:=by
  intro op ak;simp only [List.mem_toArray,List.mem_cons,List.not_mem_nil,or_false] at ak;rcases ak with rfl | rfl
  ·rw [A.2];exact⟨rfl,by simp⟩
  ·rw [ai.2];exact⟨rfl,by simp⟩
 have K:=h.B9 ab hu;have al:∀z,Knows t 0 z→Knows (t++ #[x,y]) N z:=fun z O=>fork_knows A ai (by rw [h.deaf 0 aj];exact ap) (h.above N (Nat.le_refl _)) O;have hold:∀{z a},touchAt (t++ #[x,y]) z=some a→touchAt t z=some a:=by
  intro z a O;obtain⟨op,ar,ae⟩:=touch_of O;rcases getElem?_append_cases ar with⟨aB,au⟩ | ⟨_,av⟩
  ·rw [touchAt_of au];exact ae
  ·rw [(hu op av).1] at ae;cases ae
 refine⟨fun i hi=>?_,fun i hi=>K.above i (by omega),fun z a b O hb aa U i hi aw=>?_,fun z a b O hb aa U=>?_,fun z g ay az aA=>?_,K.norel,K.HR,fun k U A=>?_,fun e A=>?_,fun e A=>?_⟩
 ·rcases Nat.lt_or_ge i N with q | q
  ·rw [an i q];exact K.deaf i q
  ·obtain rfl:i=N:=by omega
   rw [ao];exact K.above i (Nat.le_refl _)
 ·rcases Nat.lt_or_ge i N with q | q
  ·exact K.plain z a b O hb aa U i q aw
  ·obtain rfl:i=N:=by omega
   exact al z (h.plain z a b (hold O) hb aa U 0 aj (.inl rfl))
 ·have:=h.said z a b (hold O) hb aa U;rw [am] at this;simp only [Bool.false_eq_true,if_false] at this;split
  ·rename_i e;rw [(ac e).1];exact al z this
  ·exact this.app _
 ·rcases K.over z g ay az aA with q | q
  ·exact .inl q
  ·exact .inr ⟨q.1,by omega⟩
 ·obtain⟨a,b⟩:=aq k U A;exact K.rel k a b
 ·have:=(ac e).2;rw [this] at A;rcases A with q | q
  ·cases q
  ·exact q.elim
 ·have:=(ac e).2;rw [this] at A;exact A.elim
end
end Pal
namespace Pal
open Go Go.Conc
open Go.ConcN (upd upd_same upd_ne sumTo sumTo_upd sumTo_upd_out sumTo_congr le_sumTo sumTo_le fork_knows RelBy)
def Dn(N:Nat)(A r:Nat→Rk):Prop:=∃i,i<N∧Rk.sub (A i) (r i)∧∀j,j≠i→A j=r j
theorem Dn.wf:∀N,WellFounded (Dn N)
 | 0=>⟨fun _=>⟨_,fun _ ⟨_,h,_⟩=>by omega⟩⟩
 | N+1=>⟨by
  have key:∀x:Rk,∀r:Nat→Rk,r N=x→Acc (Dn (N+1)) r:=by
   intro x
   induction x using Rk.wf.induction with
   | _ x U=>
    intro r
    induction r using (Dn.wf N).induction with
    | _ r Z=>
     intro e
     refine⟨_,fun A ⟨i,hi,hs,K⟩=>?_⟩
     by_cases O:i=N
     ·subst O;exact U (A i) (by rw [← e];exact hs) A rfl
     ·exact Z A ⟨i,by omega,hs,K⟩ (by rw [K N (Ne.symm O),e])
  exact fun r=>key _ r rfl⟩
def chain:Nat→Rk
 | 0=> .leaf
 | n+1=> .node fun _=>chain n
theorem Qb(n:Nat)(w:World):Rk.sub (chain n) (chain (n+1)):=⟨_,w,rfl,rfl⟩
def Mu:=Nat×(Nat×((Nat→Rk)×Nat))
def Mu.lt(a b:Mu):Prop:=a.1<b.1∨(a.1=b.1∧a.2.1=b.2.1∧(Dn b.2.1 a.2.2.1 b.2.2.1∨(a.2.2.1=b.2.2.1∧a.2.2.2<b.2.2.2)))
theorem Mu.wf:WellFounded Mu.lt:=⟨by
 have key:∀(A:Nat) (N:Nat) (r:Nat→Rk) (B:Nat),Acc Mu.lt (A,N,r,B):=by
  intro A
  induction A using Nat.strongRecOn with
  | _ A ab=>
   intro N r
   induction r using (Dn.wf N).induction with
   | _ r ac=>
    intro B
    induction B using Nat.strongRecOn with
    | _ B ae=>
     refine⟨_,fun⟨ag,ah,U,B'⟩ h=>?_⟩
     rcases h with h | ⟨K,O,h | ⟨Z,aa⟩⟩
     ·exact ab ag h ah U B'
     ·simp only at K O h;subst K O;exact ac U h B'
     ·simp only at K O Z aa;subst K O Z;exact ae B' aa
 exact fun⟨A,N,r,B⟩=>key A N r B⟩
def wt(n:Nat):Nx→Nat
 | .gone _=>0
 | .ph p=>match p with
  | .BN _=>10 | .BY=>9 | .Ei=>8 | .FJ=>7 | .EJ=>6 | .Eg=>5 | .Ep=>4 | .CW=>3
  | .BZ=>3*n+25 | .DL m=>3*m+20 | .EK m=>3*m+19 | .Ft=>14 | .ET=>13 | .Cf=>12 | .Er=>11 | .Dy=>10 | .Fp=>9 | .Et=>8 | .Cm=>7
  | .Dw j=>5*n+60+20*(n - j) | .Fq j=>5*n+59+20*(n - j) | .EP j=>5*n+58+20*(n - j) | .Es j=>5*n+57+20*(n - j) | .D3 j=>5*n+56+20*(n - j) | .Dp j=>5*n+55+20*(n - j)
  | .DN=>5*n+60 | .BC _ _=>2
theorem N1{F:Fam}{p:Ph}{v w sm v' w' sm':Nat}{es:Array Event}{nx:Nx}(h:F.act p v w sm=some ((v',w',sm'),es,nx)):wt F.n nx<wt F.n (.ph p):=by
 cases p <;> simp only [Fam.act] at h <;> (try (cases h;done))
 ·cases h;simp [wt]
 ·cases h;simp [wt]
 ·split at h
  ·cases h;split <;> simp [wt]
  ·cases h
 ·split at h
  ·cases h;simp [wt]
  ·cases h
 ·split at h
  ·cases h;simp [wt]
  ·cases h
 ·split at h
  ·cases h;simp [wt]
  ·cases h
 ·cases h;simp [wt]
 ·split at h
  ·cases h;split <;> simp [wt] <;> omega
  ·cases h
 ·split at h
  ·split at h <;> cases h <;> simp [wt] <;> omega
  ·cases h
 ·cases h;simp [wt]
 ·split at h
  ·cases h;simp [wt]
  ·cases h
 ·split at h
  ·cases h;simp [wt]
  ·cases h
 ·cases h;simp [wt]
 ·cases h;simp [wt]
 ·cases h;simp [wt]
 ·split at h
  ·cases h;split <;> simp [wt]
  ·cases h
 ·cases h;simp [wt]
 ·cases h;simp [wt]
 all_goals cases h;simp [wt]
inductive Cj (P:Program) (F:Fam) (main:Bool):Nx→Rk→Bool→Goroutine→St→Prop
 | walk {p:Ph} {r:Rk} {g:Goroutine} {s:St}:main=Fam.Ch p→(Fam.CB p=true→s= .quiet)→Jr P main (JQ (Stop P F p)) r g s→Cj P F main (.ph p) r true g s
 | again {A:List Nat} {vs:List Value} {r:Rk} {g:Goroutine} {s:St} {z:Value}:main=true→Stop P F (.BC A vs) g s→Cj P F main (.ph (.BC A vs)) r true {parked g #[rcase F.ch z] (.recv true) with status:= .running} s
 | DM {A:List Nat} {vs:List Value} {r:Rk} {g:Goroutine} {s:St} {z:Value}:main=true→Stop P F (.BC A vs) g s→Cj P F main (.ph (.BC A vs)) r false (parked g #[rcase F.ch z] (.recv true)) s
 | D1 {k:Nat} {r:Rk} {g:Goroutine} {s:St} {v z:Value}:main=false→F.msg k v s.E→s.q=false→Way P false (Stop P F .BY) (served g undef) s→Cj P F main (.ph (.BN k)) r false (parked g #[scase F.ch v z] .send) s
 | blk {r:Rk} {g:Goroutine} {s:St}:main=false→Stop P F .Cf g s→Cj P F main (.ph .Cf) r false {g with status:= .blocked} s
 | gone {q d:Nat} {g:Goroutine}:main=false→QuitsD P q d g→Cj P F main (.gone d) (chain q) true g .quiet
section
variable {P:Program}{F:Fam}{main:Bool}
theorem Jr.running{p:Ph}{r:Rk}{g:Goroutine}{s:St}(h:Jr P main (JQ (Stop P F p)) r g s):g.status= .running:=by
 cases r with
 | leaf=>obtain⟨s₀,_,hs⟩:=h;exact hs.law.run
 | node f=>
  rcases h with⟨s₀,_,hs⟩ | ⟨A,_⟩
  ·exact hs.law.run
  ·exact A
theorem Jr.at_{Q:GP}{r:Rk}{g:Goroutine}{s:St}(h:Q g s):Jr P main Q r g s:=by
 cases r with
 | leaf=>exact h
 | node f=>exact .inl h
theorem Cj.awake{x:Nx}{r:Rk}{b:Bool}{g:Goroutine}{s:St}(h:Cj P F main x r b g s):Go.Conc.awake g:=by
 cases h with
 | walk _ _ A=>exact awake_of (.inl A.running)
 | again _ _=>exact awake_of (.inl rfl)
 | DM _ _=>exact awake_of (.inr (.inl rfl))
 | D1 _ _ _ _=>exact awake_of (.inr (.inl rfl))
 | blk _ _=>exact awake_of (.inr (.inl rfl))
 | gone _ K=>exact awake_of (K.status.elim .inl fun x=> .inr (.inr x))
theorem Pc{g:Goroutine}(h:g.status= .running):{({g with status:= .blocked}:Goroutine) with status:= .running}=g:=by
 obtain⟨a,b,c,d,e⟩:=g;simp only at h;subst h;rfl
theorem Cj.woken{x:Nx}{r:Rk}{b:Bool}{o:Goroutine}{s:St}(h:Cj P F main x r b o s){g g':Goroutine}{w':World}{cl:Bool}{k:Nat}(Z:F.ChanAt w' cl k)(aj:cl=true→∀k,x≠ .ph (.BN k)):
  ∃aa,Cj P F main x r aa (Go.Conc.woken P g g' w' o) s∧(b=true→aa=true)∧(mayWake P g=true→g'.status= .running→(x= .ph .Cf∨cl=true)→aa=true):=by
 have hw:∀(o:Goroutine),mayWake P g=true→g'.status= .running→Go.Conc.woken P g g' w' o=o.again w':=by
  intro o A O;unfold Go.Conc.woken;rw [if_pos (by simp [A,O])]
 have U:∀(o:Goroutine),Go.Conc.woken P g g' w' o=o.again w'∨Go.Conc.woken P g g' w' o=o:=by
  intro o;unfold Go.Conc.woken;split
  ·exact .inl rfl
  ·exact .inr rfl
 cases h with
 | walk A O ab=>exact⟨true,by rw [woken_run ab.running];exact .walk A O ab,fun _=>rfl,fun _ _ _=>rfl⟩
 | again A hs=>exact⟨true,by rw [woken_run rfl];exact .again A hs,fun _=>rfl,fun _ _ _=>rfl⟩
 | @DM al vs _ go _ z A hs=>
  cases cl with
  | false=>
   have:=again_recv_open (g:=go) (z:=z) (sh:= .recv true) (w:=w') Z;rcases U (parked go #[rcase F.ch z] (.recv true)) with e | e
   ·exact⟨false,by rw [e,this];exact .DM A hs,fun e=>e,fun _ _ h=>by simp at h⟩
   ·exact⟨false,by rw [e];exact .DM A hs,fun e=>e,fun _ _ h=>by simp at h⟩
  | true=>
   have:=again_recv_closed (g:=go) (z:=z) (sh:= .recv true) (w:=w') Z;by_cases K:mayWake P g=true∧g'.status= .running
   ·exact⟨true,by rw [hw _ K.1 K.2,this];exact .again A hs,fun e=>rfl,fun _ _ _=>rfl⟩
   ·rcases U (parked go #[rcase F.ch z] (.recv true)) with e | e
    ·exact⟨true,by rw [e,this];exact .again A hs,fun _=>rfl,fun a b=>absurd ⟨a,b⟩ K⟩
    ·exact⟨false,by rw [e];exact .DM A hs,fun e=>e,fun a b=>absurd ⟨a,b⟩ K⟩
 | @D1 k' _ go _ v z A O ac ae=>
  cases cl with
  | true=>exact absurd rfl (aj rfl k')
  | false=>
   have:=again_send_open (g:=go) (v:=v) (z:=z) (sh:= .send) (w:=w') Z;rcases U (parked go #[scase F.ch v z] .send) with e | e
   ·exact⟨false,by rw [e,this];exact .D1 A O ac ae,fun e=>e,fun _ _ h=>by simp at h⟩
   ·exact⟨false,by rw [e];exact .D1 A O ac ae,fun e=>e,fun _ _ h=>by simp at h⟩
 | @blk _ go _ A hs=>
  have ag:({go with status:= .blocked}:Goroutine).again w'=go:=by
   have:=hs.law.offers;have ak:({go with status:= .blocked}:Goroutine).again w'={({go with status:= .blocked}:Goroutine) with status:= .running}:=by simp [Goroutine.again,this]
   rw [ak];exact Pc hs.law.run
  have ah:Cj P F main (.ph .Cf) r true go s:= .walk (p:= .Cf) (by rw [A];rfl) (by simp [Fam.CB]) (Jr.at_ ⟨s,.refl _,hs⟩);by_cases K:mayWake P g=true∧g'.status= .running
  ·exact⟨true,by rw [hw _ K.1 K.2,ag];exact ah,fun _=>rfl,fun _ _ _=>rfl⟩
  ·rcases U ({go with status:= .blocked}:Goroutine) with e | e
   ·exact⟨true,by rw [e,ag];exact ah,fun _=>rfl,fun a b=>absurd ⟨a,b⟩ K⟩
   ·exact⟨false,by rw [e];exact .blk A hs,fun e=>e,fun a b=>absurd ⟨a,b⟩ K⟩
 | gone A ai=>exact⟨true,by rw [woken_quitsD ai];exact .gone A ai,fun _=>rfl,fun _ _ _=>rfl⟩
end
structure Base where
 N0:Nat
 t0:Nat
 E0:LH
 w0:World
structure Inv (P:Program) (F:Fam) (B:Base) (gs:Array Goroutine) (w:World) (t:Trace) (φ:Nat→Nx) (r:Nat→Rk) (bt:Nat→Bool) (S:Nat→St) (Sh:Nat→Prop) (j:Nat) (c:Bool) (v wt sm:Nat) (cl:Bool) (k:Nat):Prop where
 A9:BD F B.N0 gs.size j c φ v wt sm cl
 CV:Cu F B.N0 B.t0 gs.size j c φ t
 CX:∀i g,gs[i]? =some g→Cj P F (i==0) (φ i) (r i) (bt i) g (S i)
 BT:BE t w gs.size S Sh
 FN:Sh F.wg
 Ek:Sh F.ch
 ne:F.wg≠F.ch
 wg:F.WG w v wt sm
 EO:F.ChanAt w cl k
 Jv:bt 0=false→cl=false∧∀i k',i<gs.size→φ i= .ph (.BN k')→bt i=true
 blk:c=true→bt (B.N0+F.n)=false→sm=0
 le:Le B.E0 (S 0).E
 tape:w.tape=B.w0.tape
 os:w.os=B.w0.os
 output:w.output=B.w0.output
def bit(b:Bool):Nat:=if b then 1 else 0
def mu(F:Fam)(N:Nat)(φ:Nat→Nx)(r:Nat→Rk)(bt:Nat→Bool):Mu:=(sumTo N fun i=>wt F.n (φ i),N,r,sumTo N fun i=>bit (bt i))
section
variable {P:Program}{F:Fam}{B:Base}{gs:Array Goroutine}{w w':World}{t:Trace}{φ:Nat→Nx}{r:Nat→Rk}{bt:Nat→Bool}{S:Nat→St}{Sh:Nat→Prop}{j:Nat}{c:Bool}{v wt' sm v₁ wt₁ sm₁:Nat}{cl cl₁:Bool}{k k₁:Nat}
theorem Inv.at_(h:Inv P F B gs w t φ r bt S Sh j c v wt' sm cl k)(d:Nat):Inv P F B gs (w.at d) t φ r bt S Sh j c v wt' sm cl k:=
 have A:BE t (w.at d) gs.size S Sh:=by
  have:=h.BT.mute (u:= #[]) (w':=w.at d) (g:=0) (by simp) (by simp) (by simp) rfl;simpa using this
 {h with BT:=A}
theorem Inv.go(h:Inv P F B gs w t φ r bt S Sh j c v wt' sm cl k){i:Nat}{g g':Goroutine}{es:Array Event}{x:Nx}{ρ:Rk}{s':St}(hi:gs[i]? =some g)
  (ap:BD F B.N0 gs.size j c (upd φ i x) v₁ wt₁ sm₁ cl₁)
  (aq:Cu F B.N0 B.t0 gs.size j c (upd φ i x) (t++MemOp.ofEvents i g.frame.fn g.frame.place es))
  (ar:Cj P F (i==0) x ρ true g' s')
  (hC:BE (t++MemOp.ofEvents i g.frame.fn g.frame.place es) w' gs.size (upd S i s') Sh)
  (au:F.WG w' v₁ wt₁ sm₁) (aj:F.ChanAt w' cl₁ k₁)
  (av:cl₁=cl∨(mayWake P g=true∧g'.status= .running))
  (aw:cl₁=true→∀ak k',ak<gs.size→φ ak≠ .ph (.BN k'))
  (ay:sm₁=sm∨sm₁=0∨(mayWake P g=true∧g'.status= .running∧φ (B.N0+F.n)= .ph .Cf)∨(c=true→bt (B.N0+F.n)=true))
  (az:i=0→Le (S 0).E s'.E) (aA:w'.tape=w.tape) (aB:w'.os=w.os) (aC:w'.output=w.output) (aM:∀k',x= .ph (.BN k')→φ i= .ph (.BN k')):
  ∃K,Inv P F B ((gs.map (woken P g g' w')).setIfInBounds i g') w' (t++MemOp.ofEvents i g.frame.fn g.frame.place es) (upd φ i x) (upd r i ρ) K (upd S i s') Sh j c v₁ wt₁ sm₁ cl₁ k₁:=by
 have aD:i<gs.size:=(Array.getElem?_eq_some_iff.1 hi).1;have ab:((gs.map (woken P g g' w')).setIfInBounds i g').size=gs.size:=by simp
 have al:∀a,∃aa,(a=i→aa=true)∧(a≠i→∀o,gs[a]? =some o→Cj P F (a==0) (φ a) (r a) aa (woken P g g' w' o) (S a)∧(bt a=true→aa=true)∧(mayWake P g=true→g'.status= .running→(φ a= .ph .Cf∨cl₁=true)→aa=true)):=by
  intro a;by_cases e:a=i
  ·exact⟨true,fun _=>rfl,fun q=>absurd e q⟩
  ·cases A:gs[a]? with
   | none=>exact⟨true,fun _=>rfl,fun _ o q=>by cases q⟩
   | some o=>
    have U:a<gs.size:=(Array.getElem?_eq_some_iff.1 A).1;obtain⟨aa,aE,aF,aG⟩:=(h.CX a o A).woken (g:=g) (g':=g') aj fun q k'=>aw q a k' U;exact⟨aa,fun q=>absurd q e,fun _ o' q=>by cases q;exact⟨aE,aF,aG⟩⟩
 let K:Nat→Bool:=fun a=>Classical.choose (al a);have hb:∀a,(a=i→K a=true)∧(a≠i→∀o,gs[a]? =some o→Cj P F (a==0) (φ a) (r a) (K a) (woken P g g' w' o) (S a)∧(bt a=true→K a=true)∧(mayWake P g=true→g'.status= .running→(φ a= .ph .Cf∨cl₁=true)→K a=true)):=fun a=>Classical.choose_spec (al a);have ac:∀a,a<gs.size→bt a=true→K a=true:=by
  intro a U aH;by_cases e:a=i
  ·exact(hb a).1 e
  ·exact((hb a).2 e _ (Array.getElem?_eq_getElem U)).2.1 aH
 refine⟨K,by rw [ab];exact ap,by rw [ab];exact aq,fun a o A=>?_,by rw [ab];exact hC,h.FN,h.Ek,h.ne,au,aj,fun O=>⟨?_,fun a k' U am=>?_⟩,fun ae O=>?_,fun b o A=>?_,aA.trans h.tape,aB.trans h.os,aC.trans h.output⟩
 ·by_cases e:a=i
  ·subst e;rw [Array.getElem?_setIfInBounds_self_of_lt (by simpa using aD)] at A;obtain rfl:=Option.some.inj A;rw [upd_same,upd_same,upd_same,(hb a).1 rfl];exact ar
  ·rw [Array.getElem?_setIfInBounds_ne (Ne.symm e),Array.getElem?_map] at A;obtain⟨o',aI,rfl⟩:=Option.map_eq_some_iff.1 A;rw [upd_ne _ _ e,upd_ne _ _ e,upd_ne _ _ e];exact((hb a).2 e o' aI).1
 ·have ag:0<gs.size:=by omega
  have aJ:0≠i:=fun e=>by have:=(hb 0).1 e;rw [O] at this;cases this
  have Z:bt 0=false:=by
   cases q:bt 0 with
   | false=>rfl
   | true=>have:=ac 0 ag q;rw [O] at this;cases this
  cases an:cl₁ with
  | false=>rfl
  | true=>
   rcases av with e | ⟨ah,ai⟩
   ·have:=(h.Jv Z).1;rw [← e,an] at this;cases this
   ·have:=((hb 0).2 aJ _ (Array.getElem?_eq_getElem ag)).2.2 ah ai (.inr an);rw [O] at this;cases this
 ·rw [ab] at U;have ag:0<gs.size:=by omega
  have Z:bt 0=false:=by
   cases q:bt 0 with
   | false=>rfl
   | true=>have:=ac 0 ag q;rw [O] at this;cases this
  by_cases e:a=i
  ·exact(hb a).1 e
  ·rw [upd_ne _ _ e] at am;exact ac a U ((h.Jv Z).2 a k' U am)
 ·have ao:B.N0+F.n<gs.size:=by have:=h.A9.size;have:=h.A9.cj ae;rw [ae] at*;simp at*;omega
  have aK:B.N0+F.n≠i:=fun e=>by have:=(hb _).1 e;rw [O] at this;cases this
  have Z:bt (B.N0+F.n)=false:=by
   cases q:bt (B.N0+F.n) with
   | false=>rfl
   | true=>have:=ac _ ao q;rw [O] at this;cases this
  rcases ay with e | e | ⟨ah,ai,aL⟩ | e
  ·rw [e];exact h.blk ae Z
  ·exact e
  ·have:=((hb _).2 aK _ (Array.getElem?_eq_getElem ao)).2.2 ah ai (.inl aL);rw [O] at this;cases this
  ·rw [e ae] at Z;cases Z
 ·by_cases e:i=0
  ·subst e;rw [upd_same];exact az rfl b o (h.le b o A)
  ·rw [upd_ne _ _ (Ne.symm e)];exact h.le b o A
end
end Pal
namespace Pal
open Go Go.Conc
open Go.ConcN (upd upd_same upd_ne sumTo sumTo_upd sumTo_upd_out sumTo_congr le_sumTo sumTo_le fork_knows RelBy)
def Over(P:Program)(F:Fam)(B:Base)(gs:Array Goroutine)(w:World)(t:Trace):Prop:=
 ∃q Sh g s,El P gs w t q Sh g s∧F.fin g s∧Le B.E0 s.E∧w.tape=B.w0.tape∧w.os=B.w0.os∧w.output=B.w0.output
def Fh(P:Program)(F:Fam)(B:Base)(gs:Array Goroutine)(w:World)(sl:Option (Nat×Nat))(t:Trace)(i:Nat)(A:Mu):Prop:=
 ∃gs' w' K u,runT P (crowd gs w sl) i=(.next (crowd gs' w' K),u)∧
  ((∃φ r bt S Sh j c v wt' sm cl k,Inv P F B gs' w' (t++u) φ r bt S Sh j c v wt' sm cl k∧Mu.lt (mu F gs'.size φ r bt) A)∨Over P F B gs' w' (t++u))
section
variable {P:Program}{F:Fam}{B:Base}{gs:Array Goroutine}{w w':World}{sl:Option (Nat×Nat)}{t:Trace}{φ:Nat→Nx}{r:Nat→Rk}{bt:Nat→Bool}{S:Nat→St}{Sh:Nat→Prop}{j:Nat}{c:Bool}{v wt' sm v₁ wt₁ sm₁:Nat}{cl cl₁:Bool}{k k₁:Nat}
theorem OC{N:Nat}{φ A:Nat→Nx}{r O:Nat→Rk}{b U:Nat→Bool}{K:Nat}(h:(sumTo K fun i=>wt F.n (A i))<sumTo N fun i=>wt F.n (φ i)):Mu.lt (mu F K A O U) (mu F N φ r b):= .inl h
theorem Sv{N i:Nat}{x:Nx}{ρ:Rk}{A:Nat→Bool}(hi:i<N)(h:wt F.n x<wt F.n (φ i)∨(wt F.n x=wt F.n (φ i)∧Rk.sub ρ (r i))):Mu.lt (mu F N (upd φ i x) (upd r i ρ) A) (mu F N φ r bt):=by
 have:=sumTo_upd φ x (wt F.n) hi;rcases h with h | ⟨U,K⟩
 ·exact .inl (by show(sumTo N fun a=>wt F.n (upd φ i x a))<sumTo N fun a=>wt F.n (φ a);omega)
 ·exact .inr ⟨by show(sumTo N fun a=>wt F.n (upd φ i x a))=sumTo N fun a=>wt F.n (φ a);omega,rfl,.inl ⟨i,hi,by show Rk.sub (upd r i ρ i) _;rw [upd_same];exact K,fun a O=>upd_ne _ _ O⟩⟩
theorem Inv.go'(h:Inv P F B gs w t φ r bt S Sh j c v wt' sm cl k){i:Nat}{g g':Goroutine}{es:Array Event}{x:Nx}{ρ:Rk}{s':St}(hi:gs[i]? =some g)(K:stepG P (i==0) g w= .go g' w' es)
  (O:BD F B.N0 gs.size j c (upd φ i x) v₁ wt₁ sm₁ cl₁)
  (U:Cu F B.N0 B.t0 gs.size j c (upd φ i x) (t++MemOp.ofEvents i g.frame.fn g.frame.place es))
  (Z:Cj P F (i==0) x ρ true g' s')
  (hC:BE (t++MemOp.ofEvents i g.frame.fn g.frame.place es) w' gs.size (upd S i s') Sh)
  (aa:F.WG w' v₁ wt₁ sm₁) (ab:F.ChanAt w' cl₁ k₁)
  (ac:cl₁=cl∨(mayWake P g=true∧g'.status= .running))
  (ae:cl₁=true→∀A k',A<gs.size→φ A≠ .ph (.BN k'))
  (ag:sm₁=sm∨sm₁=0∨(mayWake P g=true∧g'.status= .running∧φ (B.N0+F.n)= .ph .Cf)∨(c=true→bt (B.N0+F.n)=true))
  (ah:i=0→Le (S 0).E s'.E) (ai:w'.tape=w.tape) (aj:w'.os=w.os) (ak:w'.output=w.output) (al:∀k',x= .ph (.BN k')→φ i= .ph (.BN k'))
  (hm:wt F.n x<wt F.n (φ i)∨(wt F.n x=wt F.n (φ i)∧Rk.sub ρ (r i))):Fh P F B gs w sl t i (mu F gs.size φ r bt):=by
 obtain⟨ao,am⟩:=h.go hi O U Z hC aa ab ac ae ag ah ai aj ak al;refine⟨_,_,_,_,runT_crowd_go hi K,.inl ⟨_,_,_,_,_,_,_,_,_,_,_,_,am,?_⟩⟩;have an:((gs.map (woken P g g' w')).setIfInBounds i g').size=gs.size:=by simp
 rw [an];exact Sv (Array.getElem?_eq_some_iff.1 hi).1 hm
theorem Inv.noSend(h:Inv P F B gs w t φ r bt S Sh j c v wt' sm cl k)(Z:cl=true):∀A k',A<gs.size→φ A≠ .ph (.BN k'):=by
 intro A k' O e;have hm:=h.A9.mode;subst Z;have aa:v=0:=by
  split at hm
  ·cases U:φ (B.N0+F.n) with
   | gone d=>rw [U] at hm;exact hm.2.2.2.2.1
   | ph p=>rw [U] at hm;cases p <;> simp [BX] at hm
  ·simp [BX] at hm
 have ab:=h.A9.cnt;have:=le_sumTo (f:=fun a=>cU (φ a)) O;simp only [e,cU] at this;have ac:(sumTo gs.size fun a=>cU (φ a))=0:=by omega
 have K:cU (φ A)≤sumTo gs.size fun a=>cU (φ a):=le_sumTo (f:=fun a=>cU (φ a)) O;rw [e] at K;simp only [cU] at K;have ae:1≤sumTo gs.size fun a=>cU (φ a):=K;omega
theorem Cu.RQ{F:Fam}{N0 t0 N j:Nat}{c:Bool}{φ:Nat→Nx}{t:Trace}(h:Cu F N0 t0 N j c φ t)(A:BD F N0 N j c φ v wt' sm cl){i:Nat}(hi:i<N){fn:FuncId}{pos:String}{es:Array Event}{p:Ph}(U:φ i= .ph p)
  (Z:∀e∈es,(∀a b,(MemAct.ofEvent e).touch? =some a→Cl a.loc=some b→b≠F.wg∧b≠F.ch)∧e.loc≠ .mark (.release F.sA)∧e.loc≠ .mark .disable∧e.loc≠ .mark .enable)
  (ac:Fam.CB p=true→es= #[]):Cu F N0 t0 N j c φ (t++MemOp.ofEvents i fn pos es):=by
 have ae:i=0∨N0≤i:=by
  rcases A.DD hi with rfl | ⟨a,b⟩ | ⟨k,ab,rfl⟩ | ⟨O,rfl⟩
  ·exact .inl rfl
  ·have:=A.old i a b;rw [U] at this;exact this.elim
  ·exact .inr (by omega)
  ·exact .inr (by omega)
 have:=h.app (x:=φ i) (fn:=fn) (pos:=pos) (es:=es) hi A.jn (deafBehind_still (fun e he=>⟨(Z e he).2.2.1,(Z e he).2.2.2⟩) _) (fun e he=>⟨fun a b ag hb ah=>absurd ah (by have:=(Z e he).1 a b ag hb;rintro(q | q);exact this.1 q;exact this.2 q),(Z e he).2.1⟩) (.inl ae)
  (fun O K=>A.IK O K) (fun k ab e aa ρ ai=>?_) (fun k ab e aa aj=>absurd aa aj) (fun O e K=> .inr K) (fun O e K=>by rw [U] at K;exact K.elim)
 ·rwa [J6] at this
 ·
  have al:=A.size;have am:=A.jn;have ak:k<j:=by
   rcases A.DD hi with q | ⟨a,b⟩ | ⟨k',an,q⟩ | ⟨O,q⟩
   ·have:=A.pos;omega
   ·omega
   ·omega
   ·omega
  have hw:=A.work k ak;rw [← e,U] at hw;rw [U] at aa;have:es= #[]:=ac (by cases p <;> simp only [FB] at hw <;> (try exact hw.elim) <;> first | rfl | exact aa.elim)
  subst this;have:MemOp.ofEvents i fn pos #[]= #[]:=by rw [ofEvents_eq];simp
  rw [this];simpa using ai
theorem Inv.own(h:Inv P F B gs w t φ r bt S Sh j c v wt' sm cl k){i:Nat}{g g':Goroutine}{es:Array Event}{p:Ph}{ρ:Rk}{s':St}(hi:gs[i]? =some g)(K:φ i= .ph p)(ag:(i==0)=Fam.Ch p)(ab:Fam.CB p=true→S i= .quiet)
  (ah:stepG P (i==0) g w= .go g' w' es) (ai:Jr P (i==0) (JQ (Stop P F p)) ρ g' s') (aj:Fits s' w') (A:Fr (S i) w s' w') (U:∀e∈es,Ev (S i) w w' e) (ac:S i= .quiet→s'= .quiet∧w'=w∧es= #[]) (ak:Rk.sub ρ (r i)):
  Fh P F B gs w sl t i (mu F gs.size φ r bt):=by
 have O:i<gs.size:=(Array.getElem?_eq_some_iff.1 hi).1;have ae:upd φ i (.ph p)=φ:=by rw [← K];exact J6 _ _
 have Z:=h.BT.sh i O F.wg h.FN;have aa:=h.BT.sh i O F.ch h.Ek;have al:=h.BT.Dx F.wg h.FN;have am:=h.BT.Dx F.ch h.Ek;have an:∀b wr,DX (S i) w w' b wr→b≠F.wg∧b≠F.ch:=by
  intro b wr ht;constructor
  ·rintro rfl;rcases ht.2 with q | q | ⟨q,_⟩
   ·exact q Z.1
   ·omega
   ·exact q Z.2
  ·rintro rfl;rcases ht.2 with q | q | ⟨q,_⟩
   ·exact q aa.1
   ·omega
   ·exact q aa.2
 refine h.go' hi ah (k₁:=k) (x:= .ph p) (ρ:=ρ) (s':=s') (by rw [ae];exact h.A9) (by
   rw [ae]
   refine h.CV.RQ h.A9 O K (fun e he=>⟨fun a b ao hb=>an b a.write (Im (U e he) ao hb),?_,?_,?_⟩) fun q=>(ac (ab q)).2.2
   all_goals
    intro ap
    have:=U e he
    unfold Ev at this
    rw [ap] at this
    exact this)
  (.walk ag (fun q=>(ac (ab q)).1) ai) (h.BT.own O aj A U) ?_ ?_ (.inl rfl) (fun q=>h.noSend q) (.inl rfl) (fun e=>by subst e;exact fun b o aq=>A.ext b o aq) A.tape A.os A.output (fun k' e=>by rw [K];exact e) (.inr ⟨by rw [K],ak⟩)
 ·show w'.heap[F.wg]? =_;rw [A.keep _ al Z.1];exact h.wg
 ·show w'.heap[F.ch]? =_;rw [A.keep _ am aa.1];exact h.EO
theorem Inv.slip(h:Inv P F B gs w t φ r bt S Sh j c v wt' sm cl k){i:Nat}{g:Goroutine}(hi:gs[i]? =some g)(O:g.status= .running){d q:Nat}(A:φ i= .gone d)(U:r i=chain q)(Z:(i==0)=false)(ac:QuitsD P q d g)(aj:S i= .quiet):
  Fh P F B gs w sl t i (mu F gs.size φ r bt):=by
 have ae:i<gs.size:=(Array.getElem?_eq_some_iff.1 hi).1;cases q with
 | zero=>rw [ac.1] at O;cases O
 | succ q=>
  rcases ac with⟨ak,_⟩ | ⟨_,g',es,hm,al,am⟩
  ·rw [ak] at O;cases O
  have an:∀op∈MemOp.ofEvents i g.frame.fn g.frame.place es,op.act.touch? =none:=fun op K=>by obtain⟨e,he,rfl⟩:=mem_ofEvents K;exact touch_mute (hm e he)
  have ao:∀e∈es,e.loc≠ .mark (.release F.sA):=by
   intro e he ag;have:=hm e he;obtain⟨loc,wr,au⟩:=e;simp only at ag;subst ag;simp [Event.mute] at this
  refine h.go' hi (by rw [Z];exact al w) (x:= .gone (deafBehind d es)) (ρ:=chain q) (s':= .quiet) (h.A9.leave ae A) ?_ (.gone Z am) ?_ h.wg h.EO (.inl rfl) (fun q=>h.noSend q) (.inl rfl) (fun e=>by subst e;simp at Z) rfl rfl rfl (by simp) (.inr ⟨by rw [A];rfl,by rw [U];exact Qb q w⟩)
  ·refine h.CV.app ae h.A9.jn (by rw [A];rfl) (fun e he=>⟨fun a b ah=>(by rw [touch_mute (hm e he)] at ah;cases ah),ao e he⟩) (.inr fun e he=>touch_mute (hm e he)) (fun aa ab=>h.A9.IK aa ab) (fun k ap e aq ρ U=>?_) (fun k ap e aq ai=>by rw [A] at ai;exact absurd trivial ai) (fun aa e ab=> .inr (.inr (by rw [A];trivial))) (fun aa e ab=> .inr ⟨by rw [A];trivial,fun e he=>touch_mute (hm e he)⟩);exact U.appOwn _ _ es fun m e he=> .inl (touch_mute (hm e (Array.mem_of_getElem? he)))
  ·have ar:upd S i .quiet=S:=by rw [← aj];exact J6 _ _
   rw [ar];exact h.BT.mute (g:=i) (fun op K=>by obtain⟨e,_,rfl⟩:=mem_ofEvents K;rfl) an (fun op K=>by obtain⟨e,he,rfl⟩:=mem_ofEvents K;exact low_mute (hm e he) _) rfl
theorem BD.enabled{N0 N:Nat}(h:BD F N0 N j c φ v wt' sm cl){i:Nat}(hi:i<N){p:Ph}(A:φ i= .ph p)(al:∀k,p≠ .BN k)(am:∀k,p≠ .Dp k)(an:p≠ .DN)(ao:∀ap vs,p≠ .BC ap vs)(aq:p≠ .Cm)(ar:p= .Cf→sm=1):
  ∃v' w' sm' es nx,F.act p v wt' sm=some ((v',w',sm'),es,nx):=by
 have hm:=h.mode;have ay:=h.OM;have az:=h.Gb;have K:=h.cnt;have aa:cU (φ i)≤sumTo N fun a=>cU (φ a):=le_sumTo (f:=fun a=>cU (φ a)) hi;have ab:cL (φ i)≤sumTo N fun a=>cL (φ a):=le_sumTo (f:=fun a=>cL (φ a)) hi;have ah:cS (φ i)≤sumTo N fun a=>cS (φ a):=le_sumTo (f:=fun a=>cS (φ a)) hi;rw [A] at aa ab ah;have au:wt'≤1:=by
  generalize (if c=true then φ (N0+F.n) else Nx.ph .BZ)=y at hm
  cases y with
  | gone d=>simp only [BX] at hm;omega
  | ph q=>cases q <;> simp only [BX] at hm <;> (try exact hm.elim) <;> omega
 have ac:1≤(sumTo N fun a=>cL (φ a))+(sumTo N fun a=>cS (φ a))→v=0∧sm=0∧wt'=sumTo N fun a=>cL (φ a):=by
  intro hh;generalize (if c=true then φ (N0+F.n) else Nx.ph .BZ)=y at hm
  cases y with
  | gone d=>simp only [BX] at hm;omega
  | ph q=>cases q <;> simp only [BX] at hm <;> (try exact hm.elim) <;> omega
 have ae:∀x,φ i= .ph x→Ff (.ph x)→c=true∧(if c=true then φ (N0+F.n) else Nx.ph .BZ)= .ph x:=by
  intro x U ai;rcases h.DD hi with rfl | ⟨a,b⟩ | ⟨k,ag,rfl⟩ | ⟨K,rfl⟩
  ·obtain⟨q,O,Z⟩:=h.main;rw [U] at O;cases O;cases x <;> simp [Fe] at Z <;> exact ai.elim
  ·have:=h.old i a b;rw [U] at this;exact this.elim
  ·have:=h.work k ag;rw [U] at this;cases x <;> simp [FB] at this <;> exact ai.elim
  ·exact⟨K,by rw [if_pos K];exact U⟩
 cases p <;> simp only [Fam.act]
 ·exact absurd rfl (al _)
 ·exact⟨_,_,_,_,_,rfl⟩
 ·exact⟨_,_,_,_,_,rfl⟩
 ·simp only [cU] at aa;have:1≤v:=by
   have aA:1≤sumTo N fun a=>cU (φ a):=aa;omega
  rw [if_pos ⟨this,by omega,au⟩];exact⟨_,_,_,_,_,rfl⟩
 ·have av:1≤sumTo N fun a=>cL (φ a):=ab;have:=ac (by omega);rw [if_pos ⟨this.1,by omega⟩];exact⟨_,_,_,_,_,rfl⟩
 ·have av:1≤sumTo N fun a=>cL (φ a):=ab;have:=ac (by omega);rw [if_pos ⟨this.1,by omega⟩];exact⟨_,_,_,_,_,rfl⟩
 ·have aB:1≤sumTo N fun a=>cS (φ a):=ah;have:=ac (by omega);rw [if_pos this.2.1];exact⟨_,_,_,_,_,rfl⟩
 ·exact⟨_,_,_,_,_,rfl⟩
 ·obtain⟨aj,e⟩:=ae _ A trivial;rw [e] at hm;rw [if_pos ⟨hm.2.2.2.2.2,hm.2.2.2.1⟩];exact⟨_,_,_,_,_,rfl⟩
 ·obtain⟨aj,e⟩:=ae _ A trivial;rw [e] at hm;rw [if_pos ⟨hm.2.2.2.2.2.1,hm.2.2.2.2.2.2,hm.2.2.2.1⟩];split <;> exact⟨_,_,_,_,_,rfl⟩
 ·exact⟨_,_,_,_,_,rfl⟩
 ·rw [if_pos (ar rfl)];exact⟨_,_,_,_,_,rfl⟩
 ·obtain⟨aj,e⟩:=ae _ A trivial;rw [e] at hm;rw [if_pos ⟨hm.2.2.2.2.1,hm.2.2.2.1⟩];exact⟨_,_,_,_,_,rfl⟩
 ·exact⟨_,_,_,_,_,rfl⟩
 ·exact⟨_,_,_,_,_,rfl⟩
 ·exact absurd rfl aq
 ·exact⟨_,_,_,_,_,rfl⟩
 ·have aw:c=false∧v≤j∧j<F.n:=by
   rcases h.DD hi with rfl | ⟨a,b⟩ | ⟨k,ag,rfl⟩ | ⟨K,rfl⟩
   ·obtain⟨q,O,Z⟩:=h.main;rw [A] at O;cases O;have ak:=h.FQ;rw [A] at ak;exact⟨Z.2.2,by simpa [pend] using ak,Z.2.1⟩
   ·have:=h.old i a b;rw [A] at this;exact this.elim
   ·have:=h.work k ag;rw [A] at this;exact this.elim
   ·have:=h.cls K;rw [A] at this;exact this.elim
  rw [aw.1] at hm;simp only [Bool.false_eq_true,if_false,BX] at hm;rw [if_pos ⟨by omega,hm.2.2.2.1⟩];exact⟨_,_,_,_,_,rfl⟩
 ·exact⟨_,_,_,_,_,rfl⟩
 ·exact⟨_,_,_,_,_,rfl⟩
 ·exact absurd rfl (am _)
 ·exact absurd rfl an
 ·exact absurd rfl (ao _ _)
 all_goals exact⟨_,_,_,_,_,rfl⟩
end
end Pal
namespace Pal
open Go Go.Conc
open Go.ConcN (upd upd_same upd_ne sumTo sumTo_upd sumTo_upd_out sumTo_congr le_sumTo sumTo_le fork_knows RelBy)
theorem Ka{α:Type}(f:Nat→α)(i:Nat)(x y:α):upd (upd f i x) i y=upd f i y:=by
 funext a;unfold upd;split <;> rfl
section
variable {P:Program}{F:Fam}{B:Base}{gs:Array Goroutine}{w w':World}{sl:Option (Nat×Nat)}{t:Trace}{φ:Nat→Nx}{r:Nat→Rk}{bt:Nat→Bool}{S:Nat→St}{Sh:Nat→Prop}{j:Nat}{c:Bool}{v wt' sm v₁ wt₁ sm₁:Nat}{cl cl₁:Bool}{k k₁:Nat}
theorem TC{p:Ph}{es:Array Event}{nx:Nx}(A:F.act p v wt' sm=some ((v₁,wt₁,sm₁),es,nx)):
  (∀q,nx= .ph q→Fam.Ch q=Fam.Ch p∧(Fam.CB q=true→p= .Ei∨Fam.CB p=true))∧(∀k,nx≠ .ph (.BN k))∧(sm₁=sm∨sm₁=0∨p= .CW)∧(∀d,nx= .gone d→Fam.Ch p=false):=by
 cases p <;> simp only [Fam.act] at A <;> (try (cases A;done))
 ·cases A;exact⟨fun q e=>by cases e;exact⟨rfl,fun _=> .inl rfl⟩,by simp,.inl rfl,by simp⟩
 ·cases A;exact⟨fun q e=>by cases e;exact⟨rfl,fun _=> .inr rfl⟩,by simp,.inl rfl,by simp⟩
 ·split at A
  ·cases A;refine⟨fun q e=>?_,?_,.inl rfl,fun _ _=>rfl⟩
   ·split at e
    ·cases e;exact⟨rfl,fun _=> .inr rfl⟩
    ·cases e
   ·intro k;split <;> simp
  ·cases A
 ·split at A
  ·cases A;exact⟨fun q e=>by cases e;exact⟨rfl,fun _=> .inr rfl⟩,by simp,.inl rfl,by simp⟩
  ·cases A
 ·split at A
  ·cases A;exact⟨fun q e=>by cases e;exact⟨rfl,fun _=> .inr rfl⟩,by simp,.inl rfl,by simp⟩
  ·cases A
 ·split at A
  ·cases A;exact⟨fun q e=>(by cases e),by simp,.inr (.inr rfl),fun _ _=>rfl⟩
  ·cases A
 ·cases A;exact⟨fun q e=>by cases e;exact⟨rfl,fun h=>by cases h⟩,by simp,.inl rfl,by simp⟩
 ·split at A
  ·cases A;refine⟨fun q e=>?_,?_,.inl rfl,?_⟩
   ·split at e <;> cases e <;> exact⟨rfl,fun h=>by cases h⟩
   ·intro k;split <;> simp
   ·intro d;split <;> simp
  ·cases A
 ·split at A
  ·split at A
   ·cases A;exact⟨fun q e=>by cases e;exact⟨rfl,fun h=>by cases h⟩,by simp,.inl rfl,by simp⟩
   ·cases A;exact⟨fun q e=>by cases e;exact⟨rfl,fun h=>by cases h⟩,by simp,.inl rfl,by simp⟩
  ·cases A
 ·cases A;exact⟨fun q e=>by cases e;exact⟨rfl,fun h=>by cases h⟩,by simp,.inl rfl,by simp⟩
 ·split at A
  ·cases A;exact⟨fun q e=>by cases e;exact⟨rfl,fun h=>by cases h⟩,by simp,.inr (.inl rfl),by simp⟩
  ·cases A
 ·split at A
  ·cases A;exact⟨fun q e=>by cases e;exact⟨rfl,fun h=>by cases h⟩,by simp,.inl rfl,by simp⟩
  ·cases A
 ·cases A;exact⟨fun q e=>by cases e;exact⟨rfl,fun h=>by cases h⟩,by simp,.inl rfl,by simp⟩
 ·cases A;exact⟨fun q e=>by cases e;exact⟨rfl,fun h=>by cases h⟩,by simp,.inl rfl,by simp⟩
 ·cases A;exact⟨fun q e=>by cases e;exact⟨rfl,fun h=>by cases h⟩,by simp,.inl rfl,by simp⟩
 ·split at A
  ·cases A;refine⟨fun q e=>?_,?_,.inl rfl,?_⟩
   ·split at e <;> cases e <;> exact⟨rfl,fun h=>by cases h⟩
   ·intro k;split <;> simp
   ·intro d;split <;> simp
  ·cases A
 ·cases A;exact⟨fun q e=>by cases e;exact⟨rfl,fun h=>by cases h⟩,by simp,.inl rfl,by simp⟩
 all_goals
  cases A;exact⟨fun q e=>by cases e;exact⟨rfl,fun h=>by cases h⟩,by simp,.inl rfl,by simp⟩
theorem QY(w:World)(v wt sm:Nat):(F.put w v wt sm).heap.size=w.heap.size:=by simp [Fam.put]
theorem NI(w:World)(v wt sm:Nat){b:Nat}(h:b≠F.wg):(F.put w v wt sm).heap[b]? =w.heap[b]? :=by simp [Fam.put,Array.getElem?_setIfInBounds_ne (Ne.symm h)]
theorem N6(w:World)(v wt sm:Nat)(h:F.wg<w.heap.size):F.WG (F.put w v wt sm) v wt sm:=by simp [Fam.WG,Fam.put,h]
theorem Inv.act(h:Inv P F B gs w t φ r bt S Sh j c v wt' sm cl k){i:Nat}{g:Goroutine}(hi:gs[i]? =some g){p:Ph}(Z:φ i= .ph p)(O:(i==0)=Fam.Ch p){s₀:St}(ak:B5 (S i) s₀)(hs:Stop P F p g s₀)
  {es:Array Event} {nx:Nx} (K:F.act p v wt' sm=some ((v₁,wt₁,sm₁),es,nx)):Fh P F B gs w sl t i (mu F gs.size φ r bt):=by
 have aa:i<gs.size:=(Array.getElem?_eq_some_iff.1 hi).1;obtain⟨g',ay,az,al⟩:=hs.law.act _ _ _ _ _ _ _ _ K;obtain⟨n1,n2,aA,aB⟩:=TC K;have ab:=h.BT.Dx F.wg h.FN;have am:=h.A9.act aa Z K;obtain⟨an,ao,aC⟩:=h.CV.act h.A9 aa Z K g.frame.fn g.frame.place;have aD:BE t w gs.size (upd S i s₀) Sh:=h.BT.ghost aa ak;have ac:BE (t++MemOp.ofEvents i g.frame.fn g.frame.place es) (F.put w v₁ wt₁ sm₁) gs.size (upd S i s₀) Sh:=by
  refine aD.ext (h.CV.noRace h.BT.clean aa aC ao) (fun op ae a aE b hb=>?_) (fun op ae=>?_) (QY ..) (fun b hb=>NI _ _ _ _ fun e=>hb (e▸h.FN))
  ·obtain⟨e,he,rfl⟩:=mem_ofEvents ae;obtain⟨⟨aL,ap,aF⟩,_⟩:=(ao e he).1 a aE;rw [hb] at ap;cases ap;rcases aF with rfl | rfl
   ·exact h.FN
   ·exact h.Ek
  ·obtain⟨e,he,rfl⟩:=mem_ofEvents ae;exact(NF p K).2.2 e he _ ab
 have aq:stepG P (i==0) g w= .go g' (F.put w v₁ wt₁ sm₁) es:=by rw [O];exact ay w h.wg
 have ar:F.ChanAt (F.put w v₁ wt₁ sm₁) cl k:=by show(F.put w v₁ wt₁ sm₁).heap[F.ch]? =_;rw [NI _ _ _ _ (Ne.symm h.ne)];exact h.EO
 have au:sm₁=sm∨sm₁=0∨(mayWake P g=true∧g'.status= .running∧φ (B.N0+F.n)= .ph .Cf)∨(c=true→bt (B.N0+F.n)=true):=by
  rcases aA with q | q | q
  ·exact .inl q
  ·exact .inr (.inl q)
  ·subst q;have aG:=hs.law.EL (.inl rfl);by_cases e:φ (B.N0+F.n)= .ph .Cf
   ·exact .inr (.inr (.inl ⟨aG,az,e⟩))
   ·refine .inr (.inr (.inr fun ag=>?_));have aH:B.N0+F.n<gs.size:=by have av:=h.A9.size;have aM:=h.A9.cj ag;rw [ag] at av;simp at av;omega
    obtain⟨o,A⟩:∃o,gs[B.N0+F.n]? =some o:=⟨_,Array.getElem?_eq_getElem aH⟩;have U:=h.CX _ _ A;generalize r (B.N0+F.n)=aN at U;generalize S (B.N0+F.n)=aO at U;have ah:=h.A9.cls ag;generalize hb:bt (B.N0+F.n)=b at U ⊢;generalize aP:φ (B.N0+F.n)=x at U ah e;cases U with
    | walk _ _ _=>rfl
    | again _ _=>rfl
    | DM _ _=>exact ah.elim
    | D1 _ _ _ _=>exact ah.elim
    | blk _ _=>exact absurd rfl e
    | gone _ _=>rfl
 cases nx with
 | ph q=>
  obtain⟨aI,aJ⟩:=n1 q rfl;obtain⟨ρ,aK⟩:=al;have ai:BE (t++MemOp.ofEvents i g.frame.fn g.frame.place es) (F.put w v₁ wt₁ sm₁) gs.size (upd S i (Fam.Eu p s₀)) Sh:=by
   by_cases e:p= .Ei
   ·subst e;have:=ac.less (i:=i) (s':= .quiet) (fun b o A=>by cases A) (fun b o A=>by cases A)
    rwa [Ka] at this
   ·have:Fam.Eu p s₀=s₀:=by cases p <;> first | rfl | exact absurd rfl e
    rw [this];exact ac
  refine h.go' hi aq am an (x:= .ph q) (ρ:=ρ) (s':=Fam.Eu p s₀) (.walk (by rw [O,aI]) (fun aj=>?_) (by rw [O];exact aK)) ai (N6 _ _ _ _ ab) ar (.inl rfl) (fun e=>h.noSend e) au (fun e=>?_) rfl rfl rfl (fun k' e=>absurd e (n2 k')) (.inl (by rw [Z];exact N1 K))
  ·rcases aJ aj with e | e
   ·subst e;rfl
   ·have:Fam.Eu p s₀=s₀:=by cases p <;> first | rfl | cases e
    rw [this];exact hs.law.quiet e
  ·have:Fam.Eu p s₀=s₀:=by
    cases p <;> first | rfl | (subst e;simp [Fam.Ch] at O)
   rw [this];subst e;exact fun b o A=>ak.ext b o A
 | gone d=>
  obtain⟨q,aj⟩:=al;have aw:(i==0)=false:=by rw [O];exact aB d rfl
  have ai:BE (t++MemOp.ofEvents i g.frame.fn g.frame.place es) (F.put w v₁ wt₁ sm₁) gs.size (upd S i .quiet) Sh:=by
   have:=ac.less (i:=i) (s':= .quiet) (fun b o A=>by cases A) (fun b o A=>by cases A)
   rwa [Ka] at this
  exact h.go' hi aq am an (x:= .gone d) (ρ:=chain q) (s':= .quiet) (.gone aw aj) ai (N6 _ _ _ _ ab) ar (.inl rfl) (fun e=>h.noSend e) au (fun e=>by subst e;simp at aw) rfl rfl rfl (fun k' e=>absurd e (n2 k')) (.inl (by rw [Z];exact N1 K))
theorem Pa{g g' o:Goroutine}(h:g'.status= .blocked):woken P g g' w o=o:=by
 unfold woken;rw [if_neg (by simp [h])]
theorem Inv.rest(h:Inv P F B gs w t φ r bt S Sh j c v wt' sm cl k){i:Nat}{g':Goroutine}{u:Trace}{s₀:St}(ac:i<gs.size)(al:bt i=true)(ah:B5 (S i) s₀)(am:Cj P F (i==0) (φ i) (r i) false g' s₀)(hu:u= #[])
  (an:i=0→cl=false∧∀a k',a<gs.size→φ a= .ph (.BN k')→bt a=true) (hsend:∀k',φ i= .ph (.BN k')→bt 0=true) (ao:c=true→i=B.N0+F.n→sm=0):
  ∃ai,Inv P F B (gs.setIfInBounds i g') w (t++u) φ r ai (upd S i s₀) Sh j c v wt' sm cl k∧Mu.lt (mu F (gs.setIfInBounds i g').size φ r ai) (mu F gs.size φ r bt):=by
 subst hu;have K:(gs.setIfInBounds i g').size=gs.size:=by simp
 have ap:t++(#[]:Trace)=t:=by simp
 have ab:∀{a},a≠i→upd bt i false a=bt a:=fun e=>upd_ne _ _ e;rw [ap];refine⟨upd bt i false,⟨by rw [K];exact h.A9,by rw [K];exact h.CV,fun a o O=>?_,by rw [K];exact h.BT.ghost ac ah,h.FN,h.Ek,h.ne,h.wg,h.EO,fun A=>?_,fun aj A=>?_,?_,h.tape,h.os,h.output⟩,?_⟩
 ·by_cases e:a=i
  ·subst e;rw [Array.getElem?_setIfInBounds_self_of_lt ac] at O;obtain rfl:=Option.some.inj O;rw [upd_same,upd_same];exact am
  ·rw [Array.getElem?_setIfInBounds_ne (Ne.symm e)] at O;rw [upd_ne _ _ e,upd_ne _ _ e];exact h.CX a o O
 ·by_cases e:0=i
  ·subst e;obtain⟨ae,ag⟩:=an rfl;refine⟨ae,fun a k' U Z=>?_⟩;rw [K] at U;by_cases aa:a=0
   ·subst aa;obtain⟨p,ak,hm⟩:=h.A9.main;rw [Z] at ak;cases ak;exact hm.elim
   ·rw [ab aa];exact ag a k' U Z
  ·rw [ab e] at A;obtain⟨ae,ag⟩:=h.Jv A;refine⟨ae,fun a k' U Z=>?_⟩;rw [K] at U;by_cases aa:a=i
   ·subst aa;rw [hsend k' Z] at A;cases A
   ·rw [ab aa];exact ag a k' U Z
 ·by_cases e:B.N0+F.n=i
  ·exact ao aj e.symm
  ·rw [ab e] at A;exact h.blk aj A
 ·by_cases e:0=i
  ·subst e;rw [upd_same];exact fun b o O=>ah.ext b o (h.le b o O)
  ·rw [upd_ne _ _ e];exact h.le
 ·rw [K];have:=sumTo_upd bt false bit ac;rw [al] at this;exact .inr ⟨rfl,rfl,.inr ⟨rfl,by show(sumTo gs.size fun a=>bit (upd bt i false a))<sumTo gs.size fun a=>bit (bt a);simp only [bit] at this ⊢;simp only [if_true,Bool.false_eq_true,if_false] at this;omega⟩⟩
theorem Inv.block(h:Inv P F B gs w t φ r bt S Sh j c v wt' sm cl k){i:Nat}{g:Goroutine}(hi:gs[i]? =some g)(K:φ i= .ph .Cf)(U:bt i=true)(A:(i==0)=false){s₀:St}(Z:B5 (S i) s₀)(hs:Stop P F .Cf g s₀)(aa:sm=0):
  Fh P F B gs w sl t i (mu F gs.size φ r bt):=by
 have ab:i<gs.size:=(Array.getElem?_eq_some_iff.1 hi).1;subst aa;have ac:=hs.law.CY rfl w v wt' h.wg;have O:=runT_crowd_go (P:=P) (sl:=sl) (i:=i) hi (by rw [A];exact ac);have ae:(gs.map (woken P g {g with status:= .blocked} w)).setIfInBounds i {g with status:= .blocked}=gs.setIfInBounds i {g with status:= .blocked}:=by
  have:(woken P g {g with status:= .blocked} w)=id:=by funext o;exact Pa rfl
  rw [this,Array.map_id]
 rw [ae] at O;obtain⟨ai,ag,ah⟩:=h.rest (g':={g with status:= .blocked}) (u:=MemOp.ofEvents i g.frame.fn g.frame.place #[]) ab U Z (by rw [K];exact .blk A hs) (by rw [ofEvents_eq];simp) (fun e=>by subst e;simp at A) (fun k' e=>by rw [K] at e;cases e) (fun _ _=>rfl);exact⟨_,_,_,_,O,.inl ⟨_,_,_,_,_,_,_,_,_,_,_,_,ag,ah⟩⟩
theorem Inv.close(h:Inv P F B gs w t φ r bt S Sh j c v wt' sm cl k){i:Nat}{g:Goroutine}(hi:gs[i]? =some g)(A:φ i= .ph .Cm)(ac:(i==0)=false){s₀:St}(hs:Stop P F .Cm g s₀):
  Fh P F B gs w sl t i (mu F gs.size φ r bt):=by
 have Z:i<gs.size:=(Array.getElem?_eq_some_iff.1 hi).1;have ap:c=true∧i=B.N0+F.n:=by
  rcases h.A9.DD Z with rfl | ⟨a,b⟩ | ⟨k',aq,rfl⟩ | q
  ·simp at ac
  ·have:=h.A9.old i a b;rw [A] at this;exact this.elim
  ·have:=h.A9.work k' aq;rw [A] at this;exact this.elim
  ·exact q
 obtain⟨K,rfl⟩:=ap;have ar:cl=false:=by
  have hm:=h.A9.mode;rw [if_pos K,A] at hm;exact hm.2.2.2.2.2
 subst ar;have aI:v=0:=by
  have hm:=h.A9.mode;rw [if_pos K,A] at hm;exact hm.2.2.2.2.1
 obtain⟨g',au,av,q,aw⟩:=hs.law.close rfl;have ah:=h.BT.Dx F.ch h.Ek;have ay:=hs.law.EL (.inr rfl);have az:MemOp.ofEvents (B.N0+F.n) g.frame.fn g.frame.place (closeEvents F.ch)= #[{g:=B.N0+F.n,fn:=g.frame.fn,pos:=g.frame.place,act:= .access ⟨.obj F.ch,false,true⟩},{g:=B.N0+F.n,fn:=g.frame.fn,pos:=g.frame.place,act:= .close F.ch}]:=by
  simp [MemOp.ofEvents,closeEvents,MemAct.ofEvent]
 have ai:∀b,b≠F.ch→(w.setChan F.ch 0 #[] true k k false).heap[b]? =w.heap[b]? :=fun b hb=>by simp [World.setChan,Array.getElem?_setIfInBounds_ne (Ne.symm hb)]
 have aj:∀e∈closeEvents F.ch,∀a,(MemAct.ofEvent e).touch? =some a→a=⟨.obj F.ch,false,.atomic⟩:=by
  intro e he a O;simp only [closeEvents,List.mem_toArray,List.mem_cons,List.not_mem_nil,or_false] at he;rcases he with rfl | rfl
  ·simp [MemAct.ofEvent,MemAct.touch?] at O;exact O.symm
  ·simp [MemAct.ofEvent,MemAct.touch?] at O
 have aa:∀e∈closeEvents F.ch,EvS F (B.N0+F.n=if c=true then B.N0+F.n else 0) e:=by
  intro e he;refine⟨fun a O=>?_,?_⟩
  ·have:=aj e he a O;subst this;exact⟨⟨F.ch,rfl,.inr rfl⟩,by simp,by simp⟩
  ·simp only [closeEvents,List.mem_toArray,List.mem_cons,List.not_mem_nil,or_false] at he;rcases he with rfl | rfl <;> simp
 have aJ:=h.A9.n1;have aK:=h.A9.pos;refine h.go' hi (w':=w.setChan F.ch 0 #[] true k k false) (by rw [ac];exact av w k h.EO) (x:= .gone 0) (ρ:=chain q) (s':= .quiet) (cl₁:=true) (k₁:=k) (h.A9.close K A) ?_ (.gone ac aw) ?_ ?_ ?_ (.inr ⟨ay,au⟩) (fun _ aA k' aB e=>?_) (.inl rfl) (fun e=>absurd e (by omega)) rfl rfl rfl (by simp) (.inl (by rw [A];simp [wt]))
 ·refine h.CV.app Z h.A9.jn (by rw [A];rfl) (fun e he=>⟨fun a b O hb aL=>⟨((aa e he).1 a O).2.1,((aa e he).1 a O).2.2⟩,(aa e he).2⟩) (.inl (.inr (by omega))) (fun K ab=>h.A9.IK K ab) (fun k' ak e aC ρ al=>by omega) (fun k' ak e aC aM=>by have:=h.A9.cj K;omega) (fun K e ab=> .inr (.inl A)) (fun aN e ab=> .inl ?_);obtain⟨am,an⟩:=h.CV.acq K (.inl A);have aO:am<t.size:=lt_of_act? an.1;rw [az];generalize hu:(#[({g:=B.N0+F.n,fn:=g.frame.fn,pos:=g.frame.place,act:= .access ⟨.obj F.ch,false,true⟩}:MemOp),{g:=B.N0+F.n,fn:=g.frame.fn,pos:=g.frame.place,act:= .close F.ch}]:Trace)=u;have aD:(t++u)[t.size]? =some {g:=B.N0+F.n,fn:=g.frame.fn,pos:=g.frame.place,act:= .access ⟨.obj F.ch,false,true⟩}:=by subst hu;simp
  have ae:(t++u)[t.size+1]? =some {g:=B.N0+F.n,fn:=g.frame.fn,pos:=g.frame.place,act:= .close F.ch}:=by
   subst hu;rw [Array.getElem?_append_right (by omega)];simp
  refine⟨t.size+1,by rw [act?_of ae],by simp [Trace.g?,ae],⟨B.N0+F.n,by simp [Trace.g?,ae],?_⟩,⟨am,by omega,an.app fun k' ρ ak al=>al.appOther (g:=B.N0+F.n) (by subst hu;simp) (by omega)⟩,fun x ab aE aF=>?_⟩
  ·rw [deaf_succ aD,deaf_old (Nat.le_refl _)];have:=h.CV.deaf _ Z;rw [A] at this;show deafStep _ (Deaf t _) _=0;rw [this];rfl
  ·obtain⟨op,U,_⟩:=Option.map_eq_some_iff.1 aE;have:=lt_size_of_getElem? U;subst hu;simp at this;omega
 ·have aG:BE (t++MemOp.ofEvents (B.N0+F.n) g.frame.fn g.frame.place (closeEvents F.ch)) (w.setChan F.ch 0 #[] true k k false) gs.size S Sh:=by
   refine h.BT.ext (h.CV.noRace h.BT.clean Z (.inr (by omega)) aa) (fun op ag a aH b hb=>?_) (fun op ag=>?_) (by simp [World.setChan]) (fun b hb=>ai b fun e=>hb (e▸h.Ek))
   ·obtain⟨e,he,rfl⟩:=mem_ofEvents ag;have:=aj e he a aH;subst this;simp [Cl] at hb;subst hb;exact h.Ek
   ·obtain⟨e,he,rfl⟩:=mem_ofEvents ag;simp only [closeEvents,List.mem_toArray,List.mem_cons,List.not_mem_nil,or_false] at he;rcases he with rfl | rfl <;> simpa [MemAct.ofEvent,MemAct.low,Loc.low] using ah
  exact aG.less (i:=B.N0+F.n) (s':= .quiet) (fun b o U=>by cases U) (fun b o U=>by cases U)
 ·show(w.setChan F.ch 0 #[] true k k false).heap[F.wg]? =_;rw [ai _ h.ne];exact h.wg
 ·show(w.setChan F.ch 0 #[] true k k false).heap[F.ch]? =_;simp [World.setChan,ah]
 ·have aF:=h.A9.cnt;have ao:cU (φ aA)≤sumTo gs.size fun a=>cU (φ a):=le_sumTo (f:=fun a=>cU (φ a)) aB;rw [e] at ao;have aP:1≤sumTo gs.size fun a=>cU (φ a):=ao;omega
end
end Pal
namespace Pal
open Go Go.Conc
open Go.ConcN (upd upd_same upd_ne sumTo sumTo_upd sumTo_upd_out sumTo_congr le_sumTo sumTo_le fork_knows RelBy)
section
variable {P:Program}{F:Fam}{B:Base}{gs gs':Array Goroutine}{w w':World}{sl:Option (Nat×Nat)}{t:Trace}{φ:Nat→Nx}{r:Nat→Rk}{bt:Nat→Bool}{S:Nat→St}{Sh:Nat→Prop}{j:Nat}{c:Bool}{v wt' sm v₁ wt₁ sm₁:Nat}{cl cl₁:Bool}{k k₁:Nat}{main:Bool}
theorem Cj.Og{x:Nx}{r:Rk}{b:Bool}{o:Goroutine}{s:St}(h:Cj P F main x r b o s)(hb:main=true→b=true):offersAt o F.ch false= []:=by
 cases h with
 | walk _ _ A=>exact offersAt_of_not_blocked (by rw [A.running];simp) _ _
 | again _ _=>exact offersAt_of_not_blocked (by simp) _ _
 | DM K _=>cases hb K
 | D1 _ _ _ _=>exact offersAt_parked_send' _ _ _ _ _ _
 | blk _ hs=>simp [offersAt,hs.law.offers]
 | gone _ O=>exact offersAt_of_not_blocked (by rcases O.status with e | e <;> rw [e] <;> simp) _ _
theorem Cj.Kn{k:Nat}{r:Rk}{o:Goroutine}{s:St}(h:Cj P F main (.ph (.BN k)) r false o s):∃g v z,o=parked g #[scase F.ch v z] .send∧F.msg k v s.E∧s.q=false∧Way P false (Stop P F .BY) (served g undef) s:=by
 generalize A:Nx.ph (.BN k)=x at h;generalize hb:false=b at h;cases h with
 | walk _ _ _=>cases hb
 | again _ _=>cases A
 | DM _ _=>cases A
 | D1 _ K O U=>cases A;exact⟨_,_,_,rfl,K,O,U⟩
 | blk _ _=>cases A
 | gone _ _=>cases A
theorem Cj.JY{x:Nx}{r:Rk}{b:Bool}{o:Goroutine}{s:St}(h:Cj P F main x r b o s)(A:offersAt o F.ch true≠ []):∃k,x= .ph (.BN k)∧b=false:=by
 cases h with
 | walk _ _ K=>exact absurd (offersAt_of_not_blocked (by rw [K.running];simp) _ _) A
 | again _ _=>exact absurd (offersAt_of_not_blocked (by simp) _ _) A
 | DM U _=>exact absurd (offersAt_parked_recv' _ _ _ _ _) A
 | D1 _ _ _ _=>exact⟨_,rfl,rfl⟩
 | blk _ hs=>exact absurd (by simp [offersAt,hs.law.offers]) A
 | gone _ O=>exact absurd (offersAt_of_not_blocked (by rcases O.status with e | e <;> rw [e] <;> simp) _ _) A
theorem Cj.receiver{p:Ph}{r:Rk}{b:Bool}{o:Goroutine}{s:St}(h:Cj P F main (.ph p) r b o s)(hb:b=false)(hm:main=true):∃K vs g z,p= .BC K vs∧o=parked g #[rcase F.ch z] (.recv true)∧Stop P F (.BC K vs) g s:=by
 generalize O:Nx.ph p=x at h;cases h with
 | walk _ _ _=>cases hb
 | again _ _=>cases hb
 | DM _ U=>cases O;exact⟨_,_,_,_,rfl,rfl,U⟩
 | D1 A _ _ _=>rw [A] at hm;cases hm
 | blk A _=>rw [A] at hm;cases hm
 | gone _ _=>cases O
theorem Pt{g g':Goroutine}{cs A:Array CommCase}{sh K:CommShape}(h:parked g cs sh=parked g' A K):cs=A∧sh=K∧∀x,served g x=served g' x:=by
 obtain⟨a,b,c,d,e⟩:=g;obtain⟨O,U,Z,aa,ab⟩:=g';simp only [parked,Goroutine.mk.injEq,Option.some.injEq,Prod.mk.injEq,true_and] at h;obtain⟨rfl,rfl,rfl,rfl,rfl⟩:=h;exact⟨rfl,rfl,fun _=>rfl⟩
theorem LL(w:World)(c cap:Nat)(buf:Array Value)(cl:Bool)(s r:Nat)(A:Bool){b:Nat}(h:b≠c):(w.setChan c cap buf cl s r A).heap[b]? =w.heap[b]? :=by simp [World.setChan,Array.getElem?_setIfInBounds_ne (Ne.symm h)]
def Fg(E E':LH):LH:=fun b=>match E b with | some o=>some o | none=>E' b
def Ee(i s:Nat)(c:Nat)(f1 f2:FuncId)(p1 p2:String):Trace:=
 #[{g:=i,fn:=f1,pos:=p1,act:= .send c s},{g:=0,fn:=f2,pos:=p2,act:= .recv c s 0},{g:=i,fn:=f1,pos:=p1,act:= .sendDone c s},{g:=0,fn:=f2,pos:=p2,act:= .recvDone c s}]
theorem Pz{i s A:Nat}{f1 f2:FuncId}{p1 p2:String}(hi:i≠0)(U:Deaf t i=0)(Z:Deaf t 0=0){x:Nat}(aa:Knows t i x):Knows (t++Ee i s A f1 f2 p1 p2) 0 x:=by
 generalize hu:Ee i s A f1 f2 p1 p2=u;have K:(t++u)[t.size]? =some {g:=i,fn:=f1,pos:=p1,act:= .send A s}:=by subst hu;rw [Array.getElem?_append_right (by omega)];simp [Ee]
 have ab:(t++u)[t.size+1]? =some {g:=0,fn:=f2,pos:=p2,act:= .recv A s 0}:=by subst hu;rw [Array.getElem?_append_right (by omega)];simp [Ee]
 have ac:(t++u)[t.size+2]? =some {g:=i,fn:=f1,pos:=p1,act:= .sendDone A s}:=by subst hu;rw [Array.getElem?_append_right (by omega)];simp [Ee]
 have O:(t++u)[t.size+3]? =some {g:=0,fn:=f2,pos:=p2,act:= .recvDone A s}:=by subst hu;rw [Array.getElem?_append_right (by omega)];simp [Ee]
 have ae:=aa.hb_new (Nat.le_refl _) K rfl;have ag:(t++u).heard t.size:=⟨i,by simp [Trace.g?,K],by rw [deaf_old (Nat.le_refl _)];exact U⟩;have ah:(t++u).heard (t.size+3):=⟨0,by simp [Trace.g?,O],by
  rw [deaf_succ ac,deaf_succ ab,deaf_succ K,deaf_old (Nat.le_refl _)]
  simp only [deafStep];exact Z⟩
 exact⟨t.size+3,_,O,rfl,.inr (ae.trans (.single (.inr ⟨.handOver (by rw [act?_of K]) (by rw [act?_of O]),ag,ah⟩)))⟩
theorem Inv.meet(h:Inv P F B gs w t φ r bt S Sh j c v wt' sm cl k)(aM:∀k v E E',Le E E'→F.msg k v E→F.msg k v E'){i k':Nat}(aj:k'<j)(ak:i=B.N0+k')(aa:φ i= .ph (.BN k')){O:List Nat}{vs:List Value}(ah:φ 0= .ph (.BC O vs))
  {aA aB:Goroutine} {s₀ A:St} (aC:B5 (S 0) s₀) (aN:B5 (S i) A) (aO:Stop P F (.BC O vs) aA s₀) {x:Value} (aP:F.msg k' x A.E) (aQ:Way P false (Stop P F .BY) (served aB undef) A)
  (al:gs'.size=gs.size) (aR:gs'[0]? =some (served aA (.tuple #[x,.bool true]))) (hi:gs'[i]? =some (served aB undef)) (U:∀a,a≠0→a≠i→gs'[a]? =gs[a]?) (aS:cl=false) {f1 f2:FuncId} {p1 p2:String}:
  ∃aD aE aF S',Inv P F B gs' (w.setChan F.ch 0 #[] false (k+1) (k+1) false) (t++Ee i k F.ch f1 f2 p1 p2) aD aE aF S' Sh j c v wt' sm false (k+1)∧Mu.lt (mu F gs'.size aD aE aF) (mu F gs.size φ r bt):=by
 subst aS;have bd:=h.A9.pos;have bf:=h.A9.size;have ab:i<gs.size:=by omega
 have ac:0<gs.size:=by omega
 have ai:i≠0:=by omega
 have aG:F.has k'=true:=by have:=h.A9.work k' aj;rw [← ak,aa] at this;exact this.2
 have aT:k' ∉ O:=by have:=(h.A9.ES k' aj aG).1 (by rw [← ak];exact aa);rwa [ah] at this
 have aH:=h.A9.meet (x:=x) ah aj (by rw [← ak];exact aa);rw [← ak] at aH;have hu:∀op∈Ee i k F.ch f1 f2 p1 p2,op.act.touch? =none∧∀m,op.act≠ .mark m:=by
  intro op K;simp only [Ee,List.mem_toArray,List.mem_cons,List.not_mem_nil,or_false] at K;rcases K with rfl | rfl | rfl | rfl <;> exact⟨rfl,by simp⟩
 have aU:=h.CV.B9 h.A9 hu;have aI:=h.BT.Dx F.ch h.Ek;have am:BE t w gs.size (upd (upd S i A) 0 s₀) Sh:=by
  have:=(h.BT.ghost ab aN).ghost (i:=0) (s₀:=s₀) ac (by rw [upd_ne _ _ (Ne.symm ai)];exact aC);exact this
 have ar:upd (upd S i A) 0 s₀ 0=s₀:=upd_same _ _ _;have au:upd (upd S i A) 0 s₀ i=A:=by rw [upd_ne _ _ ai,upd_same]
 have aV:BE (t++Ee i k F.ch f1 f2 p1 p2) (w.setChan F.ch 0 #[] false (k+1) (k+1) false) gs.size (upd (upd S i A) 0 s₀) Sh:=by
  refine am.ext (fun said=>?_) (fun op K a an=>by rw [(hu op K).1] at an;cases an) (fun op K=>?_) (by simp [World.setChan]) (fun b hb=>LL _ _ _ _ _ _ _ _ fun e=>hb (e▸h.Ek))
  ·have key:∀(l:List MemOp) (t:Trace),¬Race said t→(∀op∈l,op.act.touch? =none)→¬Race said (t++l.toArray):=by
    intro l
    induction l with
    | nil=>intro t ht _;simpa using ht
    | cons y l aW=>
     intro t ht ae;have e:t++(y::l).toArray=(t++ #[y])++l.toArray:=by apply Array.ext';simp
     rw [e];exact aW _ (noRace_append (g:=y.g) ht (by simp) fun z a _ op K b hb _=>by simp at K;subst K;rw [ae op (by simp)] at hb;cases hb) fun op K=>ae op (by simp [K])
   exact key _ t (h.BT.clean said) fun op K=>(hu op (by simpa [Ee] using K)).1
  ·simp only [Ee,List.mem_toArray,List.mem_cons,List.not_mem_nil,or_false] at K;rcases K with rfl | rfl | rfl | rfl <;> exact aI
 have aX:∀b o o',s₀.E b=some o→A.E b=some o'→o=o':=by
  intro b o o' av aw;have ay:=(am.fits 0 ac).e b o (by rw [ar];exact av);have ao:=(am.fits i ab).e b o' (by rw [au];exact aw);rw [ay] at ao;exact Option.some.inj ao
 have aJ:Le s₀.E (Fg s₀.E A.E):=fun b o U=>by simp [Fg,U]
 have aY:Le A.E (Fg s₀.E A.E):=fun b o U=>by
  unfold Fg;cases ap:s₀.E b with
  | none=>exact U
  | some o'=>simp only;rw [aX b o' o ap U]
 have aZ:Deaf t 0=0:=by rw [h.CV.deaf 0 ac,ah];rfl
 have a0:Deaf t i=0:=by rw [h.CV.deaf i ab,aa];rfl
 have aK:BE (t++Ee i k F.ch f1 f2 p1 p2) (w.setChan F.ch 0 #[] false (k+1) (k+1) false) gs.size (upd (upd S i A) 0 ⟨Fg s₀.E A.E,s₀.H,false⟩) Sh:=by
  have:=aV.grow (i:=0) (E':=Fg s₀.E A.E) (q:=false) ac (fun b o hb=>by
   rw [ar]
   unfold Fg at hb
   cases ap:s₀.E b with
   | some o'=>rw [ap] at hb;exact .inl hb
   | none=>
    rw [ap] at hb
    have aL:A.E b=some o:=hb
    refine .inr ⟨i,ab,by rw [au];exact aL,fun y a a1 a2 a3=>?_⟩
    have hold:touchAt t y=some a:=by
     obtain⟨op,U,az⟩:=touch_of a1
     rcases getElem?_append_cases U with⟨_,a4⟩ | ⟨_,a5⟩
     ·rw [touchAt_of a4];exact az
     ·rw [(hu op a5).1] at az;cases az
    exact Pz ai a0 aZ (am.kE i ab b (by rw [au,aL];simp) y a hold a2 a3))
  rw [ar,Ka] at this;exact this
 have a6:∀b,Fg s₀.E A.E b≠none→s₀.H b=none:=by
  intro b hb;have:=(aK.fits 0 ac).d b (by rw [upd_same];exact hb)
  rwa [upd_same] at this
 have a7:k'<F.n:=Nat.lt_of_lt_of_le aj h.A9.jn;obtain⟨z,_,a8,_⟩:=aO.law.recv O vs rfl;obtain⟨a9,ba⟩:=a8 k' x (Fg s₀.E A.E) a7 aG aT aJ a6 (aM _ _ _ _ aY aP);obtain⟨bb,bc⟩:=aQ;have f0:∀a,a≠0→a≠i→upd (upd φ i (.ph .BY)) 0 (.ph (.BC (O++ [k']) (vs++ [x]))) a=φ a:=fun a av aw=>by rw [upd_ne _ _ av,upd_ne _ _ aw]
 have fi:upd (upd φ i (.ph .BY)) 0 (.ph (.BC (O++ [k']) (vs++ [x]))) i= .ph .BY:=by rw [upd_ne _ _ ai,upd_same]
 refine⟨upd (upd φ i (.ph .BY)) 0 (.ph (.BC (O++ [k']) (vs++ [x]))),upd (upd r i bb) 0 a9,upd (upd bt i true) 0 true,upd (upd S i A) 0 ⟨Fg s₀.E A.E,s₀.H,false⟩,⟨by rw [al];exact aH,?_,fun a o ag=>?_,by rw [al];exact aK,h.FN,h.Ek,h.ne,?_,?_,fun hb=>(by rw [upd_same] at hb;cases hb),fun aq hb=>?_,?_,h.tape,h.os,h.output⟩,?_⟩
 ·rw [al];refine aU.R7 (fun a an=>?_) (fun a an ae=>?_) (fun aq=>?_)
  ·by_cases q:a=0
   ·subst q;rw [upd_same,ah];rfl
   ·by_cases Z:a=i
    ·subst Z;rw [fi,aa];rfl
    ·rw [f0 a q Z]
  ·by_cases q:B.N0+a=i
   ·rw [q,fi] at ae;exact ae.elim
   ·rwa [f0 _ (by omega) q] at ae
  ·have:=h.A9.cj aq;exact f0 _ (by omega) (by omega)
 ·by_cases q:a=0
  ·subst q;rw [aR] at ag;obtain rfl:=Option.some.inj ag;rw [upd_same,upd_same,upd_same,upd_same];exact .walk rfl (fun q=>by cases q) ba
  ·by_cases Z:a=i
   ·subst Z;rw [hi] at ag;obtain rfl:=Option.some.inj ag;rw [fi,upd_ne _ _ q,upd_same,upd_ne _ _ q,upd_same,upd_ne _ _ q,upd_same];have hm:(a==0)=false:=by simp [q]
    exact .walk (by rw [hm];rfl) (fun q=>by cases q) (by rw [hm];exact bc)
   ·rw [U a q Z] at ag;rw [f0 a q Z,upd_ne _ _ q,upd_ne _ _ Z,upd_ne _ _ q,upd_ne _ _ Z,upd_ne _ _ q,upd_ne _ _ Z];exact h.CX a o ag
 ·show(w.setChan F.ch 0 #[] false (k+1) (k+1) false).heap[F.wg]? =_;rw [LL _ _ _ _ _ _ _ _ h.ne];exact h.wg
 ·show(w.setChan F.ch 0 #[] false (k+1) (k+1) false).heap[F.ch]? =_;simp [World.setChan,aI]
 ·have bg:=h.A9.cj aq;rw [upd_ne _ _ (by omega),upd_ne _ _ (by omega)] at hb;exact h.blk aq hb
 ·rw [upd_same];exact(h.le.trans fun b o U=>aC.ext b o U).trans aJ
 ·rw [al];refine OC ?_;have ay:=sumTo_upd (upd φ i (.ph .BY)) (.ph (.BC (O++ [k']) (vs++ [x]))) (wt F.n) ac;have ao:=sumTo_upd φ (.ph .BY) (wt F.n) ab;rw [upd_ne _ _ (Ne.symm ai),ah] at ay;rw [aa] at ao;have bh:wt F.n (.ph (.BC O vs))=2:=rfl;have bi:wt F.n (.ph (.BC (O++ [k']) (vs++ [x])))=2:=rfl;have bj:wt F.n (.ph (.BN k'))=10:=rfl;have bk:wt F.n (.ph .BY)=9:=rfl;omega
theorem Inv.send(h:Inv P F B gs w t φ r bt S Sh j c v wt' sm cl k)(ay:∀k v E E',Le E E'→F.msg k v E→F.msg k v E'){i k':Nat}{g:Goroutine}(hi:gs[i]? =some g)(A:φ i= .ph (.BN k'))(az:bt i=true)(ab:(i==0)=false){s₀:St}(al:B5 (S i) s₀)(hs:Stop P F (.BN k') g s₀):
  Fh P F B gs w sl t i (mu F gs.size φ r bt):=by
 have U:i<gs.size:=(Array.getElem?_eq_some_iff.1 hi).1;have am:0<gs.size:=by omega
 have K:i≠0:=by simpa using ab
 have aA:k'<j∧i=B.N0+k':=by
  rcases h.A9.DD U with rfl | ⟨a,b⟩ | ⟨aB,Z,rfl⟩ | ⟨ac,rfl⟩
  ·exact absurd rfl K
  ·have:=h.A9.old i a b;rw [A] at this;exact this.elim
  ·have:=h.A9.work aB Z;rw [A] at this;obtain⟨rfl,_⟩:=this;exact⟨Z,rfl⟩
  ·have:=h.A9.cls ac;rw [A] at this;exact this.elim
 obtain⟨Z,aC⟩:=aA;have aD:cl=false:=by
  cases aE:cl with
  | false=>rfl
  | true=>exact absurd A (h.noSend aE i k' U)
 subst aD;obtain⟨x,z,an,aF,ao⟩:=hs.law.send k' rfl;have ap:stepG P (i==0) g w= .comm g #[scase F.ch x z] true .send w #[]:=by rw [ab];exact aF w
 have aq:∀(a:Nat) (fn:FuncId) (pos:String),MemOp.ofEvents a fn pos #[]= #[]:=fun a fn pos=>by rw [ofEvents_eq];simp
 cases ae:bt 0 with
 | true=>
  have aG:partners (gs.setIfInBounds i ph) F.ch false= []:=by
   refine partners_nil fun a o ag=>?_;rcases getElem?_stand gs i a o ag with⟨_,rfl⟩ | ⟨_,ah⟩
   ·exact offersAt_ph _ _
   ·exact(h.CX a o ah).Og fun e=>by
     have:a=0:=by simpa using e
     subst this;exact ae
  have aa:=crowd_waits (sl:=sl) hi ap fun aR ar=>by
   simp at ar;subst ar;exact ways_send_none (v:=x) (z:=z) h.EO (Nat.le_refl _) aG
  obtain⟨au,ai,aj⟩:=h.rest (g':=parked g #[scase F.ch x z] .send) (u:=MemOp.ofEvents i g.frame.fn g.frame.place #[]) U az al (by rw [A];exact .D1 ab an (hs.law.live rfl) ao) (aq _ _ _) (fun e=>absurd e K) (fun _ _=>ae) (fun ac e=>by have:=h.A9.cj ac;omega);exact⟨_,_,_,_,aa,.inl ⟨_,_,_,_,_,_,_,_,_,_,_,_,ai,aj⟩⟩
 | false=>
  obtain⟨aH,ak⟩:∃o,gs[0]? =some o:=⟨_,Array.getElem?_eq_getElem am⟩;obtain⟨p0,av,hm⟩:=h.A9.main;have aw:=h.CX 0 aH ak;rw [ae,av] at aw;obtain⟨aS,vs,O,aI,rfl,rfl,aJ⟩:=aw.receiver rfl rfl;have aK:partners (gs.setIfInBounds i ph) F.ch false= [(0,0)]:=by
   rw [partners_one (j:=0) (g:=parked O #[rcase F.ch aI] (.recv true)) (stand_get (Ne.symm K) ak) fun a o aL ag=>?_]
   ·rw [offersAt_parked_recv];simp
   ·rcases getElem?_stand gs i a o ag with⟨_,rfl⟩ | ⟨_,ah⟩
    ·exact offersAt_ph _ _
    ·exact(h.CX a o ah).Og fun e=>by
      have:a=0:=by simpa using e
      exact absurd this aL
  have aa:=crowd_send_meets (sl:=sl) hi ap h.EO (Ne.symm K) ak aK;rw [finishComm_recv,finishComm_send,aq] at aa;have aM:((gs.setIfInBounds 0 (served O (recvd true x true))).setIfInBounds i (served g undef)).size=gs.size:=by simp
  obtain⟨aN,aO,au,S',ai,aj⟩:=h.meet ay Z aC A av (.refl _) al aJ an ao (gs':=(gs.setIfInBounds 0 (served O (recvd true x true))).setIfInBounds i (served g undef)) aM
   (by rw [Array.getElem?_setIfInBounds_ne K,Array.getElem?_setIfInBounds_self_of_lt am];rfl) (by rw [Array.getElem?_setIfInBounds_self_of_lt (by simpa using U)]) (fun a aP aQ=>by rw [Array.getElem?_setIfInBounds_ne (Ne.symm aQ),Array.getElem?_setIfInBounds_ne (Ne.symm aP)]) rfl
   (f1:=g.frame.fn) (f2:=O.frame.fn) (p1:=g.frame.place) (p2:=O.frame.place)
  refine⟨_,_,_,_,aa,.inl ⟨aN,aO,au,S',Sh,j,c,v,wt',sm,false,k+1,?_,aj⟩⟩;rw [Array.empty_append];exact ai
end
end Pal
namespace Pal
open Go Go.Conc
open Go.ConcN (upd upd_same upd_ne sumTo sumTo_upd sumTo_upd_out sumTo_congr le_sumTo sumTo_le fork_knows RelBy)
section
variable {P:Program}{F:Fam}{B:Base}{gs gs':Array Goroutine}{w w':World}{sl:Option (Nat×Nat)}{t:Trace}{φ:Nat→Nx}{r:Nat→Rk}{bt:Nat→Bool}{S:Nat→St}{Sh:Nat→Prop}{j:Nat}{c:Bool}{v wt' sm v₁ wt₁ sm₁:Nat}{cl cl₁:Bool}{k k₁:Nat}{main:Bool}
theorem Inv.MK(h:Inv P F B gs w t φ r bt S Sh j c v wt' sm true k):c=true∧Dj (φ (B.N0+F.n))∧∀i,0<i→i<gs.size→∃d,φ i= .gone d:=by
 have hm:=h.A9.mode;have A:c=true∧Dj (φ (B.N0+F.n)):=by
  split at hm
  ·rename_i A;refine⟨A,?_⟩;cases K:φ (B.N0+F.n) with
   | gone d=>trivial
   | ph p=>rw [K] at hm;cases p <;> simp [BX] at hm
  ·simp [BX] at hm
 refine⟨A.1,A.2,fun i hi O=>?_⟩;have:Dj (φ i):=by
  rcases h.A9.DD O with rfl | ⟨a,b⟩ | ⟨k',U,rfl⟩ | ⟨_,rfl⟩
  ·omega
  ·exact h.A9.old i a b
  ·exact h.A9.Kb A.1 (.inr (.inr (.inr (.inr A.2)))) k' U
  ·exact A.2
 cases K:φ i with
 | gone d=>exact⟨d,rfl⟩
 | ph p=>rw [K] at this;exact this.elim
theorem Inv.over(h:Inv P F B gs w t φ r bt S Sh j c v wt' sm true k){aE:List Nat}{vs:List Value}(ap:φ 0= .ph (.BC aE vs)){s₀:St}(aq:B5 (S 0) s₀){g':Goroutine}(aF:F.fin g' s₀)
  (ar:gs'.size=gs.size) (aG:gs'[0]? =some g') (ab:∀a,a≠0→gs'[a]? =gs[a]?) {f1:FuncId} {p1:String}:
  Over P F B gs' w (t++ #[{g:=0,fn:=f1,pos:=p1,act:= .recvClosed F.ch}]):=by
 obtain⟨ag,au,aH⟩:=h.MK;have aZ:=h.A9.pos;have av:=h.A9.size;have aj:0<gs.size:=by omega
 have aI:F.ch<w.heap.size:=h.BT.Dx F.ch h.Ek;generalize hu:(#[{g:=0,fn:=f1,pos:=p1,act:= .recvClosed F.ch}]:Trace)=u;have aw:∀op∈u,op.act.touch? =none∧∀m,op.act≠ .mark m:=by
  intro op K;subst hu;simp at K;subst K;exact⟨rfl,by simp⟩
 have ac:=h.CV.B9 h.A9 aw;have aJ:Deaf t 0=0:=by rw [h.CV.deaf 0 aj,ap];rfl
 have ay:∀i g,0<i→gs[i]? =some g→∃q d,φ i= .gone d∧QuitsD P q d g∧S i= .quiet:=by
  intro i g hi A;obtain⟨d,az⟩:=aH i hi (Array.getElem?_eq_some_iff.1 A).1;have hs:=h.CX i g A;rw [az] at hs;generalize U:Nx.gone d=x at hs;generalize S i=s at hs ⊢;generalize r i=ρ at hs;generalize bt i=a0 at hs;cases hs with
  | gone _ ah=>cases U;exact⟨_,_,az,ah,rfl⟩
  | _=>cases U
 have ah:∀i,∃q,∀g,0<i→gs[i]? =some g→QuitsD P q (Deaf t i) g:=by
  intro i;by_cases hi:0<i∧i<gs.size
  ·obtain⟨q,d,O,aa,_⟩:=ay i _ hi.1 (Array.getElem?_eq_getElem hi.2);refine⟨q,fun g _ A=>?_⟩;rw [Array.getElem?_eq_getElem hi.2] at A;obtain rfl:=Option.some.inj A;rw [h.CV.deaf i hi.2,O];exact aa
  ·exact⟨0,fun g O aa=>absurd ⟨O,(Array.getElem?_eq_some_iff.1 aa).1⟩ hi⟩
 have aA:∀op∈u,op.g=0:=by intro op K;subst hu;simp at K;subst K;rfl
 have aK:BE t w gs.size (lone s₀) Sh:=by
  have O:=h.BT.ghost aj aq;refine O.congr fun i hi=>?_;by_cases e:i=0
  ·subst e;rw [upd_same];exact⟨rfl,rfl⟩
  ·rw [upd_ne _ _ e];obtain⟨_,_,_,_,aL⟩:=ay i _ (by omega) (Array.getElem?_eq_getElem hi);rw [aL];simp [lone,e]
 have aM:BE (t++u) w gs.size (lone s₀) Sh:=aK.mute (g:=0) aA (fun op ab=>(aw op ab).1) (fun op K=>by subst hu;simp at K;subst K;exact aI) rfl;refine⟨fun i=>Classical.choose (ah i),Sh,g',s₀,⟨aG,⟨fun i g hi A=>?_,fun i hi=>?_⟩,by rw [ar];exact aM,fun x g A aN ak=>?_,?_⟩,aF,h.le.trans fun b o ab=>aq.ext b o ab,h.tape,h.os,h.output⟩
 ·rw [Deaf_other t (by omega) u aA];rw [ab i (by omega)] at A;exact Classical.choose_spec (ah i) g hi A
 ·exact ac.above i (by rw [← ar];exact hi)
 ·rcases ac.over x g A aN ak with q | ⟨q1,q2⟩
  ·exact q
  obtain⟨p,Z⟩:=ac.Hg ag au;have a1:p<t.size:=by
   obtain⟨a2,a3⟩:=h.CV.Hg ag au;rcases Nat.lt_or_ge p t.size with q | q
   ·exact q
   ·have O:=Z.1;obtain⟨op,K,aO⟩:=Option.map_eq_some_iff.1 O;rcases getElem?_append_cases K with⟨aP,_⟩ | ⟨_,hm⟩
    ·exact aP
    ·subst hu;simp at hm;subst hm;cases aO
  have al:(t++u)[t.size]? =some {g:=0,fn:=f1,pos:=p1,act:= .recvClosed F.ch}:=by subst hu;simp
  have aQ:(t++u).heard t.size:=⟨0,by simp [Trace.g?,al],by rw [deaf_old (Nat.le_refl _)];exact aJ⟩;have ai:HappensBefore (t++u) p t.size:= .single (.inr ⟨.closed Z.1 (by rw [act?_of al]),Z.2.2.1,aQ⟩);have aB:(t++u).g? t.size=some 0:=by simp [Trace.g?,al]
  have am:∀{a b:Nat} {g:Nat},a<b→(t++u).g? a=some g→(t++u).g? b=some g→HappensBefore (t++u) a b:=fun O aa aR=> .single (.inl ⟨O,_,aa,aR⟩);rcases Nat.lt_or_ge g (B.N0+F.n) with aS | aS
  ·
   obtain⟨q,aT,aU,aV,aW,aX⟩:=Z.2.2.2.1;obtain⟨ρ,a4,aY,ae⟩:=aX (g - B.N0) (by omega);have an:B.N0+(g - B.N0)=g:=by omega
   rw [an] at ae;have aC:HappensBefore (t++u) ρ q:= .single (.inr ⟨.marked aY (.inr ae.act) aU (fun z O aa=>ac.norel z (by omega)),ae.heard,aW⟩);have aD:HappensBefore (t++u) q p:=am aT aV Z.2.1;have hle:x≤ρ:=Nat.le_of_not_lt fun ao=>ae.after x ao A ak;refine⟨t.size,aB,?_⟩;rcases Nat.lt_or_ge x ρ with U | U
   ·exact((am U A ae.g).trans (aC.trans aD)).trans ai
   ·obtain rfl:x=ρ:=by omega
    exact(aC.trans aD).trans ai
  ·
   have an:g=B.N0+F.n:=by rw [ag] at av;have:=h.A9.cj ag;simp at av;omega
   subst an;have hle:x≤p:=Nat.le_of_not_lt fun ao=>Z.2.2.2.2 x ao A ak;refine⟨t.size,aB,?_⟩;rcases Nat.lt_or_ge x p with U | U
   ·exact(am U A Z.2.1).trans ai
   ·obtain rfl:x=p:=by omega
    exact ai
 ·have:=ac.deaf 0 aj;rw [ap] at this;exact this
theorem Inv.recv(h:Inv P F B gs w t φ r bt S Sh j c v wt' sm cl k)(aL:∀k v E E',Le E E'→F.msg k v E→F.msg k v E'){x:Goroutine}(hi:gs[0]? =some x){aj:List Nat}{vs:List Value}(ab:φ 0= .ph (.BC aj vs))(aM:bt 0=true)
  {K:Goroutine} {s₀:St} (ak:B5 (S 0) s₀) (hs:Stop P F (.BC aj vs) K s₀) (al:∀w,stepG P true x w=stepG P true K w) (a5:x.frame=K.frame):
  Fh P F B gs w sl t 0 (mu F gs.size φ r bt):=by
 have am:0<gs.size:=(Array.getElem?_eq_some_iff.1 hi).1;obtain⟨z,aN,_,aO⟩:=hs.law.recv aj vs rfl;have an:stepG P (0==0) x w= .comm K #[rcase F.ch z] true (.recv true) w #[]:=by rw [show((0:Nat)==0)=true from rfl,al];exact aN w
 have ao:∀(a:Nat) (fn:FuncId) (pos:String),MemOp.ofEvents a fn pos #[]= #[]:=fun a fn pos=>by rw [ofEvents_eq];simp
 by_cases ac:partners (gs.setIfInBounds 0 ph) F.ch true= []
 ·cases ae:cl with
  | false=>
   have Z:=h.EO;rw [ae] at Z;have aa:=crowd_waits (sl:=sl) hi an fun a6 aA=>by
    simp at aA;subst aA;exact ways_recv_none (z:=z) Z ac
   have aP:∀a k',a<gs.size→φ a= .ph (.BN k')→bt a=true:=by
    intro a k' ah ap;cases hb:bt a with
    | true=>rfl
    | false=>
     have U:=h.CX a _ (Array.getElem?_eq_getElem ah);rw [ap,hb] at U;obtain⟨g,y,aq,hgo,_⟩:=U.Kn;have ai:a≠0:=fun e=>by subst e;rw [ab] at ap;cases ap
     have:(a,0)∈partners (gs.setIfInBounds 0 ph) F.ch true:=mem_partners.2 ⟨gs[a],stand_get ai (Array.getElem?_eq_getElem ah),by rw [hgo,offersAt_parked_send];simp⟩;rw [ac] at this;cases this
   obtain⟨aB,ar,au⟩:=h.rest (g':=parked K #[rcase F.ch z] (.recv true)) (u:=MemOp.ofEvents 0 x.frame.fn x.frame.place #[]) am aM ak (by rw [ab];exact .DM rfl hs) (ao _ _ _) (fun _=>⟨ae,aP⟩) (fun k' e=>by rw [ab] at e;cases e) (fun Z e=>by have:=h.A9.pos;omega);exact⟨_,_,_,_,aa,.inl ⟨_,_,_,_,_,_,_,_,_,_,_,_,ar,au⟩⟩
  | true=>
   subst ae;have aa:=crowd_recv_closed (sl:=sl) hi an h.EO ac;rw [finishComm_recv,ao] at aa;obtain⟨Z,a7,aQ⟩:=h.MK;have aR:=aO fun k' O hh=>by
    have aS:k'<j:=by rw [h.A9.cj Z];exact O
    have aC:=h.A9.ES k' aS hh;rw [ab] at aC;have a8:=h.A9.size;have a9:=h.A9.pos;obtain⟨d,aD⟩:=aQ (B.N0+k') (by omega) (by omega);apply Classical.byContradiction;intro aT;rw [aC.2 aT] at aD;cases aD
   have aU:=h.over (gs':=gs.setIfInBounds 0 (served K (recvd true z false))) ab ak aR (by simp) (by rw [Array.getElem?_setIfInBounds_self_of_lt am];rfl) (fun a ah=>by rw [Array.getElem?_setIfInBounds_ne (Ne.symm ah)]) (f1:=K.frame.fn) (p1:=K.frame.place);refine⟨_,_,_,_,aa,.inr ?_⟩;rw [Array.empty_append];exact aU
 ·have ae:cl=false:=by
   obtain⟨⟨a,b⟩,av⟩:=List.exists_mem_of_ne_nil _ ac;obtain⟨o,aw,A⟩:=mem_partners.1 av;rcases getElem?_stand gs 0 a o aw with⟨_,rfl⟩ | ⟨_,ag⟩
   ·rw [offersAt_ph] at A;cases A
   ·obtain⟨k',O,_⟩:=(h.CX a o ag).JY fun e=>by rw [e] at A;cases A
    cases al:cl with
    | false=>rfl
    | true=>exact absurd O (h.noSend al a k' (Array.getElem?_eq_some_iff.1 ag).1)
  subst ae;obtain⟨a,ay,aE,ba,bb,d,ai,aF,aa⟩:=crowd_recv_meets_some (sl:=sl) hi an h.EO ac fun a b av=>by
   obtain⟨o,aw,A⟩:=mem_partners.1 av;rcases getElem?_stand gs 0 a o aw with⟨_,rfl⟩ | ⟨aV,ag⟩
   ·rw [offersAt_ph] at A;cases A
   ·have U:=h.CX a o ag;obtain⟨k',O,az⟩:=U.JY fun e=>by rw [e] at A;cases A
    rw [O,az] at U;obtain⟨g,y,aq,hgo,_⟩:=U.Kn;rw [hgo,offersAt_parked_send] at A;simp at A;exact⟨A,aV,g,y,aq,_,by rw [ag,hgo]⟩
  have aG:a<gs.size:=(Array.getElem?_eq_some_iff.1 aF).1;have U:=h.CX a _ aF;obtain⟨k',O,az⟩:=U.JY (by rw [offersAt_parked_send];simp);rw [O,az] at U;obtain⟨g,y,aq,hgo,aW,bc,aH⟩:=U.Kn;obtain⟨aI,aX,aY⟩:=Pt hgo;have aZ:aE=y:=by simp [scase] at aI;exact aI.1
  subst aZ;subst aX;rw [finishComm_recv,finishComm_send,ao] at aa;rw [← aY] at aH;have aJ:k'<j∧a=B.N0+k':=by
   rcases h.A9.DD aG with rfl | ⟨q1,q2⟩ | ⟨a0,aK,rfl⟩ | ⟨Z,rfl⟩
   ·exact absurd rfl ai
   ·have:=h.A9.old a q1 q2;rw [O] at this;exact this.elim
   ·have:=h.A9.work a0 aK;rw [O] at this;obtain⟨rfl,_⟩:=this;exact⟨aK,rfl⟩
   ·have:=h.A9.cls Z;rw [O] at this;exact this.elim
  obtain⟨a1,a2,aB,S',ar,au⟩:=(h.at_ d).meet aL aJ.1 aJ.2 O ab ak (.refl _) hs aW aH (gs':=(gs.setIfInBounds a (served ay undef)).setIfInBounds 0 (served K (recvd true aE true))) (by simp)
   (by rw [Array.getElem?_setIfInBounds_self_of_lt (by simpa using am)];rfl) (by rw [Array.getElem?_setIfInBounds_ne (Ne.symm ai),Array.getElem?_setIfInBounds_self_of_lt aG]) (fun b a3 a4=>by rw [Array.getElem?_setIfInBounds_ne (Ne.symm a3),Array.getElem?_setIfInBounds_ne (Ne.symm a4)]) rfl
   (f1:=ay.frame.fn) (f2:=K.frame.fn) (p1:=ay.frame.place) (p2:=K.frame.place)
  refine⟨_,_,_,_,aa,.inl ⟨a1,a2,aB,S',Sh,j,c,v,wt',sm,false,k+1,?_,au⟩⟩;rw [Array.empty_append];exact ar
theorem Inv.spawn(h:Inv P F B gs w t φ r bt S Sh j c v wt' sm cl k){g g' child:Goroutine}(hi:gs[0]? =some g){p O K:Ph}(ai:φ 0= .ph p)(aw:c=false){s₀:St}(ar:B5 (S 0) s₀)(ay:stepG P true g w= .spawn g' child w #[])
  (az:Way P true (Stop P F O) g' s₀) (aA:Way P false (Stop P F K) child ⟨s₀.E,fun _=>none,false⟩) (aB:Fam.Ch O=true) (aC:Fam.Ch K=false) (aD:Fam.CB O=false) (aE:Fam.CB K=false) {aj:Nat} {ak:Bool}
  (aF:BD F B.N0 (gs.size+1) aj ak (upd (upd φ gs.size (.ph K)) 0 (.ph O)) v wt' sm cl)
  (ab:CI (.ph p)=0∧CI (.ph O)=0∧CI (.ph K)=0) (aG:∀k,k<aj→late (upd (upd φ gs.size (.ph K)) 0 (.ph O) (B.N0+k))→k<j∧late (φ (B.N0+k))) (ao:ak=true→B.N0+F.n=gs.size∧K= .BZ)
  (hm:wt F.n (.ph O)+wt F.n (.ph K)<wt F.n (.ph p)) (aH:sm=0):
  Fh P F B gs w sl t 0 (mu F gs.size φ r bt):=by
 have Z:0<gs.size:=(Array.getElem?_eq_some_iff.1 hi).1;have al:=runT_crowd_spawn (P:=P) (sl:=sl) (i:=0) hi (show stepG P (0==0) g w=_ from ay);have aI:∀(a:Nat) (fn:FuncId) (pos:String),MemOp.ofEvents a fn pos #[]= #[]:=fun a fn pos=>by rw [ofEvents_eq];simp
 rw [aI] at al;generalize aJ:({g:=0,fn:=g.frame.fn,pos:=g.frame.place,act:= .go gs.size}:MemOp)=x at al;generalize aK:({g:=gs.size,fn:=child.frame.fn,pos:=g.frame.place,act:= .start}:MemOp)=y at al;have ac:x.g=0∧x.act= .go gs.size:=by subst aJ;exact⟨rfl,rfl⟩
 have ae:y.g=gs.size∧y.act= .start:=by subst aK;exact⟨rfl,rfl⟩
 have aL:((#[]:Trace).push x).push y= #[x,y]:=rfl;have am:((gs.setIfInBounds 0 g').push child).size=gs.size+1:=by simp
 have f0:upd (upd φ gs.size (.ph K)) 0 (.ph O) 0= .ph O:=upd_same _ _ _;have an:upd (upd φ gs.size (.ph K)) 0 (.ph O) gs.size= .ph K:=by rw [upd_ne _ _ (by omega),upd_same]
 have au:∀a,a≠0→a≠gs.size→upd (upd φ gs.size (.ph K)) 0 (.ph O) a=φ a:=fun a aM aN=>by rw [upd_ne _ _ aM,upd_ne _ _ aN]
 have hu:∀op∈(#[x,y]:Array MemOp),op.act.touch? =none∧∀m,op.act≠ .mark m:=by
  intro op A;simp only [List.mem_toArray,List.mem_cons,List.not_mem_nil,or_false] at A;rcases A with rfl | rfl
  ·rw [ac.2];exact⟨rfl,by simp⟩
  ·rw [ae.2];exact⟨rfl,by simp⟩
 have aO:Cu F B.N0 B.t0 (gs.size+1) aj ak (upd (upd φ gs.size (.ph K)) 0 (.ph O)) (t++ #[x,y]):=by
  refine h.CV.spawn h.A9 aw (fun a ap=>?_) (by rw [an];exact ab.2.2) (by rw [ai];exact ab.1) aG (fun e=>⟨(ao e).1,by rw [(ao e).1,an,(ao e).2]⟩) ac ae;by_cases e:a=0
  ·subst e;rw [f0,ai,ab.1,ab.2.1]
  ·rw [au a e (by omega)]
 have av:BE t w gs.size (upd S 0 s₀) Sh:=h.BT.ghost Z ar;have aP:BE (t++ #[x,y]) w gs.size (upd S 0 s₀) Sh:=by
  refine av.ext (fun said=>?_) (fun op A a ap=>by rw [(hu op A).1] at ap;cases ap) (fun op A=>?_) rfl fun _ _=>rfl
  ·have e:t++ #[x,y]=(t++ #[x])++ #[y]:=by apply Array.ext';simp
   rw [e];exact noRace_append (g:=gs.size) (noRace_append (g:=0) (h.BT.clean said) (fun op A=>by simp at A;subst A;exact ac.1) fun z a _ op A b hb _=>by rw [(hu op (by simp at A ⊢;exact .inl A)).1] at hb;cases hb)
    (fun op A=>by simp at A;subst A;exact ae.1) fun z a _ op A b hb _=>by rw [(hu op (by simp at A ⊢;exact .inr A)).1] at hb;cases hb
  ·simp only [List.mem_toArray,List.mem_cons,List.not_mem_nil,or_false] at A;rcases A with rfl | rfl
   ·rw [ac.2];trivial
   ·rw [ae.2];trivial
 have aQ:BE (t++ #[x,y]) w (gs.size+1) (upd (upd S 0 s₀) gs.size ⟨s₀.E,fun _=>none,false⟩) Sh:=by
  refine aP.push (i:=0) Z (E:=s₀.E) (fun b o ag=>by rw [upd_same];exact ag) fun b hb z a aR aS aT=>?_;have hold:touchAt t z=some a:=by
   obtain⟨op,ag,aq⟩:=touch_of aR;rcases getElem?_append_cases ag with⟨_,aU⟩ | ⟨_,aV⟩
   ·rw [touchAt_of aU];exact aq
   ·rw [(hu op aV).1] at aq;cases aq
  exact fork_knows ac ae (by rw [h.CV.deaf 0 Z,ai];exact ab.1) (h.CV.above _ (Nat.le_refl _)) (av.kE 0 Z b (by rw [upd_same];exact hb) z a hold aS aT)
 obtain⟨aW,aX⟩:=az;obtain⟨aY,aZ⟩:=aA;have ah:∀{α:Type} (f:Nat→α) (a b:α),upd (upd f 0 a) gs.size b 0=a:=fun f a b=>by rw [upd_ne _ _ (by omega),upd_same]
 refine⟨_,_,_,_,al,.inl ⟨upd (upd φ gs.size (.ph K)) 0 (.ph O),upd (upd r 0 aW) gs.size aY,upd (upd bt 0 true) gs.size true,upd (upd S 0 s₀) gs.size ⟨s₀.E,fun _=>none,false⟩,Sh,aj,ak,v,wt',sm,cl,k,?_,?_⟩⟩
 ·rw [aL];refine⟨by rw [am];exact aF,by rw [am];exact aO,fun a o U=>?_,by rw [am];exact aQ,h.FN,h.Ek,h.ne,h.wg,h.EO,fun hb=>(by rw [ah] at hb;cases hb),fun _ _=>aH,?_,h.tape,h.os,h.output⟩
  ·by_cases e:a=0
   ·subst e;rw [Array.getElem?_push_lt (by simpa using Z)] at U;simp at U;subst U;rw [f0,ah,ah,ah];exact .walk aB.symm (fun q=>by rw [aD] at q;cases q) aX
   ·by_cases aa:a=gs.size
    ·subst aa;have:child=o:=by
      rw [show gs.size=(gs.setIfInBounds 0 g').size by simp,Array.getElem?_push_size] at U;exact Option.some.inj U
     subst this;rw [an,upd_same,upd_same,upd_same];have a0:(gs.size==0)=false:=by rw [beq_eq_false_iff_ne];omega
     rw [a0];exact .walk aC.symm (fun q=>by rw [aE] at q;cases q) aZ
    ·rw [au a e aa,upd_ne _ _ aa,upd_ne _ _ e,upd_ne _ _ aa,upd_ne _ _ e,upd_ne _ _ aa,upd_ne _ _ e];have:gs[a]? =some o:=by
      rw [Array.getElem?_push] at U;simp [aa] at U;simpa [Array.getElem?_setIfInBounds_ne (Ne.symm e)] using U
     exact h.CX a o this
  ·rw [ah];exact h.le.trans fun b o ag=>ar.ext b o ag
 ·rw [am];refine OC ?_;simp only [sumTo];rw [an];have a1:=sumTo_upd (upd φ gs.size (.ph K)) (.ph O) (wt F.n) Z;rw [upd_ne _ _ (by omega),ai] at a1;have a2:=sumTo_upd_out φ (.ph K) (wt F.n) (i:=gs.size) (j:=gs.size) (Nat.le_refl _);omega
theorem Inv.step(h:Inv P F B gs w t φ r bt S Sh j c v wt' sm cl k)(aC:∀k v E E',Le E E'→F.msg k v E→F.msg k v E'):
  ∃gs' w' aD u,stepT P (crowd gs w sl)=(.next (crowd gs' w' aD),u)∧
  ((∃aP aQ aR S' a1 K a2 v' a3 sm' cl' k',Inv P F B gs' w' (t++u) aP aQ aR S' a1 K a2 v' a3 sm' cl' k'∧Mu.lt (mu F gs'.size aP aQ aR) (mu F gs.size φ r bt))∨Over P F B gs' w' (t++u)):=by
 have bv:=h.A9.pos;have ai:=h.A9.size;have aE:0<gs.size:=by omega
 have a4:∀x∈gs,awake x:=by
  intro x A;obtain⟨i,hi,rfl⟩:=Array.mem_iff_getElem.1 A;exact(h.CX i _ (Array.getElem?_eq_getElem hi)).awake
 have aF:∀i (hi:i<gs.size) p,φ i= .ph p→bt i=true→(gs[i]).status= .running:=by
  intro i hi p a5 hb;have hs:=h.CX i _ (Array.getElem?_eq_getElem hi);rw [a5,hb] at hs;generalize A:Nx.ph p=x at hs;generalize aa:true=b at hs;generalize gs[i]=o at hs ⊢;generalize r i=ρ at hs;generalize S i=s at hs;cases hs with
  | walk _ _ an=>exact an.running
  | again _ _=>rfl
  | DM _ _=>cases aa
  | D1 _ _ _ _=>cases aa
  | blk _ _=>cases aa
  | gone _ _=>cases A
 have a6:∃(i:Nat) (g:Goroutine),gs[i]? =some g∧g.status= .running:=by
  obtain⟨p0,ab,ao⟩:=h.A9.main;cases aG:bt 0 with
  | true=>exact⟨0,_,Array.getElem?_eq_getElem aE,aF 0 aE p0 ab aG⟩
  | false=>
   obtain⟨a7,a8⟩:=h.Jv aG;have aS:=h.CX 0 _ (Array.getElem?_eq_getElem aE);rw [ab,aG] at aS;obtain⟨aj,vs,aT,bw,rfl,_,_⟩:=aS.receiver rfl rfl;obtain⟨an,O⟩:=ao;have aH:B.N0+F.n<gs.size:=by rw [O] at ai;simp at ai;omega
   have a9:=h.A9.cls O;have ac:=h.A9.mode;rw [if_pos O] at ac;cases ar:φ (B.N0+F.n) with
   | gone d=>rw [ar] at ac;have:=ac.2.2.2.2.2;rw [a7] at this;cases this
   | ph aI=>
    cases aJ:bt (B.N0+F.n) with
    | true=>exact⟨_,_,Array.getElem?_eq_getElem aH,aF _ aH aI ar aJ⟩
    | false=>
     have au:=h.blk O aJ;have ae:=h.CX _ _ (Array.getElem?_eq_getElem aH);have ba:aI= .Cf:=by
      have av:=a9;rw [ar] at ae av;rw [aJ] at ae;generalize gs[B.N0+F.n]=o at ae;generalize r (B.N0+F.n)=ρ at ae;generalize S (B.N0+F.n)=s at ae;generalize A:Nx.ph aI=x at ae av;generalize aa:false=b at ae;cases ae with
      | walk _ _ _=>cases aa
      | again _ _=>cases aa
      | DM _ _=>cases A;exact av.elim
      | D1 _ _ _ _=>cases A;exact av.elim
      | blk _ _=>cases A;rfl
      | gone _ _=>cases A
     subst ba;rw [ar] at ac;obtain⟨bb,_,_⟩:=ac;have aU:=h.A9.cnt;rw [ab] at aU;simp only [pend,Nat.add_zero] at aU;have hex:∃i,i<gs.size∧1≤cU (φ i)+cL (φ i)+cS (φ i):=by
      apply Classical.byContradiction;intro bc;have aK:∀i,i<gs.size→cU (φ i)=0∧cL (φ i)=0∧cS (φ i)=0:=fun i hi=>by
       have:¬1≤cU (φ i)+cL (φ i)+cS (φ i):=fun q=>bc ⟨i,hi,q⟩;omega
      have zero:∀f:Nat→Nat,(∀i,i<gs.size→f i=0)→sumTo gs.size f=0:=fun f bd=>by
       have:=sumTo_le (f:=f) (c:=0) (j:=gs.size) (fun i hi=>by rw [bd i hi];exact Nat.le_refl _);omega
      have z1:=zero (fun i=>cU (φ i)) fun i hi=>(aK i hi).1;have bx:=zero (fun i=>cL (φ i)) fun i hi=>(aK i hi).2.1;have bz:=zero (fun i=>cS (φ i)) fun i hi=>(aK i hi).2.2;omega
     obtain⟨i,hi,ak⟩:=hex;cases ap:φ i with
     | gone d=>rw [ap] at ak;simp [cU,cL,cS] at ak
     | ph pi=>
      have bf:bt i=true:=by
       cases hb:bt i with
       | true=>rfl
       | false=>
        have hs:=h.CX i _ (Array.getElem?_eq_getElem hi);rw [ap,hb] at hs;rw [ap] at ak;generalize gs[i]=o at hs;generalize r i=ρ at hs;generalize S i=s at hs;generalize A:Nx.ph pi=x at hs ak;generalize aa:false=b at hs;cases hs with
        | walk _ _ _=>cases aa
        | again _ _=>cases aa
        | DM _ _=>simp [cU,cL,cS] at ak
        | D1 _ _ _ _=>have:=a8 i _ hi (ap.trans A);rw [hb] at this;cases this
        | blk _ _=>simp [cU,cL,cS] at ak
        | gone _ _=>cases A
      exact⟨i,_,Array.getElem?_eq_getElem hi,aF i hi pi ap bf⟩
 obtain⟨i,g,d,aD,hi,aw,bg⟩:=crowd_pick (P:=P) (w:=w) (sl:=sl) a4 a6
 suffices Fh P F B gs (w.at d) aD t i (mu F gs.size φ r bt) by
  obtain⟨gs',w',bh,u,aL,ay⟩:=this;exact⟨gs',w',bh,u,bg.trans aL,ay⟩
 have U:=h.at_ d;have aM:i<gs.size:=(Array.getElem?_eq_some_iff.1 hi).1;have hs:=h.CX i g hi;generalize A:φ i=x at hs;generalize aV:r i=ρ at hs;generalize hb:bt i=b at hs;generalize az:S i=s at hs;cases hs with
 | DM _ _=>cases aw
 | D1 _ _ _ _=>cases aw
 | blk _ _=>cases aw
 | gone hm al=>exact U.slip hi aw A aV hm al az
 | @again aj vs _ aT _ z hm Z=>
  have ah:i=0:=by simpa using hm
  subst ah;refine U.recv aC hi A hb (by rw [az];exact .refl _) Z (fun w=>?_) rfl;rw [stepG_tries];congr 1;have:=Z.law.run;obtain⟨a,b,c,d,e⟩:=aT;simp only at this;subst this;rfl
 | @walk p _ _ _ hm al an=>
  have bi:JQ (Stop P F p) g s∨∃f,ρ= .node f∧(∀w,Fits s w→∃g' s' w' es,stepG P (i==0) g w= .go g' w' es∧Jr P (i==0) (JQ (Stop P F p)) (f w) g' s'∧Fits s' w'∧Fr s w s' w'∧(∀e∈es,Ev s w w' e)∧(s= .quiet→s'= .quiet∧w'=w∧es= #[])):=by
   cases ρ with
   | leaf=>exact .inl an
   | node f=>
    rcases an with q | ⟨_,q⟩
    ·exact .inl q
    ·exact .inr ⟨f,rfl,q⟩
  rcases bi with⟨s₀,am,Z⟩ | ⟨f,rfl,hgo⟩
  ·subst az;by_cases aW:∃k',p= .BN k'
   ·obtain⟨k',rfl⟩:=aW;exact U.send aC hi A hb hm am Z
   by_cases c2:∃K,p= .Dp K
   ·obtain⟨K,rfl⟩:=c2;have ah:i=0:=by simpa [Fam.Ch] using hm
    subst ah;obtain⟨p0,ab,ao⟩:=h.A9.main;have:p0= .Dp K:=by rw [A] at ab;exact(Nx.ph.inj ab).symm
    subst this;obtain⟨rfl,bj,O⟩:=ao;obtain⟨g',child,_,_,hgo,aN,aO⟩:=Z.law.go _ rfl;have au:sm=0:=by have:=h.A9.mode;rw [O] at this;exact this.2.2.1
    have bk:=h.A9.spawn A;have aA:F.Cn K= .DN∨F.Cn K= .Dw (K+1):=by unfold Fam.Cn;split;exact .inl rfl;exact .inr rfl
    have aq:F.start K= .BN K∨F.start K= .BY:=by unfold Fam.start;split;exact .inl rfl;exact .inr rfl
    have bl:gs.size=B.N0+K:=by rw [O] at ai;simpa using ai
    refine U.spawn hi A O am (hgo _) aO aN ?_ ?_ ?_ ?_ bk ⟨rfl,?_,?_⟩ (fun k' aX ag=>?_) (fun e=>by rw [O] at e;cases e) ?_ au
    ·rcases aA with e | e <;> rw [e] <;> rfl
    ·rcases aq with e | e <;> rw [e] <;> rfl
    ·rcases aA with e | e <;> rw [e] <;> rfl
    ·rcases aq with e | e <;> rw [e] <;> rfl
    ·rcases aA with e | e <;> rw [e] <;> rfl
    ·rcases aq with e | e <;> rw [e] <;> rfl
    ·by_cases e:k'=K
     ·subst e;rw [upd_ne _ _ (by omega),show B.N0+k'=gs.size by omega,upd_same] at ag;rcases aq with e | e <;> rw [e] at ag <;> exact ag.elim
     ·rw [upd_ne _ _ (by omega),upd_ne _ _ (by omega)] at ag;exact⟨by omega,ag⟩
    ·have:wt F.n (.ph (F.start K))≤10:=by rcases aq with e | e <;> rw [e] <;> simp [wt]
     have ay:wt F.n (.ph (F.Cn K))+20≤5*F.n+60+20*(F.n - K):=by
      rcases aA with e | e <;> rw [e] <;> simp only [wt] <;> omega
     have aY:wt F.n (.ph (.Dp K))=5*F.n+55+20*(F.n - K):=rfl;omega
   by_cases c3:p= .DN
   ·subst c3;have ah:i=0:=by simpa [Fam.Ch] using hm
    subst ah;obtain⟨p0,ab,ao⟩:=h.A9.main;have:p0= .DN:=by rw [A] at ab;exact(Nx.ph.inj ab).symm
    subst this;obtain⟨bj,O⟩:=ao;obtain⟨g',child,_,_,hgo,aN,aO⟩:=Z.law.Ey rfl;have au:sm=0:=by have:=h.A9.mode;rw [O] at this;exact this.2.2.1
    have bl:gs.size=B.N0+j:=by rw [O] at ai;simpa using ai
    refine U.spawn hi A O am (hgo _) aO aN rfl rfl rfl rfl (h.A9.Sk A) ⟨rfl,rfl,rfl⟩ (fun k' aX ag=>?_) (fun _=>⟨by omega,rfl⟩) (by simp only [wt];omega) au;rw [upd_ne _ _ (by omega),upd_ne _ _ (by omega)] at ag;exact⟨aX,ag⟩
   by_cases c4:∃aj vs,p= .BC aj vs
   ·obtain⟨aj,vs,rfl⟩:=c4;have ah:i=0:=by simpa [Fam.Ch] using hm
    subst ah;exact U.recv aC hi A hb am Z (fun _=>rfl) rfl
   by_cases aZ:p= .Cm
   ·subst aZ;exact U.close hi A hm Z
   by_cases aB:p= .Cf∧sm=0
   ·obtain⟨rfl,aB⟩:=aB;exact U.block hi A hb hm am Z aB
   obtain⟨v',w',sm',es,nx,bm⟩:=h.A9.enabled aM A (fun k e=>aW ⟨k,e⟩) (fun k e=>c2 ⟨k,e⟩) c3 (fun aj vs e=>c4 ⟨aj,vs,e⟩) aZ (fun e=>by
    have ac:=h.A9.mode
    subst e
    have a0:c=true∧i=B.N0+F.n:=by
     rcases h.A9.DD aM with rfl | ⟨a,b⟩ | ⟨k',bn,rfl⟩ | q
     ·obtain⟨q,al,bo⟩:=h.A9.main;rw [A] at al;cases al;exact bo.elim
     ·have:=h.A9.old i a b;rw [A] at this;exact this.elim
     ·have:=h.A9.work k' bn;rw [A] at this;exact this.elim
     ·exact q
    rw [if_pos a0.1,← a0.2,A] at ac
    obtain⟨bb,_⟩:=ac
    have:sm≠0:=fun q=>aB ⟨rfl,q⟩
    omega)
   exact U.act hi A hm am Z bm
  ·subst az;have bp:Fits (S i) (w.at d):=U.BT.fits i aM;obtain⟨g',s',w',es,aL,ay,aY,bq,br,bu⟩:=hgo (w.at d) bp;exact U.own hi A hm al aL ay aY bq br bu (by rw [aV];exact⟨f,_,rfl,rfl⟩)
theorem Inv.run(Z:∀k v E E',Le E E'→F.msg k v E→F.msg k v E'):∀(A:Mu) (gs:Array Goroutine) (w:World) (sl:Option (Nat×Nat)) (t:Trace) (φ:Nat→Nx) (r:Nat→Rk) (bt:Nat→Bool) (S:Nat→St) (Sh:Nat→Prop) (j:Nat) (c:Bool) (v wt' sm:Nat) (cl:Bool) (k:Nat),
  mu F gs.size φ r bt=A→Inv P F B gs w t φ r bt S Sh j c v wt' sm cl k→∃n gs' w' K O,runNT P n (crowd gs w sl) t=(.next (crowd gs' w' K),O)∧Over P F B gs' w' O:=by
 intro A
 induction A using Mu.wf.induction with
 | _ A aa=>
  intro gs w sl t φ r bt S Sh j c v wt' sm cl k ab h;obtain⟨gs',w',K,u,U,hh⟩:=h.step (sl:=sl) Z;rcases hh with⟨ac,ae,ag,S',ah,ai,aj,v',ak,sm',cl',k',al,am⟩ | an
  ·obtain⟨n,ao,ap,aq,ar,au,av⟩:=aa _ (ab▸am) gs' w' K (t++u) ac ae ag S' ah ai aj v' ak sm' cl' k' rfl al;exact⟨n+1,ao,ap,aq,ar,Ig U au,av⟩
  ·exact⟨1,gs',w',K,t++u,Ig U rfl,an⟩
end
end Pal
namespace Pal
open Go Go.Conc
open Go.ConcN (upd upd_same upd_ne sumTo sumTo_upd sumTo_upd_out sumTo_congr le_sumTo sumTo_le)
def FZ(H:LH)(a b:Nat):LH:=fun x=>if x=b then none else if x=a then none else H x
theorem Q9{P:Program}(F:Fam){Q:GP}{g:Goroutine}{s:St}(ae:1≤F.n)(am:F.n<2147483647)(an:∀k v E E',Le E E'→F.msg k v E→F.msg k v E')
  (U:F.wg≠F.ch) (Z:s.H F.wg=some (F.Ew 0 0)) (aa:s.H F.ch=some (.chan 0 #[] false 0 0 false))
  (ao:Way P true (Stop P F (.Dw 0)) g ⟨s.E,FZ s.H F.wg F.ch,false⟩) (ap:∀g s,F.fin g s→(Cr P).ok Q g s):(Cr P).ok Q g s:=by
 intro gs w sl t q Sh hC;have K:0<gs.size:=(Array.getElem?_eq_some_iff.1 hC.main).1;let s1:St:={s with H:=fun b=>if b=F.wg then none else s.H b}
 have ag:lone s 0=s:=rfl;have aq:BE t w gs.size (upd (lone s) 0 s1) (fun b=>Sh b∨b=F.wg):=by
  have:=hC.BT.share (i:=0) K (b₀:=F.wg) (o₀:=F.Ew 0 0) (by rw [ag];exact Z);exact this
 have c2:BE t w gs.size (upd (upd (lone s) 0 s1) 0 ⟨s.E,FZ s.H F.wg F.ch,false⟩) (fun b=>(Sh b∨b=F.wg)∨b=F.ch):=by
  have:=aq.share (i:=0) K (b₀:=F.ch) (o₀:= .chan 0 #[] false 0 0 false) (by rw [upd_same];simp [s1,Ne.symm U,aa]);refine this.congr fun i hi=>?_;by_cases e:i=0
  ·subst e;rw [upd_same,upd_same,upd_same];exact⟨rfl,rfl⟩
  ·have h:∀(f:Nat→St) (x:St),upd f 0 x i=f i:=fun f x=>upd_ne f x e;constructor <;> simp only [h]
 have ah:∀b,s.H b≠none→∀x a,touchAt t x=some a→Cl a.loc=some b→Knows t 0 x:=fun b hb=>hC.BT.kH 0 K b (by rw [ag];exact hb);have ai:∀b,(b=F.wg∨b=F.ch)→s.H b≠none:=by rintro b (rfl | rfl) <;> simp [Z,aa]
 have aj:=hC.BT.fits 0 K;obtain⟨ρ,ar⟩:=ao;let φ:Nat→Nx:=fun i=>if i=0 then .ph (.Dw 0) else .gone (Deaf t i)
 have z:∀f:Nx→Nat,(∀d,f (.gone d)=0)→f (.ph (.Dw 0))=0→(sumTo gs.size fun i=>f (φ i))=0:=by
  intro f ak al;have:=sumTo_le (f:=fun i=>f (φ i)) (c:=0) (j:=gs.size) fun i _=>by
   show f (φ i)≤0;by_cases e:i=0
   ·simp [φ,e,al]
   ·simp [φ,e,ak]
  omega
 have au:∀i,(upd (upd (lone s) 0 s1) 0 ⟨s.E,FZ s.H F.wg F.ch,false⟩) i=if i=0 then⟨s.E,FZ s.H F.wg F.ch,false⟩ else .quiet:=by
  intro i;by_cases e:i=0
  ·subst e;rw [upd_same];rfl
  ·rw [upd_ne _ _ e,upd_ne _ _ e];simp [lone,e]
 have av:F.Ew (Fam.word 0 0) (0:Nat)=F.Ew 0 0:=by simp [Fam.word]
 have aw:Inv P F ⟨gs.size,t.size,s.E,w⟩ gs w t φ (fun i=>if i=0 then ρ else chain (q i)) (fun _=>true) (upd (upd (lone s) 0 s1) 0 ⟨s.E,FZ s.H F.wg F.ch,false⟩) (fun b=>(Sh b∨b=F.wg)∨b=F.ch) 0 false 0 0 0 false 0:=by
  refine⟨⟨K,ae,am,by simp,Nat.zero_le _,by simp,⟨.Dw 0,rfl,rfl,ae,rfl⟩,fun i ak al=>?_,fun k A=>by omega,by simp,?_,by simp [φ,pend],?_,fun k A=>by omega,.nil,fun k A=>by cases A⟩,
   ⟨fun i hi=>?_,fun i hi=>hC.lv.above i hi,fun x a b O hb ab A i hi ay=>?_,fun x a b O hb ab A=>?_,fun x g az U aA=> .inl (hC.over x g az U aA),fun x O e=>?_,Nat.le_refl _,fun k A=>by omega,by simp,by simp⟩,fun i g' ac=>?_,c2,.inl (.inr rfl),.inr rfl,U,?_,?_,by simp,by simp,?_,rfl,rfl,rfl⟩
  ·have:i≠0:=by omega
   simp [φ,this,Dj]
  ·rw [z cU (fun _=>rfl) rfl];simp [φ,pend]
  ·simp only [Bool.false_eq_true,if_false,BX];exact⟨z cL (fun _=>rfl) rfl,z cS (fun _=>rfl) rfl,trivial,trivial,trivial⟩
  ·by_cases e:i=0
   ·subst e;simp [φ,CI];exact hC.hears
   ·simp [φ,e,CI]
  ·have:i=0:=by
    rcases ay with e | e
    ·exact e
    ·exact absurd hi (Nat.not_lt.2 e)
   subst this;exact ah b (ai b ab) x a O hb
  ·exact ah b (ai b ab) x a O hb
  ·have:=lt_of_act? e;have aV:t.size≤x:=O;omega
  ·rw [au];by_cases e:i=0
   ·subst e;rw [hC.main] at ac;obtain rfl:=Option.some.inj ac;simp only [if_true,φ];exact .walk rfl (fun h=>by cases h) ar
   ·have hm:(i==0)=false:=by rw [beq_eq_false_iff_ne];exact e
    simp only [e,if_false,φ];exact .gone hm (hC.lv.old i g' (by omega) ac)
  ·show w.heap[F.wg]? =_;rw [av];exact aj.h _ _ Z
  ·exact aj.h _ _ aa
  ·rw [upd_same];exact Le.refl _
 obtain⟨n,gs',w',aB,aC,aD,aE,aF,g',s',aG,aH,hle,aI,aJ,aK⟩:=Inv.run an _ _ _ sl _ _ _ _ _ _ _ _ _ _ _ _ _ rfl aw;obtain⟨n2,aL,w2,aM,t2,q2,aN,aO,s2,k1,aP,aQ,aR,aS,aT,aU⟩:=ap g' s' aH gs' w' aB aC aE aF aG;refine⟨n+n2,aL,w2,aM,t2,q2,aN,aO,s2,?_,aP,aQ,fun b o h=>aR b o (hle b o h),aS.trans aI,aT.trans aJ,aU.trans aK⟩;rw [runNT_add,aD];exact k1
end Pal
namespace Pal
open Go Go.Conc
section
variable {P:Program}{F:Fam}{J:Judge P}{Q:GP}{n:Nat}{L L':Env}{ds:List Deferred}{k:List Item}{cs:List Frame}{s s':St}{b:Frame}{main:Bool}
theorem BV(hb:b.roundOf=none)(T:Array Value)(todo:List Item):fr b T ds todo=b.at ⟨T,ds⟩ todo:=by simp [fr,Frame.at,hb]
theorem GG(hb:b.roundOf=none)(T:Array Value)(todo:List Item):CN b T ds todo={b.at ⟨T,ds⟩ todo with mode:= .returning}:=by simp [CN,Frame.at,hb]
theorem Dh(T:Array Value)(ds:List Deferred)(x:Operand):(⟨T,ds⟩:Act).eval x=Bm T x:=by cases x <;> rfl
theorem DY(T:Array Value)(ds:List Deferred)(d:Option Tmp)(v:Value):(⟨T,ds⟩:Act).put d v=⟨BQ T d v,ds⟩:=by cases d <;> rfl
def JO(J:Judge P)(Q:GP)(b:Frame)(n:Nat)(L:Env)(ds:List Deferred)(cs:List Frame)(s:St):Prop:=
 ∀T,Has n L T→∀todo,J.ok Q (G (CN b T ds todo) cs) s
theorem JL.out(A:b.roundOf=none)(h:JO J Q b n L ds cs s):JL J Q b n L ds [] cs s:=fun T K=>
 Judge.B9 rfl (fun w=>by simp [G,stepG,stepG.exec,fr,CN,A]) (h T K [])
theorem JL.EE(A:b.roundOf=none)(h:JO J Q b n L ds cs s):JL J Q b n L ds (.code .ret::k) cs s:=fun T K=>
 Judge.B9 rfl (fun w=>by simp [G,stepG,stepG.exec,fr,CN,A]) (h T K (.code .ret::k))
theorem JO.leave{c:Frame}{v:Value}(K:b.kind= .normal)(A:Bx P b.fn L n s v)(h:J.ok Q (G (c.finish v) cs) s):JO J Q b n L [] (c::cs) s:=fun T O todo=>by
 obtain⟨fn,U,A⟩:=A
 exact Judge.leave K U (A T O) h
theorem JO.leaveD{c:Frame}{fn:Func}(K:b.kind= .deferred)(O:P.funcs[b.fn]? =some fn)(A:fn.results= #[])(U:c.mode= .returning∨c.mode= .panicking [goexitEntry])(h:J.ok Q (G c cs) s):JO J Q b n L [] (c::cs) s:=fun T ab todo=>by
 refine Judge.B9 rfl (fun w=>?_) h
 have Z:=results_none A T P w
 have aa:=fun(x:Array Event)=>events_results_none (P:=P) (w:=w) A T x
 rcases U with e | e <;> simp [G,stepG,unwind,CN,O,Z,aa,doReturn,K,GStep.after,seen_none,e,goexitEntry]
theorem JO.enter{f:FuncId}{fn:Func}{c:Code}{vs:List Value}(K:b.roundOf=none)(U:P.funcs[f]? =some fn)(Z:(fn.name== "runtime.NumGoroutine")=false)(hb:fn.body=some c)(ac:vs.length≤fn.ntmps)
  (h:∀T,Has n L T→∀todo,JL J Q (baseD f) fn.ntmps (DZ 0 vs) [] [.code c] (CN b T ds todo::cs) s):JO J Q b n L (dcall f vs.toArray::ds) cs s:=fun T aa todo=>by
 refine Judge.B9 rfl (fun w=>?_) (h T aa todo (vs.toArray++Array.replicate (fn.ntmps - vs.length) undef) ⟨by simp;omega,fun t v ht=>?_⟩)
 ·rw [GG K,stepG_unwind_enter (a:=⟨T,dcall f vs.toArray::ds⟩) rfl U Z hb,GG K]
  rw [BV (b:=baseD f) rfl];simp
 ·obtain⟨_,A⟩:=GF ht;have ab:t<vs.length:=by
   rcases Nat.lt_or_ge t vs.length with O | O
   ·exact O
   ·simp at A;have:=(List.getElem?_eq_some_iff.1 A).1;omega
  rw [Array.getD_eq_getD_getElem?,Array.getElem?_append_left (by simpa using ab)];simp at A;simp [A]
theorem JL.defer{ops:Array Oper}{i:Nat}{rest:List Nat}{d:Option Tmp}{f:FuncId}{args:Array Operand}{ats:Array TypeId}{ty:TypeId}{p:String}{af:Array Edge}{g:Option (Nat×Bool)}{vs:List Value}
  (O:ops[i]? =some ⟨d,.defer ⟨.value (.func f),args,ats⟩,ty,p,af,g⟩) (U:b.roundOf=none) (hw:AT L ops ⟨d,.defer ⟨.value (.func f),args,ats⟩,ty,p,af,g⟩=some true) (A:((b.kind != .early)&&Bd n d)=true)
  (Z:evs L args.toList=some vs) (h:JL J Q b n (AJ L d undef) (dcall f vs.toArray::ds) (.inRegion ops rest::k) cs s):
  JL J Q b n L ds (.inRegion ops (i::rest)::k) cs s:=fun T K=>by
 simp only [Bool.and_eq_true] at A
 have aa:args.map (Bm T)=vs.toArray:=by
  rw [← DW K.Eh Z];apply Array.ext';simp
 refine Judge.oper O (B4 K hw) (by simpa using A.1) (.inl U) ?_;have ab:execOp (Bm T) ⟨d,.defer ⟨.value (.func f),args,ats⟩,ty,p,af,g⟩= .pure (.defer (dcall f vs.toArray)):=by
  simp only [execOp,resolve,bind,Sem.bind,Deferred.ofValue,Bm,pure,dcall];rw [aa];simp
 rw [ab];exact h _ (K.put A.2 undef)
def GR:Ph→Bool
 | .BN _ | .Dp _ | .DN | .BC _ _ | .Cm | .Cf=>false
 | _=>true
theorem EY{p:Ph}{g:Goroutine}(A:GR p=true)(O:g.status= .running)(U:g.offers=none)(K:if Fam.CB p=true then s= .quiet else s.q=false)(Z:p= .CW→mayWake P g=true)
  (h:∀v wt sm v' wt' sm' es nx,F.act p v wt sm=some ((v',wt',sm'),es,nx)→∃g',(∀w,F.WG w v wt sm→stepG P (Fam.Ch p) g w= .go g' (F.put w v' wt' sm') es)∧g'.status= .running∧H2 P (Stop P F) (Fam.Ch p) nx g' (Fam.Eu p s)):Stop P F p g s:=
 DO.stop {
  run:=O
  offers:=U
  quiet:=fun e=>by rw [if_pos e] at K;exact K
  live:=fun e=>by rw [if_neg (by rw [e];simp)] at K;exact K
  act:=h
  EL:=fun e=>by rcases e with e | e;exact Z e;subst e;cases A
  CY:=fun e=>by subst e;cases A
  close:=fun e=>by subst e;cases A
  send:=fun k e=>by subst e;cases A
  go:=fun j e=>by subst e;cases A
  Ey:=fun e=>by subst e;cases A
  recv:=fun aa vs e=>by subst e;cases A}
theorem GH{w:World}{v wt sm:Nat}(h:F.WG w v wt sm):F.put w v wt sm=w:=by
 unfold Fam.put;have:w.heap.setIfInBounds F.wg (F.Ew (Fam.word v wt) sm)=w.heap:=by
  apply Array.ext_getElem?;intro i;by_cases e:F.wg=i
  ·subst e;unfold Fam.WG at h;have K:F.wg<w.heap.size:=by
    rcases Nat.lt_or_ge F.wg w.heap.size with A | A
    ·exact A
    ·simp [Array.getElem?_eq_none A] at h
   rw [Array.getElem?_setIfInBounds_self_of_lt K,h]
  ·rw [Array.getElem?_setIfInBounds_ne e]
 rw [this]
theorem Fb{w:World}{v wt sm:Nat}(h:F.WG w v wt sm):w.cell? F.sA=some (.int .u64 (Fam.word v wt))∧w.cell? F.mA=some (.int .u32 sm)∧w.frozen? F.sA=false∧w.frozen? F.mA=false:=by
 unfold Fam.WG Fam.Ew at h;refine⟨?_,?_,?_,?_⟩
 ·simp [World.cell?,Fam.sA,h]
 ·simp [World.cell?,Fam.mA,h]
 ·simp [World.frozen?,Fam.sA,h]
 ·simp [World.frozen?,Fam.mA,h]
theorem Ic{w:World}{v wt sm v' wt':Nat}(h:F.WG w v wt sm):w.setCell F.sA (.int .u64 (Fam.word v' wt'))=F.put w v' wt' sm:=by
 unfold Fam.put World.setCell;congr 1;apply Array.ext_getElem?;intro i;unfold Fam.WG Fam.Ew at h;rw [Array.getElem?_modify];have K:F.wg<w.heap.size:=by
  rcases Nat.lt_or_ge F.wg w.heap.size with A | A
  ·exact A
  ·simp [Array.getElem?_eq_none A] at h
 by_cases e:F.wg=i
 ·subst e;rw [Array.getElem?_setIfInBounds_self_of_lt K,h];simp [Fam.sA,Fam.Ew]
 ·rw [Array.getElem?_setIfInBounds_ne e];simp [Fam.sA,e]
theorem LP{w:World}{v wt sm sm':Nat}(h:F.WG w v wt sm):w.setCell F.mA (.int .u32 sm')=F.put w v wt sm':=by
 unfold Fam.put World.setCell;congr 1;apply Array.ext_getElem?;intro i;unfold Fam.WG Fam.Ew at h;rw [Array.getElem?_modify];have K:F.wg<w.heap.size:=by
  rcases Nat.lt_or_ge F.wg w.heap.size with A | A
  ·exact A
  ·simp [Array.getElem?_eq_none A] at h
 by_cases e:F.wg=i
 ·subst e;rw [Array.getElem?_setIfInBounds_self_of_lt K,h];simp [Fam.mA,Fam.Ew]
 ·rw [Array.getElem?_setIfInBounds_ne e];simp [Fam.mA,e]
structure BO (P:Program) (f:FuncId) (e:Array Value→Sem Value):Prop where
 h:∃fn,P.funcs[f]? =some fn∧(fn.name== "runtime.NumGoroutine")=false∧fn.body.isNone=true∧Extern.findNext fn=none∧Extern.find fn=some e
section
variable {ops:Array Oper}{i:Nat}{rest:List Nat}{d:Option Tmp}{f:FuncId}{args:Array Operand}{ats:Array TypeId}{ty:TypeId}{pp:String}{af:Array Edge}{g:Option (Nat×Bool)}{vs:List Value}{p q:Ph}
theorem La{T:Array Value}(A:Has n L T)(K:evs L args.toList=some vs):args.map (⟨T,ds⟩:Act).eval=vs.toArray:=by
 have:(⟨T,ds⟩:Act).eval=Bm T:=funext fun x=>Dh T ds x;rw [this,← DW A.Eh K];apply Array.ext';simp
theorem JL.HI{m:Mark}(Z:GR p=true)(aa:if Fam.CB p=true then s= .quiet else s.q=false)(ab:p≠ .CW)(ac:∀v wt sm,F.act p v wt sm=some ((v,wt,sm),#[Fam.CQ m],.ph q))(ae:Fam.Eu p s=s)
  (ag:ops[i]? =some ⟨d,.call ⟨.value (.func f),args,ats⟩,ty,pp,af,g⟩) (K:b.roundOf=none) (hw:AT L ops ⟨d,.call ⟨.value (.func f),args,ats⟩,ty,pp,af,g⟩=some true) (A:((b.kind != .early)&&Bd n d)=true)
  (hm:∀x,m≠ .extern x) (he:BO P f (fun _=>do mark m;pure Extern.Race.none_))
  (h:JL (A8 P (Fam.Ch p)) (Stop P F q) b n (AJ L d (.tuple #[])) ds (.inRegion ops rest::k) cs s):
  JL (A8 P (Fam.Ch p)) (Stop P F p) b n L ds (.inRegion ops (i::rest)::k) cs s:=fun T O=>by
 simp only [Bool.and_eq_true] at A
 obtain⟨fn,ah,ai,hb,aj,he⟩:=he.h
 refine(A8 P _).stop (EY Z rfl rfl aa (fun e=>absurd e ab) fun v wt sm v' wt' sm' es nx U=>?_)
 rw [ac] at U;cases U
 refine⟨_,fun w ak=>?_,rfl,by rw [ae];exact h _ (O.put A.2 _)⟩
 rw [BV K,BV K,stepG_mark0 (a:=⟨T,ds⟩) m hm ag (B4 O hw) (by simpa using A.1) rfl ah ai hb aj he,GH ak,DY]
 rfl
theorem JL.HC{mk:Addr→Mark}{ad:Addr}(Z:GR p=true)(aa:if Fam.CB p=true then s= .quiet else s.q=false)(ab:p≠ .CW)(ac:∀v wt sm,F.act p v wt sm=some ((v,wt,sm),#[Fam.CQ (mk ad)],.ph q))
  (ae:ops[i]? =some ⟨d,.call ⟨.value (.func f),args,ats⟩,ty,pp,af,g⟩) (O:b.roundOf=none) (hw:AT L ops ⟨d,.call ⟨.value (.func f),args,ats⟩,ty,pp,af,g⟩=some true) (A:((b.kind != .early)&&Bd n d)=true)
  (hm:∀ad x,mk ad≠ .extern x) (he:BO P f (Extern.Race.marked mk)) (ag:evs L args.toList=some vs) (ah:vs[0]? =some (.pointer (some ad)))
  (h:JL (A8 P (Fam.Ch p)) (Stop P F q) b n (AJ L d (.tuple #[])) ds (.inRegion ops rest::k) cs (Fam.Eu p s)):
  JL (A8 P (Fam.Ch p)) (Stop P F p) b n L ds (.inRegion ops (i::rest)::k) cs s:=fun T K=>by
 simp only [Bool.and_eq_true] at A
 obtain⟨fn,ai,aj,hb,ak,he⟩:=he.h
 refine(A8 P _).stop (EY Z rfl rfl aa (fun e=>absurd e ab) fun v wt sm v' wt' sm' es nx U=>?_)
 rw [ac] at U;cases U
 refine⟨_,fun w al=>?_,rfl,h _ (K.put A.2 _)⟩
 rw [BV O,BV O,stepG_markAt (a:=⟨T,ds⟩) mk hm ae (B4 K hw) (by simpa using A.1) rfl ai aj hb ak he (ad:=ad) (by rw [La K ag];simpa using ah),GH al,DY]
 rfl
end
end
end Pal
namespace Pal
open Go Go.Conc
section
variable {E H:LH}{S:List Seg}{j l:Nat}{o o':Obj}
theorem Ix(ag:Ay E H S)(U:S[j]? =some [(l,o)])(o':Obj):(Ap E H S).upd l o'=Ap E H (S.set j [(l,o')])∧Ay E H (S.set j [(l,o')]):=by
 obtain⟨A,Z⟩:=Ed ag U;have O:=Nd.iff.1 Z;have aa:E l=none:=(O.2 (l,o) (by simp)).1;have ah:H l=none:=(O.2 (l,o) (by simp)).2;have ab:Nd E H (S.set j []).flatten:=JL.F1.Nd.left Z;have ai:∀q∈(S.set j []).flatten,q.1≠l:=fun q K e=>by
  have:=O.1;rw [List.map_append,List.nodup_append] at this;exact this.2.2 q.1 (List.mem_map_of_mem K) l (by simp) e
 have ac:AU (S.set j []).flatten H l=none:=by
  have key:∀(B:List (Nat×Obj)),(∀q∈B,q.1≠l)→AU B H l=none:=by
   intro B
   induction B with
   | nil=>intro _;exact ah
   | cons q B aj=>
    intro K;obtain⟨c,ak⟩:=q;have ae:l≠c:=fun e=>K (c,ak) (by simp) e.symm;have A:=aj fun al am=>K al (List.mem_cons_of_mem _ am);simp only [AU]
    first
    | rw [if_neg ae];exact A
    | rw [if_neg (Ne.symm ae)];exact A
  exact key _ ai
 have f1:=Gf (E:=E) (H:=H) (B:=(S.set j []).flatten) (r:=l) aa ac o ab;have f2:=Gf (E:=E) (H:=H) (B:=(S.set j []).flatten) (r:=l) aa ac o' ab;obtain⟨an,ao⟩:=Fc (seg:= [(l,o)]) U f2.1;refine⟨?_,ao⟩;rw [A,← an,← f1.2,← f2.2];unfold St.upd;congr 1;funext x;by_cases ap:x=l <;> simp [ap]
end
section
variable {P:Program}{J:Judge P}{Q:Goroutine→St→Prop}{b:Frame}{n:Nat}{L:Env}{ds:List Deferred}{k:List Item}{cs:List Frame}{E H:LH}{S:List Seg}{j l:Nat}
theorem Judge.CY{α:Type}{g:Goroutine}{g':α→Goroutine}{s:St}(x:Sem α)(aa:s.q=false)(ab:g.status= .running)
  (ac:∀w a w',x.run P w= .ok a w'→∃es,stepG P J.main g w= .go (g' a) w' es∧∀e∈es,e∈x.events P w #[])
  (h:lp P x s (fun a s'=>J.ok Q (g' a) s') (fun _ _=>False)):J.ok Q g s:=by
 refine J.step ⟨ab,fun w f=>?_,fun e=>by subst e;cases aa⟩;obtain⟨s',K,O,U,A⟩:=Ij _ h f;cases Z:x.run P w with
 | ok a w'=>
  rw [Z] at K O U A;simp only [Gu] at K O U;obtain⟨es,he,hm⟩:=ac w a w' Z;exact⟨g' a,s',w',es,he,A,K,O,fun e ae=>U e (hm e ae)⟩
 | halt a w'=>rw [Z] at A;exact A.elim
theorem Ie{r:Loop}{s:St}{A:Loop→St→Prop}{X:Halt→St→Prop}(h:s.get l=some (.loop r))(k:A r s):lp P (Instr.getLoop l) s A X:=by
 unfold Instr.getLoop getObj;simp only [bind,Sem.bind,lp];exact⟨_,h,rfl,k⟩
theorem LB{r:Loop}{T:Array Value}(j:Nat)(A:Ay E H S)(K:S[j]? =some [(l,.loop r)])(hs:(r.state== .busy)=false)(O:r.pending=none)
  (h:Ay E H (S.set j [(l,.loop {r with state:= .exhausted})])→J.ok Q (G (fr b T ds k) cs) (Ap E H (S.set j [(l,.loop {r with state:= .exhausted})]))):
  J.ok Q (G (fr b T ds (.endRangeFunc l::k)) cs) (Ap E H S):=by
 obtain⟨u1,U⟩:=Ix A K (.loop {r with state:= .exhausted});have Z:lp P (Instr.endLoop l) (Ap E H S) (fun a s'=>a=none∧s'=Ap E H (S.set j [(l,.loop {r with state:= .exhausted})])) (fun _ _=>False):=by
  unfold Instr.endLoop;refine AB _ _ (Ie (C8 (i:=0) A K rfl) ?_);rw [if_neg (by rw [hs];simp)];have aa:(Ap E H S).H l=some (.loop r):=by
   have:=C8 (i:=0) A K rfl;have ab:E l=none:=IY A K;unfold St.get at this;rw [show(Ap E H S).E l=none from ab] at this;exact this
  simp only [bind,Sem.bind,lp,setObj,pure];refine⟨⟨_,aa,rfl⟩,rfl,O,?_⟩;exact u1
 refine Judge.CY (g':=fun ac=>G (fr b T ds ((ac.map Item.code).toList++k)) cs) (Instr.endLoop l) rfl rfl (fun w a w' ae=>?_) (B8 _ Z (fun a s' ⟨ag,ah⟩=>by subst ag ah;exact h U) (fun _ _ h=>h));refine⟨seen P b.fn ((Instr.endLoop l).events P w #[])++ #[],?_,fun e he=>?_⟩
 ·simp [G,stepG,stepG.exec,fr,ae,GStep.after]
 ·exact mem_seen (by simpa using he)
def Oi(l:Nat)(f:FuncId):Frame:={(default:Frame) with fn:=f,kind:= .normal,roundOf:=some l}
theorem Dc.yield{r:Loop}{t:Tmp}{v:Value}{B:Seg}{R:Value→LH→Seg→Prop}{i:Nat}(A:B[i]? =some (l,.loop r))(K:r.params= #[t])
  (h:∀(Q:Goroutine→St→Prop) (O:Frame) (cs:List Frame) (H:LH),Ay E H [B]→(∀w E' S' B',Le E E'→S'.flatten=B'→R w E' B'→Ay E' H S'→J.ok Q (G (O.finish w) cs) (Ap E' H S'))→
   J.ok Q (G (fr (Oi l r.fn) (r.tmps.setIfInBounds t v) [] [.code r.assign,.beginRound,.code r.body]) (O::cs)) (Ap E H [B])):
  Dc J (.func (.yield l) #[] #[]) [v] E B R:=fun H U Q c cs Z=>by
 have aa:(mk E H B).get l=some (.loop r):=JU U A
 simp only [Deferred.ofValue,bind,Sem.bind,pure,invoke]
 unfold Instr.yield
 refine AB _ _ (Ie aa ?_)
 have ab:¬((#[]:Array Value)++ [v].toArray).size≠r.params.size:=by rw [K];simp
 rw [if_neg ab];have ac:((r.params.zip ((#[]:Array Value)++ [v].toArray)).foldl (fun tmps (t,a)=>tmps.setIfInBounds t a) r.tmps)=r.tmps.setIfInBounds t v:=by rw [K];simp [Array.zip,Array.zipWith,Array.zipWithMAux]
 simp only [lp,pure];have ae:mk E H B=Ap E H [B]:=by unfold Ap;simp
 rw [ac,ae];exact h Q c cs H (by unfold Ay;simpa using U) fun w E' S' B' hle A ag ah=>by
  subst A;exact Z w _ ⟨E',S'.flatten,hle,ag,ah,rfl⟩
theorem JL.beginRound{r:Loop}(j:Nat)(O:b.roundOf=some l)(U:b.kind= .normal)(A:Ay E H S)(K:S[j]? =some [(l,.loop r)])(hs:r.state= .ready)
  (h:Ay E H (S.set j [(l,.loop {r with state:= .busy})])→JL J Q b n L ds k cs (Ap E H (S.set j [(l,.loop {r with state:= .busy})]))):
  JL J Q b n L ds (.beginRound::k) cs (Ap E H S):=fun T Z=>by
 obtain⟨u1,aa⟩:=Ix A K (.loop {r with state:= .busy})
 have ab:lp P (Instr.beginRound l) (Ap E H S) (fun _ s'=>s'=Ap E H (S.set j [(l,.loop {r with state:= .busy})])) (fun _ _=>False):=by
  unfold Instr.beginRound;refine AB _ _ (Ie (C8 (i:=0) A K rfl) ?_);have ac:(Ap E H S).H l=some (.loop r):=by
   have:=C8 (i:=0) A K rfl;have ae:E l=none:=IY A K;unfold St.get at this;rw [show(Ap E H S).E l=none from ae] at this;exact this
  simp only [bind,Sem.bind,lp,setObj,pure,hs];exact⟨⟨_,ac,rfl⟩,rfl,u1⟩
 refine Judge.CY (g':=fun _=>G (fr b T ds k) cs) (Instr.beginRound l) rfl rfl (fun w a w' ag=>?_) (B8 _ ab (fun a s' ah=>by subst ah;exact h aa T Z) (fun _ _ h=>h));refine⟨seen P b.fn ((Instr.beginRound l).events P w #[])++ #[],?_,fun e he=>?_⟩
 ·simp [G,stepG,stepG.exec,fr,stepG.apply,O,U,ag,GStep.after,Frame.finish]
 ·exact mem_seen (by simpa using he)
theorem Jx{o:Obj}{seg:Seg}(A:Ay E H S)(K:S[j]? =some ((l,o)::seg)):(Ap E H S).H l=some o:=by
 have:=C8 (i:=0) A K rfl;have O:E l=none:=IY A K;unfold St.get at this;rw [show(Ap E H S).E l=none from O] at this;exact this
theorem JL.endRound{r:Loop}{c:Frame}(j:Nat)(O:b.roundOf=some l)(U:b.kind= .normal)(A:Ay E H S)(K:S[j]? =some [(l,.loop r)])
  (h:Ay E H (S.set j [(l,.loop {r with state:= .ready,pending:=none})])→J.ok Q (G (c.finish (.bool true)) cs) (Ap E H (S.set j [(l,.loop {r with state:= .ready,pending:=none})]))):
  JL J Q b n L [] [] (c::cs) (Ap E H S):=fun T ag=>by
 obtain⟨u1,Z⟩:=Ix A K (.loop {r with state:= .ready,pending:=none})
 have aa:lp P (Instr.endRound l none) (Ap E H S) (fun a s'=>a= .bool true∧s'=Ap E H (S.set j [(l,.loop {r with state:= .ready,pending:=none})])) (fun _ _=>False):=by
  unfold Instr.endRound;refine AB _ _ (Ie (C8 (i:=0) A K rfl) ?_);simp only [bind,Sem.bind,lp,setObj,pure];exact⟨⟨_,Jx A K,rfl⟩,rfl,rfl,u1⟩
 refine Judge.CY (g':=fun v=>G (c.finish v) cs) (Instr.endRound l none) rfl rfl (fun w a w' ab=>?_) (B8 _ aa (fun a s' ⟨ac,ae⟩=>by subst ac ae;exact h Z) (fun _ _ h=>h));refine⟨seen P b.fn ((Instr.endRound l none).events P w #[])++ #[],?_,fun e he=>?_⟩
 ·simp [G,stepG,stepG.exec,fr,O,U,ab,GStep.after,doReturn]
 ·exact mem_seen (by simpa using he)
theorem JL.rangeFunc{x:Operand}{params:Array Tmp}{as K:Code}{f:FuncId}{caps:List Value}(ah:b.roundOf=none)(ai:b.kind≠ .early)(ab:ev L x=some (.func (.func f) #[] caps.toArray))(hb:Cx P f=true)(aj:Ay E H S)
  (h:∀A l T,Has n L T→Ay E H (S++ [[(A,.deferred (some []))]]++ [[(l,.loop ⟨.ready,none,b.fn,T,params,as,K,A⟩)]])→
   J.ok Q (G (Frame.enter P f (.func (.yield l) #[] #[]::caps).toArray .normal) (fr b T (⟨.collected A,#[]⟩::ds) (.inRangeFunc l::k)::cs)) (Ap E H (S++ [[(A,.deferred (some []))]]++ [[(l,.loop ⟨.ready,none,b.fn,T,params,as,K,A⟩)]]))):
  JL J Q b n L ds (.code (.rangeFunc x params as K)::k) cs (Ap E H S):=fun T ac=>by
 have ak:lp P (Instr.enterLoop b.fn T params as K b.roundOf) (Ap E H S) (fun q s'=>∃A,q.2= [⟨.collected A,#[]⟩]∧Ay E H (S++ [[(A,.deferred (some []))]]++ [[(q.1,.loop ⟨.ready,none,b.fn,T,params,as,K,A⟩)]])∧s'=Ap E H (S++ [[(A,.deferred (some []))]]++ [[(q.1,.loop ⟨.ready,none,b.fn,T,params,as,K,A⟩)]])) (fun _ _=>False):=by
  unfold Instr.enterLoop;rw [ah];simp only [newObj,bind,Sem.bind,lp,pure];refine⟨rfl,fun A U Z=>?_⟩;obtain⟨aa,al⟩:=Gf U Z (.deferred (some [])) aj;obtain⟨p1,p2⟩:=CS aa;have am:(Ap E H S).upd A (.deferred (some []))=Ap E H (S++ [[(A,.deferred (some []))]]):=by rw [← p1,← al];rfl
  rw [am];refine⟨rfl,fun l an ao=>?_⟩;obtain⟨ap,aq⟩:=Gf an ao (.loop ⟨.ready,none,b.fn,T,params,as,K,A⟩) p2;obtain⟨p3,p4⟩:=CS ap;exact⟨A,rfl,p4,by rw [← p3,← aq];rfl⟩
 refine Judge.CY (g':=fun q=>G (Frame.enter P f (.func (.yield q.1) #[] #[]::caps).toArray .normal) (fr b T (q.2++ds) (.inRangeFunc q.1::k)::cs)) (Instr.enterLoop b.fn T params as K b.roundOf) rfl rfl (fun w a w' ar=>?_) (B8 _ ak (fun a s' ⟨A,U,Z,aa⟩=>by subst aa;simp only [U];exact h A a.1 T ac Z) (fun _ _ h=>h));obtain⟨l,mk⟩:=a;have au:Bm T x= .func (.func f) #[] caps.toArray:=ac.ev ab;obtain⟨fn,O,av,ae⟩:∃fn,P.funcs[f]? =some fn∧(fn.name== "runtime.NumGoroutine")=false∧fn.body.isNone=false:=by
  unfold Cx at hb;cases O:P.funcs[f]? with
  | none=>rw [O] at hb;cases hb
  | some fn=>
   rw [O] at hb;simp only [Bool.and_eq_true,Bool.not_eq_true'] at hb;exact⟨fn,rfl,hb.1,by cases ab:fn.body <;> simp_all⟩
 refine⟨seen P b.fn ((Instr.enterLoop b.fn T params as K b.roundOf).events P w #[])++ #[],?_,fun e he=>?_⟩
 ·have ag:=MI (b:=b) (ds:=mk++ds) T (.inRangeFunc l::k);simp only [fr] at ag;have aw:¬fn.name= "runtime.NumGoroutine" :=by simpa using av
  have ay:¬fn.body=none:=by intro e;rw [e] at ae;cases ae
  have az:Bm T (.const (.func (.yield l) #[] #[]))= .func (.yield l) #[] #[]:=rfl;simp [G,stepG,stepG.exec,fr,ar,GStep.after,stepG.apply,resolve,ag,au,Deferred.ofValue,invoke,callFunc,O,aw,ay,ai,az,seen_none]
 ·exact mem_seen (by simpa using he)
theorem JO.collected{A:Nat}(j:Nat)(ag:b.roundOf=none)(K:Ay E H S)(O:S[j]? =some [(A,.deferred (some []))])
  (h:Ay E H (S.set j [(A,.deferred none)])→JO J Q b n L ds cs (Ap E H (S.set j [(A,.deferred none)]))):JO J Q b n L (⟨.collected A,#[]⟩::ds) cs (Ap E H S):=fun T U todo=>by
 obtain⟨u1,Z⟩:=Ix K O (.deferred none)
 have aa:lp P (Instr.takeDeferred A) (Ap E H S) (fun a s'=>a= []∧s'=Ap E H (S.set j [(A,.deferred none)])) (fun _ _=>False):=by
  unfold Instr.takeDeferred getObj;simp only [bind,Sem.bind,lp,setObj,pure];exact⟨_,C8 (i:=0) K O rfl,rfl,⟨_,Jx K O,rfl⟩,rfl,rfl,u1⟩
 refine Judge.CY (g':=fun l=>G (CN b T (l++ds) todo) cs) (Instr.takeDeferred A) rfl rfl (fun w a w' ab=>?_) (B8 _ aa (fun a s' ⟨ac,ae⟩=>by subst ac ae;exact h Z T U todo) (fun _ _ h=>h));refine⟨seen P b.fn ((Instr.takeDeferred A).events P w #[])++ #[],?_,fun e he=>?_⟩
 ·simp [G,stepG,unwind,CN,ab,GStep.after]
 ·exact mem_seen (by simpa using he)
def H0(f:FuncId)(args caps:Array Value):Deferred:={target:= .fn (.func f) caps,args:=args}
theorem JO.N2{f:FuncId}{fn:Func}{c:Code}{vs caps:List Value}(ae:b.roundOf=none)(K:P.funcs[f]? =some fn)(U:(fn.name== "runtime.NumGoroutine")=false)(hb:fn.body=some c)(Z:(vs++caps).length≤fn.ntmps){s:St}
  (h:∀T,Has n L T→∀todo,JL J Q (baseD f) fn.ntmps (DZ 0 (vs++caps)) [] [.code c] (CN b T ds todo::cs) s):JO J Q b n L (H0 f vs.toArray caps.toArray::ds) cs s:=fun T aa todo=>by
 have ab:¬fn.name= "runtime.NumGoroutine" :=by simpa using U
 refine Judge.B9 rfl (fun w=>?_) (h T aa todo ((vs++caps).toArray++Array.replicate (fn.ntmps - (vs++caps).length) undef) ⟨by simp;simp at Z;omega,fun t v ht=>?_⟩)
 ·rw [BV (b:=baseD f) rfl];have:=enter_atD (P:=P) (vs++caps).toArray K hb;simp only [List.size_toArray] at this;rw [← this];simp [G,stepG,unwind,callDeferred,CN,H0,invoke,callFunc,K,ab,hb,GStep.after,seen_none]
 ·obtain⟨_,A⟩:=GF ht;have ac:t<(vs++caps).length:=by
   rcases Nat.lt_or_ge t (vs++caps).length with O | O
   ·exact O
   ·simp only [Nat.sub_zero] at A;have:=(List.getElem?_eq_some_iff.1 A).1;omega
  rw [Array.getD_eq_getD_getElem?,Array.getElem?_append_left (by simpa using ac)];simp only [Nat.sub_zero] at A;rw [List.getElem?_toArray,A];rfl
theorem JL.NP{ops:Array Oper}{i:Nat}{rest:List Nat}{d:Option Tmp}{x:Operand}{f:FuncId}{caps:List Value}{args:Array Operand}{ats:Array TypeId}{ty:TypeId}{p:String}{af:Array Edge}{g:Option (Nat×Bool)}{vs:List Value}{s:St}
  (O:ops[i]? =some ⟨d,.defer ⟨.value x,args,ats⟩,ty,p,af,g⟩) (U:b.roundOf=none) (hw:AT L ops ⟨d,.defer ⟨.value x,args,ats⟩,ty,p,af,g⟩=some true) (K:((b.kind != .early)&&Bd n d)=true)
  (Z:ev L x=some (.func (.func f) #[] caps.toArray)) (aa:evs L args.toList=some vs) (h:JL J Q b n (AJ L d undef) (H0 f vs.toArray caps.toArray::ds) (.inRegion ops rest::k) cs s):
  JL J Q b n L ds (.inRegion ops (i::rest)::k) cs s:=fun T A=>by
 simp only [Bool.and_eq_true] at K
 have ab:args.map (Bm T)=vs.toArray:=by
  rw [← DW A.Eh aa];apply Array.ext';simp
 refine Judge.oper O (B4 A hw) (by simpa using K.1) (.inl U) ?_;have ac:execOp (Bm T) ⟨d,.defer ⟨.value x,args,ats⟩,ty,p,af,g⟩= .pure (.defer (H0 f vs.toArray caps.toArray)):=by
  simp only [execOp,resolve,bind,Sem.bind,Deferred.ofValue,A.ev Z,pure,H0];rw [ab];simp
 rw [ac];exact h _ (A.put K.2 undef)
end
end Pal
namespace Pal
open Go Go.Conc
section
variable {P:Program}{s:St}{ρ:Operand→Value}{x y z:Operand}{d:Option Tmp}{t u ty e:TypeId}{p:String}{af:Array Edge}{g:Option (Nat×Bool)}{a:Option Addr}{l c:Nat}
theorem Yl.I2(ht:P.underlying t=some (.slice e))(A:ρ x= .slice a l c)(K:ρ (.const (.slice none 0 0))= .slice none 0 0):Yl P ⟨d,.binOp .eql t x (.const (.slice none 0 0)) u,ty,p,af,g⟩ ρ s (.bool a.isNone):=by
 refine Yl.Ds (sm:=do eqGuard .eql t x (.const (.slice none 0 0)) (ρ x) (ρ (.const (.slice none 0 0)));binOp .eql t (ρ x) (ρ (.const (.slice none 0 0)))) rfl ?_
 rw [A,K];have O:lp P (eqGuard .eql t x (.const (.slice none 0 0)) (.slice a l c) (.slice none 0 0)) s (fun _ s'=>s'=s) (fun _ _=>False):=by
  simp [eqGuard,lp,pure]
 refine AB _ _ (B8 _ O ?_ (fun _ _ h=>h));rintro _ _ rfl;have hb:binOp .eql t (.slice a l c) (.slice none 0 0)=(do pure (.bool (← Op.equal t (.slice a l c) (.slice none 0 0)))):=rfl
 rw [hb];refine AB (x:=Op.equal t (.slice a l c) (.slice none 0 0)) _ ?_;unfold Op.equal Op.maxDepth Op.equalIn;refine AB _ _ (Cd ht ?_);cases a <;> exact⟨rfl,rfl⟩
end
def Fi{α B:Type}(step:B→α→Option B):List α→B→Option B
 | [],b=>some b
 | x::l,b=>(step b x).bind fun A=>Fi step l A
section
variable {P:Program}{J:Judge P}{Q:Goroutine→St→Prop}{b:Frame}{n:Nat}{L:Env}{ds:List Deferred}{k:List Item}{cs:List Frame}{s:St}
theorem JL.Q5{α B:Type}{c:Code}{l:List α}{step:B→α→Option B}{acc acc':B}(ae:Fi step l acc=some acc')(I:Env→St→Nat→B→Prop)(ag:I L s 0 acc)
  (round:∀L s i A x K,I L s i A→l[i]? =some x→i<l.length→step A x=some K→(∀L' s',I L' s' (i+1) K→JL J Q b n L' ds (.inLoop c::k) cs s')→JL J Q b n L ds (.code c:: .inLoop c::k) cs s)
  (exit:∀L s,I L s l.length acc'→JL J Q b n L ds (.code c:: .inLoop c::k) cs s):JL J Q b n L ds (.code (.loop c)::k) cs s:=by
 refine JL.Gl ?_;have key:∀(rest:List α) (i:Nat) (A:B),l.drop i=rest→Fi step rest A=some acc'→∀L s,I L s i A→i≤l.length→JL J Q b n L ds (.code c:: .inLoop c::k) cs s:=by
  intro rest
  induction rest with
  | nil=>
   intro i A O U L s Z hle;have:l.length≤i:=by simpa using O
   obtain rfl:i=l.length:=by omega
   obtain rfl:A=acc':=Option.some.inj U;exact exit L s Z
  | cons x rest ah=>
   intro i A O U L s Z hle;have ab:l[i]? =some x:=by
    have aa:(l.drop i)[0]? =some x:=by rw [O];rfl
    simpa using aa
   have ac:i<l.length:=(List.getElem?_eq_some_iff.1 ab).1;obtain⟨K,aa,ai⟩:=Option.bind_eq_some_iff.1 U;refine round L s i A x K Z ab ac aa fun L' s' aj=>JL.again (ah (i+1) K ?_ ai L' s' aj ac);rw [← List.drop_drop,O];rfl
 exact key l 0 acc rfl ae L s ag (Nat.zero_le _)
end
section
variable {P:Program}{J:Judge P}{Q:Goroutine→St→Prop}{b:Frame}{n:Nat}{ds:List Deferred}{ops:Array Oper}{k:List Item}{cs:List Frame}{m fuel:Nat}{listed:Array Bool}{L:Env}{E H:LH}{S:List Seg}
variable {d:Option Tmp}{x y:Operand}{t u ty e:TypeId}{p:String}{af:Array Edge}{g:Option (Nat×Bool)}{v:Value}{i:Nat}
theorem Take.OJ(K:Ay E H S)(O:ops[i]? =some ⟨d,.box e x,ty,p,af,g⟩)(hw:AT L ops ⟨d,.box e x,ty,p,af,g⟩=some true)(U:Bd n d=true)(Z:ev L x=some v)
  (h:∀r,Ay E H (S++ [[(r,.cells v.cells e (0,0))]])→Av J Q b n ds ops k cs m Da fuel (AX listed i) (AJ L d (.pointer (some ⟨r,0,none⟩))) (Ap E H (S++ [[(r,.cells v.cells e (0,0))]]))):
  Take J Q b n ds ops k cs m Da fuel listed L (Ap E H S) i:=
 Take.Jz O (by simp [Ci,U]) hw fun ρ aa=>by
  show lp P (do pure (Next.value (← Instr.box e (ρ x)))) _ _ _
  rw [aa x v Z]
  refine AB _ _ ?_
  unfold Instr.box
  refine AB _ _ (EX K fun r A=>?_)
  rw [(CS A).1]
  exact h r (CS A).2
end
end Pal
namespace Pal
open Go Go.Conc
def EM(P:Program)(d:Nat):GP:=fun g _=>∃q,QuitsD P q d g
def FF(P:Program):Frame:={(default:Frame) with fn:=P.funcs.size,defers:= [],mode:= .panicking [goexitEntry]}
section
variable {P:Program}{F:Fam}{J:Judge P}{Q:GP}{n:Nat}{L L':Env}{ds:List Deferred}{k:List Item}{cs:List Frame}{s s':St}{b:Frame}{main:Bool}
theorem Lv.quits{d:Nat}:∀{m:Nat} {g:Goroutine},Lv P (EM P d) m g→∃q,QuitsD P q d g
 | 0,_,h=>h
 | m+1,_,h=>by
  rcases h with h | ⟨A,g',K,h⟩
  ·exact h
  ·obtain⟨q,O⟩:=h.quits;exact⟨q+1,.ctl A K O⟩
theorem Ia{d:Nat}{g:Goroutine}(h:(En P).ok (EM P d) g .quiet):∃q,QuitsD P q d g:=by
 obtain⟨m,hm⟩:=h rfl;exact hm.quits
theorem Hk:(En P).ok (EM P 0) (G (FF P) []) .quiet:=by
 refine Judge.B9 (g':={frame:=FF P,callers:= [],status:= .finished,dying:=none}) rfl (fun w=>?_) ((En P).stop ⟨0,rfl,rfl⟩);have A:(default:Frame).todo= []:=rfl;have K:∀(m:FrameMode),Frame.catches P {fn:=P.funcs.size,tmps:=(default:Frame).tmps,todo:= [],defers:= [],mode:=m,kind:=(default:Frame).kind,roundOf:=(default:Frame).roundOf}=false:=fun m=>by simp [Frame.catches]
 simp [G,stepG,unwind,FF,goexitEntry,A,K]
theorem QZ{ops:Array Oper}{i:Nat}{rest:List Nat}{d:Option Tmp}{f:FuncId}{args:Array Operand}{ats:Array TypeId}{ty:TypeId}{pp:String}{af:Array Edge}{g:Option (Nat×Bool)}{T:Array Value}{e:Array Value→Sem Value}
  (A:ops[i]? =some ⟨d,.call ⟨.value (.func f),args,ats⟩,ty,pp,af,g⟩) (he:BO P f e):mayWake P (G (fr b T ds (.inRegion ops (i::rest)::k)) cs)=true:=by
 obtain⟨fn,K,_,hb,_⟩:=he.h;have O:fn.body.isSome=false:=by cases h:fn.body <;> simp_all
 simp [mayWake,G,fr,A,Frame.eval,K,O]
theorem QH{v wt:Nat}(A:1≤v)(K:v<2147483648)(O:wt≤1):IntKind.u64.wrap (Fam.word v wt+18446744069414584320)=Fam.word (v - 1) wt:=by
 simp only [Fam.word,Fam.KK,IntKind.wrap,IntKind.bits,IntKind.signed];simp;omega
theorem Q6{v:Nat}(h:v<2147483647):IntKind.u64.wrap (Fam.word v 0+4294967296)=Fam.word (v+1) 0:=by
 simp only [Fam.word,Fam.KK,IntKind.wrap,IntKind.bits,IntKind.signed];simp;omega
theorem word_inj{v v' wt:Nat}(h:Fam.word v wt=Fam.word v' wt):v=v':=by
 simp only [Fam.word,Fam.KK] at h;omega
section
variable {ops:Array Oper}{i:Nat}{rest:List Nat}{d:Option Tmp}{f:FuncId}{x y z:Operand}{ats:Array TypeId}{ty:TypeId}{pp:String}{af:Array Edge}{g:Option (Nat×Bool)}{p q:Ph}
theorem JL.Uw(ab:ops[i]? =some ⟨d,.call ⟨.value (.func f),#[x,y],ats⟩,ty,pp,af,g⟩)(Z:b.roundOf=none)(hw:AT L ops ⟨d,.call ⟨.value (.func f),#[x,y],ats⟩,ty,pp,af,g⟩=some true)(K:((b.kind != .early)&&Bd n d)=true)
  (he:BO P f (Extern.Atomic.update (Op.intArith .add) .u64 true)) (ac:ev L x=some (.pointer (some F.sA))) (ae:ev L y=some (.int .u64 18446744069414584320))
  (ag:JL (A8 P false) (Stop P F .Eg) b n (AJ L d (.int .u64 (Fam.word 0 1))) ds (.inRegion ops rest::k) cs .quiet)
  (ah:∀v wt:Nat,v<2147483647→wt≤1→¬(v=0∧wt=1)→JL (En P) (EM P 1) b n (AJ L d (.int .u64 (Fam.word v wt))) ds (.inRegion ops rest::k) cs .quiet):
  JL (A8 P false) (Stop P F .EJ) b n L ds (.inRegion ops (i::rest)::k) cs .quiet:=fun T A=>by
 simp only [Bool.and_eq_true] at K
 obtain⟨fn,ai,aj,hb,ak,he⟩:=he.h
 refine(A8 P _).stop (EY rfl rfl rfl rfl (by simp) fun v wt sm v' wt' sm' es nx O=>?_)
 simp only [Fam.act] at O
 split at O
 ·rename_i U
  cases O;refine⟨G (fr b (BQ T d (.int .u64 (Fam.word (v - 1) wt))) ds (.inRegion ops rest::k)) cs,fun w aa=>?_,rfl,?_⟩
  ·obtain⟨al,_,c3,_⟩:=Fb aa;rw [BV Z,BV Z];show stepG P false _ w=_;rw [stepG_add_atomic (a:=⟨T,ds⟩) ab (B4 A hw) (by simpa using K.1) rfl ai aj hb ak .u64 he (by rw [Dh];exact A.ev ac) (by rw [Dh];exact A.ev ae) al c3,QH U.1 U.2.1 U.2.2,Ic aa,DY]
   rfl
  ·split
   ·rename_i e;obtain⟨rfl,rfl⟩:=e;exact ag _ (A.put K.2 _)
   ·rename_i e;exact Ia (ah (v - 1) wt (by omega) U.2.2 (by omega) _ (A.put K.2 _))
 ·cases O
theorem JL.Uq{j:Nat}(ab:s.q=false)(ac:ops[i]? =some ⟨d,.call ⟨.value (.func f),#[x,y],ats⟩,ty,pp,af,g⟩)(Z:b.roundOf=none)(hw:AT L ops ⟨d,.call ⟨.value (.func f),#[x,y],ats⟩,ty,pp,af,g⟩=some true)(K:((b.kind != .early)&&Bd n d)=true)
  (he:BO P f (Extern.Atomic.update (Op.intArith .add) .u64 true)) (ae:ev L x=some (.pointer (some F.sA))) (ag:ev L y=some (.int .u64 4294967296))
  (ah:JL (A8 P true) (Stop P F (.EP j)) b n (AJ L d (.int .u64 (Fam.word 1 0))) ds (.inRegion ops rest::k) cs s)
  (ai:∀v:Nat,1≤v→v<2147483647→JL (A8 P true) (Stop P F (.D3 j)) b n (AJ L d (.int .u64 (Fam.word (v+1) 0))) ds (.inRegion ops rest::k) cs s):
  JL (A8 P true) (Stop P F (.Fq j)) b n L ds (.inRegion ops (i::rest)::k) cs s:=fun T A=>by
 simp only [Bool.and_eq_true] at K
 obtain⟨fn,aj,ak,hb,al,he⟩:=he.h
 refine(A8 P _).stop (EY rfl rfl rfl ab (by simp) fun v wt sm v' wt' sm' es nx O=>?_)
 simp only [Fam.act] at O
 split at O
 ·rename_i U
  obtain⟨U,rfl⟩:=U;cases O;refine⟨G (fr b (BQ T d (.int .u64 (Fam.word (v+1) 0))) ds (.inRegion ops rest::k)) cs,fun w aa=>?_,rfl,?_⟩
  ·obtain⟨am,_,c3,_⟩:=Fb aa;rw [BV Z,BV Z];show stepG P true _ w=_;rw [stepG_add_atomic (a:=⟨T,ds⟩) ac (B4 A hw) (by simpa using K.1) rfl aj ak hb al .u64 he (by rw [Dh];exact A.ev ae) (by rw [Dh];exact A.ev ag) am c3,Q6 U,Ic aa,DY]
   rfl
  ·split
   ·rename_i e;subst e;exact ah _ (A.put K.2 _)
   ·rename_i e;exact ai v (by omega) U _ (A.put K.2 _)
 ·cases O
theorem JL.UC(ae:GR p=true)(ag:if Fam.CB p=true then s= .quiet else s.q=false)(ah:p≠ .CW)(ai:Fam.Eu p s=s)(aj:∀v wt sm r,F.act p v wt sm=some r→r.1=(v,wt,sm)∧r.2.1= #[Fam.Dm F.sA])
  (ak:ops[i]? =some ⟨d,.call ⟨.value (.func f),#[x],ats⟩,ty,pp,af,g⟩) (O:b.roundOf=none) (hw:AT L ops ⟨d,.call ⟨.value (.func f),#[x],ats⟩,ty,pp,af,g⟩=some true) (A:((b.kind != .early)&&Bd n d)=true)
  (he:BO P f (Extern.Atomic.loadT (.int .u64))) (al:ev L x=some (.pointer (some F.sA)))
  (h:∀v wt sm r,F.act p v wt sm=some r→∃q,r.2.2= .ph q∧JL (A8 P (Fam.Ch p)) (Stop P F q) b n (AJ L d (.int .u64 (Fam.word v wt))) ds (.inRegion ops rest::k) cs s):
  JL (A8 P (Fam.Ch p)) (Stop P F p) b n L ds (.inRegion ops (i::rest)::k) cs s:=fun T K=>by
 simp only [Bool.and_eq_true] at A
 obtain⟨fn,am,an,hb,ao,he⟩:=he.h
 refine(A8 P _).stop (EY ae rfl rfl ag (fun e=>absurd e ah) fun v wt sm v' wt' sm' es nx U=>?_)
 obtain⟨Z,aa⟩:=aj _ _ _ _ U
 obtain⟨q,ab,ap⟩:=h _ _ _ _ U
 simp only at Z aa ab
 cases Z
 subst aa ab
 refine⟨_,fun w ac=>?_,rfl,by rw [ai];exact ap _ (K.put A.2 _)⟩
 obtain⟨aq,_,_,_⟩:=Fb ac
 rw [BV O,BV O,stepG_load_atomic (a:=⟨T,ds⟩) ak (B4 K hw) (by simpa using A.1) rfl am an hb ao .u64 he (by rw [Dh];exact K.ev al) aq,GH ac,DY]
 rfl
theorem JL.stA(aa:ops[i]? =some ⟨d,.call ⟨.value (.func f),#[x,y],ats⟩,ty,pp,af,g⟩)(U:b.roundOf=none)(hw:AT L ops ⟨d,.call ⟨.value (.func f),#[x,y],ats⟩,ty,pp,af,g⟩=some true)(O:((b.kind != .early)&&Bd n d)=true)
  (he:BO P f Extern.Atomic.storeT) (ab:ev L x=some (.pointer (some F.sA))) (ac:ev L y=some (.int .u64 0))
  (h:JL (A8 P false) (Stop P F .CW) b n (AJ L d (.tuple #[])) ds (.inRegion ops rest::k) cs .quiet):
  JL (A8 P false) (Stop P F .Ep) b n L ds (.inRegion ops (i::rest)::k) cs .quiet:=fun T A=>by
 simp only [Bool.and_eq_true] at O
 obtain⟨fn,ae,ag,hb,ah,he⟩:=he.h
 refine(A8 P _).stop (EY rfl rfl rfl rfl (by simp) fun v wt sm v' wt' sm' es nx K=>?_)
 simp only [Fam.act] at K
 split at K
 ·rename_i ai
  obtain⟨rfl,rfl⟩:=ai;cases K;refine⟨_,fun w Z=>?_,rfl,h _ (A.put O.2 _)⟩;obtain⟨aj,_,c3,_⟩:=Fb Z;have ak:(.int .u64 0:Value)= .int .u64 (Fam.word 0 0):=by simp [Fam.word]
  rw [BV U,BV U];show stepG P false _ w=_;rw [stepG_store_atomic (a:=⟨T,ds⟩) aa (B4 A hw) (by simpa using O.1) rfl ae ag hb ah he (by rw [Dh];exact A.ev ab) (by rw [Dh];exact A.ev ac) aj c3,ak,Ic Z,DY]
  rfl
 ·cases K
theorem JL.UD{m:Nat}(ak:s.q=false)(ab:ops[i]? =some ⟨d,.call ⟨.value (.func f),#[x,y,z],ats⟩,ty,pp,af,g⟩)(Z:b.roundOf=none)(hw:AT L ops ⟨d,.call ⟨.value (.func f),#[x,y,z],ats⟩,ty,pp,af,g⟩=some true)(O:((b.kind != .early)&&Bd n d)=true)
  (he:BO P f (Extern.Atomic.casT (.int .u64))) (ac:ev L x=some (.pointer (some F.sA))) (ae:ev L y=some (.int .u64 (Fam.word m 0))) (ag:ev L z=some (.int .u64 (Fam.word m 1)))
  (al:JL (A8 P false) (Stop P F .Ft) b n (AJ L d (.bool true)) ds (.inRegion ops rest::k) cs s)
  (am:JL (A8 P false) (Stop P F (.DL (m - 1))) b n (AJ L d (.bool false)) ds (.inRegion ops rest::k) cs s):
  JL (A8 P false) (Stop P F (.EK m)) b n L ds (.inRegion ops (i::rest)::k) cs s:=fun T A=>by
 simp only [Bool.and_eq_true] at O
 obtain⟨fn,ah,ai,hb,aj,he⟩:=he.h
 refine(A8 P _).stop (EY rfl rfl rfl ak (by simp) fun v wt sm v' wt' sm' es nx K=>?_)
 simp only [Fam.act] at K
 split at K
 ·rename_i an
  obtain⟨_,_,rfl⟩:=an;split at K
  ·rename_i e;subst e;cases K;refine⟨_,fun w U=>?_,rfl,al _ (A.put O.2 _)⟩;obtain⟨aa,_,c3,_⟩:=Fb U;rw [BV Z,BV Z];show stepG P false _ w=_;rw [stepG_cas_hit (a:=⟨T,ds⟩) ab (B4 A hw) (by simpa using O.1) rfl ah ai hb aj .u64 he (by rw [Dh];exact A.ev ac) (by rw [Dh];exact A.ev ae) (by rw [Dh];exact A.ev ag) aa c3,Ic U,DY]
   rfl
  ·rename_i e;cases K;refine⟨_,fun w U=>?_,rfl,am _ (A.put O.2 _)⟩;obtain⟨aa,_,c3,_⟩:=Fb U;rw [BV Z,BV Z];show stepG P false _ w=_;rw [stepG_cas_miss (a:=⟨T,ds⟩) ab (B4 A hw) (by simpa using O.1) rfl ah ai hb aj .u64 he (by rw [Dh];exact A.ev ac) (by rw [Dh];exact A.ev ae) (by rw [Dh];exact A.ev ag) aa c3 (fun q=>e (word_inj q)),GH U,DY]
   rfl
 ·cases K
theorem JL.T8{args:Array Operand}{vs:List Value}(U:ops[i]? =some ⟨d,.call ⟨.value (.func f),args,ats⟩,ty,pp,af,g⟩)(Z:b.roundOf=none)(hw:AT L ops ⟨d,.call ⟨.value (.func f),args,ats⟩,ty,pp,af,g⟩=some true)(K:((b.kind != .early)&&Bd n d)=true)
  (he:BO P f Extern.Sync.semrelease) (ab:evs L args.toList=some vs) (ac:vs[0]? =some (.pointer (some F.mA)))
  (h:JL (En P) (EM P 1) b n (AJ L d (.tuple #[])) ds (.inRegion ops rest::k) cs .quiet):
  JL (A8 P false) (Stop P F .CW) b n L ds (.inRegion ops (i::rest)::k) cs .quiet:=fun T O=>by
 simp only [Bool.and_eq_true] at K
 have ae:=QZ (P:=P) (b:=b) (ds:=ds) (k:=k) (cs:=cs) (rest:=rest) (T:=T) U he
 obtain⟨fn,ag,ah,hb,ai,he⟩:=he.h
 refine(A8 P _).stop (EY rfl rfl rfl rfl (fun _=>ae) fun v wt sm v' wt' sm' es nx A=>?_)
 simp only [Fam.act] at A
 split at A
 ·rename_i aj
  subst aj;cases A;refine⟨_,fun w aa=>?_,rfl,Ia (h _ (O.put K.2 _))⟩;obtain⟨_,c2,_,c4⟩:=Fb aa;rw [BV Z,BV Z];show stepG P false _ w=_;rw [stepG_semrelease (a:=⟨T,ds⟩) U (B4 O hw) (by simpa using K.1) rfl ag ah hb ai he (ad:=F.mA) (by rw [La O ab];simpa using ac) c2 c4,DY];have ak:IntKind.u32.wrap (((0:Nat):Int)+1)=((1:Nat):Int):=by decide
  rw [ak,LP aa]
 ·cases A
theorem JL.R5{args:Array Operand}{vs:List Value}(ah:s.q=false)(aa:ops[i]? =some ⟨d,.call ⟨.value (.func f),args,ats⟩,ty,pp,af,g⟩)(U:b.roundOf=none)(hw:AT L ops ⟨d,.call ⟨.value (.func f),args,ats⟩,ty,pp,af,g⟩=some true)(Z:((b.kind != .early)&&Bd n d)=true)
  (he:BO P f Extern.Sync.semacquire) (ai:evs L args.toList=some vs) (aj:vs[0]? =some (.pointer (some F.mA)))
  (h:JL (A8 P false) (Stop P F .Er) b n (AJ L d (.tuple #[])) ds (.inRegion ops rest::k) cs s):
  JL (A8 P false) (Stop P F .Cf) b n L ds (.inRegion ops (i::rest)::k) cs s:=fun T A=>by
 simp only [Bool.and_eq_true] at Z
 obtain⟨fn,ab,ac,hb,ae,he⟩:=he.h
 have ag:(args.map (⟨T,ds⟩:Act).eval)[0]? =some (.pointer (some F.mA)):=by rw [La A ai];simpa using aj
 refine(A8 P _).stop (DO.stop {
  run:=rfl,offers:=rfl,quiet:=(by simp [Fam.CB]),live:=fun _=>ah,act:=?_,EL:=(by simp),CY:=?_,close:=(by simp),send:=(by simp),go:=(by simp),Ey:=(by simp),recv:=(by simp)})
 ·intro v wt sm v' wt' sm' es nx K;simp only [Fam.act] at K;split at K
  ·rename_i ak;subst ak;cases K;refine⟨_,fun w O=>?_,rfl,h _ (A.put Z.2 _)⟩;obtain⟨_,c2,_,c4⟩:=Fb O;rw [BV U,BV U];show stepG P false _ w=_;rw [stepG_semacquire (a:=⟨T,ds⟩) aa (B4 A hw) (by simpa using Z.1) rfl ab ac hb ae he (ad:=F.mA) ag c2 (by decide) c4,DY];have al:(((1:Nat):Int) - 1)=((0:Nat):Int):=by decide
   rw [al,LP O]
  ·cases K
 ·intro _ w v wt O;obtain⟨_,c2,_,c4⟩:=Fb O;rw [BV U];exact stepG_semacquire_wait (a:=⟨T,ds⟩) aa (B4 A hw) rfl ab ac hb ae he (ad:=F.mA) ag c2
theorem JL.Th(Z:s.q=false)(O:ops[i]? =some ⟨d,.call ⟨.builtin .close,#[x],ats⟩,ty,pp,af,g⟩)(U:b.roundOf=none)(hw:AT L ops ⟨d,.call ⟨.builtin .close,#[x],ats⟩,ty,pp,af,g⟩=some true)(A:((b.kind != .early)&&Bd n d)=true)
  (aa:ev L x=some (.chan (some F.ch))) (ab:(P.funcs[b.fn]?).any (·.norace)=false)
  (h:JL (En P) (EM P 0) b n (AJ L d (.tuple #[])) ds (.inRegion ops rest::k) cs .quiet):
  JL (A8 P false) (Stop P F .Cm) b n L ds (.inRegion ops (i::rest)::k) cs s:=fun T K=>by
 simp only [Bool.and_eq_true] at A
 refine(A8 P _).stop (DO.stop {
  run:=rfl,offers:=rfl,quiet:=(by simp [Fam.CB]),live:=fun _=>Z,act:=(by simp [Fam.act]),EL:=fun _=>(by simp [mayWake,G,fr,O]),CY:=(by simp),close:=fun _=>?_,send:=(by simp),go:=(by simp),Ey:=(by simp),recv:=(by simp)})
 refine⟨_,?_,fun w k' ac=>?_,Ia (h _ (K.put A.2 _))⟩
 ·rfl
 ·rw [BV U,BV U,stepG_close (a:=⟨T,ds⟩) O (B4 K hw) (by simpa using A.1) rfl (by rw [Dh];exact K.ev aa) ac ab,DY]
theorem JL.OE{kk:Nat}{v:Value}(Z:s.q=false)(O:ops[i]? =some ⟨d,.send x y,ty,pp,af,g⟩)(aa:b.roundOf=none)(hw:AT L ops ⟨d,.send x y,ty,pp,af,g⟩=some true)(K:((b.kind != .early)&&Bd n d)=true)
  (ab:ev L x=some (.chan (some F.ch))) (ac:ev L y=some v) (hm:F.msg kk v s.E)
  (h:JL (A8 P false) (Stop P F .BY) b n (AJ L d undef) ds (.inRegion ops rest::k) cs s):
  JL (A8 P false) (Stop P F (.BN kk)) b n L ds (.inRegion ops (i::rest)::k) cs s:=fun T A=>by
 simp only [Bool.and_eq_true] at K
 have U:execOp (Bm T) ⟨d,.send x y,ty,pp,af,g⟩= .pure (.comm #[scase F.ch v (.tuple #[])] true .send):=by
  simp [execOp,A.ev ab,A.ev ac,scase,pure]
 refine(A8 P _).stop (DO.stop {
  run:=rfl,offers:=rfl,quiet:=(by simp [Fam.CB]),live:=fun _=>Z,act:=(by simp [Fam.act]),EL:=(by simp),CY:=(by simp),close:=(by simp),send:=fun k' e=>?_,go:=(by simp),Ey:=(by simp),recv:=(by simp)})
 cases e;refine⟨v,.tuple #[],hm,fun w=>?_,?_⟩
 ·have he:(⟨T,ds⟩:Act).eval=Bm T:=funext fun x=>Dh T ds x;rw [BV aa,stepG_comm (a:=⟨T,ds⟩) (w':=w) O (B4 A hw) (by simpa using K.1) (by rw [he,U];rfl),listed_none (by rw [he,U];simp [Sem.events_pure'])]
 ·have:Conc.served (G (fr b T ds (.inRegion ops (i::rest)::k)) cs) undef=G (fr b (BQ T d undef) ds (.inRegion ops rest::k)) cs:=by
   have:=D9 (b:=b) (ds:=ds) (k:=k) T ops i rest undef _ O;simp only [Conc.served,G,this]
  rw [this];exact h _ (A.put K.2 _)
end
end
end Pal
namespace Pal
open Go Go.Conc
section
variable {P:Program}{F:Fam}{J:Judge P}{Q:GP}{n:Nat}{L L':Env}{ds:List Deferred}{k:List Item}{cs:List Frame}{s s':St}{b:Frame}{main:Bool}
variable {ops:Array Oper}{i:Nat}{rest:List Nat}{d:Option Tmp}{f:FuncId}{x y z:Operand}{ats:Array TypeId}{ty t e:TypeId}{pp:String}{af:Array Edge}{g:Option (Nat×Bool)}{p q:Ph}
theorem Mg{T:Array Value}{o:Oper}(A:ops[i]? =some o)(v:Value):Conc.served (G (fr b T ds (.inRegion ops (i::rest)::k)) cs) v=G (fr b (BQ T o.dst v) ds (.inRegion ops rest::k)) cs:=by
 have:=D9 (b:=b) (ds:=ds) (k:=k) T ops i rest v _ A;simp only [Conc.served,G,this]
theorem Gd(T:Array Value)(ds:List Deferred):(⟨T,ds⟩:Act).eval=Bm T:=funext fun x=>Dh T ds x
theorem JL.Ub{K:List Nat}{vs:List Value}{A:Value}{dir:ChanDir}(ae:s.q=false)(Z:ops[i]? =some ⟨d,.recv t x true,ty,pp,af,g⟩)(ag:b.roundOf=none)(hw:AT L ops ⟨d,.recv t x true,ty,pp,af,g⟩=some true)(O:((b.kind != .early)&&Bd n d)=true)
  (ah:ev L x=some (.chan (some F.ch))) (ht:P.underlying t=some (.chan dir e)) (ai:zeroOf P e=some A)
  (aa:∀kk v E',kk<F.n→F.has kk=true→kk ∉ K→Le s.E E'→(∀b,E' b≠none→s.H b=none)→F.msg kk v E'→JL (A8 P true) (Stop P F (.BC (K++ [kk]) (vs++ [v]))) b n (AJ L d (.tuple #[v,.bool true])) ds (.inRegion ops rest::k) cs ⟨E',s.H,false⟩)
  (ab:(∀kk,kk<F.n→F.has kk=true→kk∈K)→∀T,Has n (AJ L d (.tuple #[A,.bool false])) T→F.fin (G (fr b T ds (.inRegion ops rest::k)) cs) s):
  JL (A8 P true) (Stop P F (.BC K vs)) b n L ds (.inRegion ops (i::rest)::k) cs s:=fun T U=>by
 simp only [Bool.and_eq_true] at O
 have ac:∀w,(execOp (Bm T) ⟨d,.recv t x true,ty,pp,af,g⟩).run P w= .ok (.comm #[rcase F.ch A] true (.recv true)) w∧listed P b.fn ⟨T,ds⟩ ⟨d,.recv t x true,ty,pp,af,g⟩ w= #[]:=by
  have aj:∀s,lp P (execOp (Bm T) ⟨d,.recv t x true,ty,pp,af,g⟩) s (fun nx s'=>nx= .comm #[rcase F.ch A] true (.recv true)∧s'=s) (fun _ _=>False):=by
   intro s;unfold execOp;simp only;refine AB (x:=underlying t) _ (Cd ht ?_);simp only;refine AB (x:=zeroValue e) _ (D7 ai ?_);rw [U.ev ah];exact⟨rfl,rfl⟩
  obtain⟨es,aa,ab,ak⟩:=J4 _ (aj .quiet);rcases ak with⟨a,⟨rfl,_⟩,al⟩ | ⟨_,am,_⟩
  ·intro w;refine⟨al w,?_⟩;unfold listed;rw [Gd,aa];exact JH ab
  ·exact am.elim
 refine(A8 P _).stop (DO.stop {
  run:=rfl,offers:=rfl,quiet:=(by simp [Fam.CB]),live:=fun _=>ae,act:=(by simp [Fam.act]),EL:=(by simp),CY:=(by simp),close:=(by simp),send:=(by simp),go:=(by simp),Ey:=(by simp),recv:=fun ay az an=>?_})
 cases an;refine⟨A,fun w=>?_,fun kk v E' ao ap aq ar au av=>?_,fun aw=>?_⟩
 ·rw [BV ag,stepG_comm (a:=⟨T,ds⟩) (w':=w) Z (B4 U hw) (by simpa using O.1) (by rw [Gd];exact(ac w).1),(ac w).2]
 ·rw [Mg Z];exact aa kk v E' ao ap aq ar au av _ (U.put O.2 _)
 ·rw [Mg Z];exact ab aw _ (U.put O.2 _)
theorem Ml{X:GP}{fn:Func}{c:Code}{vs:List Value}{caps:Array Value}{args:Array Value}(K:P.funcs[f]? =some fn)(Z:(fn.name== "runtime.NumGoroutine")=false)(hb:fn.body=some c)(aa:args++caps=vs.toArray)(ae:vs.length≤fn.ntmps)
  (h:JL (A8 P false) X (baseD f) fn.ntmps (DZ 0 vs) [] [.code c] [FF P] s):Way P false X (born P {target:= .fn (.func f) caps,args:=args}) s:=by
 have ab:¬fn.name= "runtime.NumGoroutine" :=by simpa using Z
 refine Judge.B9 (J:=A8 P false) rfl (fun w=>?_) (h (vs.toArray++Array.replicate (fn.ntmps - vs.length) undef) ⟨by simp;omega,fun t v ht=>?_⟩)
 ·show stepG P false _ w=_;have O:=enter_atD (P:=P) vs.toArray K hb;rw [BV (b:=baseD f) rfl];simp only [List.size_toArray] at O;simp [G,born,stepG,unwind,callDeferred,invoke,callFunc,K,ab,hb,GStep.after,seen_none,aa,FF,O]
 ·obtain⟨_,A⟩:=GF ht;have ac:t<vs.length:=by
   rcases Nat.lt_or_ge t vs.length with U | U
   ·exact U
   ·simp at A;have:=(List.getElem?_eq_some_iff.1 A).1;omega
  rw [Array.getD_eq_getD_getElem?,Array.getElem?_append_left (by simpa using ac)];simp at A;simp [A]
theorem N5{T:Array Value}{args:Array Operand}{A:Go.Fn}{fi K:Array Value}{as:List Value}(O:Has n L T)(U:ev L x=some (.func A fi K))(Z:evs L args.toList=some as):
  execOp (Bm T) ⟨d,.go ⟨.value x,args,ats⟩,ty,pp,af,g⟩= .pure (.spawn {target:= .fn A K,args:=fi++as.toArray}):=by
 have aa:args.map (Bm T)=as.toArray:=by
  rw [← DW O.Eh Z];apply Array.ext';simp
 simp only [execOp,resolve,bind,Sem.bind,Deferred.ofValue,O.ev U,pure,aa]
theorem JL.UA{j:Nat}{args:Array Operand}{fi O:Array Value}{as:List Value}{U:FuncId}(ab:s.q=false)(ac:ops[i]? =some ⟨d,.go ⟨.value x,args,ats⟩,ty,pp,af,g⟩)(Z:b.roundOf=none)(hw:AT L ops ⟨d,.go ⟨.value x,args,ats⟩,ty,pp,af,g⟩=some true)(A:((b.kind != .early)&&Bd n d)=true)
  (ae:ev L x=some (.func (.func U) fi O)) (ag:evs L args.toList=some as)
  (ah:Way P false (Stop P F (F.start j)) (born P {target:= .fn (.func U) O,args:=fi++as.toArray}) ⟨s.E,fun _=>none,false⟩)
  (ai:JL (A8 P true) (Stop P F (F.Cn j)) b n (AJ L d undef) ds (.inRegion ops rest::k) cs s):
  JL (A8 P true) (Stop P F (.Dp j)) b n L ds (.inRegion ops (i::rest)::k) cs s:=fun T K=>by
 simp only [Bool.and_eq_true] at A
 have aa:=N5 (d:=d) (ats:=ats) (ty:=ty) (pp:=pp) (af:=af) (g:=g) K ae ag
 refine(A8 P _).stop (DO.stop {
  run:=rfl,offers:=rfl,quiet:=(by simp [Fam.CB]),live:=fun _=>ab,act:=(by simp [Fam.act]),EL:=(by simp),CY:=(by simp),close:=(by simp),send:=(by simp),go:=fun aj e=>?_,Ey:=(by simp),recv:=(by simp)})
 cases e
 refine⟨G (fr b (BQ T d undef) ds (.inRegion ops rest::k)) cs,_,rfl,rfl,fun w=>?_,ah,ai _ (K.put A.2 _)⟩
 rw [BV Z,BV Z,stepG_spawn (a:=⟨T,ds⟩) (w':=w) ac (B4 K hw) (by simpa using A.1) (by rw [Gd,aa];rfl) rfl,listed_none (by rw [Gd,aa];simp [Sem.events_pure']),DY]
theorem JL.Ey{args:Array Operand}{fi O:Array Value}{as:List Value}{U:FuncId}(ab:s.q=false)(ac:ops[i]? =some ⟨d,.go ⟨.value x,args,ats⟩,ty,pp,af,g⟩)(Z:b.roundOf=none)(hw:AT L ops ⟨d,.go ⟨.value x,args,ats⟩,ty,pp,af,g⟩=some true)(A:((b.kind != .early)&&Bd n d)=true)
  (ae:ev L x=some (.func (.func U) fi O)) (ag:evs L args.toList=some as)
  (ah:Way P false (Stop P F .BZ) (born P {target:= .fn (.func U) O,args:=fi++as.toArray}) ⟨s.E,fun _=>none,false⟩)
  (ai:JL (A8 P true) (Stop P F (.BC [] [])) b n (AJ L d undef) ds (.inRegion ops rest::k) cs s):
  JL (A8 P true) (Stop P F .DN) b n L ds (.inRegion ops (i::rest)::k) cs s:=fun T K=>by
 simp only [Bool.and_eq_true] at A
 have aa:=N5 (d:=d) (ats:=ats) (ty:=ty) (pp:=pp) (af:=af) (g:=g) K ae ag
 refine(A8 P _).stop (DO.stop {
  run:=rfl,offers:=rfl,quiet:=(by simp [Fam.CB]),live:=fun _=>ab,act:=(by simp [Fam.act]),EL:=(by simp),CY:=(by simp),close:=(by simp),send:=(by simp),go:=(by simp),Ey:=fun _=>?_,recv:=(by simp)})
 refine⟨G (fr b (BQ T d undef) ds (.inRegion ops rest::k)) cs,_,rfl,rfl,fun w=>?_,ah,ai _ (K.put A.2 _)⟩
 rw [BV Z,BV Z,stepG_spawn (a:=⟨T,ds⟩) (w':=w) ac (B4 K hw) (by simpa using A.1) (by rw [Gd,aa];rfl) rfl,listed_none (by rw [Gd,aa];simp [Sem.events_pure']),DY]
theorem JO.ML{j:Nat}(U:s.q=false)(A:b.roundOf=none)(he:BO P f (fun _=>do mark .enable;pure Extern.Race.none_))
  (h:JO (A8 P true) (Stop P F (.Dp j)) b n L ds cs s):JO (A8 P true) (Stop P F (.D3 j)) b n L (dcall f #[]::ds) cs s:=fun T Z todo=>by
 obtain⟨fn,aa,ab,hb,ac,he⟩:=he.h
 refine(A8 P _).stop (EY rfl rfl rfl U (by simp) fun v wt sm v' wt' sm' es nx K=>?_)
 simp only [Fam.act] at K
 cases K
 refine⟨G (CN b T ds todo) cs,fun w ae=>?_,rfl,h T Z todo⟩
 rw [GG A,GG A,GH ae]
 exact stepG_unwind_entry (a:=⟨T,dcall f #[]::ds⟩) (v:= .tuple #[]) (evs:= #[Fam.CQ .enable]) rfl aa ab hb ac he (by simp [Extern.Race.none_]) (by simp;rfl) (by
  intro x O
  simp at O
  subst O
  exact⟨rfl,fun g h=>by cases h⟩)
theorem JO.IC(A:b.roundOf=none)(he:BO P f (fun _=>do mark .enable;pure Extern.Race.none_))
  (h:JO (En P) (EM P 0) b n L ds cs .quiet):JO (En P) (EM P 1) b n L (dcall f #[]::ds) cs .quiet:=fun T O todo=>by
 obtain⟨fn,U,Z,hb,aa,he⟩:=he.h
 refine(En P).stop ?_
 obtain⟨q,K⟩:=Ia (h T O todo)
 rw [GG A] at K
 rw [GG A]
 exact⟨q+1,QuitsD.unwind_mark (a:=⟨T,dcall f #[]::ds⟩) .enable rfl (by simp) rfl U Z hb aa he K⟩
end
end Pal
namespace Pal
open Go Go.Conc
def OQ:BinOp→Int→Int→Option Bool
 | .lss,m,m'=>some (decide (m<m'))
 | .leq,m,m'=>some (decide (m≤m'))
 | .gtr,m,m'=>some (decide (m'<m))
 | .geq,m,m'=>some (decide (m'≤m))
 | .eql,m,m'=>some (decide (m=m'))
 | .neq,m,m'=>some (decide (m≠m'))
 | _,_,_=>none
def Gs(L:Env):Op→Option Value
 | .move x=>ev L x
 | .assign x=>ev L x
 | .pick z x y=>match ev L z with
  | some (.bool true)=>ev L x
  | some (.bool false)=>ev L y
  | _=>none
 | .extract x i=>match ev L x with
  | some (.tuple vs)=>vs[i]?
  | _=>none
 | .nilCheck x=>match ev L x with
  | some (.pointer (some a))=>some (.pointer (some a))
  | _=>none
 | .binOp op _ x y _=>match ev L x with
  | some (.int kd m)=>match ev L y with
   | some (.int kd' m')=>if kd=kd' then(match OQ op m m' with | some t=>some (.bool t) | none=>none) else none
   | _=>none
  | _=>none
 | _=>none
theorem Yl.Uv{P:Program}{s:St}{ρ:Operand→Value}{d:Option Tmp}{x y:Operand}{t u ty:TypeId}{p:String}{af:Array Edge}{g:Option (Nat×Bool)}{kd:IntKind}{m m':Int}(A:ρ x= .int kd m)(K:ρ y= .int kd m'):Yl P ⟨d,.binOp .neq t x y u,ty,p,af,g⟩ ρ s (.bool (decide (m≠m'))):=by
 have h:=Yl.neq (P:=P) (s:=s) (d:=d) (t:=t) (u:=u) (ty:=ty) (p:=p) (af:=af) (g:=g) A K;simpa using h
theorem IB{P:Program}{L:Env}{ρ:Operand→Value}{s:St}{o:Oper}{v:Value}(A:CU L ρ)(h:Gs L o.op=some v):Yl P o ρ s v:=by
 obtain⟨d,op,ty,p,af,g⟩:=o;simp only at h;unfold Gs at h;split at h
 ·exact Yl.move (A _ _ h)
 ·exact Yl.assign (A _ _ h)
 ·split at h
  ·rename_i e;exact Yl.SL (A _ _ e) (A _ _ h)
  ·rename_i e;exact Yl.TF (A _ _ e) (A _ _ h)
  ·cases h
 ·split at h
  ·rename_i e;exact Yl.extract (A _ _ e) h
  ·cases h
 ·split at h
  ·rename_i e;cases h;exact Yl.nilCheck (A _ _ e)
  ·cases h
 ·split at h
  ·rename_i K;split at h
   ·rename_i O;split at h
    ·rename_i e;subst e;split at h
     ·rename_i e;cases h;unfold OQ at e;split at e
      ·cases e;exact Yl.lss (A _ _ K) (A _ _ O)
      ·cases e;exact Yl.leq (A _ _ K) (A _ _ O)
      ·cases e;exact Yl.gtr (A _ _ K) (A _ _ O)
      ·cases e;exact Yl.geq (A _ _ K) (A _ _ O)
      ·cases e;exact Yl.eql (A _ _ K) (A _ _ O)
      ·cases e;exact Yl.Uv (A _ _ K) (A _ _ O)
      ·cases e
     ·cases h
    ·cases h
   ·cases h
  ·cases h
 ·cases h
def FK:List Oper→Nat→Option Oper
 | [],_=>none
 | o::_,0=>some o
 | _::os,i+1=>FK os i
theorem GO:∀(os:List Oper) (i:Nat),FK os i=os[i]?
 | [],i=>by simp [FK]
 | _::_,0=>rfl
 | _::os,i+1=>by simp [FK,GO os i]
def Jd(b:Frame)(n:Nat)(L:Env):List Item→Option (List Item×Env)
 | .code (.seq x y)::k=>some (.code x:: .code y::k,L)
 | .code (.block i c)::k=>some (.code c:: .inBlock i::k,L)
 | .code (.scope c)::k=>some (.code c:: .inScope c::k,L)
 | .code .skip::k=>some (k,L)
 | .code (.exit i)::k=>match exitTo i k with
  | some k'=>some (k',L)
  | none=>none
 | .code (.cond c x y)::k=>match ev L c with
  | some (.bool true)=>some (.code x::k,L)
  | some (.bool false)=>some (.code y::k,L)
  | _=>none
 | .code (.region _ ops false)::k=>some (.inRegion ops (List.range ops.size)::k,L)
 | .inBlock _::k=>some (k,L)
 | .inScope _::k=>some (k,L)
 | .inRegion _ []::k=>some (k,L)
 | .inRegion ops (i::rest)::k=>match FK ops.toList i with
  | some ⟨d,op,ty,p,af,g⟩=>match AT L ops ⟨d,op,ty,p,af,g⟩ with
   | some true=>match BR b n ⟨d,op,ty,p,af,g⟩ with
    | true=>match Gs L op with
     | some v=>match d with
      | some d=>some (.inRegion ops rest::k,(d,v)::L)
      | none=>some (.inRegion ops rest::k,L)
     | none=>none
    | false=>none
   | some false=>match Bd n d with
    | true=>match d with
     | some d=>some (.inRegion ops rest::k,(d,undef)::L)
     | none=>some (.inRegion ops rest::k,L)
    | false=>none
   | none=>none
  | none=>none
 | _=>none
def I1(b:Frame)(n:Nat):Nat→List Item→Env→Option (List Item×Env)
 | 0,k,L=>some (k,L)
 | m+1,k,L=>match Jd b n L k with
  | some (k',L')=>I1 b n m k' L'
  | none=>none
section
variable {P:Program}{J:Judge P}{Q:Goroutine→St→Prop}{b:Frame}{n:Nat}{L L':Env}{ds:List Deferred}{k k':List Item}{cs:List Frame}{s:St}
theorem JL.OW(h:Jd b n L k=some (k',L'))(A:JL J Q b n L' ds k' cs s):JL J Q b n L ds k cs s:=by
 unfold Jd at h;split at h
 ·cases h;exact JL.seq A
 ·cases h;exact JL.block A
 ·cases h;exact JL.scope A
 ·cases h;exact JL.skip A
 ·split at h
  ·rename_i e;cases h;exact JL.exit e A
  ·cases h
 ·split at h
  ·rename_i e;cases h;exact JL.Td e A
  ·rename_i e;cases h;exact JL.Tb e A
  ·cases h
 ·cases h;exact JL.region A
 ·cases h;exact JL.outBlock A
 ·cases h;exact JL.Qw A
 ·cases h;exact JL.done A
 ·split at h
  ·rename_i d op ty p af g K;rw [GO,Array.getElem?_toList] at K;split at h
   ·rename_i hw;split at h
    ·rename_i O;split at h
     ·rename_i v Z;cases d with
      | none=>cases h;exact JL.y K hw O (fun ρ U=>IB U Z) A
      | some d=>cases h;exact JL.y K hw O (fun ρ U=>IB U Z) A
     ·cases h
    ·cases h
   ·rename_i hw;split at h
    ·rename_i O;cases d with
     | none=>cases h;exact JL.no K hw O A
     | some d=>cases h;exact JL.no K hw O A
    ·cases h
   ·cases h
  ·cases h
 ·cases h
theorem JL.go(m:Nat)(h:I1 b n m k L=some (k',L'))(A:JL J Q b n L' ds k' cs s):JL J Q b n L ds k cs s:=by
 induction m generalizing k L with
 | zero=>cases h;exact A
 | succ m K=>
  unfold I1 at h;split at h
  ·rename_i e;exact JL.OW e (K h)
  ·cases h
end
end Pal
namespace Pal
open Go Go.Conc Go.Conc.Lib
open Go.ConcR.Gen
theorem Dr{P:Program}{t:TypeId}{n:Nat}(h:∀w,Sem.run P (Go.sizeOf t) w= .ok n w):Bq P t=some n:=by
 have A:=h default;unfold Bq;simp only [Go.sizeOf,typeInfo,bind,Sem.bind,program,Sem.run] at A;cases hi:P.info? t with
 | none=>rw [hi] at A;simp [stuck,Sem.run,Sem.bind] at A
 | some i=>
  rw [hi] at A;simp [pure,Sem.bind,Sem.run] at A;simp [A]
section
variable {P:Program}{L:WgLink}(H:WgLib P L)
include H
theorem JP:BO P L.disable (fun _=>do mark .disable;pure Extern.Race.none_):=⟨⟨_,H.f_disable,x_disable_n L,x_disable_b L,x_disable_x L,x_disable_f L⟩⟩
theorem FU:BO P L.enable (fun _=>do mark .enable;pure Extern.Race.none_):=⟨⟨_,H.f_enable,x_enable_n L,x_enable_b L,x_enable_x L,x_enable_f L⟩⟩
theorem Pe:BO P L.relMerge (Extern.Race.marked .releaseMerge):=⟨⟨_,H.f_relMerge,x_relMerge_n L,x_relMerge_b L,x_relMerge_x L,x_relMerge_f L⟩⟩
theorem LF:BO P L.acquire (Extern.Race.marked .acquire):=⟨⟨_,H.f_acquire,x_acquire_n L,x_acquire_b L,x_acquire_x L,x_acquire_f L⟩⟩
theorem QX:BO P L.raceRead (Extern.Race.marked .read):=⟨⟨_,H.f_raceRead,x_raceRead_n L,x_raceRead_b L,x_raceRead_x L,x_raceRead_f L⟩⟩
theorem P7:BO P L.raceWrite (Extern.Race.marked .write):=⟨⟨_,H.f_raceWrite,x_raceWrite_n L,x_raceWrite_b L,x_raceWrite_x L,x_raceWrite_f L⟩⟩
theorem Nk:BO P L.addU64 (Extern.Atomic.update (Op.intArith .add) .u64 true):=⟨⟨_,H.f_addU64,x_addU64_n L,x_addU64_b L,x_addU64_x L,x_addU64_f L⟩⟩
theorem Qz:BO P L.loadU64 (Extern.Atomic.loadT (.int .u64)):=⟨⟨_,H.f_loadU64,x_loadU64_n L,x_loadU64_b L,x_loadU64_x L,x_loadU64_f L⟩⟩
theorem P9:BO P L.storeU64 Extern.Atomic.storeT:=⟨⟨_,H.f_storeU64,x_storeU64_n L,x_storeU64_b L,x_storeU64_x L,x_storeU64_f L⟩⟩
theorem RZ:BO P L.casU64 (Extern.Atomic.casT (.int .u64)):=⟨⟨_,H.f_casU64,x_casU64_n L,x_casU64_b L,x_casU64_x L,x_casU64_f L⟩⟩
theorem PX:BO P L.semrelease Extern.Sync.semrelease:=⟨⟨_,H.f_semrelease,x_semrelease_n L,x_semrelease_b L,x_semrelease_x L,x_semrelease_f L⟩⟩
theorem Pq:BO P L.semacquire Extern.Sync.semacquire:=⟨⟨_,H.f_semacquire,x_semacquire_n L,x_semacquire_b L,x_semacquire_x L,x_semacquire_f L⟩⟩
theorem LR:BO P L.inBubble (fun _=>pure (.bool false)):=⟨⟨_,H.f_inBubble,x_inBubble_n L,x_inBubble_b L,x_inBubble_x L,x_inBubble_f L⟩⟩
end
section
variable {P:Program}{F:Fam}{J:Judge P}{Q:GP}{n:Nat}{L L':Env}{ds:List Deferred}{k:List Item}{cs:List Frame}{s s':St}{b:Frame}{main:Bool}
variable {ops:Array Oper}{i:Nat}{rest:List Nat}{d:Option Tmp}{f:FuncId}{x y z:Operand}{ats:Array TypeId}{ty t u e tw:TypeId}{pp:String}{af:Array Edge}{g:Option (Nat×Bool)}{p q:Ph}
theorem Yl.to{o:Oper}{ρ:Operand→Value}{v v':Value}(h:Yl P o ρ s v)(e:v=v'):Yl P o ρ s v':=e▸h
theorem JL.conv{ad:Addr}(ah:GR p=true)(ai:if Fam.CB p=true then s= .quiet else s.q=false)(aj:p≠ .CW)(ak:∀v wt sm,F.act p v wt sm=some ((v,wt,sm),#[],.ph q))(al:Fam.Eu p s=s)
  (am:ops[i]? =some ⟨d,.convert t u x,ty,pp,af,g⟩) (O:b.roundOf=none) (hw:AT L ops ⟨d,.convert t u x,ty,pp,af,g⟩=some true) (A:((b.kind != .early)&&Bd n d)=true)
  (ht:P.underlying t=some (.pointer tw)) (hu:P.underlying u=some .unsafePointer) (U:(P.info? tw).map (fun i=>decide (i.size=0))=some false) (an:ev L x=some (.pointer (some ad))) (hb:ad=F.sA∨ad=F.mA)
  (h:JL (A8 P (Fam.Ch p)) (Stop P F q) b n (AJ L d (.pointer (some ad))) ds (.inRegion ops rest::k) cs s):
  JL (A8 P (Fam.Ch p)) (Stop P F p) b n L ds (.inRegion ops (i::rest)::k) cs s:=fun T K=>by
 simp only [Bool.and_eq_true] at A
 refine(A8 P _).stop (EY ah rfl rfl ai (fun e=>absurd e aj) fun v wt sm v' wt' sm' es nx Z=>?_)
 rw [ak] at Z;cases Z
 refine⟨_,fun w aa=>?_,rfl,by rw [al];exact h _ (K.put A.2 _)⟩
 obtain⟨ab,ac⟩:∃ab,w.cell? ad=some ab:=by
  obtain⟨ao,c2,_,_⟩:=Fb aa;rcases hb with e | e <;> rw [e]
  ·exact⟨_,ao⟩
  ·exact⟨_,c2⟩
 have ae:=run_convert_to_unsafe (P:=P) (w:=w) ht hu U ac;have ap:=events_convert_to_unsafe (P:=P) (w:=w) ht hu U ac;have ag:execOp (⟨T,ds⟩:Act).eval ⟨d,.convert t u x,ty,pp,af,g⟩=(do pure (Next.value (← Go.convert t u (.pointer (some ad))))):=by
  rw [Gd];simp only [execOp,K.ev an]
 rw [BV O,BV O,stepG_value (a:=⟨T,ds⟩) (v:= .pointer (some ad)) (w':=w) am (B4 K hw) (by simpa using A.1) (by rw [ag];simp [ae,Result.andThen]),GH aa,DY];have aq:listed P b.fn ⟨T,ds⟩ ⟨d,.convert t u x,ty,pp,af,g⟩ w= #[]:=by
  unfold listed;rw [ag];simp [ae,ap,Result.evThen,seen_none]
 rw [aq]
end
end Pal
namespace Pal
open Go Go.Conc Go.Conc.Lib
open Go.ConcR.Gen
section
variable {P:Program}{F:Fam}{J:Judge P}{Q:GP}{n:Nat}{L L':Env}{ds:List Deferred}{k:List Item}{cs:List Frame}{s s':St}{b:Frame}{main:Bool}
variable {ops:Array Oper}{i:Nat}{rest:List Nat}{d:Option Tmp}{f:FuncId}{x y z:Operand}{args:Array Operand}{ats:Array TypeId}{ty t u e tw:TypeId}{pp:String}{af:Array Edge}{g:Option (Nat×Bool)}{p q:Ph}{vs:List Value}
def Uj(P:Program)(b:Frame)(n:Nat)(L:Env)(d:Option Tmp)(ds:List Deferred)(todo:List Item)(cs:List Frame)(O:Frame):Prop:=
 ∀(A:Judge P) (K:GP) (v:Value) (s':St),JL A K b n (AJ L d v) ds todo cs s'→A.ok K (G (O.finish v) cs) s'
theorem JL.F8{fn:Func}{c:Code}(U:ops[i]? =some ⟨d,.call ⟨.value (.func f),args,ats⟩,ty,pp,af,g⟩)(hw:AT L ops ⟨d,.call ⟨.value (.func f),args,ats⟩,ty,pp,af,g⟩=some true)(K:((b.kind != .early)&&Bd n d)=true)
  (Z:P.funcs[f]? =some fn) (ac:(fn.name== "runtime.NumGoroutine")=false) (hb:fn.body=some c) (ae:evs L args.toList=some vs) (am:vs.length≤fn.ntmps)
  (h:∀aa:Frame,Uj P b n L d ds (.inRegion ops rest::k) cs aa→JL J Q (base f) fn.ntmps (DZ 0 vs) [] [.code c] (aa::cs) s):
  JL J Q b n L ds (.inRegion ops (i::rest)::k) cs s:=fun T O=>by
 simp only [Bool.and_eq_true] at K
 have ag:args.map (Bm T)=vs.toArray:=by
  rw [← DW O.Eh ae];apply Array.ext';simp
 refine Judge.oper U (B4 O hw) (by simpa using K.1) (.inr fun c ah=>by cases ah) ?_;have ai:Cx P f=true:=by unfold Cx;rw [Z];simp [ac,hb]
 have aj:lp P (execOp (Bm T) ⟨d,.call ⟨.value (.func f),args,ats⟩,ty,pp,af,g⟩) s (upon J Q b T ds ops i rest k cs d) (Ja J Q b T ds ops i rest k cs):=by
  simp only [execOp,resolve,bind,Sem.bind,Deferred.ofValue,Bm,pure,invoke];have e: #[]++args.map (Bm T)++ #[]=vs.toArray:=by rw [ag];simp
  rw [e];refine GC ai ?_;have he:Frame.enter P f vs.toArray .normal=fr (base f) (vs.toArray++Array.replicate (fn.ntmps - vs.length) undef) [] [.code c]:=by
   simp [Frame.enter,fr,Z,hb,base];rfl
  show J.ok Q (G (Frame.enter P f vs.toArray .normal) _) s;rw [he];refine h _ (fun an ao v s' ak=>?_) _ ⟨by simp;omega,fun t v ht=>?_⟩
  ·rw [D9 (o:=⟨d,.call ⟨.value (.func f),args,ats⟩,ty,pp,af,g⟩) _ _ _ _ _ U];exact ak _ (O.put K.2 v)
  ·obtain⟨_,A⟩:=GF ht;have al:t<vs.length:=by
    rcases Nat.lt_or_ge t vs.length with ab | ab
    ·exact ab
    ·simp at A;have:=(List.getElem?_eq_some_iff.1 A).1;omega
   rw [Array.getD_eq_getD_getElem?,Array.getElem?_append_left (by simpa using al)];simp at A;simp [A]
 exact aj
theorem Yl.ext{e:Array Value→Sem Value}{v:Value}{ρ:Operand→Value}(he:BO P f e)(K:args.map ρ=vs.toArray)(h:e vs.toArray= .pure v):Yl P ⟨d,.call ⟨.value (.func f),args,ats⟩,ty,pp,af,g⟩ ρ s v∨ρ (.func f)≠ .func (.func f) #[] #[]:=by
 by_cases A:ρ (.func f)= .func (.func f) #[] #[]
 ·left;obtain⟨fn,O,U,Z,aa,ab⟩:=he.h;unfold Yl;simp only [execOp,resolve,bind,Sem.bind,Deferred.ofValue,A,pure,invoke];have ac: #[]++args.map ρ++ #[]=vs.toArray:=by rw [K];simp
  rw [ac];have ae:fn.body=none:=by simpa using Z
  simp only [callFunc,bind,Sem.bind,program,lp,O,U,ae,Option.isNone_none,Bool.false_eq_true,if_false,if_true,mark,aa,ab,h,pure];exact⟨.inr ⟨f,rfl⟩,trivial,trivial⟩
 ·exact .inr A
theorem JL.ext{e:Array Value→Sem Value}{v:Value}(K:ops[i]? =some ⟨d,.call ⟨.value (.func f),args,ats⟩,ty,pp,af,g⟩)(hw:AT L ops ⟨d,.call ⟨.value (.func f),args,ats⟩,ty,pp,af,g⟩=some true)(O:BR b n ⟨d,.call ⟨.value (.func f),args,ats⟩,ty,pp,af,g⟩=true)
  (he:BO P f e) (U:evs L args.toList=some vs) (Z:e vs.toArray= .pure v) (h:JL J Q b n (AJ L d v) ds (.inRegion ops rest::k) cs s):JL J Q b n L ds (.inRegion ops (i::rest)::k) cs s:=
 JL.y K hw O (fun ρ A=>by
  have aa:args.map ρ=vs.toArray:=by
   rw [← DW A U]
   apply Array.ext';simp
  rcases Yl.ext (s:=s) (d:=d) (ats:=ats) (ty:=ty) (pp:=pp) (af:=af) (g:=g) he aa Z with q | q
  ·exact q
  ·exact absurd (A (.func f) _ rfl) q) h
end
section
variable {P:Program}{L:WgLink}(H:WgLib P L){F:Fam}{n:Nat}{M:Env}{ds:List Deferred}{k:List Item}{cs:List Frame}{s:St}{b:Frame}
variable {ops:Array Oper}{i:Nat}{rest:List Nat}{d:Option Tmp}{x y z:Operand}{ats:Array TypeId}{ty:TypeId}{pp:String}{af:Array Edge}{g:Option (Nat×Bool)}{p q:Ph}
include H
theorem JL.TT(A:ops[i]? =some ⟨d,.call ⟨.value (.func L.uAdd),#[x,y],ats⟩,ty,pp,af,g⟩)(hw:AT M ops ⟨d,.call ⟨.value (.func L.uAdd),#[x,y],ats⟩,ty,pp,af,g⟩=some true)(K:((b.kind != .early)&&Bd n d)=true)
  (O:ev M x=some (.pointer (some F.sA))) (U:ev M y=some (.int .u64 18446744069414584320))
  (Z:JL (A8 P false) (Stop P F .Eg) b n (AJ M d (.int .u64 (Fam.word 0 1))) ds (.inRegion ops rest::k) cs .quiet)
  (aa:∀v wt:Nat,v<2147483647→wt≤1→¬(v=0∧wt=1)→JL (En P) (EM P 1) b n (AJ M d (.int .u64 (Fam.word v wt))) ds (.inRegion ops rest::k) cs .quiet):
  JL (A8 P false) (Stop P F .EJ) b n M ds (.inRegion ops (i::rest)::k) cs .quiet:=by
 refine JL.F8 (vs:= [.pointer (some F.sA),.int .u64 18446744069414584320]) A hw K H.f_uAdd (nm_uAdd L) rfl (by simp [evs,O,U]) (Nat.le_of_ble_eq_true rfl) fun ag back=>?_;refine JL.go 8 rfl ?_;refine JL.y rfl rfl rfl (fun ρ h=>Yl.fieldAddr H.underlying_tAU rfl (Dr H.sizeOf_tU64) (h _ _ rfl)) ?_;refine JL.go 1 rfl ?_;refine JL.Uw rfl rfl rfl rfl (Nk H) rfl rfl ?_ fun v wt ab ac ae=>?_
 ·refine JL.y rfl rfl rfl (fun ρ h=>Yl.assign (h _ _ rfl)) ?_;refine JL.done ?_;exact JL.ret rfl rfl (Bx.one H.f_uAdd rfl rfl) (back _ _ _ _ Z)
 ·refine JL.y rfl rfl rfl (fun ρ h=>Yl.assign (h _ _ rfl)) ?_;refine JL.done ?_;exact JL.ret rfl rfl (Bx.one H.f_uAdd rfl rfl) (back _ _ _ _ (aa v wt ab ac ae))
theorem JL.TN{j:Nat}(A:s.q=false)(K:ops[i]? =some ⟨d,.call ⟨.value (.func L.uAdd),#[x,y],ats⟩,ty,pp,af,g⟩)(hw:AT M ops ⟨d,.call ⟨.value (.func L.uAdd),#[x,y],ats⟩,ty,pp,af,g⟩=some true)(O:((b.kind != .early)&&Bd n d)=true)
  (U:ev M x=some (.pointer (some F.sA))) (Z:ev M y=some (.int .u64 4294967296))
  (aa:JL (A8 P true) (Stop P F (.EP j)) b n (AJ M d (.int .u64 (Fam.word 1 0))) ds (.inRegion ops rest::k) cs s)
  (ab:∀v:Nat,1≤v→v<2147483647→JL (A8 P true) (Stop P F (.D3 j)) b n (AJ M d (.int .u64 (Fam.word (v+1) 0))) ds (.inRegion ops rest::k) cs s):
  JL (A8 P true) (Stop P F (.Fq j)) b n M ds (.inRegion ops (i::rest)::k) cs s:=by
 refine JL.F8 (vs:= [.pointer (some F.sA),.int .u64 4294967296]) K hw O H.f_uAdd (nm_uAdd L) rfl (by simp [evs,U,Z]) (Nat.le_of_ble_eq_true rfl) fun ag back=>?_;refine JL.go 8 rfl ?_;refine JL.y rfl rfl rfl (fun ρ h=>Yl.fieldAddr H.underlying_tAU rfl (Dr H.sizeOf_tU64) (h _ _ rfl)) ?_;refine JL.go 1 rfl ?_;refine JL.Uq A rfl rfl rfl rfl (Nk H) rfl rfl ?_ fun v ac ae=>?_
 ·refine JL.y rfl rfl rfl (fun ρ h=>Yl.assign (h _ _ rfl)) ?_;refine JL.done ?_;exact JL.ret rfl rfl (Bx.one H.f_uAdd rfl rfl) (back _ _ _ _ aa)
 ·refine JL.y rfl rfl rfl (fun ρ h=>Yl.assign (h _ _ rfl)) ?_;refine JL.done ?_;exact JL.ret rfl rfl (Bx.one H.f_uAdd rfl rfl) (back _ _ _ _ (ab v ac ae))
theorem JL.uLoad(A:GR p=true)(K:if Fam.CB p=true then s= .quiet else s.q=false)(O:p≠ .CW)(U:Fam.Eu p s=s)(Z:∀v wt sm r,F.act p v wt sm=some r→r.1=(v,wt,sm)∧r.2.1= #[Fam.Dm F.sA])(aa:ops[i]? =some ⟨d,.call ⟨.value (.func L.uLoad),#[x],ats⟩,ty,pp,af,g⟩)(hw:AT M ops ⟨d,.call ⟨.value (.func L.uLoad),#[x],ats⟩,ty,pp,af,g⟩=some true)(ab:((b.kind != .early)&&Bd n d)=true)
  (ac:ev M x=some (.pointer (some F.sA)))
  (h:∀v wt sm r,F.act p v wt sm=some r→∃q,r.2.2= .ph q∧JL (A8 P (Fam.Ch p)) (Stop P F q) b n (AJ M d (.int .u64 (Fam.word v wt))) ds (.inRegion ops rest::k) cs s):
  JL (A8 P (Fam.Ch p)) (Stop P F p) b n M ds (.inRegion ops (i::rest)::k) cs s:=by
 refine JL.F8 (vs:= [.pointer (some F.sA)]) aa hw ab H.f_uLoad (nm_uLoad L) rfl (by simp [evs,ac]) (Nat.le_of_ble_eq_true rfl) fun ai back=>?_;refine JL.go 8 rfl ?_;refine JL.y rfl rfl rfl (fun ρ h=>Yl.fieldAddr H.underlying_tAU rfl (Dr H.sizeOf_tU64) (h _ _ rfl)) ?_;refine JL.UC A K O U Z rfl rfl rfl rfl (Qz H) rfl fun v wt sm r ae=>?_;obtain⟨q,ag,ah⟩:=h v wt sm r ae;refine⟨q,ag,?_⟩
 ·refine JL.y rfl rfl rfl (fun ρ h=>Yl.assign (h _ _ rfl)) ?_;refine JL.done ?_;exact JL.ret rfl rfl (Bx.one H.f_uLoad rfl rfl) (back _ _ _ _ ah)
theorem JL.uStore(A:ops[i]? =some ⟨d,.call ⟨.value (.func L.uStore),#[x,y],ats⟩,ty,pp,af,g⟩)(hw:AT M ops ⟨d,.call ⟨.value (.func L.uStore),#[x,y],ats⟩,ty,pp,af,g⟩=some true)(K:((b.kind != .early)&&Bd n d)=true)
  (O:ev M x=some (.pointer (some F.sA))) (U:ev M y=some (.int .u64 0))
  (h:JL (A8 P false) (Stop P F .CW) b n (AJ M d (.tuple #[])) ds (.inRegion ops rest::k) cs .quiet):
  JL (A8 P false) (Stop P F .Ep) b n M ds (.inRegion ops (i::rest)::k) cs .quiet:=by
 refine JL.F8 (vs:= [.pointer (some F.sA),.int .u64 0]) A hw K H.f_uStore (nm_uStore L) rfl (by simp [evs,O,U]) (Nat.le_of_ble_eq_true rfl) fun Z back=>?_;refine JL.go 3 rfl ?_;refine JL.y rfl rfl rfl (fun ρ h=>Yl.fieldAddr H.underlying_tAU rfl (Dr H.sizeOf_tU64) (h _ _ rfl)) ?_;refine JL.go 1 rfl ?_;refine JL.stA rfl rfl rfl rfl (P9 H) rfl rfl ?_;refine JL.done ?_;exact JL.fin rfl rfl (Bx.none H.f_uStore rfl) (back _ _ _ _ h)
theorem JL.uCas{m:Nat}(A:s.q=false)(K:ops[i]? =some ⟨d,.call ⟨.value (.func L.uCas),#[x,y,z],ats⟩,ty,pp,af,g⟩)(hw:AT M ops ⟨d,.call ⟨.value (.func L.uCas),#[x,y,z],ats⟩,ty,pp,af,g⟩=some true)(O:((b.kind != .early)&&Bd n d)=true)
  (U:ev M x=some (.pointer (some F.sA))) (Z:ev M y=some (.int .u64 (Fam.word m 0))) (aa:ev M z=some (.int .u64 (Fam.word m 1)))
  (ab:JL (A8 P false) (Stop P F .Ft) b n (AJ M d (.bool true)) ds (.inRegion ops rest::k) cs s)
  (ac:JL (A8 P false) (Stop P F (.DL (m - 1))) b n (AJ M d (.bool false)) ds (.inRegion ops rest::k) cs s):
  JL (A8 P false) (Stop P F (.EK m)) b n M ds (.inRegion ops (i::rest)::k) cs s:=by
 refine JL.F8 (vs:= [.pointer (some F.sA),.int .u64 (Fam.word m 0),.int .u64 (Fam.word m 1)]) K hw O H.f_uCas (nm_uCas L) rfl (by simp [evs,U,Z,aa]) (Nat.le_of_ble_eq_true rfl) fun ae back=>?_;refine JL.go 8 rfl ?_;refine JL.y rfl rfl rfl (fun ρ h=>Yl.fieldAddr H.underlying_tAU rfl (Dr H.sizeOf_tU64) (h _ _ rfl)) ?_;refine JL.go 2 rfl ?_;refine JL.UD (m:=m) A rfl rfl rfl rfl (RZ H) rfl rfl rfl ?_ ?_
 ·refine JL.y rfl rfl rfl (fun ρ h=>Yl.assign (h _ _ rfl)) ?_;refine JL.done ?_;exact JL.ret rfl rfl (Bx.one H.f_uCas rfl rfl) (back _ _ _ _ ab)
 ·refine JL.y rfl rfl rfl (fun ρ h=>Yl.assign (h _ _ rfl)) ?_;refine JL.done ?_;exact JL.ret rfl rfl (Bx.one H.f_uCas rfl rfl) (back _ _ _ _ ac)
end
end Pal
namespace Pal
open Go Go.Conc Go.Conc.Lib
open Go.ConcR.Gen
theorem GX{v wt:Nat}(A:v<2147483648)(K:wt≤1):IntKind.u64.wrap (BitVec.ofInt IntKind.u64.bits (Fam.word v wt)&&& BitVec.ofInt IntKind.u64.bits 2147483648).toNat=0:=by
 have:=Go.ConcN.st_flag v wt A K;simpa [bits,Fam.word,Fam.KK] using this
theorem G2{v wt:Nat}(A:v<2147483648)(K:wt≤1):IntKind.u64.wrap (BitVec.ofInt IntKind.u64.bits (Fam.word v wt)&&& BitVec.ofInt IntKind.u64.bits 2147483647).toNat=(wt:Int):=by
 have:=Go.ConcN.st_waiters v wt A K;simpa [bits,Fam.word,Fam.KK] using this
theorem GJ{v wt:Nat}(A:wt≤1):(Fam.word v wt).fdiv (2 ^ (min (32:Int).toNat IntKind.u64.bits))=(v:Int):=by
 have e:(2:Int) ^ (min (32:Int).toNat IntKind.u64.bits)=4294967296:=by decide
 rw [e,Int.fdiv_eq_ediv_of_nonneg _ (by decide)];simp only [Fam.word,Fam.KK];omega
theorem wrap_i32{v:Nat}(A:v<2147483648):IntKind.i32.wrap (v:Int)=v:=by
 simp only [IntKind.wrap,IntKind.bits,IntKind.signed];simp;split <;> omega
theorem wrap_u32{v:Nat}(A:v≤1):IntKind.u32.wrap (v:Int)=v:=by
 simp only [IntKind.wrap,IntKind.bits,IntKind.signed];simp;omega
theorem Qg{F:Fam}:∀v wt sm r,F.act .Eg v wt sm=some r→r.1=(v,wt,sm)∧r.2.1= #[Fam.Dm F.sA]:=by
 intro v wt sm r h;simp only [Fam.act] at h;split at h
 ·rename_i A;obtain⟨rfl,rfl⟩:=A;cases h;exact⟨rfl,rfl⟩
 ·cases h
theorem QR{F:Fam}{v wt sm:Nat}{r}(h:F.act .Eg v wt sm=some r):v=0∧wt=1∧r.2.2= .ph .Ep:=by
 simp only [Fam.act] at h;split at h
 ·rename_i A;cases h;exact⟨A.1,A.2,rfl⟩
 ·cases h
section
variable {P:Program}{L:WgLink}(H:WgLib P L){F:Fam}{n:Nat}{M:Env}{ds:List Deferred}{k:List Item}{cs:List Frame}{s:St}{b:Frame}
variable {ops:Array Oper}{i:Nat}{rest:List Nat}{d:Option Tmp}{x y z:Operand}{ats:Array TypeId}{ty:TypeId}{pp:String}{af:Array Edge}{g:Option (Nat×Bool)}{p q:Ph}
include H
theorem JL.addNeg(O:s.q=false)(U:ops[i]? =some ⟨d,.call ⟨.value (.func L.add),#[x,y],ats⟩,ty,pp,af,g⟩)(hw:AT M ops ⟨d,.call ⟨.value (.func L.add),#[x,y],ats⟩,ty,pp,af,g⟩=some true)(Z:((b.kind != .early)&&Bd n d)=true)
  (aa:ev M x=some (.pointer (some F.sA))) (ab:ev M y=some (.int .i64 (-1)))
  (h:JL (En P) (EM P 0) b n (AJ M d (.tuple #[])) ds (.inRegion ops rest::k) cs .quiet):
  JL (A8 P false) (Stop P F .BY) b n M ds (.inRegion ops (i::rest)::k) cs s:=by
 refine JL.F8 (vs:= [.pointer (some F.sA),.int .i64 (-1)]) U hw Z H.f_add (nm_add L) rfl (by simp [evs,aa,ab]) (Nat.le_of_ble_eq_true rfl) fun ae back=>?_;refine JL.go 11 rfl ?_;refine JL.conv (p:= .BY) (q:= .Ei) (ad:=F.sA) rfl O (by simp) (fun _ _ _=>rfl) rfl rfl rfl rfl rfl H.underlying_tWgP H.underlying_tUP H.room_tWg rfl (.inl rfl) ?_
 refine JL.HC (p:= .Ei) (q:= .FJ) (mk:= .releaseMerge) (ad:=F.sA) (vs:= [.pointer (some F.sA)]) rfl O (by simp) (fun _ _ _=>rfl) rfl rfl rfl rfl (by simp) (Pe H) rfl rfl ?_;refine JL.go 3 rfl ?_;refine JL.HI (p:= .FJ) (q:= .EJ) rfl rfl (by simp) (fun _ _ _=>rfl) rfl rfl rfl rfl rfl (by simp) (JP H) ?_;refine JL.go 2 rfl ?_;refine JL.defer (vs:= []) rfl rfl rfl rfl rfl ?_;refine JL.go 8 rfl ?_;refine JL.ext (vs:= []) rfl rfl rfl (LR H) rfl rfl ?_;refine JL.go 7 rfl ?_;refine JL.y rfl rfl rfl (fun ρ h=>Yl.fieldAddr H.underlying_tWg rfl (Dr H.sizeOf_tAU) (h _ _ rfl)) ?_;refine JL.go 1 rfl ?_;refine JL.y rfl rfl rfl (fun ρ h=>Yl.conv H.underlying_t3 H.underlying_tU64 (h _ _ rfl)) ?_
 refine JL.y (v:= .int .u64 18446744069414584320) rfl rfl rfl (fun ρ h=>(Yl.shl (h _ _ rfl) (h _ _ rfl) (by decide)).to (congrArg _ (by decide))) ?_;refine JL.TT H rfl rfl rfl rfl rfl ?_ fun v wt ag A ah=>?_
 ·refine JL.y rfl rfl rfl (fun ρ h=>Yl.assign (h _ _ rfl)) ?_;refine JL.go 5 rfl ?_;refine JL.y (v:= .int .u64 0) rfl rfl rfl (fun ρ h=>(Yl.and (h _ _ rfl) (h _ _ rfl)).to (congrArg _ (GX (v:=0) (wt:=1) (by decide) (by decide)))) ?_;refine JL.y rfl rfl rfl (fun ρ h=>Yl.neq (h _ _ rfl) (h _ _ rfl)) ?_;refine JL.go 10 rfl ?_;refine JL.y (v:= .int .u64 (0:Nat)) rfl rfl rfl (fun ρ h=>(Yl.shr (h _ _ rfl) (h _ _ rfl) (by decide)).to (congrArg _ (GJ (v:=0) (wt:=1) (by decide)))) ?_;refine JL.y (v:= .int .i32 (0:Nat)) rfl rfl rfl (fun ρ h=>(Yl.conv H.underlying_tU64 H.underlying_t21 (h _ _ rfl)).to (congrArg _ (wrap_i32 (by decide)))) ?_
  refine JL.go 5 rfl ?_;refine JL.y (v:= .int .u64 (1:Nat)) rfl rfl rfl (fun ρ h=>(Yl.and (h _ _ rfl) (h _ _ rfl)).to (congrArg _ (G2 (v:=0) (wt:=1) (by decide) (by decide)))) ?_;refine JL.y (v:= .int .u32 (1:Nat)) rfl rfl rfl (fun ρ h=>(Yl.conv H.underlying_tU64 H.underlying_tU32 (h _ _ rfl)).to (congrArg _ (wrap_u32 (by decide)))) ?_
  refine JL.go 30 rfl ?_;refine JL.y rfl rfl rfl (fun ρ h=>Yl.neq (h _ _ rfl) (h _ _ rfl)) ?_;refine JL.go 30 rfl ?_;refine JL.y rfl rfl rfl (fun ρ h=>Yl.fieldAddr H.underlying_tWg rfl (Dr H.sizeOf_tAU) (h _ _ rfl)) ?_;refine JL.uLoad H (p:= .Eg) rfl rfl (by simp) rfl Qg rfl rfl rfl rfl fun v wt sm r ac=>?_;obtain⟨rfl,rfl,e⟩:=QR ac;refine⟨.Ep,e,?_⟩;refine JL.go 1 rfl ?_;refine JL.y (v:= .bool false) rfl rfl rfl (fun ρ h=>(Yl.neq (h _ _ rfl) (h _ _ rfl)).to (by simp)) ?_;refine JL.go 7 rfl ?_;refine JL.y rfl rfl rfl (fun ρ h=>Yl.fieldAddr H.underlying_tWg rfl (Dr H.sizeOf_tAU) (h _ _ rfl)) ?_;refine JL.uStore H rfl rfl rfl rfl rfl ?_;refine JL.go 9 rfl ?_;refine JL.Gl ?_;refine JL.go 4 rfl ?_;refine JL.y rfl rfl rfl (fun ρ h=>Yl.neq (h _ _ rfl) (h _ _ rfl)) ?_;refine JL.go 8 rfl ?_;refine JL.y rfl rfl rfl (fun ρ h=>Yl.fieldAddr H.underlying_tWg rfl (Dr H.sizeOf_tU32) (h _ _ rfl)) ?_;refine JL.T8 (vs:= [.pointer (some F.mA),.bool false,.int .i64 0]) rfl rfl rfl rfl (PX H) rfl rfl ?_;refine JL.go 4 rfl ?_;refine JL.y (v:= .int .u32 ((0:Nat):Int)) rfl rfl rfl (fun ρ h=>(Yl.sub (h _ _ rfl) (h _ _ rfl)).to (congrArg _ (by decide))) ?_;refine JL.go 2 rfl ?_;refine JL.again ?_;refine JL.go 4 rfl ?_;refine JL.y rfl rfl rfl (fun ρ h=>Yl.neq (h _ _ rfl) (h _ _ rfl)) ?_;refine JL.go 3 rfl ?_;refine JL.out rfl (JO.IC rfl (FU H) (JO.leave rfl (Bx.none H.f_add rfl) (back _ _ _ _ h)))
 ·refine JL.y rfl rfl rfl (fun ρ h=>Yl.assign (h _ _ rfl)) ?_;refine JL.go 5 rfl ?_;refine JL.y (v:= .int .u64 0) rfl rfl rfl (fun ρ h=>(Yl.and (h _ _ rfl) (h _ _ rfl)).to (congrArg _ (GX (v:=v) (wt:=wt) (by omega) A))) ?_;refine JL.y rfl rfl rfl (fun ρ h=>Yl.neq (h _ _ rfl) (h _ _ rfl)) ?_;refine JL.go 10 rfl ?_;refine JL.y (v:= .int .u64 (v:Nat)) rfl rfl rfl (fun ρ h=>(Yl.shr (h _ _ rfl) (h _ _ rfl) (by decide)).to (congrArg _ (GJ (v:=v) (wt:=wt) A))) ?_;refine JL.y (v:= .int .i32 (v:Nat)) rfl rfl rfl (fun ρ h=>(Yl.conv H.underlying_tU64 H.underlying_t21 (h _ _ rfl)).to (congrArg _ (wrap_i32 (by omega)))) ?_
  refine JL.go 5 rfl ?_;refine JL.y (v:= .int .u64 (wt:Nat)) rfl rfl rfl (fun ρ h=>(Yl.and (h _ _ rfl) (h _ _ rfl)).to (congrArg _ (G2 (v:=v) (wt:=wt) (by omega) A))) ?_;refine JL.y (v:= .int .u32 (wt:Nat)) rfl rfl rfl (fun ρ h=>(Yl.conv H.underlying_tU64 H.underlying_tU32 (h _ _ rfl)).to (congrArg _ (wrap_u32 A))) ?_
  refine JL.go 22 rfl ?_;refine JL.y (v:= .bool false) rfl rfl rfl (fun ρ h=>(Yl.lss (h _ _ rfl) (h _ _ rfl)).to (by simp)) ?_;refine JL.go 6 rfl ?_;by_cases K:wt=0
  ·refine JL.y rfl rfl rfl (fun ρ h=>Yl.move (h _ _ rfl)) ?_;refine JL.y (v:= .bool false) rfl rfl rfl (fun ρ h=>(Yl.neq (h _ _ rfl) (h _ _ rfl)).to (by simp [K])) ?_;refine JL.go 16 rfl ?_;by_cases ai:0<v
   ·refine JL.y rfl rfl rfl (fun ρ h=>Yl.move (h _ _ rfl)) ?_;refine JL.y (v:= .bool true) rfl rfl rfl (fun ρ h=>(Yl.gtr (h _ _ rfl) (h _ _ rfl)).to (by simp <;> omega)) ?_;refine JL.go 6 rfl ?_;refine JL.EE rfl (JO.IC rfl (FU H) (JO.leave rfl (Bx.none H.f_add rfl) (back _ _ _ _ h)))
   ·refine JL.y rfl rfl rfl (fun ρ h=>Yl.move (h _ _ rfl)) ?_;refine JL.y (v:= .bool false) rfl rfl rfl (fun ρ h=>(Yl.gtr (h _ _ rfl) (h _ _ rfl)).to (by simp <;> omega)) ?_;refine JL.go 2 rfl ?_;refine JL.y (v:= .bool true) rfl rfl rfl (fun ρ h=>(Yl.eql (h _ _ rfl) (h _ _ rfl)).to (by simp [K])) ?_;refine JL.go 3 rfl ?_;refine JL.EE rfl (JO.IC rfl (FU H) (JO.leave rfl (Bx.none H.f_add rfl) (back _ _ _ _ h)))
  ·refine JL.y rfl rfl rfl (fun ρ h=>Yl.move (h _ _ rfl)) ?_;refine JL.y (v:= .bool true) rfl rfl rfl (fun ρ h=>(Yl.neq (h _ _ rfl) (h _ _ rfl)).to (by simp [K])) ?_;refine JL.go 17 rfl ?_;refine JL.y (v:= .bool true) rfl rfl rfl (fun ρ h=>(Yl.gtr (h _ _ rfl) (h _ _ rfl)).to (by simp <;> omega)) ?_;refine JL.go 6 rfl ?_;refine JL.EE rfl (JO.IC rfl (FU H) (JO.leave rfl (Bx.none H.f_add rfl) (back _ _ _ _ h)))
theorem JL.addPos{j:Nat}(A:s.q=false)(K:ops[i]? =some ⟨d,.call ⟨.value (.func L.add),#[x,y],ats⟩,ty,pp,af,g⟩)(hw:AT M ops ⟨d,.call ⟨.value (.func L.add),#[x,y],ats⟩,ty,pp,af,g⟩=some true)(O:((b.kind != .early)&&Bd n d)=true)
  (U:ev M x=some (.pointer (some F.sA))) (Z:ev M y=some (.int .i64 1))
  (h:JL (A8 P true) (Stop P F (.Dp j)) b n (AJ M d (.tuple #[])) ds (.inRegion ops rest::k) cs s):
  JL (A8 P true) (Stop P F (.Dw j)) b n M ds (.inRegion ops (i::rest)::k) cs s:=by
 refine JL.F8 (vs:= [.pointer (some F.sA),.int .i64 1]) K hw O H.f_add (nm_add L) rfl (by simp [evs,U,Z]) (Nat.le_of_ble_eq_true rfl) fun aa back=>?_;refine JL.go 12 rfl ?_;refine JL.HI (p:= .Dw j) (q:= .Fq j) rfl A (by simp) (fun _ _ _=>rfl) rfl rfl rfl rfl rfl (by simp) (JP H) ?_;refine JL.go 2 rfl ?_;refine JL.defer (vs:= []) rfl rfl rfl rfl rfl ?_;refine JL.go 8 rfl ?_;refine JL.ext (vs:= []) rfl rfl rfl (LR H) rfl rfl ?_;refine JL.go 7 rfl ?_;refine JL.y rfl rfl rfl (fun ρ h=>Yl.fieldAddr H.underlying_tWg rfl (Dr H.sizeOf_tAU) (h _ _ rfl)) ?_;refine JL.go 1 rfl ?_;refine JL.y rfl rfl rfl (fun ρ h=>Yl.conv H.underlying_t3 H.underlying_tU64 (h _ _ rfl)) ?_
 refine JL.y (v:= .int .u64 4294967296) rfl rfl rfl (fun ρ h=>(Yl.shl (h _ _ rfl) (h _ _ rfl) (by decide)).to (congrArg _ (by decide))) ?_;refine JL.TN H A rfl rfl rfl rfl rfl ?_ fun v ab ac=>?_
 ·refine JL.y rfl rfl rfl (fun ρ h=>Yl.assign (h _ _ rfl)) ?_;refine JL.go 5 rfl ?_;refine JL.y (v:= .int .u64 0) rfl rfl rfl (fun ρ h=>(Yl.and (h _ _ rfl) (h _ _ rfl)).to (congrArg _ (GX (v:=1) (wt:=0) (by decide) (by decide)))) ?_;refine JL.y rfl rfl rfl (fun ρ h=>Yl.neq (h _ _ rfl) (h _ _ rfl)) ?_;refine JL.go 10 rfl ?_;refine JL.y (v:= .int .u64 (1:Nat)) rfl rfl rfl (fun ρ h=>(Yl.shr (h _ _ rfl) (h _ _ rfl) (by decide)).to (congrArg _ (GJ (v:=1) (wt:=0) (by decide)))) ?_;refine JL.y (v:= .int .i32 (1:Nat)) rfl rfl rfl (fun ρ h=>(Yl.conv H.underlying_tU64 H.underlying_t21 (h _ _ rfl)).to (congrArg _ (wrap_i32 (by decide)))) ?_
  refine JL.go 5 rfl ?_;refine JL.y (v:= .int .u64 (0:Nat)) rfl rfl rfl (fun ρ h=>(Yl.and (h _ _ rfl) (h _ _ rfl)).to (congrArg _ (G2 (v:=1) (wt:=0) (by decide) (by decide)))) ?_;refine JL.y (v:= .int .u32 (0:Nat)) rfl rfl rfl (fun ρ h=>(Yl.conv H.underlying_tU64 H.underlying_tU32 (h _ _ rfl)).to (congrArg _ (wrap_u32 (by decide)))) ?_
  refine JL.go 12 rfl ?_;refine JL.y (v:= .int .i32 1) rfl rfl rfl (fun ρ h=>(Yl.conv H.underlying_t3 H.underlying_t21 (h _ _ rfl)).to (congrArg _ (by decide))) ?_
  refine JL.y (v:= .bool true) rfl rfl rfl (fun ρ h=>(Yl.eql (h _ _ rfl) (h _ _ rfl)).to (by simp)) ?_;refine JL.go 6 rfl ?_;refine JL.y rfl rfl rfl (fun ρ h=>Yl.fieldAddr H.underlying_tWg rfl (Dr H.sizeOf_tU32) (h _ _ rfl)) ?_;refine JL.conv (p:= .EP j) (q:= .Es j) (ad:=F.mA) rfl A (by simp) (fun _ _ _=>rfl) rfl rfl rfl rfl rfl H.underlying_tPU32 H.underlying_tUP H.room_tU32 rfl (.inr rfl) ?_
  refine JL.HC (p:= .Es j) (q:= .D3 j) (mk:= .read) (ad:=F.mA) (vs:= [.pointer (some F.mA)]) rfl A (by simp) (fun _ _ _=>rfl) rfl rfl rfl rfl (by simp) (QX H) rfl rfl ?_;refine JL.go 5 rfl ?_;refine JL.y (v:= .bool false) rfl rfl rfl (fun ρ h=>(Yl.lss (h _ _ rfl) (h _ _ rfl)).to (by simp)) ?_;refine JL.go 7 rfl ?_;refine JL.y (v:= .bool false) rfl rfl rfl (fun ρ h=>(Yl.neq (h _ _ rfl) (h _ _ rfl)).to (by simp)) ?_;refine JL.go 17 rfl ?_;refine JL.y (v:= .bool true) rfl rfl rfl (fun ρ h=>(Yl.gtr (h _ _ rfl) (h _ _ rfl)).to (by simp)) ?_;refine JL.go 6 rfl ?_;exact JL.EE rfl (JO.ML A rfl (FU H) (JO.leave rfl (Bx.none H.f_add rfl) (back _ _ _ _ h)))
 ·refine JL.y rfl rfl rfl (fun ρ h=>Yl.assign (h _ _ rfl)) ?_;refine JL.go 5 rfl ?_;refine JL.y (v:= .int .u64 0) rfl rfl rfl (fun ρ h=>(Yl.and (h _ _ rfl) (h _ _ rfl)).to (congrArg _ (GX (v:=(v+1)) (wt:=0) (by omega) (by decide)))) ?_;refine JL.y rfl rfl rfl (fun ρ h=>Yl.neq (h _ _ rfl) (h _ _ rfl)) ?_;refine JL.go 10 rfl ?_;refine JL.y (v:= .int .u64 ((v+1):Nat)) rfl rfl rfl (fun ρ h=>(Yl.shr (h _ _ rfl) (h _ _ rfl) (by decide)).to (congrArg _ (GJ (v:=(v+1)) (wt:=0) (by decide)))) ?_;refine JL.y (v:= .int .i32 ((v+1):Nat)) rfl rfl rfl (fun ρ h=>(Yl.conv H.underlying_tU64 H.underlying_t21 (h _ _ rfl)).to (congrArg _ (wrap_i32 (by omega)))) ?_
  refine JL.go 5 rfl ?_;refine JL.y (v:= .int .u64 (0:Nat)) rfl rfl rfl (fun ρ h=>(Yl.and (h _ _ rfl) (h _ _ rfl)).to (congrArg _ (G2 (v:=(v+1)) (wt:=0) (by omega) (by decide)))) ?_;refine JL.y (v:= .int .u32 (0:Nat)) rfl rfl rfl (fun ρ h=>(Yl.conv H.underlying_tU64 H.underlying_tU32 (h _ _ rfl)).to (congrArg _ (wrap_u32 (by decide)))) ?_
  refine JL.go 12 rfl ?_;refine JL.y (v:= .int .i32 1) rfl rfl rfl (fun ρ h=>(Yl.conv H.underlying_t3 H.underlying_t21 (h _ _ rfl)).to (congrArg _ (by decide))) ?_
  refine JL.y (v:= .bool false) rfl rfl rfl (fun ρ h=>(Yl.eql (h _ _ rfl) (h _ _ rfl)).to (by simp <;> omega)) ?_;refine JL.go 8 rfl ?_;refine JL.y (v:= .bool false) rfl rfl rfl (fun ρ h=>(Yl.lss (h _ _ rfl) (h _ _ rfl)).to (by simp <;> omega)) ?_;refine JL.go 7 rfl ?_;refine JL.y (v:= .bool false) rfl rfl rfl (fun ρ h=>(Yl.neq (h _ _ rfl) (h _ _ rfl)).to (by simp)) ?_;refine JL.go 17 rfl ?_;refine JL.y (v:= .bool true) rfl rfl rfl (fun ρ h=>(Yl.gtr (h _ _ rfl) (h _ _ rfl)).to (by simp <;> omega)) ?_;refine JL.go 6 rfl ?_;exact JL.EE rfl (JO.ML A rfl (FU H) (JO.leave rfl (Bx.none H.f_add rfl) (back _ _ _ _ h)))
omit H in
theorem PQ{m:Nat}:∀v wt sm r,F.act (.DL m) v wt sm=some r→r.1=(v,wt,sm)∧r.2.1= #[Fam.Dm F.sA]:=by
 intro v wt sm r h;simp only [Fam.act] at h;split at h
 ·rename_i A;obtain⟨_,rfl⟩:=A;cases h;exact⟨rfl,rfl⟩
 ·cases h
omit H in
theorem QB{m v wt sm:Nat}{r}(h:F.act (.DL m) v wt sm=some r):v≤m∧wt=0∧r.2.2=if v=0 then .ph .Dy else .ph (.EK v):=by
 simp only [Fam.act] at h;split at h
 ·rename_i A;cases h;exact⟨A.1,A.2,rfl⟩
 ·cases h
omit H in
theorem Pu:∀v wt sm r,F.act .Er v wt sm=some r→r.1=(v,wt,sm)∧r.2.1= #[Fam.Dm F.sA]:=by
 intro v wt sm r h;simp only [Fam.act] at h;split at h
 ·rename_i A;obtain⟨rfl,rfl⟩:=A;cases h;exact⟨rfl,rfl⟩
 ·cases h
omit H in
theorem PO{v wt sm:Nat}{r}(h:F.act .Er v wt sm=some r):v=0∧wt=0∧r.2.2= .ph .Dy:=by
 simp only [Fam.act] at h;split at h
 ·rename_i A;cases h;exact⟨A.1,A.2,rfl⟩
 ·cases h
omit H in
theorem Qh{v:Nat}(A:v<2147483648):IntKind.u64.wrap (Fam.word v 0+1)=Fam.word v 1:=by
 simp only [Fam.word,Fam.KK,IntKind.wrap,IntKind.bits,IntKind.signed];simp;omega
theorem JL.wait(Z:F.n<2147483648)(A:s.q=false)(aa:ops[i]? =some ⟨d,.call ⟨.value (.func L.wait),#[x],ats⟩,ty,pp,af,g⟩)(hw:AT M ops ⟨d,.call ⟨.value (.func L.wait),#[x],ats⟩,ty,pp,af,g⟩=some true)(ab:((b.kind != .early)&&Bd n d)=true)
  (ac:ev M x=some (.pointer (some F.sA)))
  (h:JL (A8 P false) (Stop P F .Cm) b n (AJ M d (.tuple #[])) ds (.inRegion ops rest::k) cs s):
  JL (A8 P false) (Stop P F .BZ) b n M ds (.inRegion ops (i::rest)::k) cs s:=by
 refine JL.F8 (vs:= [.pointer (some F.sA)]) aa hw ab H.f_wait (nm_wait L) rfl (by simp [evs,ac]) (Nat.le_of_ble_eq_true rfl) fun ag back=>?_;refine JL.go 3 rfl ?_;refine JL.HI (p:= .BZ) (q:= .DL F.n) rfl A (by simp) (fun _ _ _=>rfl) rfl rfl rfl rfl rfl (by simp) (JP H) ?_;refine JL.go 2 rfl ?_;refine JL.Gl ?_;refine JL.BU (L':= [(0,.pointer (some F.sA))]) ⟨rfl,trivial⟩ ?_;generalize F.n=m at Z ⊢
 induction m using Nat.strongRecOn with
 | _ m ae=>?_
 refine JL.go 5 rfl ?_;refine JL.y rfl rfl rfl (fun ρ h=>Yl.fieldAddr H.underlying_tWg rfl (Dr H.sizeOf_tAU) (h _ _ rfl)) ?_;refine JL.uLoad H (p:= .DL m) rfl A (by simp) rfl PQ rfl rfl rfl rfl fun v wt sm r O=>?_;obtain⟨ah,rfl,e⟩:=QB O;have K:v<2147483648:=by omega
 by_cases U:v=0
 ·subst U;refine⟨.Dy,e,?_⟩;refine JL.go 5 rfl ?_;refine JL.y (v:= .int .u64 (0:Nat)) rfl rfl rfl (fun ρ h=>(Yl.shr (h _ _ rfl) (h _ _ rfl) (by decide)).to (congrArg _ (GJ (v:=0) (wt:=0) (by decide)))) ?_;refine JL.y (v:= .int .i32 (0:Nat)) rfl rfl rfl (fun ρ h=>(Yl.conv H.underlying_tU64 H.underlying_t21 (h _ _ rfl)).to (congrArg _ (wrap_i32 (by decide)))) ?_
  refine JL.go 5 rfl ?_;refine JL.y (v:= .int .u64 ((0:Nat):Int)) rfl rfl rfl (fun ρ h=>(Yl.and (h _ _ rfl) (h _ _ rfl)).to (congrArg _ (G2 (v:=0) (wt:=0) (by decide) (by decide)))) ?_;refine JL.y (v:= .int .u32 ((0:Nat):Int)) rfl rfl rfl (fun ρ h=>(Yl.conv H.underlying_tU64 H.underlying_tU32 (h _ _ rfl)).to (congrArg _ (wrap_u32 (by decide)))) ?_
  refine JL.go 6 rfl ?_;refine JL.y (v:= .bool true) rfl rfl rfl (fun ρ h=>(Yl.eql (h _ _ rfl) (h _ _ rfl)).to (by simp)) ?_;refine JL.go 6 rfl ?_;refine JL.HI (p:= .Dy) (q:= .Fp) rfl A (by simp) (fun _ _ _=>rfl) rfl rfl rfl rfl rfl (by simp) (FU H) ?_;refine JL.go 3 rfl ?_;refine JL.conv (p:= .Fp) (q:= .Et) (ad:=F.sA) rfl A (by simp) (fun _ _ _=>rfl) rfl rfl rfl rfl rfl H.underlying_tWgP H.underlying_tUP H.room_tWg rfl (.inl rfl) ?_
  refine JL.HC (p:= .Et) (q:= .Cm) (mk:= .acquire) (ad:=F.sA) (vs:= [.pointer (some F.sA)]) rfl A (by simp) (fun _ _ _=>rfl) rfl rfl rfl rfl (by simp) (LF H) rfl rfl ?_;refine JL.go 5 rfl ?_;refine JL.y (v:= .bool true) rfl rfl rfl (fun ρ h=>(Yl.eql (h _ _ rfl) (h _ _ rfl)).to (by simp)) ?_;refine JL.go 2 rfl ?_;refine JL.y (v:= .int .u64 0) rfl rfl rfl (fun ρ h=>(Yl.and (h _ _ rfl) (h _ _ rfl)).to (congrArg _ (GX (v:=0) (wt:=0) (by decide) (by decide)))) ?_;refine JL.y (v:= .bool false) rfl rfl rfl (fun ρ h=>(Yl.neq (h _ _ rfl) (h _ _ rfl)).to (by simp)) ?_;refine JL.go 8 rfl ?_;exact JL.ret rfl rfl (Bx.none H.f_wait rfl) (back _ _ _ _ h)
 ·refine⟨.EK v,by rw [e,if_neg U],?_⟩;refine JL.go 5 rfl ?_;refine JL.y (v:= .int .u64 (v:Nat)) rfl rfl rfl (fun ρ h=>(Yl.shr (h _ _ rfl) (h _ _ rfl) (by decide)).to (congrArg _ (GJ (v:=v) (wt:=0) (by decide)))) ?_;refine JL.y (v:= .int .i32 (v:Nat)) rfl rfl rfl (fun ρ h=>(Yl.conv H.underlying_tU64 H.underlying_t21 (h _ _ rfl)).to (congrArg _ (wrap_i32 K))) ?_
  refine JL.go 5 rfl ?_;refine JL.y (v:= .int .u64 ((0:Nat):Int)) rfl rfl rfl (fun ρ h=>(Yl.and (h _ _ rfl) (h _ _ rfl)).to (congrArg _ (G2 (v:=v) (wt:=0) K (by decide)))) ?_;refine JL.y (v:= .int .u32 ((0:Nat):Int)) rfl rfl rfl (fun ρ h=>(Yl.conv H.underlying_tU64 H.underlying_tU32 (h _ _ rfl)).to (congrArg _ (wrap_u32 (by decide)))) ?_
  refine JL.go 6 rfl ?_;refine JL.y (v:= .bool false) rfl rfl rfl (fun ρ h=>(Yl.eql (h _ _ rfl) (h _ _ rfl)).to (by simp <;> omega)) ?_;refine JL.go 7 rfl ?_;refine JL.y rfl rfl rfl (fun ρ h=>Yl.fieldAddr H.underlying_tWg rfl (Dr H.sizeOf_tAU) (h _ _ rfl)) ?_;refine JL.go 2 rfl ?_;refine JL.y (v:= .int .u64 (Fam.word v 1)) rfl rfl rfl (fun ρ h=>(Yl.add (h _ _ rfl) (h _ _ rfl)).to (congrArg _ (Qh K))) ?_;refine JL.uCas H (m:=v) A rfl rfl rfl rfl rfl rfl ?_ ?_
  ·refine JL.done ?_;refine JL.go 6 rfl ?_;refine JL.y (v:= .bool true) rfl rfl rfl (fun ρ h=>(Yl.eql (h _ _ rfl) (h _ _ rfl)).to (by simp)) ?_;refine JL.go 6 rfl ?_;refine JL.y rfl rfl rfl (fun ρ h=>Yl.fieldAddr H.underlying_tWg rfl (Dr H.sizeOf_tU32) (h _ _ rfl)) ?_;refine JL.conv (p:= .Ft) (q:= .ET) (ad:=F.mA) rfl A (by simp) (fun _ _ _=>rfl) rfl rfl rfl rfl rfl H.underlying_tPU32 H.underlying_tUP H.room_tU32 rfl (.inr rfl) ?_
   refine JL.HC (p:= .ET) (q:= .Cf) (mk:= .write) (ad:=F.mA) (vs:= [.pointer (some F.mA)]) rfl A (by simp) (fun _ _ _=>rfl) rfl rfl rfl rfl (by simp) (P7 H) rfl rfl ?_;refine JL.go 9 rfl ?_;refine JL.y (v:= .int .u64 0) rfl rfl rfl (fun ρ h=>(Yl.and (h _ _ rfl) (h _ _ rfl)).to (congrArg _ (GX (v:=v) (wt:=0) K (by decide)))) ?_;refine JL.y (v:= .bool false) rfl rfl rfl (fun ρ h=>(Yl.neq (h _ _ rfl) (h _ _ rfl)).to (by simp)) ?_;refine JL.go 10 rfl ?_;refine JL.y rfl rfl rfl (fun ρ h=>Yl.fieldAddr H.underlying_tWg rfl (Dr H.sizeOf_tU32) (h _ _ rfl)) ?_;refine JL.go 1 rfl ?_;refine JL.R5 (vs:= [.pointer (some F.mA),.bool false]) A rfl rfl rfl rfl (Pq H) rfl rfl ?_;refine JL.go 5 rfl ?_;refine JL.y rfl rfl rfl (fun ρ h=>Yl.fieldAddr H.underlying_tWg rfl (Dr H.sizeOf_tAU) (h _ _ rfl)) ?_;refine JL.uLoad H (p:= .Er) rfl A (by simp) rfl Pu rfl rfl rfl rfl fun v wt sm r O=>?_;obtain⟨rfl,rfl,e⟩:=PO O;refine⟨.Dy,e,?_⟩;refine JL.y (v:= .bool false) rfl rfl rfl (fun ρ h=>(Yl.neq (h _ _ rfl) (h _ _ rfl)).to (by simp [Fam.word])) ?_;refine JL.go 6 rfl ?_;refine JL.HI (p:= .Dy) (q:= .Fp) rfl A (by simp) (fun _ _ _=>rfl) rfl rfl rfl rfl rfl (by simp) (FU H) ?_;refine JL.go 3 rfl ?_;refine JL.conv (p:= .Fp) (q:= .Et) (ad:=F.sA) rfl A (by simp) (fun _ _ _=>rfl) rfl rfl rfl rfl rfl H.underlying_tWgP H.underlying_tUP H.room_tWg rfl (.inl rfl) ?_
   refine JL.HC (p:= .Et) (q:= .Cm) (mk:= .acquire) (ad:=F.sA) (vs:= [.pointer (some F.sA)]) rfl A (by simp) (fun _ _ _=>rfl) rfl rfl rfl rfl (by simp) (LF H) rfl rfl ?_;refine JL.go 8 rfl ?_;exact JL.ret rfl rfl (Bx.none H.f_wait rfl) (back _ _ _ _ h)
  ·refine JL.done ?_;refine JL.go 3 rfl ?_;refine JL.again ?_;refine JL.BU (L':= [(0,.pointer (some F.sA))]) ⟨rfl,trivial⟩ ?_;exact ae (v - 1) (by omega) (by omega)
theorem JO.I8(A:b.roundOf=none)(K:s.q=false)(h:JO (En P) (EM P 0) b n M ds cs .quiet):
  JO (A8 P false) (Stop P F .BY) b n M (dcall L.done #[.pointer (some F.sA)]::ds) cs s:=by
 refine JO.enter (vs:= [.pointer (some F.sA)]) A H.f_done (nm_done L) rfl (Nat.le_of_ble_eq_true rfl) fun T O todo=>?_;refine JL.go 2 rfl ?_;refine JL.addNeg H K rfl rfl rfl rfl rfl ?_;refine JL.done ?_;exact JL.out rfl (JO.leaveD rfl H.f_done rfl (.inl rfl) (h T O todo))
end
end Pal
namespace Pal
open Go Go.Conc
section
variable {P:Program}{J:Judge P}{Q:Goroutine→St→Prop}{g:Goroutine}{cs:List Frame}{c:Frame}{E H:LH}{S S':List Seg}
theorem J8(A:S.flatten.Perm S'.flatten)(K:Ay E H S)(h:Ay E H S'→J.ok Q g (Ap E H S')):J.ok Q g (Ap E H S):=by
 have O:Ap E H S=Ap E H S':=Dt K A;rw [O];exact h (Nd.perm K A)
theorem Nt(A:S'.flatten=S.flatten)(K:Ay E H S)(h:Ay E H S'→J.ok Q g (Ap E H S')):J.ok Q g (Ap E H S):=J8 (by rw [A]) K h
theorem My{f:FuncId}{vs:List Value}{seg:Seg}{R:Value→LH→Seg→Prop}(j:Nat)(ac:Aq J f vs E seg R)(A:Ay E H S)(K:S[j]? =some seg)
  (ae:∀v E' seg',Le E E'→R v E' seg'→Ay E' H (S.set j seg')→J.ok Q (G (c.finish v) cs) (Ap E' H (S.set j seg'))):
  J.ok Q (G (Frame.enter P f vs.toArray .normal) (c::cs)) (Ap E H S):=by
 have O:S.flatten.Perm (seg++(S.set j []).flatten):=(CL (seg':=seg) K).1.trans List.perm_append_comm;have U:Nd E H (seg++(S.set j []).flatten):=Nd.perm A O;have ag:Ap E H S=mk E (AU (S.set j []).flatten H) seg:=by
  rw [show Ap E H S=mk E H S.flatten from rfl,Dt A O];unfold mk;rw [DV]
 have Z:=Cy.FH (ac (AU (S.set j []).flatten H) (Nd.front U)) (by rintro v s' ⟨E',B',_,_,_,rfl⟩;rfl);rw [← ag] at Z;refine Z Q c cs ?_;rintro v ar ⟨⟨E',B',hle,ah,ai,rfl⟩,w,aj⟩;have ak:mk E' (AU (S.set j []).flatten H) B'=mk E' H (B'++(S.set j []).flatten):=by unfold mk;rw [DV]
 have al:Nd E H (S.set j []).flatten:=by
  have:=U;rw [Nd.iff] at this ⊢;rw [List.map_append,List.nodup_append] at this;exact⟨this.1.2.1,fun q am=>this.2 q (List.mem_append_right _ am)⟩
 have an:Nd E' H (S.set j []).flatten:=al.grow fun x ao=>by
  have ap:=aj.d x ao;have aq:AU B' (AU (S.set j []).flatten H) x=none:=ap;exact(EA aq).1
 have aa:Nd E' H (B'++(S.set j []).flatten):=Nd.glue ai an;rw [ak];have ab:(B'++(S.set j []).flatten).Perm (S.set j B').flatten:=List.perm_append_comm.trans (CL K).2.symm;rw [Dt aa ab];exact ae v E' B' hle ah (Nd.perm aa ab)
theorem NC{e p d l:Seg}:([e,p]++ [d]++ [l]:List Seg).flatten.Perm ([e++(l++p),d]:List Seg).flatten:=by
 simp only [List.cons_append,List.nil_append,List.flatten_cons,List.flatten_nil,List.append_nil,List.append_assoc];refine List.Perm.append_left e ?_;rw [← List.append_assoc];exact List.perm_append_comm
end
section
variable {P:Program}{J:Judge P}{Q:Goroutine→St→Prop}{b:Frame}{n:Nat}{L:Env}{ds:List Deferred}{k:List Item}{cs:List Frame}{E H:LH}{S:List Seg}{ops:Array Oper}{i:Nat}{rest:List Nat}{d:Option Tmp}{t ty e:TypeId}{p:String}{af:Array Edge}{g:Option (Nat×Bool)}
theorem JS.makeChan{dir:ChanDir}{A:Nat}(K:ops[i]? =some ⟨d,.makeChan t (.const (.int .i64 0)),ty,p,af,g⟩)(hw:AT L ops ⟨d,.makeChan t (.const (.int .i64 0)),ty,p,af,g⟩=some true)(O:BR b n ⟨d,.makeChan t (.const (.int .i64 0)),ty,p,af,g⟩=true)
  (ht:P.underlying t=some (.chan dir e)) (hb:C9 P e=some A) (U:Ay E H S)
  (h:∀r,Ay E H (S++ [[(r,.chan 0 #[] false 0 0 false)]])→JL J Q b n (AJ L d (.chan (some r))) ds (.inRegion ops rest::k) cs (Ap E H (S++ [[(r,.chan 0 #[] false 0 0 false)]]))):
  JL J Q b n L ds (.inRegion ops (i::rest)::k) cs (Ap E H S):=
 JL.op K hw O fun ρ Z=>by
  show lp P (do pure (Next.value (← Instr.makeChan t (ρ (.const (.int .i64 0)))))) _ _ _
  rw [Z _ _ rfl]
  obtain⟨inf,hi,ai⟩:=Ih hb
  refine AB _ _ ?_
  unfold Instr.makeChan
  simp only [asInt,bind,Sem.bind,pure]
  refine AB (x:=underlying t) _ (Cd ht ?_)
  simp only
  refine AB (x:=typeInfo e) _ (FT hi ?_)
  have aa:¬((0:Int)<0∨(0:Int)>IntKind.i64.max∨(inf.bytes:Int)*0>2 ^ 48 - 112):=by
   simp [IntKind.max,IntKind.signed,IntKind.bits]
  rw [if_neg aa];simp only [newObj,Sem.bind,lp];refine⟨rfl,fun r ab ac=>?_⟩;obtain⟨ae,ag⟩:=Gf ab ac (.chan 0 #[] false 0 0 false) U;obtain⟨p1,p2⟩:=CS ae;have ah:(Ap E H S).upd r (.chan 0 #[] false 0 0 false)=Ap E H (S++ [[(r,.chan 0 #[] false 0 0 false)]]):=by rw [← p1,← ag];rfl
  show JL J Q b n (AJ L d (.chan (some r))) ds (.inRegion ops rest::k) cs ((Ap E H S).upd r (.chan 0 #[] false 0 0 false));rw [ah];exact h r p2
end
theorem PH{E H:LH}{a b:Nat}{A K:Obj}(Z:Ay E H [[(a,A)],[(b,K)]]):(⟨E,FZ (Ap E H [[(a,A)],[(b,K)]]).H b a,false⟩:St)=Ap E H []:=by
 have h:=Nd.iff.1 Z;have aa:H a=none:=(h.2 (a,A) (by simp)).2;have ab:H b=none:=(h.2 (b,K) (by simp)).2;unfold Ap mk;congr 1;funext x;simp only [FZ,Ap,mk,List.flatten_cons,List.flatten_nil,List.append_nil,List.cons_append,List.nil_append,AU];by_cases O:x=a
 ·subst O;simp [aa]
 ·by_cases U:x=b
  ·subst U;simp [O,ab]
  ·simp [O,U]
theorem Ay.up{E E' H:LH}{S:List Seg}(O:Ay E H S)(h:∀x,E' x≠none→(Ap E H S).H x=none):Ay E' H S:=by
 have A:=Nd.iff.1 O;refine Nd.iff.2 ⟨A.1,fun q K=>⟨?_,(A.2 q K).2⟩⟩;cases U:E' q.1 with
 | none=>rfl
 | some o=>
  have Z:=h q.1 (by rw [U];simp);have aa:AU S.flatten H q.1=none:=Z;exact absurd rfl ((EA aa).2 q K)
end Pal
namespace Pal
open Go Go.Conc
theorem JS.merge{P:Program}{J:Judge P}{Q:Goroutine→St→Prop}{b:Frame}{n:Nat}{L:Env}{ds:List Deferred}{cs:List Frame}{E H:LH}{S:List Seg}{todo:List Item}{A B:Seg}(j K:Nat)(O:S[j]? =some A)(aa:(S.set j [])[K]? =some B)(ab:Ay E H S)
  (h:Ay E H (((S.set j []).set K []).set j (A++B))→JL J Q b n L ds todo cs (Ap E H (((S.set j []).set K []).set j (A++B)))):JL J Q b n L ds todo cs (Ap E H S):=by
 refine JS.perm ?_ ab h;have U:j<S.length:=(List.getElem?_eq_some_iff.1 O).1;have ac:=(CL (seg':=A) O).1;have ae:=(CL (seg':=B) aa).1;have ag:((S.set j []).set K [])[j]? =some []:=by
  by_cases e:K=j
  ·subst e;rw [List.getElem?_set_self (by simpa using U)]
  ·rw [List.getElem?_set_ne e,List.getElem?_set_self U]
 have Z:=(CL (seg':=A++B) ag).2;have ah:(((S.set j []).set K []).set j [])=(S.set j []).set K []:=by
  by_cases e:K=j
  ·subst e;simp
  ·rw [List.set_comm _ _ e];simp
 rw [ah] at Z;refine ac.trans (List.Perm.trans ?_ Z.symm);refine(List.Perm.append_right A ae).trans ?_;rw [List.append_assoc];exact List.Perm.append_left _ List.perm_append_comm
end Pal
namespace Pal
open Go Go.Conc
def WL{α:Type}(e:TypeId)(pp:Rp α)(E:LH)(A c n:Nat)(f:Array Value)(xs:List α):Prop:=
 OL e pp E (some ⟨A,0,none⟩) c [(A,.cells f e (0,0))] xs∧xs.length=n
theorem WL.mono{α:Type}{e:TypeId}{pp:Rp α}{E E':LH}{A c n:Nat}{f:Array Value}{xs:List α}(h:WL e pp E A c n f xs)(hle:Le E E'):WL e pp E' A c n f xs:=⟨h.1.mono hle,h.2⟩
theorem WL.at{α:Type}{e:TypeId}{pp:Rp α}{E:LH}{A c n:Nat}{f:Array Value}{xs:List α}{m:Int}{x:α}(h:WL e pp E A c n f xs)(hm:ix xs m=some x):
  ∃ws,pp.r E ws x∧(∀j w,ws[j]? =some w→f[m.toNat*pp.n+j]? =some w):=by
 obtain⟨ws,K,O,_,_⟩:=OL.again h.1 hm rfl;exact⟨ws,K,O⟩
theorem WL.put{α:Type}{e:TypeId}{pp:Rp α}{E:LH}{K c n:Nat}{f:Array Value}{xs O:List α}{m:Int}{U x':α}{ws':List Value}(h:WL e pp E K c n f xs)(Z:O.length=n)(hm:ix O m=some U)(aa:pp.r E ws' x'):
  WL e pp E K c n (A5 f (m.toNat*pp.n) ws') (xs.set m.toNat x')∧m.toNat*pp.n+pp.n≤f.size:=by
 obtain⟨A,rfl,ab⟩:=FD hm;have ac:A<xs.length:=by rw [h.2,← Z];exact(List.getElem?_eq_some_iff.1 ab).1
 have ae:ix xs (A:Int)=some xs[A]:=by simp [ix,ac]
 obtain⟨ws,ai,aj,ag,ah⟩:=OL.again h.1 ae rfl;exact⟨⟨ah x' ws' aa,by rw [List.length_set];exact h.2⟩,ag⟩
theorem OL.cases{α:Type}{e:TypeId}{pp:Rp α}{E:LH}{a:Option Addr}{c:Nat}{seg:Seg}{xs:List α}(h:OL e pp E a c seg xs):
  (a=none∧c=0∧seg= []∧xs= [])∨∃A f,a=some ⟨A,0,none⟩∧seg= [(A,.cells f e (0,0))]∧WL e pp E A c xs.length f xs:=by
 have Z:=h;obtain⟨wss,aa,ac,ae⟩:=h;rcases aa with⟨K,O,U,ab,ag⟩ | ⟨A,f,K,O,U⟩
 ·exact .inl ⟨K,U,ab,List.length_eq_zero_iff.1 O⟩
 ·subst K O;exact .inr ⟨A,f,rfl,rfl,Z,rfl⟩
theorem Yl.Bg{P:Program}{s:St}{ρ:Operand→Value}{x y:Operand}{d:Option Tmp}{t ty e:TypeId}{p:String}{af:Array Edge}{g:Option (Nat×Bool)}{kd:IntKind}{α:Type}{xs:List α}{xv:α}{m:Int}{A c K n:Nat}(O:xs.length=n)(hm:ix xs m=some xv)(ht:P.underlying t=some (.slice e))(U:Bq P e=some K)(Z:ρ x= .slice (some ⟨A,0,none⟩) n c)(aa:ρ y= .int kd m):
  Yl P ⟨d,.indexAddr t x y,ty,p,af,g⟩ ρ s (.pointer (some ⟨A,m.toNat*K,none⟩)):=by
 subst O;exact Yl.T7 hm ht U Z aa
theorem Yl.OP{P:Program}{s:St}{ρ:Operand→Value}{x:Operand}{d:Option Tmp}{t ty e:TypeId}{p:String}{af:Array Edge}{g:Option (Nat×Bool)}{α:Type}{xs:List α}{a:Option Addr}{n c:Nat}{ats:Array TypeId}(A:xs.length=n)(K:ats[0]? =some t)(ht:P.underlying t=some (.slice e))(O:ρ x= .slice a n c):
  Yl P ⟨d,.call ⟨.builtin .len,#[x],ats⟩,ty,p,af,g⟩ ρ s (.int .i64 (xs.length:Int)):=by
 subst A;exact Yl.len K ht O
section
variable {P:Program}{J:Judge P}{Q:Goroutine→St→Prop}{b:Frame}{n:Nat}{ds:List Deferred}{ops:Array Oper}{k:List Item}{cs:List Frame}{m fuel:Nat}{D:Nat→Bool}{listed:Array Bool}{L:Env}{s:St}{E E' H:LH}{S:List Seg}
variable {d:Option Tmp}{x y:Operand}{t u ty e:TypeId}{p:String}{af:Array Edge}{g:Option (Nat×Bool)}{v:Value}{i:Nat}{kd:IntKind}
theorem Av.Gr{f:FuncId}{args:Array Operand}{ats:Array TypeId}{vs:List Value}{R:Value→St→Prop}(O:s.q=false)(U:Region.ready .any ops listed= [i])
  (Z:ops[i]? =some ⟨d,.call ⟨.value x,args,ats⟩,ty,p,af,g⟩) (aa:ev L x=some (.func (.func f) #[] #[])) (ab:Bd n d=true) (hw:AT L ops ⟨d,.call ⟨.value x,args,ats⟩,ty,p,af,g⟩=some true) (hb:Cx P f=true) (ac:evs L args.toList=some vs)
  (ae:Cy J f vs.toArray s R) (h:∀v A,R v A→A.q=false∧(∀x o,(Bh D s).E x=some o→(Bh D A).E x=some o)∧Av J Q b n ds ops k cs m D fuel (AX listed i) (AJ L d v) A):
  Av J Q b n ds ops k cs m D (fuel+1) listed L s:=by
 refine Av.one O U Z (by simp [Ci,ab]) hw fun ρ K=>?_;have ag:args.map ρ=vs.toArray:=by
  rw [← DW K ac];apply Array.ext';simp
 have ah:ρ x= .func (.func f) #[] #[]:=K _ _ aa;simp only [execOp,resolve,bind,Sem.bind,Deferred.ofValue,ah,pure,invoke];have e: #[]++args.map ρ++ #[]=vs.toArray:=by rw [ag];simp
 rw [e];refine GC hb ?_;rw [Hm];exact⟨R,ae,h⟩
theorem JG.FC{bks:List Nat}{f:FuncId}{args:Array Operand}{ats:Array TypeId}{vs:List Value}{R:Value→LH→Seg→Prop}(ag:EH S bks)(ah:Aq J f vs E [] R)(ai:Region.ready .any ops listed= [i])
  (aj:ops[i]? =some ⟨d,.call ⟨.value x,args,ats⟩,ty,p,af,g⟩) (A:ev L x=some (.func (.func f) #[] #[])) (ak:Bd n d=true) (hw:AT L ops ⟨d,.call ⟨.value x,args,ats⟩,ty,p,af,g⟩=some true) (hb:Cx P f=true) (al:evs L args.toList=some vs) (aa:Ay E H S)
  (am:∀v E' seg',Le E E'→R v E' seg'→Ay E' H (S++ [seg'])→Av J Q b n ds ops k cs m (AH bks) fuel (AX listed i) (AJ L d v) (Ap E' H (S++ [seg']))):
  Av J Q b n ds ops k cs m (AH bks) (fuel+1) listed L (Ap E H S):=by
 have an:=Cy.FH (ah (AU S.flatten H) trivial) (by rintro v s' ⟨E',B',_,_,_,rfl⟩;rfl);refine Av.Gr rfl ai aj A ak hw hb al an ?_;rintro v az ⟨⟨E',B',hle,ao,ap,rfl⟩,w,aq⟩;have ar:mk E' (AU S.flatten H) B'=mk E' H (B'++S.flatten):=by unfold mk;rw [DV]
 have au:Nd E' H S.flatten:=Nd.grow aa fun x A=>by
  have av:=aq.d x A;have O:AU B' (AU S.flatten H) x=none:=av;exact(EA O).1
 have ab:Nd E' H (B'++S.flatten):=Nd.glue ap au;have ac:(B'++S.flatten).Perm (S++ [B']).flatten:=by rw [EC];exact List.perm_append_comm
 have ae:Ay E' H (S++ [B']):=Nd.perm ab ac;rw [ar,Dt ab ac];refine⟨rfl,fun x o A=>?_,am v E' B' hle ao ae⟩;by_cases U:AH bks x=true
 ·obtain⟨j,o',Z⟩:=ag.mem x (by simpa [AH] using U);have O:(Ap E H S).get x=some o':=C8 (i:=0) aa Z rfl;have aw:j<S.length:=(List.getElem?_eq_some_iff.1 Z).1;have ay:(Ap E' H (S++ [B'])).get x=some o':=C8 (i:=0) ae (by rw [List.getElem?_append_left aw];exact Z) rfl;have K:(if AH bks x then(Ap E H S).get x else E x)=some o:=A
  show(if AH bks x then(Ap E' H (S++ [B'])).get x else E' x)=some o
  rw [if_pos U] at K ⊢;rw [ay,← O];exact K
 ·have K:(if AH bks x then(Ap E H S).get x else E x)=some o:=A
  show(if AH bks x then(Ap E' H (S++ [B'])).get x else E' x)=some o
  rw [if_neg U] at K ⊢;exact hle _ _ K
end
section
variable {P:Program}{J:Judge P}{Q:Goroutine→St→Prop}{b:Frame}{n:Nat}{ds:List Deferred}{ops:Array Oper}{k:List Item}{cs:List Frame}{L:Env}{s:St}{E E' H:LH}{S:List Seg}
variable {d:Option Tmp}{x y:Operand}{t u ty e:TypeId}{p:String}{af:Array Edge}{g:Option (Nat×Bool)}{v:Value}{i:Nat}{rest:List Nat}{kd:IntKind}
theorem JS.Gr{f:FuncId}{args:Array Operand}{ats:Array TypeId}{vs:List Value}{R:Value→LH→Seg→Prop}
  (K:Aq J f vs E [] R) (O:ops[i]? =some ⟨d,.call ⟨.value x,args,ats⟩,ty,p,af,g⟩) (U:ev L x=some (.func (.func f) #[] ([]:List Value).toArray)) (hw:AT L ops ⟨d,.call ⟨.value x,args,ats⟩,ty,p,af,g⟩=some true) (Z:((b.kind != .early)&&Bd n d)=true) (hb:Cx P f=true)
  (aa:evs L args.toList=some vs) (ab:Ay E H S) (ac:∀v E' seg',Le E E'→R v E' seg'→Ay E' H (S++ [seg'])→JL J Q b n (AJ L d v) ds (.inRegion ops rest::k) cs (Ap E' H (S++ [seg']))):
  JL J Q b n L ds (.inRegion ops (i::rest)::k) cs (Ap E H S):=by
 have ae:Dc J (.func (.func f) #[] ([]:List Value).toArray) vs E [] R:=Dc.ofFn hb (by rw [List.append_nil];exact K);have ag:Ay E H (S++ [[]]):=by unfold Ay at*;rw [EC,List.append_nil];exact ab
 have ah:Ap E H S=Ap E H (S++ [[]]):=by unfold Ap;rw [EC,List.append_nil]
 rw [ah];refine JS.G1 (seg:= []) S.length ae O hw Z U aa ag (by simp) fun v E' seg' hle ai A=>?_;have aj:(S++ [([]:Seg)]).set S.length seg'=S++ [seg']:=Fx _ _ _ _;rw [aj] at A ⊢;exact ac v E' seg' hle ai A
end
def Fj(a b:Int):Option Int:=if b=0 then none else Ax (a.tdiv b)
def HX(l:List Nat)(i:Int):Option Nat:=if 0≤i then l[i.toNat]? else none
section
variable {P:Program}{s:St}{ρ:Operand→Value}{x y z:Operand}{d:Option Tmp}{t u ty e:TypeId}{p:String}{af:Array Edge}{g:Option (Nat×Bool)}{v:Value}{kd kd':IntKind}{m m':Int}{a b:Nat}
theorem Yl.HV{r:Int}(A:ρ x=iV m)(K:ρ y=iV m')(h:Fj m m'=some r):Yl P ⟨d,.binOp .quo t x y u,ty,p,af,g⟩ ρ s (iV r):=by
 unfold Fj at h;split at h
 ·cases h
 ·rename_i O;obtain⟨rfl,hb⟩:=Hp h;have:=Yl.quo (P:=P) (s:=s) (d:=d) (t:=t) (u:=u) (ty:=ty) (p:=p) (af:=af) (g:=g) A K O
  rwa [Gc hb] at this
theorem OS{a:Nat}:IntKind.u8.wrap (a:Int)=((a % 256:Nat):Int):=by
 simp only [IntKind.wrap,IntKind.bits,IntKind.signed];simp
theorem Yl.T6(A:ρ x= .int .u8 (a:Int))(K:ρ y= .int .u8 (b:Int)):Yl P ⟨d,.binOp .add t x y u,ty,p,af,g⟩ ρ s (.int .u8 (((a+b) % 256:Nat):Int)):=by
 have h:=Yl.add (P:=P) (s:=s) (d:=d) (t:=t) (u:=u) (ty:=ty) (p:=p) (af:=af) (g:=g) A K;rw [← Int.natCast_add,OS] at h;exact h
theorem Yl.Ur(ht:P.underlying t=some (.int .u64))(hu:P.underlying u=some (.int .u8))(A:ρ x= .int .u64 (a:Int)):Yl P ⟨d,.convert t u x,ty,p,af,g⟩ ρ s (.int .u8 ((a % 256:Nat):Int)):=by
 have h:=Yl.conv (P:=P) (s:=s) (d:=d) (ty:=ty) (p:=p) (af:=af) (g:=g) ht hu A
 rw [OS] at h;exact h
theorem Yl.OK{r:Int}(ht:P.underlying t=some (.int .u8))(hu:P.underlying u=some (.int .i64))(A:ρ x= .int .u8 (a:Int))(h:Ax ((a:Nat):Int)=some r):Yl P ⟨d,.convert t u x,ty,p,af,g⟩ ρ s (iV r):=by
 obtain⟨rfl,hb⟩:=Hp h;have h:=Yl.conv (P:=P) (s:=s) (d:=d) (ty:=ty) (p:=p) (af:=af) (g:=g) ht hu A
 rwa [Gc hb] at h
theorem Yl.Ue(c:Nat)(A:ρ x= .int .u16 (a:Int))(K:ρ y= .int .u64 (c:Int))(U:c≤16):Yl P ⟨d,.binOp .shr t x y u,ty,p,af,g⟩ ρ s (.int .u16 ((a>>>c:Nat):Int)):=by
 have h:=Yl.shr (P:=P) (s:=s) (d:=d) (t:=t) (u:=u) (ty:=ty) (p:=p) (af:=af) (g:=g) A K (by omega);have e:min (c:Int).toNat IntKind.u16.bits=c:=by simp [IntKind.bits];omega
 rw [e,Int.fdiv_eq_ediv_of_nonneg _ (Int.pow_nonneg (by decide))] at h;have O:(a:Int) / 2 ^ c=((a>>>c:Nat):Int):=by rw [Nat.shiftRight_eq_div_pow,Int.natCast_ediv];rfl
 rw [O] at h;exact h
theorem Yl.Kl{l:List Nat}{bs:ByteArray}{r:Nat}(K:(bs.data.toList.map UInt8.toNat==l)=true)(ht:P.underlying t=some .string)(O:ρ y= .int kd m)(U:ρ (.const (.string bs))= .string bs)(h:HX l m=some r):Yl P ⟨d,.index t (.const (.string bs)) y,ty,p,af,g⟩ ρ s (.int .u8 (r:Int)):=by
 unfold HX at h;split at h
 ·rename_i Z;have aa:=eq_of_beq K;rw [← aa,List.getElem?_map] at h;obtain⟨A,hb,rfl⟩:=Option.map_eq_some_iff.1 h;have ab:bs[m.toNat]? =some A:=by
   have ac:bs.data[m.toNat]? =some A:=by rw [← Array.getElem?_toList];exact hb
   obtain⟨ae,ag⟩:=Array.getElem?_eq_some_iff.1 ac;rw [getElem?_pos bs m.toNat ae];exact congrArg some ag
  simp [Yl,execOp,lp,pure,bind,Sem.bind,U,O,Instr.index,underlying,program,ht,Z,ab,asIntOf]
 ·cases h
end
end Pal
