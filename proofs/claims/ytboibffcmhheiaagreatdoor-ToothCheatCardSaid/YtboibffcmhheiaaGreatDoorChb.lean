/- ToothCheat answers true for every list of numbers, on every schedule; without a condition beyond those of the given row and card. Part 2 of 8. -/
import Derived.Test.YtboibffcmhheiaaGreatDoorCha
import Derived.Conc.Beside
import Derived.Conc.CrowdComm
import Derived.Conc.TokenWalk
import Derived.Conc.MarkLaws
import Derived.Conc.AtomicLaws2
import Derived.Conc.WgLib
import Derived.Conc.WgArith
import Derived.Conc.WgGenW
set_option linter.all false
set_option maxRecDepth 100000
namespace Pal
open Go Go.Conc
open Go.ConcN (upd upd_same upd_ne)
def Ca:Loc→Option Nat | .cell a=>some a.block | .obj r=>some r | _=>none
structure Br (t:Trace) (w:World) (N:Nat) (S:Nat→St) (Sh:Nat→Prop):Prop where
 fits:∀i,i<N→Fits (S i) w
 hh:∀i j,i<N→j<N→i≠j→∀b,(S i).H b≠none→(S j).H b=none∧(S j).E b=none
 sh:∀i,i<N→∀b,Sh b→(S i).H b=none∧(S i).E b=none
 C3:∀b,Sh b→b<w.heap.size
 clean:∀said,¬Race said t
 low:∀op∈t,op.act.low w.heap.size
 kH:∀i,i<N→∀b,(S i).H b≠none→∀x a,touchAt t x=some a→Ca a.loc=some b→Knows t i x
 kE:∀i,i<N→∀b,(S i).E b≠none→∀x a,touchAt t x=some a→Ca a.loc=some b→a.write=true→Knows t i x
theorem IN{t:Trace}{x:Nat}{a:Touch}{b n:Nat}(W:∀op∈t,op.act.low n)(h:touchAt t x=some a)(hb:Ca a.loc=some b):b<n:=by
 obtain⟨op,Z,A⟩:=touch_of h;have K:=W op (mem_of_getElem? Z);cases O:op.act with
 | access e=>
  rw [O] at A K;simp only [MemAct.touch?,Option.some.injEq] at A;subst A;simp only [MemAct.low] at K;cases U:e.loc with
  | cell ad=>rw [U] at K hb;simp only [Ca,Option.some.injEq] at hb;subst hb;exact K
  | obj r=>rw [U] at K hb;simp only [Ca,Option.some.injEq] at hb;subst hb;exact K
  | _=>rw [U] at hb;simp [Ca] at hb
 | mark m=>
  rw [O] at A K;cases m <;> simp only [MemAct.touch?] at A <;> first
   | (simp at A;done)
   | (simp only [Option.some.injEq] at A;subst A;simp only [Ca,Option.some.injEq] at hb;subst hb;exact K)
 | _=>rw [O] at A;simp [MemAct.touch?] at A
theorem HF{s:St}{w w':World}{e:Event}{a:Touch}{b:Nat}(h:Ev s w w' e)(A:(MemAct.ofEvent e).touch? =some a)(hb:Ca a.loc=some b):
  Dq s w w' b a.write:=by
 obtain⟨loc,wr,U⟩:=e;cases loc with
 | cell ad=>
  obtain⟨K,O⟩:=h;simp only at K;subst K;simp only [MemAct.ofEvent,MemAct.touch?,Option.some.injEq] at A;subst A;simp only [Ca,Option.some.injEq] at hb;subst hb;exact O
 | obj r=>
  obtain⟨K,O⟩:=h;simp only at K;subst K;simp only [MemAct.ofEvent,MemAct.touch?,Option.some.injEq] at A;subst A;simp only [Ca,Option.some.injEq] at hb;subst hb;exact O
 | mark m=>
  cases m <;> simp only [Ev] at h <;> first | exact h.elim | simp [MemAct.ofEvent,MemAct.touch?] at A
 | _=>exact h.elim
theorem QT{s:St}{w w':World}{e:Event}(h:Ev s w w' e):(MemAct.ofEvent e).low w'.heap.size:=by
 obtain⟨loc,wr,O⟩:=e;cases loc with
 | cell ad=>obtain⟨A,K⟩:=h;simp only at A;subst A;exact K.1
 | obj r=>obtain⟨A,K⟩:=h;simp only at A;subst A;cases wr <;> exact K.1
 | mark m=>cases m <;> simp only [Ev] at h <;> first | exact h.elim | exact trivial
 | _=>exact h.elim
theorem NJ{l:Loc}(h:l.isMemory=true):∃b,Ca l=some b:=by
 cases l <;> simp [Loc.isMemory] at h <;> exact⟨_,rfl⟩
theorem Br.own{t:Trace}{w w':World}{N:Nat}{S:Nat→St}{Sh:Nat→Prop}(h:Br t w N S Sh){i:Nat}(hi:i<N){s':St}{fn:FuncId}{pos:String}{es:Array Event}
  (ay:Fits s' w') (U:Fr (S i) w s' w') (aj:∀e∈es,Ev (S i) w w' e):Br (t++MemOp.ofEvents i fn pos es) w' N (upd S i s') Sh:=by
 have aq:∀j,j<N→j≠i→∀b o,((S j).H b=some o∨(S j).E b=some o)→w'.heap[b]? =some o∧(S i).H b=none:=by
  intro j O W b o A;have hw:w.heap[b]? =some o:=A.elim ((h.fits j O).h b o) ((h.fits j O).e b o);have ab:b<w.heap.size:=by
   rcases Nat.lt_or_ge b w.heap.size with am | am
   ·exact am
   ·simp [Array.getElem?_eq_none am] at hw
  have ar:(S i).H b=none:=by
   cases az:(S i).H b with
   | none=>rfl
   | some u=>
    have:=h.hh i j hi O (Ne.symm W) b (by rw [az];simp);rcases A with A | A
    ·rw [this.1] at A;cases A
    ·rw [this.2] at A;cases A
  exact⟨by rw [U.keep b ab ar,hw],ar⟩
 have ak:∀j,j<N→∀b,w.heap.size≤b→(S j).H b=none∧(S j).E b=none:=by
  intro j O b hb;constructor
  ·cases K:(S j).H b with
   | none=>rfl
   | some o=>have:=(h.fits j O).h b o K;simp [Array.getElem?_eq_none hb] at this
  ·cases K:(S j).E b with
   | none=>rfl
   | some o=>have:=(h.fits j O).e b o K;simp [Array.getElem?_eq_none hb] at this
 have ac:∀op∈MemOp.ofEvents i fn pos es,op.g=i∧∃e∈es,op.act=MemAct.ofEvent e:=by
  intro op ac;obtain⟨e,he,rfl⟩:=mem_ofEvents ac;exact⟨rfl,e,he,rfl⟩
 have hold:∀x a,touchAt t x=some a→touchAt (t++MemOp.ofEvents i fn pos es) x=some a:=by
  intro x a K;obtain⟨op,A,_⟩:=touch_of K;rw [touchAt_old (lt_size_of_getElem? A)];exact K
 have al:∀x a,touchAt (t++MemOp.ofEvents i fn pos es) x=some a→touchAt t x=some a∨(Knows (t++MemOp.ofEvents i fn pos es) i x∧∃e∈es,(MemAct.ofEvent e).touch? =some a):=by
  intro x a K;obtain⟨op,A,au⟩:=touch_of K;rcases getElem?_append_cases A with⟨ab,aA⟩ | ⟨_,aB⟩
  ·left;rw [touchAt_of aA];exact au
  ·right;obtain⟨aC,e,he,ag⟩:=ac op aB;exact⟨by have:=knows_own A;rwa [aC] at this,e,he,by rw [← ag];exact au⟩
 have aD:∀j,j<N→j≠i→∀b,s'.H b≠none→(S j).H b=none∧(S j).E b=none:=by
  intro j O W b hb;rcases U.own b hb with K | K
  ·exact h.hh i j hi O (Ne.symm W) b K
  ·exact ak j O b K
 have aE:∀j,j<N→j≠i→∀b,(S j).H b≠none→s'.H b=none∧s'.E b=none:=by
  intro j O W b hb;have Z:=h.hh j i O hi W b hb;have ab:¬w.heap.size≤b:=fun K=>hb (ak j O b K).1;constructor
  ·cases K:s'.H b with
   | none=>rfl
   | some o=>
    rcases U.own b (by rw [K];simp) with y | y
    ·exact absurd Z.1 y
    ·exact absurd y ab
  ·cases K:s'.E b with
   | none=>rfl
   | some o=>
    rcases U.Ct b (by rw [K];simp) with y | y | y
    ·exact absurd Z.2 y
    ·exact absurd Z.1 y
    ·exact absurd y ab
 constructor
 ·intro j O;by_cases e:j=i
  ·subst e;rw [upd_same];exact ay
  ·rw [upd_ne _ _ e];exact⟨fun b o A=>(aq j O e b o (.inr A)).1,fun b o A=>(aq j O e b o (.inl A)).1,(h.fits j O).d⟩
 ·intro a c av ah W b hb;by_cases e:a=i
  ·subst e;rw [upd_same] at hb;rw [upd_ne _ _ (Ne.symm W)];exact aD c ah (Ne.symm W) b hb
  ·rw [upd_ne _ _ e] at hb;by_cases aw:c=i
   ·subst aw;rw [upd_same];exact aE a av W b hb
   ·rw [upd_ne _ _ aw];exact h.hh a c av ah W b hb
 ·intro j O b hb;by_cases e:j=i
  ·subst e;rw [upd_same];have Z:=h.sh j O b hb;have ab:=h.C3 b hb;constructor
   ·cases K:s'.H b with
    | none=>rfl
    | some o=>
     rcases U.own b (by rw [K];simp) with y | y
     ·exact absurd Z.1 y
     ·omega
   ·cases K:s'.E b with
    | none=>rfl
    | some o=>
     rcases U.Ct b (by rw [K];simp) with y | y | y
     ·exact absurd Z.2 y
     ·exact absurd Z.1 y
     ·omega
  ·rw [upd_ne _ _ e];exact h.sh j O b hb
 ·exact fun b hb=>Nat.lt_of_lt_of_le (h.C3 b hb) U.size
 ·intro said;refine noRace_append (g:=i) (h.clean said) (fun op A=>(ac op A).1) fun x a K op A c ah aF=>?_;obtain⟨_,e,he,ag⟩:=ac op A;rw [ag] at ah;obtain⟨aG,hm,ae,_⟩:=aF;obtain⟨b,hb⟩:=NJ hm;have aH:Ca c.loc=some b:=by rw [← aG];exact hb
  have ai:=HF (aj e he) ah aH;rcases ai.2 with y | y | ⟨y,an⟩
  ·exact h.kH i hi b y x a K hb
  ·have:=IN h.low K hb;omega
  ·rcases ae with z | z
   ·exact h.kE i hi b y x a K hb z
   ·rw [an] at z;cases z
 ·intro op A;rcases Array.mem_append.1 A with A | A
  ·exact MemAct.low_mono U.size (h.low op A)
  ·obtain⟨_,e,he,ag⟩:=ac op A;rw [ag];exact QT (aj e he)
 ·intro j O b hb x a K aa;by_cases e:j=i
  ·subst e;rw [upd_same] at hb;rcases al x a K with A | ⟨ao,_⟩
   ·rcases U.own b hb with y | y
    ·exact(h.kH j O b y x a A aa).app _
    ·have:=IN h.low A aa;omega
   ·exact ao
  ·rw [upd_ne _ _ e] at hb;rcases al x a K with A | ⟨_,ev,he,ap⟩
   ·exact(h.kH j O b hb x a A aa).app _
   ·have ai:=HF (aj ev he) ap aa;have Z:=h.hh j i O hi e b hb;rcases ai.2 with y | y | ⟨y,_⟩
    ·exact absurd Z.1 y
    ·exact absurd (ak j O b y).1 hb
    ·exact absurd Z.2 y
 ·intro j O b hb x a K aa ae;by_cases e:j=i
  ·subst e;rw [upd_same] at hb;rcases al x a K with A | ⟨ao,_⟩
   ·rcases U.Ct b hb with y | y | y
    ·exact(h.kE j O b y x a A aa ae).app _
    ·exact(h.kH j O b y x a A aa).app _
    ·have:=IN h.low A aa;omega
   ·exact ao
  ·rw [upd_ne _ _ e] at hb;rcases al x a K with A | ⟨_,ev,he,ap⟩
   ·exact(h.kE j O b hb x a A aa ae).app _
   ·have ai:=HF (aj ev he) ap aa;rcases ai.2 with y | y | ⟨_,an⟩
    ·exact absurd ((h.hh i j hi O (Ne.symm e) b y).2) hb
    ·exact absurd (ak j O b y).2 hb
    ·rw [an] at ae;cases ae
theorem Br.mute{t u:Trace}{w w':World}{N:Nat}{S:Nat→St}{Sh:Nat→Prop}(h:Br t w N S Sh){g:Nat}(hu:∀op∈u,op.g=g)(W:∀op∈u,op.act.touch? =none)(ab:∀op∈u,op.act.low w'.heap.size)(hw:w'.heap=w.heap):Br (t++u) w' N S Sh:=by
 have Z:∀x a,touchAt (t++u) x=some a→touchAt t x=some a:=by
  intro x a K;obtain⟨op,A,O⟩:=touch_of K;rcases getElem?_append_cases A with⟨ah,ac⟩ | ⟨_,ae⟩
  ·rw [touchAt_of ac];exact O
  ·rw [W op ae] at O;cases O
 exact⟨fun i hi=>⟨fun b o A=>by rw [hw];exact(h.fits i hi).e b o A,fun b o A=>by rw [hw];exact(h.fits i hi).h b o A,(h.fits i hi).d⟩,h.hh,h.sh,fun b hb=>by rw [hw];exact h.C3 b hb,
  fun said=>noRace_append (g:=g) (h.clean said) hu (fun x a _ op A c aa _=>by rw [W op A] at aa;cases aa),
  fun op A=>(Array.mem_append.1 A).elim (fun A=>by rw [hw];exact h.low op A) (ab op),
  fun i hi b hb x a K U=>(h.kH i hi b hb x a (Z x a K) U).app _,fun i hi b hb x a K U ag=>(h.kE i hi b hb x a (Z x a K) U ag).app _⟩
theorem Br.ghost{t:Trace}{w:World}{N:Nat}{S:Nat→St}{Sh:Nat→Prop}(h:Br t w N S Sh){i:Nat}(hi:i<N){s₀:St}(ab:BJ (S i) s₀):Br t w N (upd S i s₀) Sh:=by
 have W:∀b,s₀.H b≠none→(S i).H b≠none:=fun b hb=>by obtain⟨o,ac⟩:=Er hb;rw [ab.own b o ac];simp
 have ae:∀b,s₀.E b≠none→(S i).E b≠none∨(S i).H b≠none:=fun b hb=>by
  obtain⟨o,ac⟩:=Er hb;rcases ab.Ct b o ac with x | x
  ·exact .inl (by rw [x];simp)
  ·exact .inr (by rw [x.1];simp)
 have Z:∀{x:Option Obj},¬x≠none→x=none:=fun h=>Classical.not_not.1 h;constructor
 ·intro j A;by_cases e:j=i
  ·subst e;rw [upd_same];exact ab.fits (h.fits j A)
  ·rw [upd_ne _ _ e];exact h.fits j A
 ·intro a c ag ah aa b hb;by_cases e:a=i
  ·subst e;rw [upd_same] at hb;rw [upd_ne _ _ (Ne.symm aa)];exact h.hh a c ag ah aa b (W b hb)
  ·rw [upd_ne _ _ e] at hb;by_cases ai:c=i
   ·subst ai;rw [upd_same];have K:=h.hh a c ag ah aa b hb;exact⟨Z fun x=>W b x K.1,Z fun x=>(ae b x).elim (fun y=>y K.2) fun y=>y K.1⟩
   ·rw [upd_ne _ _ ai];exact h.hh a c ag ah aa b hb
 ·intro j A b hb;by_cases e:j=i
  ·subst e;rw [upd_same];have K:=h.sh j A b hb;exact⟨Z fun x=>W b x K.1,Z fun x=>(ae b x).elim (fun y=>y K.2) fun y=>y K.1⟩
  ·rw [upd_ne _ _ e];exact h.sh j A b hb
 ·exact h.C3
 ·exact h.clean
 ·exact h.low
 ·intro j A b hb x a O U;by_cases e:j=i
  ·subst e;rw [upd_same] at hb;exact h.kH j A b (W b hb) x a O U
  ·rw [upd_ne _ _ e] at hb;exact h.kH j A b hb x a O U
 ·intro j A b hb x a O U aj;by_cases e:j=i
  ·subst e;rw [upd_same] at hb;rcases ae b hb with y | y
   ·exact h.kE j A b y x a O U aj
   ·exact h.kH j A b y x a O U
  ·rw [upd_ne _ _ e] at hb;exact h.kE j A b hb x a O U aj
end Pal
namespace Pal
open Go Go.Conc
open Go.ConcN (sumTo upd sumTo_upd upd_ne upd_same)
abbrev St.none:St:=St.quiet
def lone(s:St):Nat→St:=fun i=>if i=0 then s else St.none
structure DK (P:Program) (gs:Array Goroutine) (w:World) (t:Trace) (q:Nat→Nat) (Sh:Nat→Prop) (g:Goroutine) (s:St):Prop where
 main:gs[0]? =some g
 lv:Leavers P t gs q
 BD:Br t w gs.size (lone s) Sh
 over:t.HandedOver
 hears:Deaf t 0=0
def Reaches(P:Program)(gs:Array Goroutine)(w:World)(sl:Option (Nat×Nat))(t:Trace)(s:St)(K:Goroutine→St→Prop):Prop:=
 ∃(n:Nat) (gs':Array Goroutine) (w':World) (O:Option (Nat×Nat)) (A:Trace) (U:Nat→Nat) (W:Nat→Prop) (g':Goroutine) (s':St),
  runNT P n (crowd gs w sl) t=(.next (crowd gs' w' O),A)∧DK P gs' w' A U W g' s'∧K g' s'∧Le' s s'∧w'.tape=w.tape∧w'.os=w.os∧w'.output=w.output
 where
  Le' (s s' : St) : Prop := ∀ b o, s.E b = some o → s'.E b = some o
theorem Lj{s s':St}:upd (lone s) 0 s'=lone s':=by
 funext i;unfold upd lone;split <;> rfl
theorem Hy{P:Program}{m m':Machine}{t ops:Trace}{k:Nat}{r:Stepped×Trace}(h:stepT P m=(.next m',ops))(A:runNT P k m' (t++ops)=r):runNT P (k+1) m t=r:=by
 simp only [runNT,h];exact A
theorem DK.at_{P:Program}{gs:Array Goroutine}{w:World}{t:Trace}{q:Nat→Nat}{Sh:Nat→Prop}{g:Goroutine}{s:St}(h:DK P gs w t q Sh g s)(d:Nat):DK P gs (w.at d) t q Sh g s:=
 ⟨h.main,h.lv,by
  have:=h.BD.mute (u:= #[]) (w':=w.at d) (g:=0) (by simp) (by simp) (by simp) rfl
  simpa using this,h.over,h.hears⟩
theorem N4{P:Program}{g:Goroutine}{s:St}{K:Goroutine→St→Prop}(av:FP P true g s K):
  ∀(M:Nat) (gs:Array Goroutine) (w:World) (sl:Option (Nat×Nat)) (t:Trace) (q:Nat→Nat) (Sh:Nat→Prop),sumTo gs.size q≤M→DK P gs w t q Sh g s→Reaches P gs w sl t s K:=by
 intro M
 induction M with
 | zero=>?_
 | succ M aB=>?_
 all_goals
  intro gs w sl t q Sh aR hC;have ai:=av.1;have aC:∀x∈gs,awake x:=by
   intro x ab;obtain⟨i,hi,rfl⟩:=Array.mem_iff_getElem.1 ab;rcases Nat.eq_zero_or_pos i with rfl | aj
   ·have:gs[0]=g:=by simpa [Array.getElem?_eq_getElem hi] using hC.main
    rw [this];exact awake_of (.inl ai)
   ·exact awake_of ((hC.lv.old i _ aj (Array.getElem?_eq_getElem hi)).status.elim .inl fun x=> .inr (.inr x))
  obtain⟨i,x,d,ac,hi,ab,aw⟩:=crowd_pick (P:=P) (w:=w) (sl:=sl) aC ⟨0,g,hC.main,ai⟩;have ak:=hC.at_ d;have al:0<gs.size:=(Array.getElem?_eq_some_iff.1 hC.main).1;rcases Nat.eq_zero_or_pos i with rfl | aj
  ·obtain rfl:x=g:=by rw [hC.main] at hi;exact(Option.some.inj hi).symm
   have aD:Fits s (w.at d):=ak.BD.fits 0 al;obtain⟨g',s',w',es,am,an,ao,W,ae⟩:=av.2.1 (w.at d) aD;have ap:=runT_crowd_go (P:=P) (sl:=ac) (i:=0) hi (show stepG P (0==0) x (w.at d)=_ from am);have ag:((gs.map (woken P x g' w')).setIfInBounds 0 g').size=gs.size:=by simp
   have U:∀op∈MemOp.ofEvents 0 x.frame.fn x.frame.place es,op.g=0:=fun op A=>by obtain⟨e,_,rfl⟩:=mem_ofEvents A;rfl
   have aE:deafBehind (Deaf t 0) es=Deaf t 0:=deafBehind_still (fun e he=>by
    have:=ae e he
    unfold Ev at this
    constructor <;> intro aF <;> rw [aF] at this <;> exact this) _
   refine⟨1,_,w',ac,t++MemOp.ofEvents 0 x.frame.fn x.frame.place es,q,Sh,g',s',Hy (aw.trans ap) rfl,⟨by simp [al],⟨fun j y O Z=>?_,fun j O=>?_⟩,?_,?_,?_⟩,an,W.ext,W.tape,W.os,W.output⟩
   ·have aq:0≠j:=by omega
    rw [Array.getElem?_setIfInBounds_ne aq,Array.getElem?_map] at Z;obtain⟨z,ar,rfl⟩:=Option.map_eq_some_iff.1 Z;have aa:=hC.lv.old j z O ar;rw [woken_quitsD aa,Deaf_other t (by omega) _ U];exact aa
   ·rw [Deaf_other t (g':=0) (by simp at O;omega) _ U];exact hC.lv.above j (by simpa using O)
   ·rw [ag,← Lj (s:=s)];exact ak.BD.own al ao (by simpa [lone] using W) (by simpa [lone] using ae)
   ·exact handedOver_app hC.over fun op A=> .inl (U op A)
   ·rw [Deaf_own,aE];exact hC.hears
  ·
   have aa:=hC.lv.old i x aj hi;have aG:(i==0)=false:=by simp;omega
   have ay:i<gs.size:=(Array.getElem?_eq_some_iff.1 hi).1;cases au:q i with
   | zero=>rw [au] at aa;rw [aa.1] at ab;cases ab
   | succ k=>
    rw [au] at aa;rcases aa with⟨aH,_⟩ | ⟨_,x',es,hm,aI,aJ⟩
    ·rw [aH] at ab;cases ab
    have aS:sumTo gs.size (upd q i k)+(k+1)=sumTo gs.size q+k:=by
     have:=sumTo_upd q k id ay;simpa [au] using this
    first
     | (exfalso;omega)
     | (
      have ap:=runT_crowd_go (P:=P) (sl:=ac) (i:=i) hi (by rw [aG];exact aI (w.at d))
      have ag:((gs.map (woken P x x' (w.at d))).setIfInBounds i x').size=gs.size:=by simp
      have U:∀op∈MemOp.ofEvents i x.frame.fn x.frame.place es,op.g=i:=fun op A=>by obtain⟨e,_,rfl⟩:=mem_ofEvents A;rfl
      have az:∀op∈MemOp.ofEvents i x.frame.fn x.frame.place es,op.act.touch? =none:=fun op A=>by obtain⟨e,he,rfl⟩:=mem_ofEvents A;exact touch_mute (hm e he)
      have aK:DK P ((gs.map (woken P x x' (w.at d))).setIfInBounds i x') (w.at d) (t++MemOp.ofEvents i x.frame.fn x.frame.place es) (upd q i k) Sh g s:=by
       refine⟨?_,⟨fun j y O Z=>?_,fun j O=>?_⟩,?_,?_,?_⟩
       ·have aq:i≠0:=by omega
        rw [Array.getElem?_setIfInBounds_ne aq,Array.getElem?_map,hC.main]
        simp [woken_run ai]
       ·by_cases ah:i=j
        ·subst ah
         rw [Array.getElem?_setIfInBounds_self_of_lt (by simpa using ay)] at Z
         obtain rfl:=Option.some.inj Z
         rw [upd_same,Deaf_own]
         exact aJ
        ·rw [Array.getElem?_setIfInBounds_ne ah,Array.getElem?_map] at Z
         obtain⟨z,ar,rfl⟩:=Option.map_eq_some_iff.1 Z
         have aA:=hC.lv.old j z O ar
         rw [woken_quitsD aA,upd_ne q k (Ne.symm ah),Deaf_other t ah _ U]
         exact aA
       ·rw [Deaf_other t (g':=i) (by simp at O;omega) _ U]
        exact hC.lv.above j (by simpa using O)
       ·rw [ag]
        exact ak.BD.mute U az (fun op A=>by obtain⟨e,he,rfl⟩:=mem_ofEvents A;exact low_mute (hm e he) _) rfl
       ·exact handedOver_app hC.over fun op A=> .inr (az op A)
       ·rw [Deaf_other t (by omega) _ U];exact hC.hears
      obtain⟨n,gs',w',aL,aM,aN,aO,g',s',am,an,ao,W,ae,aP,aQ⟩:=aB _ (w.at d) ac _ _ Sh (by rw [ag];omega) aK
      exact⟨n+1,gs',w',aL,aM,aN,aO,g',s',Hy (aw.trans ap) am,an,ao,W,ae,aP,aQ⟩)
def Ce(P:Program):Judge P where
 main:=true
 ok Q g s:=∀gs w sl t q Sh,DK P gs w t q Sh g s→Reaches P gs w sl t s Q
 stop {Q g s} h:=fun gs w sl t q Sh hC=>⟨0,gs,w,sl,t,q,Sh,g,s,rfl,hC,h,fun _ _ h=>h,rfl,rfl,rfl⟩
 step {Q g s} h:=fun gs w sl t q Sh hC=>by
  obtain⟨n,gs',w',A,K,O,U,g',s',W,Z,aa,ab,ac,ae,ag⟩:=N4 h _ gs w sl t q Sh (Nat.le_refl _) hC
  obtain⟨ah,ai,aj,ak,al,am,an,ao,ap,k1,aq,ar,au,av,aw,ay⟩:=aa gs' w' A K O U Z
  refine⟨n+ah,ai,aj,ak,al,am,an,ao,ap,?_,aq,ar,fun b o h=>au b o (ab b o h),av.trans ac,aw.trans ae,ay.trans ag⟩
  rw [runNT_add,W];exact k1
 trans {Q R g s} h k:=fun gs w sl t q Sh hC=>by
  obtain⟨n,gs',w',A,K,O,U,g',s',W,Z,aa,ab,ac,ae,ag⟩:=h gs w sl t q Sh hC
  obtain⟨ah,ai,aj,ak,al,am,an,ao,ap,k1,aq,ar,au,av,aw,ay⟩:=k g' s' aa gs' w' A K O U Z
  refine⟨n+ah,ai,aj,ak,al,am,an,ao,ap,?_,aq,ar,fun b o h=>au b o (ab b o h),av.trans ac,aw.trans ae,ay.trans ag⟩
  rw [runNT_add,W];exact k1
 ghost {Q g s s₀} az h:=fun gs w sl t q Sh hC=>by
  have aA:0<gs.size:=(Array.getElem?_eq_some_iff.1 hC.main).1
  have aB:DK P gs w t q Sh g s₀:=⟨hC.main,hC.lv,by
   rw [← Lj (s:=s)];exact hC.BD.ghost aA (by simpa [lone] using az),hC.over,hC.hears⟩
  obtain⟨n,gs',w',A,K,O,U,g',s',W,Z,aa,ab,ac,ae,ag⟩:=h gs w sl t q Sh aB
  exact⟨n,gs',w',A,K,O,U,g',s',W,Z,aa,fun b o h=>ab b o (az.ext b o h),ac,ae,ag⟩
end Pal
namespace Pal
open Go Go.Conc
open Go.ConcN (upd upd_same upd_ne)
section
variable {t u:Trace}{w w':World}{N:Nat}{S:Nat→St}{Sh:Nat→Prop}
theorem Br.ext(h:Br t w N S Sh)(Z:∀said,¬Race said (t++u))(hu:∀op∈u,∀a,op.act.touch? =some a→∀b,Ca a.loc=some b→Sh b)
  (aa:∀op∈u,op.act.low w.heap.size) (hs:w'.heap.size=w.heap.size) (hw:∀b,¬Sh b→w'.heap[b]? =w.heap[b]?):Br (t++u) w' N S Sh:=by
 have hold:∀x a b,touchAt (t++u) x=some a→Ca a.loc=some b→¬Sh b→touchAt t x=some a:=by
  intro x a b O hb K;obtain⟨op,A,W⟩:=touch_of O;rcases getElem?_append_cases A with⟨ah,ab⟩ | ⟨_,ac⟩
  ·rw [touchAt_of ab];exact W
  ·exact absurd (hu op ac a W b hb) K
 have K:∀i,i<N→∀b,((S i).H b≠none∨(S i).E b≠none)→¬Sh b:=by
  intro i hi b hb ae;have:=h.sh i hi b ae;exact hb.elim (fun x=>x this.1) (fun x=>x this.2)
 refine⟨fun i hi=>⟨fun b o A=>?_,fun b o A=>?_,(h.fits i hi).d⟩,h.hh,h.sh,fun b hb=>by rw [hs];exact h.C3 b hb,Z,fun op A=>?_,fun i hi b hb x a O U=>?_,fun i hi b hb x a O U ag=>?_⟩
 ·rw [hw b (K i hi b (.inr (by rw [A];simp)))];exact(h.fits i hi).e b o A
 ·rw [hw b (K i hi b (.inl (by rw [A];simp)))];exact(h.fits i hi).h b o A
 ·rcases Array.mem_append.1 A with A | A
  ·rw [hs];exact h.low op A
  ·rw [hs];exact aa op A
 ·exact(h.kH i hi b hb x a (hold x a b O U (K i hi b (.inl hb))) U).app _
 ·exact(h.kE i hi b hb x a (hold x a b O U (K i hi b (.inr hb))) U ag).app _
theorem Br.congr{S':Nat→St}(h:Br t w N S Sh)(A:∀i,i<N→(S' i).E=(S i).E∧(S' i).H=(S i).H):Br t w N S' Sh:=by
 refine⟨fun i hi=>⟨by rw [(A i hi).1];exact(h.fits i hi).e,by rw [(A i hi).2];exact(h.fits i hi).h,by rw [(A i hi).1,(A i hi).2];exact(h.fits i hi).d⟩,fun i j hi K O b=>?_,fun i hi b=>?_,h.C3,h.clean,h.low,fun i hi b=>?_,fun i hi b=>?_⟩
 ·rw [(A i hi).2,(A j K).1,(A j K).2];exact h.hh i j hi K O b
 ·rw [(A i hi).1,(A i hi).2];exact h.sh i hi b
 ·rw [(A i hi).2];exact h.kH i hi b
 ·rw [(A i hi).1];exact h.kE i hi b
theorem Br.less(h:Br t w N S Sh){i:Nat}{s':St}(ae:∀b o,s'.E b=some o→(S i).E b=some o)(ag:∀b o,s'.H b=some o→(S i).H b=some o):Br t w N (upd S i s') Sh:=by
 have W:∀j b o,(upd S i s' j).E b=some o→(S j).E b=some o:=by
  intro j b o A;by_cases e:j=i
  ·subst e;rw [upd_same] at A;exact ae b o A
  ·rwa [upd_ne _ _ e] at A
 have Z:∀j b o,(upd S i s' j).H b=some o→(S j).H b=some o:=by
  intro j b o A;by_cases e:j=i
  ·subst e;rw [upd_same] at A;exact ag b o A
  ·rwa [upd_ne _ _ e] at A
 have n1:∀j b,(S j).E b=none→(upd S i s' j).E b=none:=by
  intro j b hb;cases U:(upd S i s' j).E b with
  | none=>rfl
  | some o=>rw [W j b o U] at hb;cases hb
 have O:∀j b,(S j).H b=none→(upd S i s' j).H b=none:=by
  intro j b hb;cases U:(upd S i s' j).H b with
  | none=>rfl
  | some o=>rw [Z j b o U] at hb;cases hb
 have p1:∀j b,(upd S i s' j).E b≠none→(S j).E b≠none:=fun j b hb x=>hb (n1 j b x);have p2:∀j b,(upd S i s' j).H b≠none→(S j).H b≠none:=fun j b hb x=>hb (O j b x);exact⟨fun j K=>⟨fun b o A=>(h.fits j K).e b o (W j b o A),fun b o A=>(h.fits j K).h b o (Z j b o A),fun b hb=>O j b ((h.fits j K).d b (p1 j b hb))⟩,
  fun a c aa ab ac b hb=>⟨O c b (h.hh a c aa ab ac b (p2 a b hb)).1,n1 c b (h.hh a c aa ab ac b (p2 a b hb)).2⟩,
  fun j K b hb=>⟨O j b (h.sh j K b hb).1,n1 j b (h.sh j K b hb).2⟩,h.C3,h.clean,h.low,
  fun j K b hb=>h.kH j K b (p2 j b hb),fun j K b hb=>h.kE j K b (p1 j b hb)⟩
theorem Br.grow(h:Br t w N S Sh){i:Nat}(hi:i<N){E':LH}{q:Bool}
  (aa:∀b o,E' b=some o→(S i).E b=some o∨∃j,j<N∧(S j).E b=some o∧∀x a,touchAt t x=some a→Ca a.loc=some b→a.write=true→Knows t i x):
  Br t w N (upd S i ⟨E',(S i).H,q⟩) Sh:=by
 have ag:∀{b},E' b≠none→∃j,j<N∧∃o,(S j).E b=some o:=by
  intro b hb;obtain⟨o,U⟩:=Er hb;rcases aa b o U with x | ⟨j,A,x,_⟩
  ·exact⟨i,hi,o,x⟩
  ·exact⟨j,A,o,x⟩
 have ah:∀a,a<N→∀b,(S a).H b≠none→E' b=none:=by
  intro a O b hb;cases K:E' b with
  | none=>rfl
  | some o=>
   obtain⟨j,A,o',W⟩:=ag (b:=b) (by rw [K];simp);by_cases e:a=j
   ·subst e;have:=(h.fits a O).d b (by rw [W];simp);exact absurd this hb
   ·have:=(h.hh a j O A e b hb).2;rw [W] at this;cases this
 constructor
 ·intro j A;by_cases e:j=i
  ·subst e;rw [upd_same];refine⟨fun b o U=>?_,(h.fits j A).h,fun b hb=>?_⟩
   ·rcases aa b o U with x | ⟨k,Z,x,_⟩
    ·exact(h.fits j A).e b o x
    ·exact(h.fits k Z).e b o x
   ·cases K:(S j).H b with
    | none=>rfl
    | some o=>exact absurd (ah j A b (by rw [K];simp)) hb
  ·rw [upd_ne _ _ e];exact h.fits j A
 ·intro a c O ai aj b hb;have ab:(S a).H b≠none:=by
   by_cases e:a=i
   ·subst e;rwa [upd_same] at hb
   ·rwa [upd_ne _ _ e] at hb
  by_cases e:c=i
  ·subst e;rw [upd_same];exact⟨(h.hh a c O ai aj b ab).1,ah a O b ab⟩
  ·rw [upd_ne _ _ e];exact h.hh a c O ai aj b ab
 ·intro j A b hb;by_cases e:j=i
  ·subst e;rw [upd_same];refine⟨(h.sh j A b hb).1,?_⟩;cases K:E' b with
   | none=>exact K
   | some o=>
    obtain⟨k,Z,o',W⟩:=ag (b:=b) (by rw [K];simp);rw [(h.sh k Z b hb).2] at W;cases W
  ·rw [upd_ne _ _ e];exact h.sh j A b hb
 ·exact h.C3
 ·exact h.clean
 ·exact h.low
 ·intro j A b hb;by_cases e:j=i
  ·subst e;rw [upd_same] at hb;exact h.kH j A b hb
  ·rw [upd_ne _ _ e] at hb;exact h.kH j A b hb
 ·intro j A b hb x a K ac ae;by_cases e:j=i
  ·subst e;rw [upd_same] at hb;obtain⟨o,U⟩:=Er hb;rcases aa b o U with y | ⟨k,Z,y,ak⟩
   ·exact h.kE j A b (by rw [y];simp) x a K ac ae
   ·exact ak x a K ac ae
  ·rw [upd_ne _ _ e] at hb;exact h.kE j A b hb x a K ac ae
theorem Br.push(h:Br t w N S Sh){i:Nat}(hi:i<N){E:LH}(Z:∀b o,E b=some o→(S i).E b=some o)
  (ac:∀b,E b≠none→∀x a,touchAt t x=some a→Ca a.loc=some b→a.write=true→Knows t N x):Br t w (N+1) (upd S N ⟨E,fun _=>none,false⟩) Sh:=by
 have K:∀j,j<N→upd S N ⟨E,fun _=>none,false⟩ j=S j:=fun j A=>upd_ne _ _ (by omega);have ag:∀b,E b≠none→(S i).E b≠none:=fun b hb=>by obtain⟨o,U⟩:=Er hb;rw [Z b o U];simp
 have ab:∀b,(S i).E b=none→E b=none:=fun b hb=>by
  cases aa:E b with
  | none=>rfl
  | some o=>rw [Z b o aa] at hb;cases hb
 have cs:∀j,j<N+1→j<N∨j=N:=fun j A=>by omega
 constructor
 ·intro j A;rcases cs j A with A | rfl
  ·rw [K j A];exact h.fits j A
  ·rw [upd_same];exact⟨fun b o U=>(h.fits i hi).e b o (Z b o U),fun b o U=>(by cases U),fun b _=>rfl⟩
 ·intro a c O W ae b hb;rcases cs a O with O | rfl
  ·rw [K a O] at hb;rcases cs c W with W | rfl
   ·rw [K c W];exact h.hh a c O W ae b hb
   ·rw [upd_same];refine⟨rfl,ab b ?_⟩;by_cases e:a=i
    ·subst e;cases aa:(S a).E b with
     | none=>rfl
     | some o=>exact absurd ((h.fits a O).d b (by rw [aa];simp)) hb
    ·exact(h.hh a i O hi e b hb).2
  ·rw [upd_same] at hb;exact absurd rfl hb
 ·intro j A b hb;rcases cs j A with A | rfl
  ·rw [K j A];exact h.sh j A b hb
  ·rw [upd_same];exact⟨rfl,ab b (h.sh i hi b hb).2⟩
 ·exact h.C3
 ·exact h.clean
 ·exact h.low
 ·intro j A b hb;rcases cs j A with A | rfl
  ·rw [K j A] at hb;exact h.kH j A b hb
  ·rw [upd_same] at hb;exact absurd rfl hb
 ·intro j A b hb;rcases cs j A with A | rfl
  ·rw [K j A] at hb;exact h.kE j A b hb
  ·rw [upd_same] at hb;exact ac b hb
theorem Br.share(h:Br t w N S Sh){i:Nat}(hi:i<N){b₀:Nat}{o₀:Obj}(O:(S i).H b₀=some o₀):
  Br t w N (upd S i {S i with H:=fun b=>if b=b₀ then none else(S i).H b}) (fun b=>Sh b∨b=b₀):=by
 have A:Br t w N (upd S i {S i with H:=fun b=>if b=b₀ then none else(S i).H b}) Sh:=
  h.less (fun b o K=>K) (fun b o K=>by simp only at K;split at K <;> first | (cases K;done) | exact K)
 have Z:b₀<w.heap.size:=by
  have:=(h.fits i hi).h b₀ o₀ O;rcases Nat.lt_or_ge b₀ w.heap.size with U | U
  ·exact U
  ·simp [Array.getElem?_eq_none U] at this
 refine⟨A.fits,A.hh,fun j W b hb=>?_,fun b hb=>hb.elim (A.C3 b) (fun e=>e▸Z),A.clean,A.low,A.kH,A.kE⟩;rcases hb with hb | rfl
 ·exact A.sh j W b hb
 ·by_cases e:j=i
  ·subst e;rw [upd_same];refine⟨by simp,?_⟩;cases aa:(S j).E b with
   | none=>rfl
   | some o=>have:=(h.fits j W).d b (by rw [aa];simp);rw [O] at this;cases this
  ·rw [upd_ne _ _ e];exact h.hh i j hi W (Ne.symm e) b (by rw [O];simp)
end
end Pal
namespace Pal
open Go Go.Conc
open Go.ConcN (upd upd_same upd_ne sumTo sumTo_upd)
abbrev GP:=Goroutine→St→Prop
inductive Ph where
 | Bu (k:Nat) | DI | EX | Ef | DF | DT | Cx
 | BN | Dd (m:Nat) | Eh (v:Nat) | En | BY | DU | C5 | DY | Cb
 | C4 (j:Nat) | EC (j:Nat) | DW (j:Nat) | Dv (j:Nat) | CS (j:Nat) | Dg | Bq (A:List Nat) (vs:List Value)
 | BL | EI | ED | Ei (j:Nat)
inductive Nx where
 | ph (p:Ph) | gone (d:Nat)
structure Fam where
 wg:Nat
 ch:Nat
 ty:TypeId
 n:Nat
 has:Nat→Bool
 msg:Nat→Value→LH→Prop
 fin:GP
namespace Fam
variable (F:Fam)
def KK:Int:=4294967296
def DZ(st sm:Int):Obj:= .cells #[.int .u64 st,.int .u32 sm] F.ty (0,0)
def word(v wt:Nat):Int:=(v:Int)*KK+wt
def WG(w:World)(v wt sm:Nat):Prop:=w.heap[F.wg]? =some (F.DZ (word v wt) sm)
def put(w:World)(v wt sm:Nat):World:={w with heap:=w.heap.setIfInBounds F.wg (F.DZ (word v wt) sm)}
def sA:Addr:=⟨F.wg,0,none⟩
def mA:Addr:=⟨F.wg,1,none⟩
def CR(a:Addr):Event:=⟨.cell a,false,true⟩
def FC(a:Addr):Event:=⟨.cell a,true,true⟩
def Cu(m:Mark):Event:=⟨.mark m,false,true⟩
def ChanAt(w:World)(closed:Bool)(k:Nat):Prop:=w.heap[F.ch]? =some (.chan 0 #[] closed k k false)
def act:Ph→Nat→Nat→Nat→Option ((Nat×Nat×Nat)×Array Event×Nx)
 | .DI,v,wt,sm=>some ((v,wt,sm),#[Cu (.releaseMerge F.sA)],.ph .EX)
 | .EX,v,wt,sm=>some ((v,wt,sm),#[Cu .disable],.ph .Ef)
 | .Ef,v,wt,sm=>if 1≤v∧v<2147483648∧wt≤1 then some ((v - 1,wt,sm),#[CR F.sA,FC F.sA],if v=1∧wt=1 then .ph .DF else .gone 1) else none
 | .DF,v,wt,sm=>if v=0∧wt=1 then some ((0,1,sm),#[CR F.sA],.ph .DT) else none
 | .DT,v,wt,sm=>if v=0∧wt=1 then some ((0,0,sm),#[FC F.sA],.ph .Cx) else none
 | .Cx,v,wt,sm=>if sm=0 then some ((v,wt,1),semEvents F.mA,.gone 1) else none
 | .BN,v,wt,sm=>some ((v,wt,sm),#[Cu .disable],.ph (.Dd F.n))
 | .Dd m,v,wt,sm=>if v≤m∧wt=0 then some ((v,0,sm),#[CR F.sA],if v=0 then .ph .C5 else .ph (.Eh v)) else none
 | .Eh m,v,wt,sm=>if v≤m∧1≤m∧wt=0 then some (if v=m then((v,1,sm),#[CR F.sA,FC F.sA],.ph .EI) else((v,0,sm),#[CR F.sA],.ph (.Dd (m - 1)))) else none
 | .En,v,wt,sm=>some ((v,wt,sm),#[Cu (.write F.mA)],.ph .BY)
 | .BY,v,wt,sm=>if sm=1 then some ((v,wt,0),semEvents F.mA,.ph .DU) else none
 | .DU,v,wt,sm=>if v=0∧wt=0 then some ((0,0,sm),#[CR F.sA],.ph .C5) else none
 | .C5,v,wt,sm=>some ((v,wt,sm),#[Cu .enable],.ph .ED)
 | .BL,v,wt,sm=>some ((v,wt,sm),#[],.ph .DI)
 | .EI,v,wt,sm=>some ((v,wt,sm),#[],.ph .En)
 | .ED,v,wt,sm=>some ((v,wt,sm),#[],.ph .DY)
 | .Ei j,v,wt,sm=>some ((v,wt,sm),#[],.ph (.DW j))
 | .DY,v,wt,sm=>some ((v,wt,sm),#[Cu (.acquire F.sA)],.ph .Cb)
 | .C4 j,v,wt,sm=>some ((v,wt,sm),#[Cu .disable],.ph (.EC j))
 | .EC j,v,wt,sm=>if v<2147483647∧wt=0 then some ((v+1,0,sm),#[CR F.sA,FC F.sA],if v=0 then .ph (.Ei j) else .ph (.Dv j)) else none
 | .DW j,v,wt,sm=>some ((v,wt,sm),#[Cu (.read F.mA)],.ph (.Dv j))
 | .Dv j,v,wt,sm=>some ((v,wt,sm),#[Cu .enable],.ph (.CS j))
 | _,_,_,_=>none
def B6:Ph→Bool
 | .C4 _ | .EC _ | .DW _ | .Dv _ | .CS _ | .Dg | .Bq _ _ | .Ei _=>true
 | _=>false
def Cj:Ph→Bool
 | .EX | .Ef | .DF | .DT | .Cx=>true
 | _=>false
def D2:Ph→St→St
 | .DI,_=> .quiet
 | _,s=>s
def start(k:Nat):Ph:=if F.has k then .Bu k else .BL
def Cc(j:Nat):Ph:=if j+1=F.n then .Dg else .C4 (j+1)
end Fam
def Way(P:Program)(main:Bool)(X:GP):GP:=(AZ P main).ok X
theorem Jr.mono{P:Program}{main:Bool}{Q A:GP}(h:∀g s,Q g s→A g s):∀{r:Rk} {g:Goroutine} {s:St},Jr P main Q r g s→Jr P main A r g s
 | .leaf,_,_,x=>h _ _ x
 | .node _,_,_,.inl x=> .inl (h _ _ x)
 | .node _,_,_,.inr ⟨K,x⟩=> .inr ⟨K,fun w f=>let ⟨g',s',w',es,O,U,W⟩:=x w f;⟨g',s',w',es,O,Jr.mono h U,W⟩⟩
theorem Way.mono{P:Program}{main:Bool}{Q A:GP}(h:∀g s,Q g s→A g s){g:Goroutine}{s:St}(x:Way P main Q g s):Way P main A g s:=
 let ⟨r,K⟩:=x;⟨r,Jr.mono (fun g s ⟨s₀,a,b⟩=>⟨s₀,a,h g s₀ b⟩) K⟩
section
variable (P:Program)(F:Fam)
def Hp(X:Ph→GP)(main:Bool):Nx→GP
 | .ph p,g,s=>Way P main (X p) g s
 | .gone d,g,_=>∃q,QuitsD P q d g
structure Dh (X:Ph→GP) (p:Ph) (g:Goroutine) (s:St):Prop where
 run:g.status= .running
 offers:g.offers=none
 quiet:Fam.Cj p=true→s= .quiet
 live:Fam.Cj p=false→s.q=false
 act:∀v wt sm v' wt' sm' es nx,F.act p v wt sm=some ((v',wt',sm'),es,nx)→
  ∃g',(∀w,F.WG w v wt sm→stepG P (Fam.B6 p) g w= .go g' (F.put w v' wt' sm') es)∧g'.status= .running∧Hp P X (Fam.B6 p) nx g' (Fam.D2 p s)
 Eg:p= .Cx∨p= .Cb→mayWake P g=true
 CB:p= .BY→∀w v wt,F.WG w v wt 0→stepG P false g w= .go {g with status:= .blocked} w #[]
 close:p= .Cb→∃g',g'.status= .running∧(∀w k,F.ChanAt w false k→stepG P false g w= .go g' (w.setChan F.ch 0 #[] true k k false) (closeEvents F.ch))∧∃q,QuitsD P q 0 g'
 send:∀k,p= .Bu k→∃v z,F.msg k v s.E∧(∀w,stepG P false g w= .comm g #[scase F.ch v z] true .send w #[])∧Way P false (X .BL) (served g undef) s
 go:∀j,p= .CS j→∃g' child,g'.status= .running∧child.status= .running∧(∀w,stepG P true g w= .spawn g' child w #[])∧Way P false (X (F.start j)) child ⟨s.E,fun _=>none,false⟩∧Way P true (X (F.Cc j)) g' s
 D1:p= .Dg→∃g' child,g'.status= .running∧child.status= .running∧(∀w,stepG P true g w= .spawn g' child w #[])∧Way P false (X .BN) child ⟨s.E,fun _=>none,false⟩∧Way P true (X (.Bq [] [])) g' s
 recv:∀A vs,p= .Bq A vs→∃z,(∀w,stepG P true g w= .comm g #[rcase F.ch z] true (.recv true) w #[])∧
  (∀k v E',k<F.n→F.has k=true→k ∉ A→Le s.E E'→(∀b,E' b≠none→s.H b=none)→F.msg k v E'→Way P true (X (.Bq (A++ [k]) (vs++ [v]))) (served g (.tuple #[v,.bool true])) ⟨E',s.H,false⟩)∧
  ((∀k,k<F.n→F.has k=true→k∈A)→F.fin (served g (.tuple #[z,.bool false])) s)
theorem Hp.mono{X A:Ph→GP}(h:∀p g s,X p g s→A p g s){main:Bool}{nx:Nx}{g:Goroutine}{s:St}(x:Hp P X main nx g s):Hp P A main nx g s:=by
 cases nx with
 | ph p=>exact Way.mono (h p) x
 | gone d=>exact x
theorem Dh.mono{X Z:Ph→GP}(h:∀p g s,X p g s→Z p g s){p:Ph}{g:Goroutine}{s:St}(x:Dh P F X p g s):Dh P F Z p g s where
 run:=x.run
 offers:=x.offers
 quiet:=x.quiet
 live:=x.live
 act v wt sm v' wt' sm' es nx e:=let ⟨g',A,K,O⟩:=x.act v wt sm v' wt' sm' es nx e;⟨g',A,K,O.mono P h⟩
 Eg:=x.Eg
 CB:=x.CB
 close:=x.close
 send k e:=let ⟨v,z,A,K,O⟩:=x.send k e;⟨v,z,A,K,O.mono (h _)⟩
 go j e:=let ⟨g',c,A,K,O,U,W⟩:=x.go j e;⟨g',c,A,K,O,U.mono (h _),W.mono (h _)⟩
 D1 e:=let ⟨g',c,A,K,O,U,W⟩:=x.D1 e;⟨g',c,A,K,O,U.mono (h _),W.mono (h _)⟩
 recv aa vs e:=let ⟨z,A,K,O⟩:=x.recv aa vs e;⟨z,A,fun k v E' a b c d e f=>(K k v E' a b c d e f).mono (h _),O⟩
def Stop(p:Ph)(g:Goroutine)(s:St):Prop:=∃X:Ph→GP,(∀p g s,X p g s→Dh P F X p g s)∧X p g s
variable {P F}
theorem Stop.law{p:Ph}{g:Goroutine}{s:St}(h:Stop P F p g s):Dh P F (Stop P F) p g s:=by
 obtain⟨X,K,A⟩:=h;exact(K p g s A).mono P F fun p g s A=>⟨X,K,A⟩
theorem Dh.stop{p:Ph}{g:Goroutine}{s:St}(h:Dh P F (Stop P F) p g s):Stop P F p g s:=
 ⟨fun p g s=>Dh P F (Stop P F) p g s,fun _ _ _ x=>x.mono P F fun _ _ _ y=>y.law,h⟩
end
end Pal
namespace Pal
open Go Go.Conc
open Go.ConcN (upd upd_same upd_ne sumTo sumTo_upd sumTo_upd_out sumTo_congr le_sumTo sumTo_le)
def cU:Nx→Nat
 | .ph (.Bu _) | .ph .BL | .ph .DI | .ph .EX | .ph .Ef=>1
 | _=>0
def cL:Nx→Nat
 | .ph .DF | .ph .DT=>1
 | _=>0
def cS:Nx→Nat
 | .ph .Cx=>1
 | _=>0
def pend:Nx→Nat
 | .ph (.Ei _) | .ph (.DW _) | .ph (.Dv _) | .ph (.CS _)=>1
 | _=>0
def got:Nx→List Nat
 | .ph (.Bq A _)=>A
 | _=> []
def CO:Nx→Prop
 | .gone _=>True
 | _=>False
def Ex(n j:Nat)(c:Bool):Ph→Prop
 | .C4 A | .EC A | .Ei A | .DW A | .Dv A | .CS A=>A=j∧j<n∧c=false
 | .Dg=>j=n∧c=false
 | .Bq _ _=>j=n∧c=true
 | _=>False
def EU(F:Fam)(k:Nat):Nx→Prop
 | .gone _=>True
 | .ph (.Bu k')=>k'=k∧F.has k=true
 | .ph .BL | .ph .DI | .ph .EX | .ph .Ef | .ph .DF | .ph .DT | .ph .Cx=>True
 | _=>False
def Ez:Nx→Prop
 | .gone _=>True
 | .ph .BN | .ph (.Dd _) | .ph (.Eh _) | .ph .EI | .ph .En | .ph .BY | .ph .DU | .ph .C5 | .ph .ED | .ph .DY | .ph .Cb=>True
 | _=>False
def BI(x:Nx)(v wt sm L S:Nat)(cl:Bool):Prop:=
 match x with
 | .ph .BN=>L=0∧S=0∧sm=0∧wt=0∧cl=false
 | .ph (.Dd m)=>L=0∧S=0∧sm=0∧wt=0∧cl=false∧v≤m
 | .ph (.Eh m)=>L=0∧S=0∧sm=0∧wt=0∧cl=false∧v≤m∧1≤m
 | .ph .EI | .ph .En | .ph .BY=>L+S+sm+min v 1=1∧wt=L+min v 1∧cl=false
 | .ph .DU | .ph .C5 | .ph .ED | .ph .DY | .ph .Cb=>L=0∧S=0∧sm=0∧wt=0∧v=0∧cl=false
 | .gone _=>L=0∧S=0∧sm=0∧wt=0∧v=0∧cl=true
 | _=>False
structure Bp (F:Fam) (N0 N j:Nat) (c:Bool) (φ:Nat→Nx) (v wt sm:Nat) (cl:Bool):Prop where
 pos:0<N0
 n1:1≤F.n
 FD:F.n<2147483647
 size:N=N0+j+c.toNat
 jn:j≤F.n
 cj:c=true→j=F.n
 main:∃p,φ 0= .ph p∧Ex F.n j c p
 old:∀i,0<i→i<N0→CO (φ i)
 work:∀k,k<j→EU F k (φ (N0+k))
 cls:c=true→Ez (φ (N0+F.n))
 cnt:v=sumTo N (fun i=>cU (φ i))+pend (φ 0)
 Fe:v≤j+pend (φ 0)
 mode:BI (if c=true then φ (N0+F.n) else .ph .BN) v wt sm (sumTo N fun i=>cL (φ i)) (sumTo N fun i=>cS (φ i)) cl
 Ej:∀k,k<j→F.has k=true→(φ (N0+k)= .ph (.Bu k)↔k ∉ got (φ 0))
 nd:(got (φ 0)).Nodup
 sub:∀k∈got (φ 0),k<j∧F.has k=true
section
variable {F:Fam}{N0 N j:Nat}{c:Bool}{φ:Nat→Nx}{v wt sm v' wt' sm':Nat}{cl cl':Bool}
theorem Bp.C6(h:Bp F N0 N j c φ v wt sm cl){i:Nat}(hi:i<N):i=0∨(0<i∧i<N0)∨(∃k,k<j∧i=N0+k)∨(c=true∧i=N0+F.n):=by
 have:=h.size;rcases Nat.eq_zero_or_pos i with A | A
 ·exact .inl A
 rcases Nat.lt_or_ge i N0 with O | O
 ·exact .inr (.inl ⟨A,O⟩)
 rcases Nat.lt_or_ge i (N0+j) with U | U
 ·exact .inr (.inr (.inl ⟨i - N0,by omega,by omega⟩))
 ·cases K:c with
  | false=>rw [K] at this;simp at this;omega
  | true=>have e:=h.cj K;rw [K] at this;simp at this;exact .inr (.inr (.inr ⟨rfl,by omega⟩))
theorem Bp.M9(h:Bp F N0 N j c φ v wt sm cl):v≤F.n:=by
 have A:=h.Fe;obtain⟨p,K,hm⟩:=h.main;have:=h.jn;rw [K] at A;cases p <;> simp [Ex] at hm <;> simp [pend] at A <;> omega
theorem Bp.EY(h:Bp F N0 N j c φ v wt sm cl){k:Nat}(ab:k<j){x:Nx}(ac:EU F k x)(hs:∀k',φ (N0+k)≠ .ph (.Bu k'))(ae:∀k',x≠ .ph (.Bu k'))
  (ao:v'+cU (φ (N0+k))=v+cU x)
  (hm:∀L S,L+cL (φ (N0+k))=(sumTo N fun i=>cL (φ i))+cL x→S+cS (φ (N0+k))=(sumTo N fun i=>cS (φ i))+cS x→BI (if c=true then φ (N0+F.n) else .ph .BN) v' wt' sm' L S cl'):
  Bp F N0 N j c (upd φ (N0+k) x) v' wt' sm' cl':=by
 have ap:=h.size;have aq:=h.jn;have ar:=h.pos;have U:N0+k<N:=by omega
 have A:upd φ (N0+k) x 0=φ 0:=upd_ne _ _ (by omega);have ag:(if c=true then upd φ (N0+k) x (N0+F.n) else .ph .BN)=(if c=true then φ (N0+F.n) else .ph .BN):=by
  cases K:c with
  | false=>rfl
  | true=>have:=h.cj K;simp only [if_true];exact upd_ne _ _ (by omega)
 have s1:=sumTo_upd φ x cU U;have s2:=sumTo_upd φ x cL U;have ah:=sumTo_upd φ x cS U;have au:=h.cnt;have av:=h.Fe;refine⟨h.pos,h.n1,h.FD,h.size,h.jn,h.cj,by rw [A];exact h.main,fun i ai aj=>by rw [upd_ne _ _ (by omega)];exact h.old i ai aj,fun k' O=>?_,fun K=>?_,by rw [A];omega,?_,?_,fun k' O hh=>?_,by rw [A];exact h.nd,by rw [A];exact h.sub⟩
 ·by_cases e:k'=k
  ·subst e;rw [upd_same];exact ac
  ·rw [upd_ne _ _ (by omega)];exact h.work k' O
 ·have:=h.cj K;rw [upd_ne _ _ (by omega)];exact h.cls K
 ·rw [A];have:cU x≤1:=by cases x with
   | gone d=>simp [cU]
   | ph p=>cases p <;> simp [cU]
  have hw:=h.work k ab;have key:cU x≤cU (φ (N0+k))∨cU (φ (N0+k))<cU x:=by omega
  rcases key with hle | aw
  ·omega
  ·
   have:(sumTo N fun a=>cU (upd φ (N0+k) x a))≤j:=by
    have hb:∀M,M≤N→(sumTo M fun a=>cU (upd φ (N0+k) x a))≤min (M - N0) j:=by
     intro M
     induction M with
     | zero=>intro _;simp [sumTo]
     | succ M ak=>
      intro ay;have:=ak (by omega);simp only [sumTo];have az:cU (upd φ (N0+k) x M)≤1:=by
       generalize upd φ (N0+k) x M=y;cases y with
       | gone d=>simp [cU]
       | ph p=>cases p <;> simp [cU]
      have Z:(M<N0∨N0+j≤M)→cU (upd φ (N0+k) x M)=0:=by
       intro aA;rw [upd_ne _ _ (by omega)];rcases h.C6 (i:=M) (by omega) with rfl | ⟨a,b⟩ | ⟨k',a,rfl⟩ | ⟨a,rfl⟩
       ·obtain⟨p,al,hm⟩:=h.main;rw [al];cases p <;> simp [Ex] at hm <;> rfl
       ·have:=h.old M a b;cases W:φ M with
        | gone d=>rfl
        | ph p=>rw [W] at this;exact this.elim
       ·omega
       ·have:=h.cls a;cases W:φ (N0+F.n) with
        | gone d=>rfl
        | ph p=>rw [W] at this;cases p <;> simp [Ez] at this <;> rfl
      rcases Nat.lt_or_ge M N0 with q | q
      ·rw [Z (.inl q)];omega
      ·rcases Nat.lt_or_ge M (N0+j) with aa | aa
       ·omega
       ·rw [Z (.inr aa)];omega
    have:=hb N (Nat.le_refl _);omega
   omega
 ·rw [ag];exact hm _ _ s2 ah
 ·rw [A];by_cases e:k'=k
  ·subst e;rw [upd_same];have:=h.Ej k' O hh;constructor
   ·intro am;exact absurd am (ae k')
   ·intro an;exact absurd (this.2 an) (hs k')
  ·rw [upd_ne _ _ (by omega)];exact h.Ej k' O hh
theorem Bp.Dt(h:Bp F N0 N j c φ v wt sm cl)(K:c=true){x:Nx}(W:Ez x)
  (hm:BI x v wt' sm' (sumTo N fun i=>cL (φ i)) (sumTo N fun i=>cS (φ i)) cl'):
  Bp F N0 N j c (upd φ (N0+F.n) x) v wt' sm' cl':=by
 have Z:=h.size;have ah:=h.pos;have ai:=h.cj K;have O:N0+F.n<N:=by rw [K] at Z;simp at Z;omega
 have A:upd φ (N0+F.n) x 0=φ 0:=upd_ne _ _ (by omega);have z:∀y,Ez y→cU y=0∧cL y=0∧cS y=0:=by
  intro y aa;cases y with
  | gone d=>exact⟨rfl,rfl,rfl⟩
  | ph p=>cases p <;> simp [Ez] at aa <;> exact⟨rfl,rfl,rfl⟩
 have z1:=z _ (h.cls K);have aj:=z x W;have s1:=sumTo_upd φ x cU O;have s2:=sumTo_upd φ x cL O;have ak:=sumTo_upd φ x cS O;have al:=h.cnt;refine⟨h.pos,h.n1,h.FD,h.size,h.jn,h.cj,by rw [A];exact h.main,fun i ab ac=>by rw [upd_ne _ _ (by omega)];exact h.old i ab ac,fun k' U=>?_,fun K=>?_,by rw [A];omega,by rw [A];exact h.Fe,?_,fun k' U hh=>?_,by rw [A];exact h.nd,by rw [A];exact h.sub⟩
 ·rw [upd_ne _ _ (by omega)];exact h.work k' U
 ·rw [upd_same];exact W
 ·rw [if_pos K,upd_same];have ae:(sumTo N fun i=>cL (upd φ (N0+F.n) x i))=sumTo N fun i=>cL (φ i):=by omega
  have ag:(sumTo N fun i=>cS (upd φ (N0+F.n) x i))=sumTo N fun i=>cS (φ i):=by omega
  rw [ae,ag];exact hm
 ·rw [A,upd_ne _ _ (by omega)];exact h.Ej k' U hh
theorem Ku{n j:Nat}{c:Bool}{p:Ph}(h:Ex n j c p):cU (.ph p)=0∧cL (.ph p)=0∧cS (.ph p)=0:=by
 cases p <;> simp [Ex] at h <;> exact⟨rfl,rfl,rfl⟩
theorem Bp.GB(h:Bp F N0 N j c φ v wt sm cl){p:Ph}(U:Ex F.n j c p)(A:got (.ph p)=got (φ 0))(aj:v'+pend (φ 0)=v+pend (.ph p))(W:v'≤j+pend (.ph p))
  (hm:BI (if c=true then φ (N0+F.n) else .ph .BN) v' wt' sm' (sumTo N fun i=>cL (φ i)) (sumTo N fun i=>cS (φ i)) cl'):
  Bp F N0 N j c (upd φ 0 (.ph p)) v' wt' sm' cl':=by
 have ak:=h.size;have al:=h.pos;have K:0<N:=by omega
 obtain⟨am,Z,aa⟩:=h.main;have z1:=Ku aa;have an:=Ku U;rw [← Z] at z1;have s1:=sumTo_upd φ (.ph p) cU K;have s2:=sumTo_upd φ (.ph p) cL K;have ao:=sumTo_upd φ (.ph p) cS K;have ap:=h.cnt;have ab:(if c=true then upd φ 0 (.ph p) (N0+F.n) else .ph .BN)=(if c=true then φ (N0+F.n) else .ph .BN):=by rw [upd_ne _ _ (by omega)]
 refine⟨h.pos,h.n1,h.FD,h.size,h.jn,h.cj,⟨p,upd_same _ _ _,U⟩,fun i ac ae=>by rw [upd_ne _ _ (by omega)];exact h.old i ac ae,fun k' O=>by rw [upd_ne _ _ (by omega)];exact h.work k' O,fun ag=>by rw [upd_ne _ _ (by omega)];exact h.cls ag,by rw [upd_same];omega,by rw [upd_same];exact W,?_,fun k' O hh=>?_,by rw [upd_same,A];exact h.nd,by rw [upd_same,A];exact h.sub⟩
 ·rw [ab];have ah:(sumTo N fun i=>cL (upd φ 0 (.ph p) i))=sumTo N fun i=>cL (φ i):=by omega
  have ai:(sumTo N fun i=>cS (upd φ 0 (.ph p) i))=sumTo N fun i=>cS (φ i):=by omega
  rw [ah,ai];exact hm
 ·rw [upd_same,A,upd_ne _ _ (by omega)];exact h.Ej k' O hh
theorem Bp.act(h:Bp F N0 N j c φ v wt sm cl){i:Nat}(hi:i<N){p:Ph}(O:φ i= .ph p){es:Array Event}{nx:Nx}(A:F.act p v wt sm=some ((v',wt',sm'),es,nx)):
  Bp F N0 N j c (upd φ i nx) v' wt' sm' cl:=by
 have K:=h.mode;have aq:=h.M9;rcases h.C6 hi with rfl | ⟨a,b⟩ | ⟨k,ah,rfl⟩ | ⟨Z,rfl⟩
 ·
  obtain⟨al,ap,ai⟩:=h.main;have:al=p:=by rw [ap] at O;exact Nx.ph.inj O
  subst this;have au:∀q,Ex F.n j c q→(∀ar vs,q≠ .Bq ar vs)→c=false:=by
   intro q am an;cases q <;> simp [Ex] at am <;> first | exact am.2.2 | exact am.2 | exact absurd rfl (an _ _)
  have ae:=h.Fe;cases al <;> simp only [Ex] at ai <;> (try exact ai.elim) <;> simp only [Fam.act] at A <;> (try (cases A;done))
  ·cases A;obtain⟨rfl,ag,rfl⟩:=ai;exact h.GB (p:= .EC _) ⟨rfl,ag,rfl⟩ (by rw [O];rfl) (by rw [O];rfl) (by rw [O] at ae;exact ae) (by simpa [BI] using K)
  ·split at A
   ·rename_i aa;cases A;obtain⟨rfl,ag,rfl⟩:=ai;rw [O] at ae;simp only [pend,Nat.add_zero] at ae;simp only [Bool.false_eq_true,if_false,BI] at K;split
    ·exact h.GB (p:= .Ei _) ⟨rfl,ag,rfl⟩ (by rw [O];rfl) (by rw [O];simp [pend]) (by simp [pend];omega) ⟨K.1,K.2.1,K.2.2.1,rfl,K.2.2.2.2⟩
    ·exact h.GB (p:= .Dv _) ⟨rfl,ag,rfl⟩ (by rw [O];rfl) (by rw [O];simp [pend]) (by simp [pend];omega) ⟨K.1,K.2.1,K.2.2.1,rfl,K.2.2.2.2⟩
   ·cases A
  ·cases A;obtain⟨rfl,ag,rfl⟩:=ai;exact h.GB (p:= .Dv _) ⟨rfl,ag,rfl⟩ (by rw [O];rfl) (by rw [O];rfl) (by rw [O] at ae;exact ae) (by simpa [BI] using K)
  ·cases A;obtain⟨rfl,ag,rfl⟩:=ai;exact h.GB (p:= .CS _) ⟨rfl,ag,rfl⟩ (by rw [O];rfl) (by rw [O];rfl) (by rw [O] at ae;exact ae) (by simpa [BI] using K)
  ·cases A;obtain⟨rfl,ag,rfl⟩:=ai;exact h.GB (p:= .DW _) ⟨rfl,ag,rfl⟩ (by rw [O];rfl) (by rw [O];rfl) (by rw [O] at ae;exact ae) (by simpa [BI] using K)
 ·have:=h.old i a b;rw [O] at this;exact this.elim
 ·
  have hw:=h.work k ah;rw [O] at hw;have av:∀q k',q=Nx.ph p→(∀k',p≠ .Bu k')→q≠ .ph (.Bu k'):=by
   rintro q k' rfl an e;exact an k' (Nx.ph.inj e)
  cases p <;> simp only [EU] at hw <;> (try exact hw.elim) <;> simp only [Fam.act] at A <;> (try (cases A;done))
  ·cases A;refine h.EY ah (x:= .ph .EX) trivial (fun k'=>by rw [O];simp) (by simp) (by rw [O];rfl) fun L S U W=>?_;rw [O] at U W;simp only [cL,cS,Nat.add_zero] at U W;subst U W;exact K
  ·cases A;refine h.EY ah (x:= .ph .Ef) trivial (fun k'=>by rw [O];simp) (by simp) (by rw [O];rfl) fun L S U W=>?_;rw [O] at U W;simp only [cL,cS,Nat.add_zero] at U W;subst U W;exact K
  ·split at A
   ·rename_i aa;cases A;have ak:∀y ab ac L S,y=(if c=true then φ (N0+F.n) else .ph .BN)→BI y v wt sm ab ac cl→(if v=1∧wt=1 then L=ab+1 else L=ab)→S=ac→BI y (v - 1) wt sm L S cl:=by
     intro y ab ac L S aw hm U W;cases y with
     | gone d=>simp only [BI] at hm ⊢;split at U <;> omega
     | ph q=>
      cases q <;> simp only [BI] at hm ⊢ <;> (try exact hm) <;> (try (split at U <;> omega))
      ·split at U
       ·exfalso;omega
       ·exact⟨by omega,by omega,by omega,by omega,hm.2.2.2.2⟩
      ·split at U
       ·exfalso;omega
       ·exact⟨by omega,by omega,by omega,by omega,hm.2.2.2.2.1,by omega⟩
      ·split at U
       ·exfalso;omega
       ·exact⟨by omega,by omega,by omega,by omega,hm.2.2.2.2.1,by omega,by omega⟩
      ·split at U
       ·exact⟨by omega,by omega,hm.2.2⟩
       ·exact⟨by omega,by omega,hm.2.2⟩
      ·split at U
       ·exact⟨by omega,by omega,hm.2.2⟩
       ·exact⟨by omega,by omega,hm.2.2⟩
      ·split at U
       ·exact⟨by omega,by omega,hm.2.2⟩
       ·exact⟨by omega,by omega,hm.2.2⟩
    split
    ·rename_i aj;refine h.EY ah (x:= .ph .DF) trivial (fun k'=>by rw [O];simp) (by simp) (by rw [O];simp [cU];omega) fun L S U W=>?_;rw [O] at U W;simp only [cL,cS,Nat.add_zero] at U W;exact ak _ _ _ L S rfl K (by rw [if_pos aj];exact U) W
    ·rename_i aj;refine h.EY ah (x:= .gone 1) trivial (fun k'=>by rw [O];simp) (by simp) (by rw [O];simp [cU];omega) fun L S U W=>?_;rw [O] at U W;simp only [cL,cS,Nat.add_zero] at U W;exact ak _ _ _ L S rfl K (by rw [if_neg aj];exact U) W
   ·cases A
  ·split at A
   ·rename_i aa;cases A;refine h.EY ah (x:= .ph .DT) trivial (fun k'=>by rw [O];simp) (by simp) (by rw [O];simp [cU];omega) fun L S U W=>?_;rw [O] at U W;simp only [cL,cS,Nat.add_zero] at U W;have e:L=sumTo N fun i=>cL (φ i):=by
     have ay:L+1=(sumTo N fun i=>cL (φ i))+1:=U;omega
    obtain⟨aj,ao⟩:=aa;subst e W aj ao;exact K
   ·cases A
  ·split at A
   ·rename_i aa;cases A;obtain⟨aj,ao⟩:=aa;subst aj ao;refine h.EY ah (x:= .ph .Cx) trivial (fun k'=>by rw [O];simp) (by simp) (by rw [O];simp [cU]) fun L S U W=>?_;rw [O] at U W;simp only [cL,cS,Nat.add_zero] at U W;have ak:∀y ab ac,BI y 0 1 sm ab ac cl→L+1=ab→S=ac+1→BI y 0 0 sm L S cl:=by
     intro y ab ac hm U W;cases y with
     | gone d=>simp only [BI] at hm ⊢;omega
     | ph q=>
      cases q <;> simp only [BI] at hm ⊢ <;> (try exact hm) <;> (try (exfalso;omega))
      ·exact⟨by omega,by omega,hm.2.2⟩
      ·exact⟨by omega,by omega,hm.2.2⟩
      ·exact⟨by omega,by omega,hm.2.2⟩
    exact ak _ _ _ K U W
   ·cases A
  ·split at A
   ·rename_i aa;cases A;subst aa;refine h.EY ah (x:= .gone 1) trivial (fun k'=>by rw [O];simp) (by simp) (by rw [O];simp [cU]) fun L S U W=>?_;rw [O] at U W;simp only [cL,cS,Nat.add_zero] at U W;have ak:∀y ab ac,BI y v wt 0 ab ac cl→L=ab→S+1=ac→BI y v wt 1 L S cl:=by
     intro y ab ac hm U W;cases y with
     | gone d=>simp only [BI] at hm ⊢;omega
     | ph q=>
      cases q <;> simp only [BI] at hm ⊢ <;> (try exact hm) <;> (try (exfalso;omega))
      ·exact⟨by omega,by omega,hm.2.2⟩
      ·exact⟨by omega,by omega,hm.2.2⟩
      ·exact⟨by omega,by omega,hm.2.2⟩
    exact ak _ _ _ K U W
   ·cases A
  ·cases A;refine h.EY ah (x:= .ph .DI) trivial (fun k'=>by rw [O];simp) (by simp) (by rw [O];rfl) fun L S U W=>?_;rw [O] at U W;simp only [cL,cS,Nat.add_zero] at U W;subst U W;exact K
 ·
  have hw:=h.cls Z;rw [if_pos Z,O] at K;rw [O] at hw;obtain⟨al,ap,ai⟩:=h.main;cases p <;> simp only [Ez] at hw <;> (try exact hw.elim) <;> simp only [Fam.act] at A <;> (try (cases A;done)) <;> simp only [BI] at K
  ·cases A;exact h.Dt Z (x:= .ph (.Dd F.n)) trivial ⟨K.1,K.2.1,K.2.2.1,K.2.2.2.1,K.2.2.2.2,aq⟩
  ·split at A
   ·rename_i m aa;cases A;split
    ·exact h.Dt Z (x:= .ph .C5) trivial ⟨K.1,K.2.1,K.2.2.1,rfl,by assumption,K.2.2.2.2.1⟩
    ·exact h.Dt Z (x:= .ph (.Eh _)) trivial ⟨K.1,K.2.1,K.2.2.1,rfl,K.2.2.2.2.1,Nat.le_refl _,by omega⟩
   ·cases A
  ·split at A
   ·rename_i m aa;split at A
    ·cases A;exact h.Dt Z (x:= .ph .EI) trivial ⟨by omega,by omega,K.2.2.2.2.1⟩
    ·cases A;exact h.Dt Z (x:= .ph (.Dd _)) trivial ⟨K.1,K.2.1,K.2.2.1,rfl,K.2.2.2.2.1,by omega⟩
   ·cases A
  ·cases A;exact h.Dt Z (x:= .ph .BY) trivial K
  ·split at A
   ·rename_i aa;cases A;exact h.Dt Z (x:= .ph .DU) trivial ⟨by omega,by omega,rfl,by omega,by omega,K.2.2⟩
   ·cases A
  ·split at A
   ·rename_i aa;obtain⟨rfl,rfl⟩:=aa;cases A;exact h.Dt Z (x:= .ph .C5) trivial K
   ·cases A
  ·cases A;exact h.Dt Z (x:= .ph .ED) trivial K
  ·cases A;exact h.Dt Z (x:= .ph .Cb) trivial K
  ·cases A;exact h.Dt Z (x:= .ph .En) trivial K
  ·cases A;exact h.Dt Z (x:= .ph .DY) trivial K
end
end Pal
namespace Pal
open Go Go.Conc
open Go.ConcN (upd upd_same upd_ne sumTo sumTo_upd sumTo_upd_out sumTo_congr le_sumTo sumTo_le fork_knows)
section
variable {F:Fam}{N0 N j:Nat}{c:Bool}{φ:Nat→Nx}{v wt sm:Nat}{cl:Bool}
theorem Bp.spawn(h:Bp F N0 N j c φ v wt sm cl)(O:φ 0= .ph (.CS j)):
  Bp F N0 (N+1) (j+1) c (upd (upd φ N (.ph (F.start j))) 0 (.ph (F.Cc j))) v wt sm cl:=by
 obtain⟨ai,aj,ak⟩:=h.main;obtain rfl:ai= .CS j:=by rw [aj] at O;exact Nx.ph.inj O
 obtain⟨_,aq,rfl⟩:=ak;have al:=h.size;have ar:=h.pos;simp only [Bool.toNat_false,Nat.add_zero] at al;have W:cU (.ph (F.start j))=1∧cL (.ph (F.start j))=0∧cS (.ph (F.start j))=0:=by
  unfold Fam.start;split <;> exact⟨rfl,rfl,rfl⟩
 have A:cU (.ph (F.Cc j))=0∧cL (.ph (F.Cc j))=0∧cS (.ph (F.Cc j))=0∧pend (.ph (F.Cc j))=0∧got (.ph (F.Cc j))= []:=by
  unfold Fam.Cc;split <;> exact⟨rfl,rfl,rfl,rfl,rfl⟩
 have Z:cU (φ 0)=0∧cL (φ 0)=0∧cS (φ 0)=0:=by rw [O];exact⟨rfl,rfl,rfl⟩
 let U:Nat→Nx:=upd (upd φ N (.ph (F.start j))) 0 (.ph (F.Cc j));have K:U 0= .ph (F.Cc j):=upd_same _ _ _;have aa:U N= .ph (F.start j):=by show upd _ _ _ _=_;rw [upd_ne _ _ (by omega),upd_same]
 have ab:∀i,0<i→i≠N→U i=φ i:=fun i ac ae=>by show upd _ _ _ _=_;rw [upd_ne _ _ (by omega),upd_ne _ _ ae]
 have sum:∀f:Nx→Nat,f (φ 0)=0→f (.ph (F.Cc j))=0→(sumTo (N+1) fun i=>f (U i))=(sumTo N fun i=>f (φ i))+f (.ph (F.start j)):=by
  intro f f0 f1;simp only [sumTo,aa];congr 1;have am:0<N:=by omega
  have:=sumTo_upd (upd φ N (.ph (F.start j))) (.ph (F.Cc j)) f am;have an:upd φ N (.ph (F.start j)) 0=φ 0:=upd_ne _ _ (by omega);rw [an,f0,f1] at this;have au:=sumTo_upd_out φ (.ph (F.start j)) f (i:=N) (j:=N) (Nat.le_refl _);show sumTo N (fun i=>f (upd (upd φ N (.ph (F.start j))) 0 (.ph (F.Cc j)) i))=_;omega
 have ag:=h.cnt;have ah:=h.Fe;rw [O] at ag ah;simp only [pend] at ag ah;show Bp F N0 (N+1) (j+1) false U v wt sm cl;have ao:got (φ 0)= []:=by rw [O];rfl
 refine⟨h.pos,h.n1,h.FD,by simp;omega,by omega,by simp,⟨F.Cc j,K,?_⟩,fun i ac ae=>by rw [ab i ac (by omega)];exact h.old i ac ae,fun k ap=>?_,by simp,?_,?_,?_,fun k ap hh=>?_,by rw [K,A.2.2.2.2];exact .nil,by rw [K,A.2.2.2.2];simp⟩
 ·unfold Fam.Cc;split
  ·exact⟨by assumption,rfl⟩
  ·exact⟨rfl,by omega,rfl⟩
 ·by_cases e:k=j
  ·subst e;rw [show N0+k=N by omega,aa];unfold Fam.start;split
   ·exact⟨rfl,by assumption⟩
   ·trivial
  ·rw [ab _ (by omega) (by omega)];exact h.work k (by omega)
 ·rw [K,A.2.2.2.1,sum cU Z.1 A.1,W.1];exact ag
 ·rw [K,A.2.2.2.1];exact ah
 ·have hm:=h.mode;simp only [Bool.false_eq_true,if_false] at hm ⊢;rw [sum cL Z.2.1 A.2.1,sum cS Z.2.2 A.2.2.1,W.2.1,W.2.2];exact hm
 ·rw [K,A.2.2.2.2];by_cases e:k=j
  ·subst e;rw [show N0+k=N by omega,aa];unfold Fam.start;simp [hh]
  ·rw [ab _ (by omega) (by omega)];have:=h.Ej k (by omega) hh
   rwa [ao] at this
theorem Bp.Qr(h:Bp F N0 N j c φ v wt sm cl)(K:φ 0= .ph .Dg):
  Bp F N0 (N+1) j true (upd (upd φ N (.ph .BN)) 0 (.ph (.Bq [] []))) v wt sm cl:=by
 obtain⟨ai,aj,ak⟩:=h.main;obtain rfl:ai= .Dg:=by rw [aj] at K;exact Nx.ph.inj K
 obtain⟨ah,rfl⟩:=ak;have al:=h.size;have ap:=h.pos;simp only [Bool.toNat_false,Nat.add_zero] at al;have U:cU (φ 0)=0∧cL (φ 0)=0∧cS (φ 0)=0:=by rw [K];exact⟨rfl,rfl,rfl⟩
 let O:Nat→Nx:=upd (upd φ N (.ph .BN)) 0 (.ph (.Bq [] []));have A:O 0= .ph (.Bq [] []):=upd_same _ _ _;have W:O N= .ph .BN:=by show upd _ _ _ _=_;rw [upd_ne _ _ (by omega),upd_same]
 have Z:∀i,0<i→i≠N→O i=φ i:=fun i aa ab=>by show upd _ _ _ _=_;rw [upd_ne _ _ (by omega),upd_ne _ _ ab]
 have sum:∀f:Nx→Nat,f (φ 0)=0→f (.ph (.Bq [] []))=0→f (.ph .BN)=0→(sumTo (N+1) fun i=>f (O i))=(sumTo N fun i=>f (φ i)):=by
  intro f f0 f1 f2;simp only [sumTo,W,f2];have am:0<N:=by omega
  have:=sumTo_upd (upd φ N (.ph .BN)) (.ph (.Bq [] [])) f am;have an:upd φ N (.ph .BN) 0=φ 0:=upd_ne _ _ (by omega);rw [an,f0,f1] at this;have aq:=sumTo_upd_out φ (.ph .BN) f (i:=N) (j:=N) (Nat.le_refl _);show sumTo N (fun i=>f (upd (upd φ N (.ph .BN)) 0 (.ph (.Bq [] [])) i))+0=_;omega
 have ac:=h.cnt;have ae:=h.Fe;rw [K] at ac ae;simp only [pend] at ac ae;show Bp F N0 (N+1) j true O v wt sm cl;have ao:got (φ 0)= []:=by rw [K];rfl
 refine⟨h.pos,h.n1,h.FD,by simp;omega,h.jn,fun _=>ah,⟨.Bq [] [],A,ah,rfl⟩,fun i aa ab=>by rw [Z i aa (by omega)];exact h.old i aa ab,fun k ag=>?_,fun _=>by rw [show N0+F.n=N by omega,W];trivial,?_,?_,?_,fun k ag hh=>?_,by rw [A];exact .nil,by rw [A];simp [got]⟩
 ·rw [Z _ (by omega) (by omega)];exact h.work k ag
 ·rw [A,sum cU U.1 rfl rfl];exact ac
 ·rw [A];exact ae
 ·have hm:=h.mode;simp only [Bool.false_eq_true,if_false,if_true] at hm ⊢;rw [show N0+F.n=N by omega,W,sum cL U.2.1 rfl rfl,sum cS U.2.2 rfl rfl];exact hm
 ·rw [A];rw [Z _ (by omega) (by omega)];have:=h.Ej k ag hh
  rwa [ao] at this
theorem Bp.meet(h:Bp F N0 N j c φ v wt sm cl){A:List Nat}{vs:List Value}{k:Nat}{x:Value}(K:φ 0= .ph (.Bq A vs))(ac:k<j)(hw:φ (N0+k)= .ph (.Bu k)):
  Bp F N0 N j c (upd (upd φ (N0+k) (.ph .BL)) 0 (.ph (.Bq (A++ [k]) (vs++ [x])))) v wt sm cl:=by
 obtain⟨aj,ak,al⟩:=h.main;obtain rfl:aj= .Bq A vs:=by rw [ak] at K;exact Nx.ph.inj K
 obtain⟨am,rfl⟩:=al;have an:=h.size;have av:=h.pos;have ae:F.has k=true:=by have:=h.work k ac;rw [hw] at this;exact this.2
 have ao:k ∉ A:=by have:=(h.Ej k ac ae).1 hw;rwa [K] at this
 let U:Nat→Nx:=upd (upd φ (N0+k) (.ph .BL)) 0 (.ph (.Bq (A++ [k]) (vs++ [x])));have O:U 0= .ph (.Bq (A++ [k]) (vs++ [x])):=upd_same _ _ _;have ag:U (N0+k)= .ph .BL:=by show upd _ _ _ _=_;rw [upd_ne _ _ (by omega),upd_same]
 have W:∀i,0<i→i≠N0+k→U i=φ i:=fun i Z aa=>by show upd _ _ _ _=_;rw [upd_ne _ _ (by omega),upd_ne _ _ aa]
 have sum:∀f:Nx→Nat,f (φ 0)=f (.ph (.Bq (A++ [k]) (vs++ [x])))→f (.ph (.Bu k))=f (.ph .BL)→(sumTo N fun i=>f (U i))=(sumTo N fun i=>f (φ i)):=by
  intro f f0 f1;have ap:0<N:=by omega
  have Z:=sumTo_upd (upd φ (N0+k) (.ph .BL)) (.ph (.Bq (A++ [k]) (vs++ [x]))) f ap;have aq:upd φ (N0+k) (.ph .BL) 0=φ 0:=upd_ne _ _ (by omega);have aa:=sumTo_upd φ (.ph .BL) f (show N0+k<N by omega);rw [aq] at Z;rw [hw] at aa;show sumTo N (fun i=>f (upd (upd φ (N0+k) (.ph .BL)) 0 (.ph (.Bq (A++ [k]) (vs++ [x]))) i))=_;omega
 have ah:=h.cnt;have ai:=h.Fe;rw [K] at ah ai;show Bp F N0 N j true U v wt sm cl;refine⟨h.pos,h.n1,h.FD,an,h.jn,h.cj,⟨_,O,am,rfl⟩,fun i Z aa=>by rw [W i Z (by omega)];exact h.old i Z aa,fun k' ab=>?_,fun ar=>?_,?_,?_,?_,fun k' ab hh=>?_,?_,?_⟩
 ·by_cases e:k'=k
  ·subst e;rw [ag];trivial
  ·rw [W _ (by omega) (by omega)];exact h.work k' ab
 ·rw [W _ (by omega) (by omega)];exact h.cls ar
 ·rw [O,sum cU (by rw [K];rfl) rfl];exact ah
 ·rw [O];exact ai
 ·have hm:=h.mode;simp only [if_true] at hm ⊢;rw [W _ (by omega) (by omega),sum cL (by rw [K];rfl) rfl,sum cS (by rw [K];rfl) rfl];exact hm
 ·rw [O];show _↔k' ∉ A++ [k];by_cases e:k'=k
  ·subst e;rw [ag];simp
  ·rw [W _ (by omega) (by omega)];have:=h.Ej k' ab hh;rw [K] at this;rw [this];show k' ∉ A↔_;simp [e]
 ·rw [O];have:=h.nd;rw [K] at this;show(A++ [k]).Nodup;rw [List.nodup_append];exact⟨this,by simp,fun a au b hb=>by simp at hb;subst hb;exact fun e=>ao (e▸au)⟩
 ·rw [O];intro k' ab;have hs:=h.sub;rw [K] at hs;rcases List.mem_append.1 ab with q | q
  ·exact hs k' q
  ·simp at q;subst q;exact⟨ac,ae⟩
theorem Bp.close(h:Bp F N0 N j c φ v wt sm cl)(A:c=true)(K:φ (N0+F.n)= .ph .Cb):Bp F N0 N j c (upd φ (N0+F.n) (.gone 0)) v wt sm true:=by
 have hm:=h.mode;rw [if_pos A,K] at hm;exact h.Dt A (x:= .gone 0) trivial ⟨hm.1,hm.2.1,hm.2.2.1,hm.2.2.2.1,hm.2.2.2.2.1,rfl⟩
theorem Bp.leave(h:Bp F N0 N j c φ v wt sm cl){i d A:Nat}(hi:i<N)(K:φ i= .gone d):Bp F N0 N j c (upd φ i (.gone A)) v wt sm cl:=by
 rcases h.C6 hi with rfl | ⟨a,b⟩ | ⟨k,U,rfl⟩ | ⟨W,rfl⟩
 ·obtain⟨p,Z,_⟩:=h.main;rw [K] at Z;cases Z
 ·have ae:=hi;have z:∀f:Nx→Nat,f (.gone d)=0→f (.gone A)=0→(sumTo N fun a=>f (upd φ i (.gone A) a))=sumTo N fun a=>f (φ a):=by
   intro f f0 f1;have:=sumTo_upd φ (.gone A) f ae;rw [K] at this;omega
  have ak:=h.size;have O:upd φ i (.gone A) 0=φ 0:=upd_ne _ _ (by omega);refine⟨h.pos,h.n1,h.FD,h.size,h.jn,h.cj,by rw [O];exact h.main,fun aa ag ah=>?_,fun k U=>by rw [upd_ne _ _ (by omega)];exact h.work k U,fun W=>by rw [upd_ne _ _ (by omega)];exact h.cls W,by rw [O,z cU rfl rfl];exact h.cnt,by rw [O];exact h.Fe,?_,fun k U hh=>by rw [O,upd_ne _ _ (by omega)];exact h.Ej k U hh,by rw [O];exact h.nd,by rw [O];exact h.sub⟩
  ·by_cases e:aa=i
   ·subst e;rw [upd_same];trivial
   ·rw [upd_ne _ _ e];exact h.old aa ag ah
  ·rw [z cL rfl rfl,z cS rfl rfl,upd_ne _ _ (by omega)];exact h.mode
 ·refine h.EY U (x:= .gone A) trivial (by rw [K];simp) (by simp) (by rw [K];rfl) fun L S ab ac=>?_;rw [K] at ab ac;have ai:L=sumTo N fun i=>cL (φ i):=ab;have aj:S=sumTo N fun i=>cS (φ i):=ac;subst ai aj;exact h.mode
 ·have hm:=h.mode;rw [if_pos W,K] at hm;exact h.Dt W (x:= .gone A) trivial hm
theorem Bp.I1(h:Bp F N0 N j c φ v wt sm cl)(K:c=true)(O:φ (N0+F.n)= .ph .DU∨φ (N0+F.n)= .ph .C5∨φ (N0+F.n)= .ph .DY∨φ (N0+F.n)= .ph .Cb∨CO (φ (N0+F.n))):∀k,k<j→CO (φ (N0+k)):=by
 intro k U;have hm:=h.mode;rw [if_pos K] at hm;have W:=h.size;have Z:=h.cnt;have aa:cU (φ (N0+k))≤sumTo N fun i=>cU (φ i):=le_sumTo (f:=fun i=>cU (φ i)) (show N0+k<N by omega);have ab:cL (φ (N0+k))≤sumTo N fun i=>cL (φ i):=le_sumTo (f:=fun i=>cL (φ i)) (show N0+k<N by omega);have ac:cS (φ (N0+k))≤sumTo N fun i=>cS (φ i):=le_sumTo (f:=fun i=>cS (φ i)) (show N0+k<N by omega);have ae:v=0∧(sumTo N fun i=>cL (φ i))=0∧(sumTo N fun i=>cS (φ i))=0:=by
  rcases O with e | e | e | e | e
  ·rw [e] at hm;exact⟨hm.2.2.2.2.1,hm.1,hm.2.1⟩
  ·rw [e] at hm;exact⟨hm.2.2.2.2.1,hm.1,hm.2.1⟩
  ·rw [e] at hm;exact⟨hm.2.2.2.2.1,hm.1,hm.2.1⟩
  ·rw [e] at hm;exact⟨hm.2.2.2.2.1,hm.1,hm.2.1⟩
  ·cases A:φ (N0+F.n) with
   | gone d=>rw [A] at hm;exact⟨hm.2.2.2.2.1,hm.1,hm.2.1⟩
   | ph p=>rw [A] at e;exact e.elim
 have hw:=h.work k U;cases A:φ (N0+k) with
 | gone d=>trivial
 | ph p=>
  have ag:1≤cU (φ (N0+k))+cL (φ (N0+k))+cS (φ (N0+k)):=by
   rw [A] at hw ⊢;cases p <;> simp only [EU] at hw <;> simp [cU,cL,cS]
  exfalso;omega
end
open Go.ConcN (RelBy)
def Cn:Nx→Nat
 | .gone d=>d
 | .ph .Ef | .ph .DF | .ph .DT | .ph .Cx=>1
 | .ph (.Dd _) | .ph (.Eh _) | .ph .EI | .ph .En | .ph .BY | .ph .DU | .ph .C5=>1
 | .ph (.EC _) | .ph (.Ei _) | .ph (.DW _) | .ph (.Dv _)=>1
 | _=>0
def late:Nx→Prop
 | .ph (.Bu _) | .ph .BL | .ph .DI=>False
 | _=>True
def F4(F:Fam)(N0 t0:Nat)(t:Trace)(q:Nat):Prop:=
 t.act? q=some (.mark (.acquire F.sA))∧t.g? q=some (N0+F.n)∧t.heard q∧∀k,k<F.n→∃ρ,t0≤ρ∧ρ<q∧RelBy F.sA t (N0+k) ρ
def He(F:Fam)(N0 t0:Nat)(t:Trace)(p:Nat):Prop:=
 t.act? p=some (.close F.ch)∧t.g? p=some (N0+F.n)∧t.heard p∧(∃q,q<p∧F4 F N0 t0 t q)∧∀x,p<x→t.g? x=some (N0+F.n)→¬t.counts x
structure Cg (F:Fam) (N0 t0 N j:Nat) (c:Bool) (φ:Nat→Nx) (t:Trace):Prop where
 deaf:∀i,i<N→Deaf t i=Cn (φ i)
 above:∀i,N≤i→Deaf t i=0
 plain:∀x a b,touchAt t x=some a→Ca a.loc=some b→(b=F.wg∨b=F.ch)→a.kind= .plain→∀i,i<N→(i=0∨N0≤i)→Knows t i x
 said:∀x a b,touchAt t x=some a→Ca a.loc=some b→(b=F.wg∨b=F.ch)→a.kind= .said→Knows t (if c=true then N0+F.n else 0) x
 over:∀x g,t.g? x=some g→g≠0→t.counts x→(∃y,t.g? y=some 0∧HappensBefore t x y)∨(N0≤g∧g<N)
 norel:∀x,t0≤x→t.act? x≠some (.mark (.release F.sA))
 Hl:t0≤t.size
 rel:∀k,k<j→late (φ (N0+k))→∃ρ,t0≤ρ∧RelBy F.sA t (N0+k) ρ
 acq:c=true→(φ (N0+F.n)= .ph .Cb∨CO (φ (N0+F.n)))→∃q,F4 F N0 t0 t q
 GF:c=true→CO (φ (N0+F.n))→∃p,He F N0 t0 t p
section
variable {F:Fam}{N0 t0 N j:Nat}{c:Bool}{φ:Nat→Nx}{t u:Trace}
def EvS(F:Fam)(A:Prop)(e:Event):Prop:=
 (∀a,(MemAct.ofEvent e).touch? =some a→(∃b,Ca a.loc=some b∧(b=F.wg∨b=F.ch))∧a.kind≠ .plain∧(a.kind= .said→A))∧e.loc≠ .mark (.release F.sA)
theorem Cg.noRace(h:Cg F N0 t0 N j c φ t)(W:∀said,¬Race said t){i:Nat}(hi:i<N)(Z:i=0∨N0≤i){fn:FuncId}{pos:String}{es:Array Event}
  (aa:∀e∈es,EvS F (i=if c=true then N0+F.n else 0) e):∀said,¬Race said (t++MemOp.ofEvents i fn pos es):=by
 intro said;refine noRace_append (g:=i) (W said) (fun op A=>by obtain⟨e,_,rfl⟩:=mem_ofEvents A;rfl) fun x a K op A d ab ac=>?_;obtain⟨e,he,rfl⟩:=mem_ofEvents A;obtain⟨⟨b,hb,O⟩,ae,hs⟩:=(aa e he).1 d ab;obtain⟨ag,hm,aj,ah⟩:=ac;have U:Ca a.loc=some b:=by rw [ag];exact hb
 rcases ah with q | q | ⟨_,q,ai⟩
 ·exact h.plain x a b K U O q i hi Z
 ·exact absurd q ae
 ·have:=h.said x a b K U O q
  rwa [← hs ai] at this
theorem F4.app{q:Nat}(h:F4 F N0 t0 t q)(U:∀k ρ,k<F.n→RelBy F.sA t (N0+k) ρ→RelBy F.sA (t++u) (N0+k) ρ):F4 F N0 t0 (t++u) q:=by
 obtain⟨K,W,Z,aa⟩:=h;have A:=lt_of_act? K;exact⟨by rw [act?_old A];exact K,by rw [g?_old A];exact W,(heard_old A).2 Z,fun k O=>let ⟨ρ,a,b,d⟩:=aa k O;⟨ρ,a,b,U k ρ O d⟩⟩
theorem He.app{p:Nat}(h:He F N0 t0 t p)(W:∀k ρ,k<F.n→RelBy F.sA t (N0+k) ρ→RelBy F.sA (t++u) (N0+k) ρ)(Z:∀x,t.size≤x→(t++u).g? x=some (N0+F.n)→¬(t++u).counts x):He F N0 t0 (t++u) p:=by
 obtain⟨K,aa,ab,⟨q,ac,ae⟩,ag⟩:=h;have A:=lt_of_act? K;refine⟨by rw [act?_old A];exact K,by rw [g?_old A];exact aa,(heard_old A).2 ab,⟨q,ac,ae.app W⟩,fun x ah O U=>?_⟩;rcases Nat.lt_or_ge x t.size with q | q
 ·exact ag x ah (by rw [← g?_old (u:=u) q];exact O) ((counts_old q).1 U)
 ·exact Z x q O U
theorem K7(h:∀x g,t.g? x=some g→g≠0→t.counts x→(∃y,t.g? y=some 0∧HappensBefore t x y)∨(N0≤g∧g<N))(hu:∀op∈u,op.g=0∨(N0≤op.g∧op.g<N)∨op.act.touch? =none):
  ∀x g,(t++u).g? x=some g→g≠0→(t++u).counts x→(∃y,(t++u).g? y=some 0∧HappensBefore (t++u) x y)∨(N0≤g∧g<N):=by
 intro x g K O U;rcases Nat.lt_or_ge x t.size with q | q
 ·rcases h x g (by rw [← g?_old (u:=u) q];exact K) O ((counts_old q).1 U) with⟨y,A,hb⟩ | hh
  ·have ab:y<t.size:=by
    unfold Trace.g? at A;obtain⟨z,ac,_⟩:=Option.map_eq_some_iff.1 A;exact lt_size_of_getElem? ac
   exact .inl ⟨y,by rw [g?_old ab];exact A,hb_app u hb⟩
  ·exact .inr hh
 ·obtain⟨a,ae,_⟩:=U;obtain⟨op,W,Z⟩:=touch_of ae;have aa:op.g=g:=by simpa [Trace.g?,W] using K
  rcases getElem?_append_cases W with⟨ah,_⟩ | ⟨_,ag⟩
  ·omega
  ·rcases hu op ag with z | z | z
   ·exact absurd (aa▸z) O
   ·exact .inr (aa▸z)
   ·rw [z] at Z;cases Z
theorem KF(h:∀x,t0≤x→t.act? x≠some (.mark (.release F.sA)))(hu:∀op∈u,op.act≠ .mark (.release F.sA)):∀x,t0≤x→(t++u).act? x≠some (.mark (.release F.sA)):=by
 intro x K e;obtain⟨op,O,A⟩:=Option.map_eq_some_iff.1 e;rcases getElem?_append_cases O with⟨_,U⟩ | ⟨_,W⟩
 ·exact h x K (by rw [act?_of U,A])
 ·exact hu op W A
theorem Ni{i g:Nat}(hu:∀op∈u,op.g=i)(A:i≠g):∀x,t.size≤x→(t++u).g? x=some g→¬(t++u).counts x:=by
 intro x Z K;obtain⟨op,O,U⟩:=Option.map_eq_some_iff.1 K;rcases getElem?_append_cases O with⟨aa,_⟩ | ⟨_,W⟩
 ·omega
 ·exact absurd ((hu op W).symm.trans U) A
theorem JY{g:Nat}(hu:∀op∈u,op.g=g→op.act.touch? =none):∀x,t.size≤x→(t++u).g? x=some g→¬(t++u).counts x:=by
 intro x aa O U;obtain⟨a,W,_⟩:=U;obtain⟨op,A,K⟩:=touch_of W;rcases getElem?_append_cases A with⟨ab,_⟩ | ⟨_,Z⟩
 ·omega
 ·rw [hu op Z (by simpa [Trace.g?,A] using O)] at K;cases K
theorem Cg.app(h:Cg F N0 t0 N j c φ t){i:Nat}(hi:i<N){x:Nx}{fn:FuncId}{pos:String}{es:Array Event}(aF:j≤F.n)
  (au:deafBehind (Cn (φ i)) es=Cn x)
  (ak:∀e∈es,(∀a b,(MemAct.ofEvent e).touch? =some a→Ca a.loc=some b→(b=F.wg∨b=F.ch)→a.kind≠ .plain∧(a.kind= .said→i=if c=true then N0+F.n else 0))∧e.loc≠ .mark (.release F.sA))
  (av:(i=0∨N0≤i)∨∀e∈es,(MemAct.ofEvent e).touch? =none)
  (al:c=true→(φ (N0+F.n)= .ph .Cb∨CO (φ (N0+F.n)))→∀k,k<F.n→late (φ (N0+k)))
  (aw:∀k,k<F.n→i=N0+k→late (φ i)→∀ρ,RelBy F.sA t i ρ→RelBy F.sA (t++MemOp.ofEvents i fn pos es) i ρ)
  (ay:∀k,k<j→i=N0+k→late x→¬late (φ i)→∃ρ,t0≤ρ∧RelBy F.sA (t++MemOp.ofEvents i fn pos es) i ρ)
  (az:c=true→i=N0+F.n→(x= .ph .Cb∨CO x)→(∃q,F4 F N0 t0 (t++MemOp.ofEvents i fn pos es) q)∨(φ i= .ph .Cb∨CO (φ i)))
  (aA:c=true→i=N0+F.n→CO x→(∃p,He F N0 t0 (t++MemOp.ofEvents i fn pos es) p)∨(CO (φ i)∧∀e∈es,(MemAct.ofEvent e).touch? =none)):
  Cg F N0 t0 N j c (upd φ i x) (t++MemOp.ofEvents i fn pos es):=by
 generalize hu:MemOp.ofEvents i fn pos es=u at*;have Z:∀op∈u,op.g=i:=fun op K=>by rw [← hu] at K;obtain⟨e,_,rfl⟩:=mem_ofEvents K;rfl
 have ai:∀op∈u,∃e∈es,op.act=MemAct.ofEvent e:=fun op K=>by rw [← hu] at K;obtain⟨e,he,rfl⟩:=mem_ofEvents K;exact⟨e,he,rfl⟩
 have hold:∀{y a},touchAt (t++u) y=some a→touchAt t y=some a∨(Knows (t++u) i y∧∃e∈es,(MemAct.ofEvent e).touch? =some a):=by
  intro y a O;obtain⟨op,K,aq⟩:=touch_of O;rcases getElem?_append_cases K with⟨aG,aB⟩ | ⟨_,ar⟩
  ·left;rw [touchAt_of aB];exact aq
  ·right;obtain⟨e,he,aa⟩:=ai op ar;exact⟨by have:=knows_own K;rwa [Z op ar] at this,e,he,by rw [← aa];exact aq⟩
 have aj:∀k ρ,k<F.n→late (φ (N0+k))→RelBy F.sA t (N0+k) ρ→RelBy F.sA (t++u) (N0+k) ρ:=by
  intro k ρ A ac W;by_cases e:i=N0+k
  ·have:=aw k A e (e▸ac) ρ (e▸W)
   rwa [e] at this
  ·exact W.appOther Z e
 refine⟨fun ab ae=>?_,fun ab ae=>?_,fun y a b am hb ag A ab ae ah=>?_,fun y a b am hb ag A=>?_,K7 h.over fun op K=>?_,KF h.norel fun op K e=>?_,by simp;have:=h.Hl;omega,fun k A ac=>?_,fun U O=>?_,fun U O=>?_⟩
 ·by_cases e:ab=i
  ·subst e;rw [upd_same,← hu,Deaf_own,h.deaf ab hi,au]
  ·rw [upd_ne _ _ e,Deaf_other t (Ne.symm e) u Z];exact h.deaf ab ae
 ·rw [Deaf_other t (by omega) u Z];exact h.above ab ae
 ·rcases hold am with q | ⟨_,e,he,an⟩
  ·exact(h.plain y a b q hb ag A ab ae ah).app _
  ·exact absurd A ((ak e he).1 a b an hb ag).1
 ·rcases hold am with q | ⟨aC,e,he,an⟩
  ·exact(h.said y a b q hb ag A).app _
  ·rw [← ((ak e he).1 a b an hb ag).2 A];exact aC
 ·rw [Z op K];rcases av with(q | q) | q
  ·exact .inl q
  ·exact .inr (.inl ⟨q,hi⟩)
  ·obtain⟨e,he,aa⟩:=ai op K;rw [aa];exact .inr (.inr (q e he))
 ·obtain⟨ev,ao,aa⟩:=ai op K;rw [aa] at e;exact(ak ev ao).2 (by
   obtain⟨loc,wr,aD⟩:=ev
   cases loc with
   | mark m=>simp only [MemAct.ofEvent,MemAct.mark.injEq] at e;rw [e]
   | obj r=>cases wr <;> cases aD <;> simp [MemAct.ofEvent] at e
   | _=>simp [MemAct.ofEvent] at e)
 ·by_cases e:i=N0+k
  ·subst e;rw [upd_same] at ac;by_cases ap:late (φ (N0+k))
   ·obtain⟨ρ,a,b⟩:=h.rel k A ap;exact⟨ρ,a,aj k ρ (by omega) ap b⟩
   ·exact ay k A rfl ac ap
  ·rw [upd_ne _ _ (Ne.symm e)] at ac;obtain⟨ρ,a,b⟩:=h.rel k A ac;exact⟨ρ,a,b.appOther Z e⟩
 ·have old:(φ (N0+F.n)= .ph .Cb∨CO (φ (N0+F.n)))→∃q,F4 F N0 t0 (t++u) q:=by
   intro O;obtain⟨q,aE⟩:=h.acq U O;exact⟨q,aE.app fun k ρ A W=>aj k ρ A (al U O k A) W⟩
  by_cases e:i=N0+F.n
  ·subst e;rw [upd_same] at O;rcases az U rfl O with q | q
   ·exact q
   ·exact old q
  ·rw [upd_ne _ _ (Ne.symm e)] at O;exact old O
 ·by_cases e:i=N0+F.n
  ·subst e;rw [upd_same] at O;rcases aA U rfl O with q | ⟨q,hm⟩
   ·exact q
   ·obtain⟨p,ah⟩:=h.GF U q;exact⟨p,ah.app (fun k ρ A W=>aj k ρ A (al U (.inr q) k A) W) (JY fun op K _=>by obtain⟨ev,ao,aa⟩:=ai op K;rw [aa];exact hm ev ao)⟩
  ·rw [upd_ne _ _ (Ne.symm e)] at O;obtain⟨p,ah⟩:=h.GF U O;exact⟨p,ah.app (fun k ρ A W=>aj k ρ A (al U (.inr O) k A) W) (Ni Z e)⟩
end
end Pal
namespace Pal
open Go Go.Conc
open Go.ConcN (upd upd_same upd_ne sumTo sumTo_upd sumTo_upd_out sumTo_congr le_sumTo sumTo_le fork_knows RelBy)
section
variable {F:Fam}{N0 t0 N j:Nat}{c:Bool}{φ:Nat→Nx}{t u:Trace}{v wt sm v' wt' sm':Nat}{cl:Bool}
theorem J3{x:Nx}(h:CO x):late x:=by
 cases x with
 | gone d=>trivial
 | ph p=>exact h.elim
theorem IU{α:Type}(f:Nat→α)(i:Nat):upd f i (f i)=f:=by
 funext a;unfold upd;split
 ·rename_i e;rw [e]
 ·rfl
theorem Bp.HQ(A:Bp F N0 N j c φ v wt sm cl)(K:c=true)(h:φ (N0+F.n)= .ph .Cb∨CO (φ (N0+F.n))):∀k,k<F.n→late (φ (N0+k)):=fun k O=>
 J3 (A.I1 K (h.elim (fun e=> .inr (.inr (.inr (.inl e)))) fun e=> .inr (.inr (.inr (.inr e)))) k (by rw [A.cj K];exact O))
theorem Of{m:Mark}(A:∀a,m≠ .read a)(K:∀a,m≠ .write a):(MemAct.ofEvent (Fam.Cu m)).touch? =none:=by
 cases m <;> first | rfl | exact absurd rfl (A _) | exact absurd rfl (K _)
theorem MG(p:Ph){es:Array Event}{nx:Nx}(A:F.act p v wt sm=some ((v',wt',sm'),es,nx)):
  (∀e∈es,EvS F (p= .En∨∃j,p= .DW j) e)∧deafBehind (Cn (.ph p)) es=Cn nx∧(∀e∈es,∀B,F.wg<B→(MemAct.ofEvent e).low B):=by
 have al:∀b w,(MemAct.ofEvent ⟨.cell F.sA,w,b⟩).touch? =some ⟨.cell F.sA,w,if b then .atomic else .plain⟩:=by intro b w;cases b <;> cases w <;> rfl
 have aa:∀(a:Addr) w (T:Prop),a.block=F.wg→EvS F T ⟨.cell a,w,true⟩:=by
  intro a w T hb;refine⟨fun x O=>?_,by simp⟩;have:x=⟨.cell a,w,.atomic⟩:=by cases w <;> (simp [MemAct.ofEvent,MemAct.touch?] at O;exact O.symm)
  subst this;exact⟨⟨F.wg,by simp [Ca,hb],.inl rfl⟩,by simp,by simp⟩
 have ab:∀(a:Addr) w B,a.block=F.wg→F.wg<B→(MemAct.ofEvent ⟨.cell a,w,true⟩).low B:=by
  intro a w B hb K;cases w <;> simp [MemAct.ofEvent,MemAct.low,Loc.low,hb,K]
 have Z:∀(m:Mark) (T:Prop),(∀a,m≠ .read a)→(∀a,m≠ .write a)→(∀a,m≠ .release a)→EvS F T (Fam.Cu m):=by
  intro m T ai aj ak;exact⟨fun x O=>(by rw [Of ai aj] at O;cases O),fun e=>ak _ (Loc.mark.inj e)⟩
 have ac:F.mA.block=F.wg:=rfl;have W:F.sA.block=F.wg:=rfl;have CB:∀(T:Prop),∀e∈semEvents F.mA,EvS F T e:=by
  intro T e he;simp only [semEvents,List.mem_toArray,List.mem_cons,List.not_mem_nil,or_false] at he;rcases he with rfl | rfl | rfl | rfl
  ·exact Z .disable T (by simp) (by simp) (by simp)
  ·exact aa _ _ _ ac
  ·exact aa _ _ _ ac
  ·exact Z .enable T (by simp) (by simp) (by simp)
 have ah:∀e∈semEvents F.mA,∀B,F.wg<B→(MemAct.ofEvent e).low B:=by
  intro e he B K;simp only [semEvents,List.mem_toArray,List.mem_cons,List.not_mem_nil,or_false] at he;rcases he with rfl | rfl | rfl | rfl
  ·trivial
  ·exact ab _ _ _ ac K
  ·exact ab _ _ _ ac K
  ·trivial
 have ae:∀(T:Prop),∀e∈(#[Fam.CR F.sA,Fam.FC F.sA]:Array Event),EvS F T e:=by
  intro T e he;simp only [List.mem_toArray,List.mem_cons,List.not_mem_nil,or_false] at he;rcases he with rfl | rfl <;> exact aa _ _ _ W
 have ag:∀e∈(#[Fam.CR F.sA,Fam.FC F.sA]:Array Event),∀B,F.wg<B→(MemAct.ofEvent e).low B:=by
  intro e he B K;simp only [List.mem_toArray,List.mem_cons,List.not_mem_nil,or_false] at he;rcases he with rfl | rfl <;> exact ab _ _ _ W K
 have one:∀{e:Event} {T:Prop},EvS F T e→∀x∈(#[e]:Array Event),EvS F T x:=by
  intro e T h x O;simp at O;subst O;exact h
 have U:∀{e:Event},(∀B,F.wg<B→(MemAct.ofEvent e).low B)→∀x∈(#[e]:Array Event),∀B,F.wg<B→(MemAct.ofEvent x).low B:=by
  intro e h x O;simp at O;subst O;exact h
 cases p <;> simp only [Fam.act] at A <;> (try (cases A;done))
 ·cases A;exact⟨one (Z _ _ (by simp) (by simp) (by simp)),rfl,U fun B K=>K⟩
 ·cases A;exact⟨one (Z _ _ (by simp) (by simp) (by simp)),rfl,U fun B K=>trivial⟩
 ·split at A
  ·cases A;exact⟨ae _,by split <;> rfl,ag⟩
  ·cases A
 ·split at A
  ·cases A;exact⟨one (aa _ _ _ W),rfl,U fun B K=>ab _ _ _ W K⟩
  ·cases A
 ·split at A
  ·cases A;exact⟨one (aa _ _ _ W),rfl,U fun B K=>ab _ _ _ W K⟩
  ·cases A
 ·split at A
  ·cases A;exact⟨CB _,rfl,ah⟩
  ·cases A
 ·cases A;exact⟨one (Z _ _ (by simp) (by simp) (by simp)),rfl,U fun B K=>trivial⟩
 ·split at A
  ·cases A;exact⟨one (aa _ _ _ W),by split <;> rfl,U fun B K=>ab _ _ _ W K⟩
  ·cases A
 ·split at A
  ·split at A
   ·cases A;exact⟨ae _,rfl,ag⟩
   ·cases A;exact⟨one (aa _ _ _ W),rfl,U fun B K=>ab _ _ _ W K⟩
  ·cases A
 ·cases A;refine⟨one ⟨fun x O=>?_,by simp [Fam.Cu]⟩,rfl,U fun B K=>K⟩;simp [Fam.Cu,MemAct.ofEvent,MemAct.touch?] at O;subst O;exact⟨⟨F.wg,rfl,.inl rfl⟩,by simp,fun _=> .inl rfl⟩
 ·split at A
  ·cases A;exact⟨CB _,rfl,ah⟩
  ·cases A
 ·split at A
  ·cases A;exact⟨one (aa _ _ _ W),rfl,U fun B K=>ab _ _ _ W K⟩
  ·cases A
 ·cases A;exact⟨one (Z _ _ (by simp) (by simp) (by simp)),rfl,U fun B K=>trivial⟩
 ·cases A;exact⟨one (Z _ _ (by simp) (by simp) (by simp)),rfl,U fun B K=>K⟩
 ·cases A;exact⟨one (Z _ _ (by simp) (by simp) (by simp)),rfl,U fun B K=>trivial⟩
 ·split at A
  ·cases A;exact⟨ae _,by split <;> rfl,ag⟩
  ·cases A
 ·cases A;refine⟨one ⟨fun x O=>?_,by simp [Fam.Cu]⟩,rfl,U fun B K=>K⟩;simp [Fam.Cu,MemAct.ofEvent,MemAct.touch?] at O;subst O;exact⟨⟨F.wg,rfl,.inl rfl⟩,by simp,fun _=> .inr ⟨_,rfl⟩⟩
 ·cases A;exact⟨one (Z _ _ (by simp) (by simp) (by simp)),rfl,U fun B K=>trivial⟩
 all_goals
  cases A;exact⟨by simp,rfl,by simp⟩
theorem OW(p:Ph){es:Array Event}{nx:Nx}(A:F.act p v wt sm=some ((v',wt',sm'),es,nx)){k:Nat}(hw:EU F k (.ph p))(K:late (.ph p)):
  ∀m e,es[m]? =some e→(MemAct.ofEvent e).touch? =none∨((∃ad wr,e=⟨.cell ad,wr,true⟩)∧0<deafBehind (Cn (.ph p)) (es.extract 0 m)):=by
 have two:∀m e,(#[Fam.CR F.sA,Fam.FC F.sA]:Array Event)[m]? =some e→(∃ad wr,e=⟨.cell ad,wr,true⟩)∧0<deafBehind 1 ((#[Fam.CR F.sA,Fam.FC F.sA]:Array Event).extract 0 m):=by
  intro m e h
  match m with
  | 0=>simp at h;subst h;exact⟨⟨_,_,rfl⟩,by simp [deafBehind]⟩
  | 1=>simp at h;subst h;exact⟨⟨_,_,rfl⟩,by simp [deafBehind,Fam.CR]⟩
  | m+2=>simp at h
 cases p <;> simp only [EU] at hw <;> (try exact hw.elim) <;> simp only [late] at K <;> (try exact K.elim) <;> simp only [Fam.act] at A <;> (try (cases A;done))
 ·cases A;intro m e h
  match m with
  | 0=>simp at h;subst h;exact .inl rfl
  | m+1=>simp at h
 ·split at A
  ·cases A;exact fun m e h=> .inr (two m e h)
  ·cases A
 ·split at A
  ·cases A;intro m e h
   match m with
   | 0=>simp at h;subst h;exact .inr ⟨⟨_,_,rfl⟩,by simp [deafBehind,Cn]⟩
   | m+1=>simp at h
  ·cases A
 ·split at A
  ·cases A;intro m e h
   match m with
   | 0=>simp at h;subst h;exact .inr ⟨⟨_,_,rfl⟩,by simp [deafBehind,Cn]⟩
   | m+1=>simp at h
  ·cases A
 ·split at A
  ·cases A;intro m e h
   match m with
   | 0=>simp [semEvents] at h;subst h;exact .inl rfl
   | 1=>simp [semEvents] at h;subst h;exact .inr ⟨⟨_,_,rfl⟩,by simp [deafBehind,Cn,semEvents]⟩
   | 2=>simp [semEvents] at h;subst h;exact .inr ⟨⟨_,_,rfl⟩,by simp [deafBehind,Cn,semEvents]⟩
   | 3=>simp [semEvents] at h;subst h;exact .inl rfl
   | m+4=>simp [semEvents] at h
  ·cases A
theorem Cg.act(h:Cg F N0 t0 N j c φ t)(K:Bp F N0 N j c φ v wt sm cl){i:Nat}(hi:i<N){p:Ph}(O:φ i= .ph p){es:Array Event}{nx:Nx}(A:F.act p v wt sm=some ((v',wt',sm'),es,nx))(fn:FuncId)(pos:String):
  Cg F N0 t0 N j c (upd φ i nx) (t++MemOp.ofEvents i fn pos es)∧(∀e∈es,EvS F (i=if c=true then N0+F.n else 0) e)∧(i=0∨N0≤i):=by
 obtain⟨ag,ak,_⟩:=MG p A;have av:=K.size;have al:=K.jn;have am:(p= .En∨∃j,p= .DW j)→i=if c=true then N0+F.n else 0:=by
  rintro(rfl | ⟨aw,rfl⟩)
  ·rcases K.C6 hi with rfl | ⟨a,b⟩ | ⟨k,W,rfl⟩ | ⟨U,rfl⟩
   ·obtain⟨q,ab,hm⟩:=K.main;rw [O] at ab;cases ab;exact hm.elim
   ·have:=K.old i a b;rw [O] at this;exact this.elim
   ·have:=K.work k W;rw [O] at this;exact this.elim
   ·rw [if_pos U]
  ·rcases K.C6 hi with rfl | ⟨a,b⟩ | ⟨k,W,rfl⟩ | ⟨U,rfl⟩
   ·obtain⟨q,ab,hm⟩:=K.main;rw [O] at ab;cases ab;obtain⟨_,_,rfl⟩:=hm;rfl
   ·have:=K.old i a b;rw [O] at this;exact this.elim
   ·have:=K.work k W;rw [O] at this;exact this.elim
   ·have:=K.cls U;rw [O] at this;exact this.elim
 have ah:∀e∈es,EvS F (i=if c=true then N0+F.n else 0) e:=fun e he=>⟨fun a ac=>let ⟨x,y,z⟩:=(ag e he).1 a ac;⟨x,y,fun q=>am (z q)⟩,(ag e he).2⟩
 have ai:i=0∨N0≤i:=by
  rcases K.C6 hi with rfl | ⟨a,b⟩ | ⟨k,W,rfl⟩ | ⟨U,rfl⟩
  ·exact .inl rfl
  ·have:=K.old i a b;rw [O] at this;exact this.elim
  ·exact .inr (by omega)
  ·exact .inr (by omega)
 refine⟨h.app hi al (by rw [O];exact ak) (fun e he=>⟨fun a b ac hb ay=>⟨((ah e he).1 a ac).2.1,((ah e he).1 a ac).2.2⟩,(ag e he).2⟩) (.inl ai) (fun U Z=>K.HQ U Z) (fun k W e ae ρ an=>?_) (fun k W e ae aj=>?_) (fun U e Z=>?_) (fun U e Z=>?_),ah,ai⟩
 ·subst e;rw [O] at ae;refine an.appOwn fn pos es fun m e he=>?_;have aa:k<j∨(c=true∧F.n=k):=by
   rcases K.C6 hi with q | ⟨a,b⟩ | ⟨k',az,q⟩ | ⟨U,q⟩
   ·have:=K.pos;omega
   ·omega
   ·left;omega
   ·omega
  rcases aa with aa | ⟨_,q⟩
  ·have hw:=K.work k aa;rw [O] at hw;rw [h.deaf _ hi,O];exact OW p A hw ae m e he
  ·omega
 ·subst e;rw [O] at aj;have hw:=K.work k W;rw [O] at hw;have ao:p= .DI:=by
   cases p <;> simp only [EU] at hw <;> (try exact hw.elim) <;> simp [late] at aj
   ·simp [Fam.act] at A
   ·rfl
   ·simp only [Fam.act] at A;cases A;exact ae.elim
  subst ao;simp only [Fam.act] at A;cases A;exact⟨t.size,h.Hl,.new (by rw [h.deaf _ hi,O];rfl) fn pos⟩
 ·subst e;left;have hw:=K.cls U;rw [O] at hw;have ap:p= .DY∧nx= .ph .Cb:=by
   rcases Z with rfl | Z
   ·cases p <;> simp only [Ez] at hw <;> (try exact hw.elim) <;> simp only [Fam.act] at A <;> (try (cases A;done))
    ·split at A
     ·split at A <;> cases A
     ·cases A
    ·split at A
     ·split at A <;> cases A
     ·cases A
    ·split at A <;> cases A
    ·split at A <;> cases A
    ·exact⟨rfl,rfl⟩
   ·cases nx with
    | ph q=>exact Z.elim
    | gone d=>
     exfalso;cases p <;> simp only [Ez] at hw <;> (try exact hw.elim) <;> simp only [Fam.act] at A <;> (try (cases A;done))
     ·split at A
      ·split at A <;> cases A
      ·cases A
     ·split at A
      ·split at A <;> cases A
      ·cases A
     ·split at A <;> cases A
     ·split at A <;> cases A
  obtain⟨rfl,rfl⟩:=ap;simp only [Fam.act] at A;cases A;have aq:MemOp.ofEvents (N0+F.n) fn pos #[Fam.Cu (.acquire F.sA)]= #[{g:=N0+F.n,fn,pos,act:= .mark (.acquire F.sA)}]:=by rw [ofEvents_eq];simp [Fam.Cu,MemAct.ofEvent]
  rw [aq];have ar:(t++ #[({g:=N0+F.n,fn,pos,act:= .mark (.acquire F.sA)}:MemOp)])[t.size]? =some {g:=N0+F.n,fn,pos,act:= .mark (.acquire F.sA)}:=by simp
  refine⟨t.size,by rw [act?_of ar],by simp [Trace.g?],⟨N0+F.n,by simp [Trace.g?],by rw [deaf_old (Nat.le_refl _)];have:=h.deaf _ hi;rw [O] at this;exact this⟩,fun k W=>?_⟩;have au:=K.I1 U (.inr (.inr (.inl O)));have aa:k<j:=by rw [K.cj U];exact W
  obtain⟨ρ,a,b⟩:=h.rel k aa (J3 (au k aa));exact⟨ρ,a,lt_of_act? b.act,b.appOther (g:=N0+F.n) (by simp) (by omega)⟩
 ·subst e;exfalso;have hw:=K.cls U;rw [O] at hw;cases nx with
  | ph q=>exact Z.elim
  | gone d=>
   cases p <;> simp only [Ez] at hw <;> (try exact hw.elim) <;> simp only [Fam.act] at A <;> (try (cases A;done))
   ·split at A
    ·split at A <;> cases A
    ·cases A
   ·split at A
    ·split at A <;> cases A
    ·cases A
   ·split at A <;> cases A
   ·split at A <;> cases A
theorem Cg.BS(h:Cg F N0 t0 N j c φ t)(aq:Bp F N0 N j c φ v wt sm cl)(hu:∀op∈u,op.act.touch? =none∧∀m,op.act≠ .mark m):Cg F N0 t0 N j c φ (t++u):=by
 have ag:∀g,Deaf (t++u) g=Deaf t g:=by
  intro g;obtain⟨l⟩:=u;rw [Deaf_append]
  induction l generalizing t with
  | nil=>rfl
  | cons y l ar=>
   have O:=(hu y (by simp)).2;have ai:deafStep g (Deaf t g) y=Deaf t g:=by
    unfold deafStep;split <;> first | (rename_i e;exact absurd e (O _)) | rfl
   rw [List.foldl_cons,ai];have key:∀(l:List MemOp) (d:Nat),(∀op∈l,∀m,op.act≠ .mark m)→l.foldl (deafStep g) d=d:=by
    intro l
    induction l with
    | nil=>intro d _;rfl
    | cons z l aj=>
     intro d Z;have ak:=Z z (by simp);have al:deafStep g d z=d:=by
      unfold deafStep;split <;> first | (rename_i e;exact absurd e (ak _)) | rfl
     rw [List.foldl_cons,al];exact aj d fun op A=>Z op (by simp [A])
   exact key l _ fun op A=>(hu op (by simp at A ⊢;exact .inr A)).2
 have hold:∀{y a},touchAt (t++u) y=some a→touchAt t y=some a:=by
  intro y a K;obtain⟨op,A,aa⟩:=touch_of K;rcases getElem?_append_cases A with⟨au,am⟩ | ⟨_,an⟩
  ·rw [touchAt_of am];exact aa
  ·rw [(hu op an).1] at aa;cases aa
 have ah:∀g x,t.size≤x→(t++u).g? x=some g→¬(t++u).counts x:=fun g=>JY fun op A _=>(hu op A).1;have U:∀g ρ,RelBy F.sA t g ρ→RelBy F.sA (t++u) g ρ:=fun g ρ U=>U.app fun x K ao=>ah g x K ao;refine⟨fun i hi=>by rw [ag];exact h.deaf i hi,fun i hi=>by rw [ag];exact h.above i hi,fun y a b O hb ab W i hi ac=>(h.plain y a b (hold O) hb ab W i hi ac).app _,fun y a b O hb ab W=>(h.said y a b (hold O) hb ab W).app _,
  K7 h.over fun op A=> .inr (.inr (hu op A).1),KF h.norel fun op A=>(hu op A).2 _,by simp;have:=h.Hl;omega,fun k W Z=>let ⟨ρ,a,b⟩:=h.rel k W Z;⟨ρ,a,U _ _ b⟩,
  fun ae K=>let ⟨q,ap⟩:=h.acq ae K;⟨q,ap.app fun k ρ _=>U _ ρ⟩,fun ae K=>let ⟨p,ac⟩:=h.GF ae K;⟨p,ac.app (fun k ρ _=>U _ ρ) (ah _)⟩⟩
theorem Cg.PF(h:Cg F N0 t0 N j c φ t){O:Nat→Nx}(Z:∀i,i<N→Cn (O i)=Cn (φ i))(aa:∀k,k<j→late (O (N0+k))→late (φ (N0+k)))(U:c=true→O (N0+F.n)=φ (N0+F.n)):Cg F N0 t0 N j c O t:=
 ⟨fun i hi=>by rw [Z i hi];exact h.deaf i hi,h.above,h.plain,h.said,h.over,h.norel,h.Hl,fun k W A=>h.rel k W (aa k W A),fun K A=>h.acq K (by rwa [U K] at A),fun K A=>h.GF K (by rwa [U K] at A)⟩
theorem Cg.spawn(h:Cg F N0 t0 N j c φ t)(aa:Bp F N0 N j c φ v wt sm cl)(al:c=false){W:Nat→Nx}{ae:Nat}{ag:Bool}(am:∀i,i<N→Cn (W i)=Cn (φ i))(an:Cn (W N)=0)(ao:Cn (φ 0)=0)
  (ap:∀k,k<ae→late (W (N0+k))→k<j∧late (φ (N0+k))) (ab:ag=true→N0+F.n=N∧W (N0+F.n)= .ph .BN)
  {x y:MemOp} (A:x.g=0∧x.act= .go N) (ah:y.g=N∧y.act= .start):Cg F N0 t0 (N+1) ae ag W (t++ #[x,y]):=by
 have ai:0<N:=by have:=aa.size;have:=aa.pos;omega
 have hu:∀op∈(#[x,y]:Array MemOp),op.act.touch? =none∧∀m,op.act≠ .mark m:=by
  intro op aj;simp only [List.mem_toArray,List.mem_cons,List.not_mem_nil,or_false] at aj;rcases aj with rfl | rfl
  ·rw [A.2];exact⟨rfl,by simp⟩
  ·rw [ah.2];exact⟨rfl,by simp⟩
 have K:=h.BS aa hu;have ak:∀z,Knows t 0 z→Knows (t++ #[x,y]) N z:=fun z O=>fork_knows A ah (by rw [h.deaf 0 ai];exact ao) (h.above N (Nat.le_refl _)) O;have hold:∀{z a},touchAt (t++ #[x,y]) z=some a→touchAt t z=some a:=by
  intro z a O;obtain⟨op,aq,ac⟩:=touch_of O;rcases getElem?_append_cases aq with⟨aA,ar⟩ | ⟨_,au⟩
  ·rw [touchAt_of ar];exact ac
  ·rw [(hu op au).1] at ac;cases ac
 refine⟨fun i hi=>?_,fun i hi=>K.above i (by omega),fun z a b O hb Z U i hi av=>?_,fun z a b O hb Z U=>?_,fun z g aw ay az=>?_,K.norel,K.Hl,fun k U A=>?_,fun e A=>?_,fun e A=>?_⟩
 ·rcases Nat.lt_or_ge i N with q | q
  ·rw [am i q];exact K.deaf i q
  ·obtain rfl:i=N:=by omega
   rw [an];exact K.above i (Nat.le_refl _)
 ·rcases Nat.lt_or_ge i N with q | q
  ·exact K.plain z a b O hb Z U i q av
  ·obtain rfl:i=N:=by omega
   exact ak z (h.plain z a b (hold O) hb Z U 0 ai (.inl rfl))
 ·have:=h.said z a b (hold O) hb Z U;rw [al] at this;simp only [Bool.false_eq_true,if_false] at this;split
  ·rename_i e;rw [(ab e).1];exact ak z this
  ·exact this.app _
 ·rcases K.over z g aw ay az with q | q
  ·exact .inl q
  ·exact .inr ⟨q.1,by omega⟩
 ·obtain⟨a,b⟩:=ap k U A;exact K.rel k a b
 ·have:=(ab e).2;rw [this] at A;rcases A with q | q
  ·cases q
  ·exact q.elim
 ·have:=(ab e).2;rw [this] at A;exact A.elim
end
end Pal
namespace Pal
open Go Go.Conc
open Go.ConcN (upd upd_same upd_ne sumTo sumTo_upd sumTo_upd_out sumTo_congr le_sumTo sumTo_le fork_knows RelBy)
def Dn(N:Nat)(A r:Nat→Rk):Prop:=∃i,i<N∧Rk.sub (A i) (r i)∧∀j,j≠i→A j=r j
theorem Dn.wf:∀N,WellFounded (Dn N)
 | 0=>⟨fun _=>⟨_,fun _ ⟨_,h,_⟩=>by omega⟩⟩
 | N+1=>⟨by
  have key:∀x:Rk,∀r:Nat→Rk,r N=x→Acc (Dn (N+1)) r:=by
   intro x
   induction x using Rk.wf.induction with
   | _ x U=>
    intro r
    induction r using (Dn.wf N).induction with
    | _ r W=>
     intro e
     refine⟨_,fun A ⟨i,hi,hs,K⟩=>?_⟩
     by_cases O:i=N
     ·subst O;exact U (A i) (by rw [← e];exact hs) A rfl
     ·exact W A ⟨i,by omega,hs,K⟩ (by rw [K N (Ne.symm O),e])
  exact fun r=>key _ r rfl⟩
def chain:Nat→Rk
 | 0=> .leaf
 | n+1=> .node fun _=>chain n
theorem Ol(n:Nat)(w:World):Rk.sub (chain n) (chain (n+1)):=⟨_,w,rfl,rfl⟩
def Mu:=Nat×(Nat×((Nat→Rk)×Nat))
def Mu.lt(a b:Mu):Prop:=a.1<b.1∨(a.1=b.1∧a.2.1=b.2.1∧(Dn b.2.1 a.2.2.1 b.2.2.1∨(a.2.2.1=b.2.2.1∧a.2.2.2<b.2.2.2)))
theorem Mu.wf:WellFounded Mu.lt:=⟨by
 have key:∀(A:Nat) (N:Nat) (r:Nat→Rk) (B:Nat),Acc Mu.lt (A,N,r,B):=by
  intro A
  induction A using Nat.strongRecOn with
  | _ A aa=>
   intro N r
   induction r using (Dn.wf N).induction with
   | _ r ab=>
    intro B
    induction B using Nat.strongRecOn with
    | _ B ac=>
     refine⟨_,fun⟨ae,ag,U,B'⟩ h=>?_⟩
     rcases h with h | ⟨K,O,h | ⟨W,Z⟩⟩
     ·exact aa ae h ag U B'
     ·simp only at K O h;subst K O;exact ab U h B'
     ·simp only at K O W Z;subst K O W;exact ac B' Z
 exact fun⟨A,N,r,B⟩=>key A N r B⟩
def wt(n:Nat):Nx→Nat
 | .gone _=>0
 | .ph p=>match p with
  | .Bu _=>10 | .BL=>9 | .DI=>8 | .EX=>7 | .Ef=>6 | .DF=>5 | .DT=>4 | .Cx=>3
  | .BN=>3*n+25 | .Dd m=>3*m+20 | .Eh m=>3*m+19 | .EI=>14 | .En=>13 | .BY=>12 | .DU=>11 | .C5=>10 | .ED=>9 | .DY=>8 | .Cb=>7
  | .C4 j=>5*n+60+20*(n - j) | .EC j=>5*n+59+20*(n - j) | .Ei j=>5*n+58+20*(n - j) | .DW j=>5*n+57+20*(n - j) | .Dv j=>5*n+56+20*(n - j) | .CS j=>5*n+55+20*(n - j)
  | .Dg=>5*n+60 | .Bq _ _=>2
theorem L5{F:Fam}{p:Ph}{v w sm v' w' sm':Nat}{es:Array Event}{nx:Nx}(h:F.act p v w sm=some ((v',w',sm'),es,nx)):wt F.n nx<wt F.n (.ph p):=by
 cases p <;> simp only [Fam.act] at h <;> (try (cases h;done))
 ·cases h;simp [wt]
 ·cases h;simp [wt]
 ·split at h
  ·cases h;split <;> simp [wt]
  ·cases h
 ·split at h
  ·cases h;simp [wt]
  ·cases h
 ·split at h
  ·cases h;simp [wt]
  ·cases h
 ·split at h
  ·cases h;simp [wt]
  ·cases h
 ·cases h;simp [wt]
 ·split at h
  ·cases h;split <;> simp [wt] <;> omega
  ·cases h
 ·split at h
  ·split at h <;> cases h <;> simp [wt] <;> omega
  ·cases h
 ·cases h;simp [wt]
 ·split at h
  ·cases h;simp [wt]
  ·cases h
 ·split at h
  ·cases h;simp [wt]
  ·cases h
 ·cases h;simp [wt]
 ·cases h;simp [wt]
 ·cases h;simp [wt]
 ·split at h
  ·cases h;split <;> simp [wt]
  ·cases h
 ·cases h;simp [wt]
 ·cases h;simp [wt]
 all_goals cases h;simp [wt]
inductive BT (P:Program) (F:Fam) (main:Bool):Nx→Rk→Bool→Goroutine→St→Prop
 | walk {p:Ph} {r:Rk} {g:Goroutine} {s:St}:main=Fam.B6 p→(Fam.Cj p=true→s= .quiet)→Jr P main (JQ (Stop P F p)) r g s→BT P F main (.ph p) r true g s
 | again {A:List Nat} {vs:List Value} {r:Rk} {g:Goroutine} {s:St} {z:Value}:main=true→Stop P F (.Bq A vs) g s→BT P F main (.ph (.Bq A vs)) r true {parked g #[rcase F.ch z] (.recv true) with status:= .running} s
 | CZ {A:List Nat} {vs:List Value} {r:Rk} {g:Goroutine} {s:St} {z:Value}:main=true→Stop P F (.Bq A vs) g s→BT P F main (.ph (.Bq A vs)) r false (parked g #[rcase F.ch z] (.recv true)) s
 | Df {k:Nat} {r:Rk} {g:Goroutine} {s:St} {v z:Value}:main=false→F.msg k v s.E→s.q=false→Way P false (Stop P F .BL) (served g undef) s→BT P F main (.ph (.Bu k)) r false (parked g #[scase F.ch v z] .send) s
 | blk {r:Rk} {g:Goroutine} {s:St}:main=false→Stop P F .BY g s→BT P F main (.ph .BY) r false {g with status:= .blocked} s
 | gone {q d:Nat} {g:Goroutine}:main=false→QuitsD P q d g→BT P F main (.gone d) (chain q) true g .quiet
section
variable {P:Program}{F:Fam}{main:Bool}
theorem Jr.running{p:Ph}{r:Rk}{g:Goroutine}{s:St}(h:Jr P main (JQ (Stop P F p)) r g s):g.status= .running:=by
 cases r with
 | leaf=>obtain⟨s₀,_,hs⟩:=h;exact hs.law.run
 | node f=>
  rcases h with⟨s₀,_,hs⟩ | ⟨A,_⟩
  ·exact hs.law.run
  ·exact A
theorem Jr.at_{Q:GP}{r:Rk}{g:Goroutine}{s:St}(h:Q g s):Jr P main Q r g s:=by
 cases r with
 | leaf=>exact h
 | node f=>exact .inl h
theorem BT.awake{x:Nx}{r:Rk}{b:Bool}{g:Goroutine}{s:St}(h:BT P F main x r b g s):Go.Conc.awake g:=by
 cases h with
 | walk _ _ A=>exact awake_of (.inl A.running)
 | again _ _=>exact awake_of (.inl rfl)
 | CZ _ _=>exact awake_of (.inr (.inl rfl))
 | Df _ _ _ _=>exact awake_of (.inr (.inl rfl))
 | blk _ _=>exact awake_of (.inr (.inl rfl))
 | gone _ K=>exact awake_of (K.status.elim .inl fun x=> .inr (.inr x))
theorem Nt{g:Goroutine}(h:g.status= .running):{({g with status:= .blocked}:Goroutine) with status:= .running}=g:=by
 obtain⟨a,b,c,d,e⟩:=g;simp only at h;subst h;rfl
theorem BT.woken{x:Nx}{r:Rk}{b:Bool}{o:Goroutine}{s:St}(h:BT P F main x r b o s){g g':Goroutine}{w':World}{cl:Bool}{k:Nat}(W:F.ChanAt w' cl k)(ai:cl=true→∀k,x≠ .ph (.Bu k)):
  ∃Z,BT P F main x r Z (Go.Conc.woken P g g' w' o) s∧(b=true→Z=true)∧(mayWake P g=true→g'.status= .running→(x= .ph .BY∨cl=true)→Z=true):=by
 have hw:∀(o:Goroutine),mayWake P g=true→g'.status= .running→Go.Conc.woken P g g' w' o=o.again w':=by
  intro o A O;unfold Go.Conc.woken;rw [if_pos (by simp [A,O])]
 have U:∀(o:Goroutine),Go.Conc.woken P g g' w' o=o.again w'∨Go.Conc.woken P g g' w' o=o:=by
  intro o;unfold Go.Conc.woken;split
  ·exact .inl rfl
  ·exact .inr rfl
 cases h with
 | walk A O aa=>exact⟨true,by rw [woken_run aa.running];exact .walk A O aa,fun _=>rfl,fun _ _ _=>rfl⟩
 | again A hs=>exact⟨true,by rw [woken_run rfl];exact .again A hs,fun _=>rfl,fun _ _ _=>rfl⟩
 | @CZ ak vs _ go _ z A hs=>
  cases cl with
  | false=>
   have:=again_recv_open (g:=go) (z:=z) (sh:= .recv true) (w:=w') W;rcases U (parked go #[rcase F.ch z] (.recv true)) with e | e
   ·exact⟨false,by rw [e,this];exact .CZ A hs,fun e=>e,fun _ _ h=>by simp at h⟩
   ·exact⟨false,by rw [e];exact .CZ A hs,fun e=>e,fun _ _ h=>by simp at h⟩
  | true=>
   have:=again_recv_closed (g:=go) (z:=z) (sh:= .recv true) (w:=w') W;by_cases K:mayWake P g=true∧g'.status= .running
   ·exact⟨true,by rw [hw _ K.1 K.2,this];exact .again A hs,fun e=>rfl,fun _ _ _=>rfl⟩
   ·rcases U (parked go #[rcase F.ch z] (.recv true)) with e | e
    ·exact⟨true,by rw [e,this];exact .again A hs,fun _=>rfl,fun a b=>absurd ⟨a,b⟩ K⟩
    ·exact⟨false,by rw [e];exact .CZ A hs,fun e=>e,fun a b=>absurd ⟨a,b⟩ K⟩
 | @Df k' _ go _ v z A O ab ac=>
  cases cl with
  | true=>exact absurd rfl (ai rfl k')
  | false=>
   have:=again_send_open (g:=go) (v:=v) (z:=z) (sh:= .send) (w:=w') W;rcases U (parked go #[scase F.ch v z] .send) with e | e
   ·exact⟨false,by rw [e,this];exact .Df A O ab ac,fun e=>e,fun _ _ h=>by simp at h⟩
   ·exact⟨false,by rw [e];exact .Df A O ab ac,fun e=>e,fun _ _ h=>by simp at h⟩
 | @blk _ go _ A hs=>
  have ae:({go with status:= .blocked}:Goroutine).again w'=go:=by
   have:=hs.law.offers;have aj:({go with status:= .blocked}:Goroutine).again w'={({go with status:= .blocked}:Goroutine) with status:= .running}:=by simp [Goroutine.again,this]
   rw [aj];exact Nt hs.law.run
  have ag:BT P F main (.ph .BY) r true go s:= .walk (p:= .BY) (by rw [A];rfl) (by simp [Fam.Cj]) (Jr.at_ ⟨s,.refl _,hs⟩);by_cases K:mayWake P g=true∧g'.status= .running
  ·exact⟨true,by rw [hw _ K.1 K.2,ae];exact ag,fun _=>rfl,fun _ _ _=>rfl⟩
  ·rcases U ({go with status:= .blocked}:Goroutine) with e | e
   ·exact⟨true,by rw [e,ae];exact ag,fun _=>rfl,fun a b=>absurd ⟨a,b⟩ K⟩
   ·exact⟨false,by rw [e];exact .blk A hs,fun e=>e,fun a b=>absurd ⟨a,b⟩ K⟩
 | gone A ah=>exact⟨true,by rw [woken_quitsD ah];exact .gone A ah,fun _=>rfl,fun _ _ _=>rfl⟩
end
structure Base where
 N0:Nat
 t0:Nat
 E0:LH
 w0:World
structure Inv (P:Program) (F:Fam) (B:Base) (gs:Array Goroutine) (w:World) (t:Trace) (φ:Nat→Nx) (r:Nat→Rk) (bt:Nat→Bool) (S:Nat→St) (Sh:Nat→Prop) (j:Nat) (c:Bool) (v wt sm:Nat) (cl:Bool) (k:Nat):Prop where
 A0:Bp F B.N0 gs.size j c φ v wt sm cl
 Cy:Cg F B.N0 B.t0 gs.size j c φ t
 Cz:∀i g,gs[i]? =some g→BT P F (i==0) (φ i) (r i) (bt i) g (S i)
 BD:Br t w gs.size S Sh
 Fb:Sh F.wg
 DJ:Sh F.ch
 ne:F.wg≠F.ch
 wg:F.WG w v wt sm
 Em:F.ChanAt w cl k
 It:bt 0=false→cl=false∧∀i k',i<gs.size→φ i= .ph (.Bu k')→bt i=true
 blk:c=true→bt (B.N0+F.n)=false→sm=0
 le:Le B.E0 (S 0).E
 tape:w.tape=B.w0.tape
 os:w.os=B.w0.os
 output:w.output=B.w0.output
def bit(b:Bool):Nat:=if b then 1 else 0
def mu(F:Fam)(N:Nat)(φ:Nat→Nx)(r:Nat→Rk)(bt:Nat→Bool):Mu:=(sumTo N fun i=>wt F.n (φ i),N,r,sumTo N fun i=>bit (bt i))
section
variable {P:Program}{F:Fam}{B:Base}{gs:Array Goroutine}{w w':World}{t:Trace}{φ:Nat→Nx}{r:Nat→Rk}{bt:Nat→Bool}{S:Nat→St}{Sh:Nat→Prop}{j:Nat}{c:Bool}{v wt' sm v₁ wt₁ sm₁:Nat}{cl cl₁:Bool}{k k₁:Nat}
theorem Inv.at_(h:Inv P F B gs w t φ r bt S Sh j c v wt' sm cl k)(d:Nat):Inv P F B gs (w.at d) t φ r bt S Sh j c v wt' sm cl k:=
 have A:Br t (w.at d) gs.size S Sh:=by
  have:=h.BD.mute (u:= #[]) (w':=w.at d) (g:=0) (by simp) (by simp) (by simp) rfl;simpa using this
 {h with BD:=A}
theorem Inv.go(h:Inv P F B gs w t φ r bt S Sh j c v wt' sm cl k){i:Nat}{g g':Goroutine}{es:Array Event}{x:Nx}{ρ:Rk}{s':St}(hi:gs[i]? =some g)
  (ao:Bp F B.N0 gs.size j c (upd φ i x) v₁ wt₁ sm₁ cl₁)
  (ap:Cg F B.N0 B.t0 gs.size j c (upd φ i x) (t++MemOp.ofEvents i g.frame.fn g.frame.place es))
  (aq:BT P F (i==0) x ρ true g' s')
  (hC:Br (t++MemOp.ofEvents i g.frame.fn g.frame.place es) w' gs.size (upd S i s') Sh)
  (ar:F.WG w' v₁ wt₁ sm₁) (ai:F.ChanAt w' cl₁ k₁)
  (au:cl₁=cl∨(mayWake P g=true∧g'.status= .running))
  (av:cl₁=true→∀aj k',aj<gs.size→φ aj≠ .ph (.Bu k'))
  (aw:sm₁=sm∨sm₁=0∨(mayWake P g=true∧g'.status= .running∧φ (B.N0+F.n)= .ph .BY)∨(c=true→bt (B.N0+F.n)=true))
  (ay:i=0→Le (S 0).E s'.E) (az:w'.tape=w.tape) (aA:w'.os=w.os) (aB:w'.output=w.output) (aL:∀k',x= .ph (.Bu k')→φ i= .ph (.Bu k')):
  ∃K,Inv P F B ((gs.map (woken P g g' w')).setIfInBounds i g') w' (t++MemOp.ofEvents i g.frame.fn g.frame.place es) (upd φ i x) (upd r i ρ) K (upd S i s') Sh j c v₁ wt₁ sm₁ cl₁ k₁:=by
 have aC:i<gs.size:=(Array.getElem?_eq_some_iff.1 hi).1;have aa:((gs.map (woken P g g' w')).setIfInBounds i g').size=gs.size:=by simp
 have ak:∀a,∃Z,(a=i→Z=true)∧(a≠i→∀o,gs[a]? =some o→BT P F (a==0) (φ a) (r a) Z (woken P g g' w' o) (S a)∧(bt a=true→Z=true)∧(mayWake P g=true→g'.status= .running→(φ a= .ph .BY∨cl₁=true)→Z=true)):=by
  intro a;by_cases e:a=i
  ·exact⟨true,fun _=>rfl,fun q=>absurd e q⟩
  ·cases A:gs[a]? with
   | none=>exact⟨true,fun _=>rfl,fun _ o q=>by cases q⟩
   | some o=>
    have U:a<gs.size:=(Array.getElem?_eq_some_iff.1 A).1;obtain⟨Z,aD,aE,aF⟩:=(h.Cz a o A).woken (g:=g) (g':=g') ai fun q k'=>av q a k' U;exact⟨Z,fun q=>absurd q e,fun _ o' q=>by cases q;exact⟨aD,aE,aF⟩⟩
 let K:Nat→Bool:=fun a=>Classical.choose (ak a);have hb:∀a,(a=i→K a=true)∧(a≠i→∀o,gs[a]? =some o→BT P F (a==0) (φ a) (r a) (K a) (woken P g g' w' o) (S a)∧(bt a=true→K a=true)∧(mayWake P g=true→g'.status= .running→(φ a= .ph .BY∨cl₁=true)→K a=true)):=fun a=>Classical.choose_spec (ak a);have ab:∀a,a<gs.size→bt a=true→K a=true:=by
  intro a U aG;by_cases e:a=i
  ·exact(hb a).1 e
  ·exact((hb a).2 e _ (Array.getElem?_eq_getElem U)).2.1 aG
 refine⟨K,by rw [aa];exact ao,by rw [aa];exact ap,fun a o A=>?_,by rw [aa];exact hC,h.Fb,h.DJ,h.ne,ar,ai,fun O=>⟨?_,fun a k' U al=>?_⟩,fun ac O=>?_,fun b o A=>?_,az.trans h.tape,aA.trans h.os,aB.trans h.output⟩
 ·by_cases e:a=i
  ·subst e;rw [Array.getElem?_setIfInBounds_self_of_lt (by simpa using aC)] at A;obtain rfl:=Option.some.inj A;rw [upd_same,upd_same,upd_same,(hb a).1 rfl];exact aq
  ·rw [Array.getElem?_setIfInBounds_ne (Ne.symm e),Array.getElem?_map] at A;obtain⟨o',aH,rfl⟩:=Option.map_eq_some_iff.1 A;rw [upd_ne _ _ e,upd_ne _ _ e,upd_ne _ _ e];exact((hb a).2 e o' aH).1
 ·have ae:0<gs.size:=by omega
  have aI:0≠i:=fun e=>by have:=(hb 0).1 e;rw [O] at this;cases this
  have W:bt 0=false:=by
   cases q:bt 0 with
   | false=>rfl
   | true=>have:=ab 0 ae q;rw [O] at this;cases this
  cases am:cl₁ with
  | false=>rfl
  | true=>
   rcases au with e | ⟨ag,ah⟩
   ·have:=(h.It W).1;rw [← e,am] at this;cases this
   ·have:=((hb 0).2 aI _ (Array.getElem?_eq_getElem ae)).2.2 ag ah (.inr am);rw [O] at this;cases this
 ·rw [aa] at U;have ae:0<gs.size:=by omega
  have W:bt 0=false:=by
   cases q:bt 0 with
   | false=>rfl
   | true=>have:=ab 0 ae q;rw [O] at this;cases this
  by_cases e:a=i
  ·exact(hb a).1 e
  ·rw [upd_ne _ _ e] at al;exact ab a U ((h.It W).2 a k' U al)
 ·have an:B.N0+F.n<gs.size:=by have:=h.A0.size;have:=h.A0.cj ac;rw [ac] at*;simp at*;omega
  have aJ:B.N0+F.n≠i:=fun e=>by have:=(hb _).1 e;rw [O] at this;cases this
  have W:bt (B.N0+F.n)=false:=by
   cases q:bt (B.N0+F.n) with
   | false=>rfl
   | true=>have:=ab _ an q;rw [O] at this;cases this
  rcases aw with e | e | ⟨ag,ah,aK⟩ | e
  ·rw [e];exact h.blk ac W
  ·exact e
  ·have:=((hb _).2 aJ _ (Array.getElem?_eq_getElem an)).2.2 ag ah (.inl aK);rw [O] at this;cases this
  ·rw [e ac] at W;cases W
 ·by_cases e:i=0
  ·subst e;rw [upd_same];exact ay rfl b o (h.le b o A)
  ·rw [upd_ne _ _ (Ne.symm e)];exact h.le b o A
end
end Pal
namespace Pal
open Go Go.Conc
open Go.ConcN (upd upd_same upd_ne sumTo sumTo_upd sumTo_upd_out sumTo_congr le_sumTo sumTo_le fork_knows RelBy)
def Over(P:Program)(F:Fam)(B:Base)(gs:Array Goroutine)(w:World)(t:Trace):Prop:=
 ∃q Sh g s,DK P gs w t q Sh g s∧F.fin g s∧Le B.E0 s.E∧w.tape=B.w0.tape∧w.os=B.w0.os∧w.output=B.w0.output
def Ey(P:Program)(F:Fam)(B:Base)(gs:Array Goroutine)(w:World)(sl:Option (Nat×Nat))(t:Trace)(i:Nat)(A:Mu):Prop:=
 ∃gs' w' K u,runT P (crowd gs w sl) i=(.next (crowd gs' w' K),u)∧
  ((∃φ r bt S Sh j c v wt' sm cl k,Inv P F B gs' w' (t++u) φ r bt S Sh j c v wt' sm cl k∧Mu.lt (mu F gs'.size φ r bt) A)∨Over P F B gs' w' (t++u))
section
variable {P:Program}{F:Fam}{B:Base}{gs:Array Goroutine}{w w':World}{sl:Option (Nat×Nat)}{t:Trace}{φ:Nat→Nx}{r:Nat→Rk}{bt:Nat→Bool}{S:Nat→St}{Sh:Nat→Prop}{j:Nat}{c:Bool}{v wt' sm v₁ wt₁ sm₁:Nat}{cl cl₁:Bool}{k k₁:Nat}
theorem MV{N:Nat}{φ A:Nat→Nx}{r O:Nat→Rk}{b U:Nat→Bool}{K:Nat}(h:(sumTo K fun i=>wt F.n (A i))<sumTo N fun i=>wt F.n (φ i)):Mu.lt (mu F K A O U) (mu F N φ r b):= .inl h
theorem Q5{N i:Nat}{x:Nx}{ρ:Rk}{A:Nat→Bool}(hi:i<N)(h:wt F.n x<wt F.n (φ i)∨(wt F.n x=wt F.n (φ i)∧Rk.sub ρ (r i))):Mu.lt (mu F N (upd φ i x) (upd r i ρ) A) (mu F N φ r bt):=by
 have:=sumTo_upd φ x (wt F.n) hi;rcases h with h | ⟨U,K⟩
 ·exact .inl (by show(sumTo N fun a=>wt F.n (upd φ i x a))<sumTo N fun a=>wt F.n (φ a);omega)
 ·exact .inr ⟨by show(sumTo N fun a=>wt F.n (upd φ i x a))=sumTo N fun a=>wt F.n (φ a);omega,rfl,.inl ⟨i,hi,by show Rk.sub (upd r i ρ i) _;rw [upd_same];exact K,fun a O=>upd_ne _ _ O⟩⟩
theorem Inv.go'(h:Inv P F B gs w t φ r bt S Sh j c v wt' sm cl k){i:Nat}{g g':Goroutine}{es:Array Event}{x:Nx}{ρ:Rk}{s':St}(hi:gs[i]? =some g)(K:stepG P (i==0) g w= .go g' w' es)
  (O:Bp F B.N0 gs.size j c (upd φ i x) v₁ wt₁ sm₁ cl₁)
  (U:Cg F B.N0 B.t0 gs.size j c (upd φ i x) (t++MemOp.ofEvents i g.frame.fn g.frame.place es))
  (W:BT P F (i==0) x ρ true g' s')
  (hC:Br (t++MemOp.ofEvents i g.frame.fn g.frame.place es) w' gs.size (upd S i s') Sh)
  (Z:F.WG w' v₁ wt₁ sm₁) (aa:F.ChanAt w' cl₁ k₁)
  (ab:cl₁=cl∨(mayWake P g=true∧g'.status= .running))
  (ac:cl₁=true→∀A k',A<gs.size→φ A≠ .ph (.Bu k'))
  (ae:sm₁=sm∨sm₁=0∨(mayWake P g=true∧g'.status= .running∧φ (B.N0+F.n)= .ph .BY)∨(c=true→bt (B.N0+F.n)=true))
  (ag:i=0→Le (S 0).E s'.E) (ah:w'.tape=w.tape) (ai:w'.os=w.os) (aj:w'.output=w.output) (ak:∀k',x= .ph (.Bu k')→φ i= .ph (.Bu k'))
  (hm:wt F.n x<wt F.n (φ i)∨(wt F.n x=wt F.n (φ i)∧Rk.sub ρ (r i))):Ey P F B gs w sl t i (mu F gs.size φ r bt):=by
 obtain⟨an,al⟩:=h.go hi O U W hC Z aa ab ac ae ag ah ai aj ak;refine⟨_,_,_,_,runT_crowd_go hi K,.inl ⟨_,_,_,_,_,_,_,_,_,_,_,_,al,?_⟩⟩;have am:((gs.map (woken P g g' w')).setIfInBounds i g').size=gs.size:=by simp
 rw [am];exact Q5 (Array.getElem?_eq_some_iff.1 hi).1 hm
theorem Inv.noSend(h:Inv P F B gs w t φ r bt S Sh j c v wt' sm cl k)(W:cl=true):∀A k',A<gs.size→φ A≠ .ph (.Bu k'):=by
 intro A k' O e;have hm:=h.A0.mode;subst W;have Z:v=0:=by
  split at hm
  ·cases U:φ (B.N0+F.n) with
   | gone d=>rw [U] at hm;exact hm.2.2.2.2.1
   | ph p=>rw [U] at hm;cases p <;> simp [BI] at hm
  ·simp [BI] at hm
 have aa:=h.A0.cnt;have:=le_sumTo (f:=fun a=>cU (φ a)) O;simp only [e,cU] at this;have ab:(sumTo gs.size fun a=>cU (φ a))=0:=by omega
 have K:cU (φ A)≤sumTo gs.size fun a=>cU (φ a):=le_sumTo (f:=fun a=>cU (φ a)) O;rw [e] at K;simp only [cU] at K;have ac:1≤sumTo gs.size fun a=>cU (φ a):=K;omega
theorem Cg.PX{F:Fam}{N0 t0 N j:Nat}{c:Bool}{φ:Nat→Nx}{t:Trace}(h:Cg F N0 t0 N j c φ t)(A:Bp F N0 N j c φ v wt' sm cl){i:Nat}(hi:i<N){fn:FuncId}{pos:String}{es:Array Event}{p:Ph}(U:φ i= .ph p)
  (W:∀e∈es,(∀a b,(MemAct.ofEvent e).touch? =some a→Ca a.loc=some b→b≠F.wg∧b≠F.ch)∧e.loc≠ .mark (.release F.sA)∧e.loc≠ .mark .disable∧e.loc≠ .mark .enable)
  (ab:Fam.Cj p=true→es= #[]):Cg F N0 t0 N j c φ (t++MemOp.ofEvents i fn pos es):=by
 have ac:i=0∨N0≤i:=by
  rcases A.C6 hi with rfl | ⟨a,b⟩ | ⟨k,aa,rfl⟩ | ⟨O,rfl⟩
  ·exact .inl rfl
  ·have:=A.old i a b;rw [U] at this;exact this.elim
  ·exact .inr (by omega)
  ·exact .inr (by omega)
 have:=h.app (x:=φ i) (fn:=fn) (pos:=pos) (es:=es) hi A.jn (deafBehind_still (fun e he=>⟨(W e he).2.2.1,(W e he).2.2.2⟩) _) (fun e he=>⟨fun a b ae hb ag=>absurd ag (by have:=(W e he).1 a b ae hb;rintro(q | q);exact this.1 q;exact this.2 q),(W e he).2.1⟩) (.inl ac)
  (fun O K=>A.HQ O K) (fun k aa e Z ρ ah=>?_) (fun k aa e Z ai=>absurd Z ai) (fun O e K=> .inr K) (fun O e K=>by rw [U] at K;exact K.elim)
 ·rwa [IU] at this
 ·
  have ak:=A.size;have al:=A.jn;have aj:k<j:=by
   rcases A.C6 hi with q | ⟨a,b⟩ | ⟨k',am,q⟩ | ⟨O,q⟩
   ·have:=A.pos;omega
   ·omega
   ·omega
   ·omega
  have hw:=A.work k aj;rw [← e,U] at hw;rw [U] at Z;have:es= #[]:=ab (by cases p <;> simp only [EU] at hw <;> (try exact hw.elim) <;> first | rfl | exact Z.elim)
  subst this;have:MemOp.ofEvents i fn pos #[]= #[]:=by rw [ofEvents_eq];simp
  rw [this];simpa using ah
theorem Inv.own(h:Inv P F B gs w t φ r bt S Sh j c v wt' sm cl k){i:Nat}{g g':Goroutine}{es:Array Event}{p:Ph}{ρ:Rk}{s':St}(hi:gs[i]? =some g)(K:φ i= .ph p)(ae:(i==0)=Fam.B6 p)(aa:Fam.Cj p=true→S i= .quiet)
  (ag:stepG P (i==0) g w= .go g' w' es) (ah:Jr P (i==0) (JQ (Stop P F p)) ρ g' s') (ai:Fits s' w') (A:Fr (S i) w s' w') (U:∀e∈es,Ev (S i) w w' e) (ab:S i= .quiet→s'= .quiet∧w'=w∧es= #[]) (aj:Rk.sub ρ (r i)):
  Ey P F B gs w sl t i (mu F gs.size φ r bt):=by
 have O:i<gs.size:=(Array.getElem?_eq_some_iff.1 hi).1;have ac:upd φ i (.ph p)=φ:=by rw [← K];exact IU _ _
 have W:=h.BD.sh i O F.wg h.Fb;have Z:=h.BD.sh i O F.ch h.DJ;have ak:=h.BD.C3 F.wg h.Fb;have al:=h.BD.C3 F.ch h.DJ;have am:∀b wr,Dq (S i) w w' b wr→b≠F.wg∧b≠F.ch:=by
  intro b wr ht;constructor
  ·rintro rfl;rcases ht.2 with q | q | ⟨q,_⟩
   ·exact q W.1
   ·omega
   ·exact q W.2
  ·rintro rfl;rcases ht.2 with q | q | ⟨q,_⟩
   ·exact q Z.1
   ·omega
   ·exact q Z.2
 refine h.go' hi ag (k₁:=k) (x:= .ph p) (ρ:=ρ) (s':=s') (by rw [ac];exact h.A0) (by
   rw [ac]
   refine h.Cy.PX h.A0 O K (fun e he=>⟨fun a b an hb=>am b a.write (HF (U e he) an hb),?_,?_,?_⟩) fun q=>(ab (aa q)).2.2
   all_goals
    intro ao
    have:=U e he
    unfold Ev at this
    rw [ao] at this
    exact this)
  (.walk ae (fun q=>(ab (aa q)).1) ah) (h.BD.own O ai A U) ?_ ?_ (.inl rfl) (fun q=>h.noSend q) (.inl rfl) (fun e=>by subst e;exact fun b o ap=>A.ext b o ap) A.tape A.os A.output (fun k' e=>by rw [K];exact e) (.inr ⟨by rw [K],aj⟩)
 ·show w'.heap[F.wg]? =_;rw [A.keep _ ak W.1];exact h.wg
 ·show w'.heap[F.ch]? =_;rw [A.keep _ al Z.1];exact h.Em
theorem Inv.slip(h:Inv P F B gs w t φ r bt S Sh j c v wt' sm cl k){i:Nat}{g:Goroutine}(hi:gs[i]? =some g)(O:g.status= .running){d q:Nat}(A:φ i= .gone d)(U:r i=chain q)(W:(i==0)=false)(ab:QuitsD P q d g)(ai:S i= .quiet):
  Ey P F B gs w sl t i (mu F gs.size φ r bt):=by
 have ac:i<gs.size:=(Array.getElem?_eq_some_iff.1 hi).1;cases q with
 | zero=>rw [ab.1] at O;cases O
 | succ q=>
  rcases ab with⟨aj,_⟩ | ⟨_,g',es,hm,ak,al⟩
  ·rw [aj] at O;cases O
  have am:∀op∈MemOp.ofEvents i g.frame.fn g.frame.place es,op.act.touch? =none:=fun op K=>by obtain⟨e,he,rfl⟩:=mem_ofEvents K;exact touch_mute (hm e he)
  have an:∀e∈es,e.loc≠ .mark (.release F.sA):=by
   intro e he ae;have:=hm e he;obtain⟨loc,wr,ar⟩:=e;simp only at ae;subst ae;simp [Event.mute] at this
  refine h.go' hi (by rw [W];exact ak w) (x:= .gone (deafBehind d es)) (ρ:=chain q) (s':= .quiet) (h.A0.leave ac A) ?_ (.gone W al) ?_ h.wg h.Em (.inl rfl) (fun q=>h.noSend q) (.inl rfl) (fun e=>by subst e;simp at W) rfl rfl rfl (by simp) (.inr ⟨by rw [A];rfl,by rw [U];exact Ol q w⟩)
  ·refine h.Cy.app ac h.A0.jn (by rw [A];rfl) (fun e he=>⟨fun a b ag=>(by rw [touch_mute (hm e he)] at ag;cases ag),an e he⟩) (.inr fun e he=>touch_mute (hm e he)) (fun Z aa=>h.A0.HQ Z aa) (fun k ao e ap ρ U=>?_) (fun k ao e ap ah=>by rw [A] at ah;exact absurd trivial ah) (fun Z e aa=> .inr (.inr (by rw [A];trivial))) (fun Z e aa=> .inr ⟨by rw [A];trivial,fun e he=>touch_mute (hm e he)⟩);exact U.appOwn _ _ es fun m e he=> .inl (touch_mute (hm e (Array.mem_of_getElem? he)))
  ·have aq:upd S i .quiet=S:=by rw [← ai];exact IU _ _
   rw [aq];exact h.BD.mute (g:=i) (fun op K=>by obtain⟨e,_,rfl⟩:=mem_ofEvents K;rfl) am (fun op K=>by obtain⟨e,he,rfl⟩:=mem_ofEvents K;exact low_mute (hm e he) _) rfl
theorem Bp.enabled{N0 N:Nat}(h:Bp F N0 N j c φ v wt' sm cl){i:Nat}(hi:i<N){p:Ph}(A:φ i= .ph p)(ak:∀k,p≠ .Bu k)(al:∀k,p≠ .CS k)(am:p≠ .Dg)(an:∀ao vs,p≠ .Bq ao vs)(ap:p≠ .Cb)(aq:p= .BY→sm=1):
  ∃v' w' sm' es nx,F.act p v wt' sm=some ((v',w',sm'),es,nx):=by
 have hm:=h.mode;have aw:=h.M9;have ay:=h.FD;have K:=h.cnt;have Z:cU (φ i)≤sumTo N fun a=>cU (φ a):=le_sumTo (f:=fun a=>cU (φ a)) hi;have aa:cL (φ i)≤sumTo N fun a=>cL (φ a):=le_sumTo (f:=fun a=>cL (φ a)) hi;have ag:cS (φ i)≤sumTo N fun a=>cS (φ a):=le_sumTo (f:=fun a=>cS (φ a)) hi;rw [A] at Z aa ag;have ar:wt'≤1:=by
  generalize (if c=true then φ (N0+F.n) else Nx.ph .BN)=y at hm
  cases y with
  | gone d=>simp only [BI] at hm;omega
  | ph q=>cases q <;> simp only [BI] at hm <;> (try exact hm.elim) <;> omega
 have ab:1≤(sumTo N fun a=>cL (φ a))+(sumTo N fun a=>cS (φ a))→v=0∧sm=0∧wt'=sumTo N fun a=>cL (φ a):=by
  intro hh;generalize (if c=true then φ (N0+F.n) else Nx.ph .BN)=y at hm
  cases y with
  | gone d=>simp only [BI] at hm;omega
  | ph q=>cases q <;> simp only [BI] at hm <;> (try exact hm.elim) <;> omega
 have ac:∀x,φ i= .ph x→Ez (.ph x)→c=true∧(if c=true then φ (N0+F.n) else Nx.ph .BN)= .ph x:=by
  intro x U ah;rcases h.C6 hi with rfl | ⟨a,b⟩ | ⟨k,ae,rfl⟩ | ⟨K,rfl⟩
  ·obtain⟨q,O,W⟩:=h.main;rw [U] at O;cases O;cases x <;> simp [Ex] at W <;> exact ah.elim
  ·have:=h.old i a b;rw [U] at this;exact this.elim
  ·have:=h.work k ae;rw [U] at this;cases x <;> simp [EU] at this <;> exact ah.elim
  ·exact⟨K,by rw [if_pos K];exact U⟩
 cases p <;> simp only [Fam.act]
 ·exact absurd rfl (ak _)
 ·exact⟨_,_,_,_,_,rfl⟩
 ·exact⟨_,_,_,_,_,rfl⟩
 ·simp only [cU] at Z;have:1≤v:=by
   have az:1≤sumTo N fun a=>cU (φ a):=Z;omega
  rw [if_pos ⟨this,by omega,ar⟩];exact⟨_,_,_,_,_,rfl⟩
 ·have au:1≤sumTo N fun a=>cL (φ a):=aa;have:=ab (by omega);rw [if_pos ⟨this.1,by omega⟩];exact⟨_,_,_,_,_,rfl⟩
 ·have au:1≤sumTo N fun a=>cL (φ a):=aa;have:=ab (by omega);rw [if_pos ⟨this.1,by omega⟩];exact⟨_,_,_,_,_,rfl⟩
 ·have aA:1≤sumTo N fun a=>cS (φ a):=ag;have:=ab (by omega);rw [if_pos this.2.1];exact⟨_,_,_,_,_,rfl⟩
 ·exact⟨_,_,_,_,_,rfl⟩
 ·obtain⟨ai,e⟩:=ac _ A trivial;rw [e] at hm;rw [if_pos ⟨hm.2.2.2.2.2,hm.2.2.2.1⟩];exact⟨_,_,_,_,_,rfl⟩
 ·obtain⟨ai,e⟩:=ac _ A trivial;rw [e] at hm;rw [if_pos ⟨hm.2.2.2.2.2.1,hm.2.2.2.2.2.2,hm.2.2.2.1⟩];split <;> exact⟨_,_,_,_,_,rfl⟩
 ·exact⟨_,_,_,_,_,rfl⟩
 ·rw [if_pos (aq rfl)];exact⟨_,_,_,_,_,rfl⟩
 ·obtain⟨ai,e⟩:=ac _ A trivial;rw [e] at hm;rw [if_pos ⟨hm.2.2.2.2.1,hm.2.2.2.1⟩];exact⟨_,_,_,_,_,rfl⟩
 ·exact⟨_,_,_,_,_,rfl⟩
 ·exact⟨_,_,_,_,_,rfl⟩
 ·exact absurd rfl ap
 ·exact⟨_,_,_,_,_,rfl⟩
 ·have av:c=false∧v≤j∧j<F.n:=by
   rcases h.C6 hi with rfl | ⟨a,b⟩ | ⟨k,ae,rfl⟩ | ⟨K,rfl⟩
   ·obtain⟨q,O,W⟩:=h.main;rw [A] at O;cases O;have aj:=h.Fe;rw [A] at aj;exact⟨W.2.2,by simpa [pend] using aj,W.2.1⟩
   ·have:=h.old i a b;rw [A] at this;exact this.elim
   ·have:=h.work k ae;rw [A] at this;exact this.elim
   ·have:=h.cls K;rw [A] at this;exact this.elim
  rw [av.1] at hm;simp only [Bool.false_eq_true,if_false,BI] at hm;rw [if_pos ⟨by omega,hm.2.2.2.1⟩];exact⟨_,_,_,_,_,rfl⟩
 ·exact⟨_,_,_,_,_,rfl⟩
 ·exact⟨_,_,_,_,_,rfl⟩
 ·exact absurd rfl (al _)
 ·exact absurd rfl am
 ·exact absurd rfl (an _ _)
 all_goals exact⟨_,_,_,_,_,rfl⟩
end
end Pal
namespace Pal
open Go Go.Conc
open Go.ConcN (upd upd_same upd_ne sumTo sumTo_upd sumTo_upd_out sumTo_congr le_sumTo sumTo_le fork_knows RelBy)
theorem IY{α:Type}(f:Nat→α)(i:Nat)(x y:α):upd (upd f i x) i y=upd f i y:=by
 funext a;unfold upd;split <;> rfl
section
variable {P:Program}{F:Fam}{B:Base}{gs:Array Goroutine}{w w':World}{sl:Option (Nat×Nat)}{t:Trace}{φ:Nat→Nx}{r:Nat→Rk}{bt:Nat→Bool}{S:Nat→St}{Sh:Nat→Prop}{j:Nat}{c:Bool}{v wt' sm v₁ wt₁ sm₁:Nat}{cl cl₁:Bool}{k k₁:Nat}
theorem Qp{p:Ph}{es:Array Event}{nx:Nx}(A:F.act p v wt' sm=some ((v₁,wt₁,sm₁),es,nx)):
  (∀q,nx= .ph q→Fam.B6 q=Fam.B6 p∧(Fam.Cj q=true→p= .DI∨Fam.Cj p=true))∧(∀k,nx≠ .ph (.Bu k))∧(sm₁=sm∨sm₁=0∨p= .Cx)∧(∀d,nx= .gone d→Fam.B6 p=false):=by
 cases p <;> simp only [Fam.act] at A <;> (try (cases A;done))
 ·cases A;exact⟨fun q e=>by cases e;exact⟨rfl,fun _=> .inl rfl⟩,by simp,.inl rfl,by simp⟩
 ·cases A;exact⟨fun q e=>by cases e;exact⟨rfl,fun _=> .inr rfl⟩,by simp,.inl rfl,by simp⟩
 ·split at A
  ·cases A;refine⟨fun q e=>?_,?_,.inl rfl,fun _ _=>rfl⟩
   ·split at e
    ·cases e;exact⟨rfl,fun _=> .inr rfl⟩
    ·cases e
   ·intro k;split <;> simp
  ·cases A
 ·split at A
  ·cases A;exact⟨fun q e=>by cases e;exact⟨rfl,fun _=> .inr rfl⟩,by simp,.inl rfl,by simp⟩
  ·cases A
 ·split at A
  ·cases A;exact⟨fun q e=>by cases e;exact⟨rfl,fun _=> .inr rfl⟩,by simp,.inl rfl,by simp⟩
  ·cases A
 ·split at A
  ·cases A;exact⟨fun q e=>(by cases e),by simp,.inr (.inr rfl),fun _ _=>rfl⟩
  ·cases A
 ·cases A;exact⟨fun q e=>by cases e;exact⟨rfl,fun h=>by cases h⟩,by simp,.inl rfl,by simp⟩
 ·split at A
  ·cases A;refine⟨fun q e=>?_,?_,.inl rfl,?_⟩
   ·split at e <;> cases e <;> exact⟨rfl,fun h=>by cases h⟩
   ·intro k;split <;> simp
   ·intro d;split <;> simp
  ·cases A
 ·split at A
  ·split at A
   ·cases A;exact⟨fun q e=>by cases e;exact⟨rfl,fun h=>by cases h⟩,by simp,.inl rfl,by simp⟩
   ·cases A;exact⟨fun q e=>by cases e;exact⟨rfl,fun h=>by cases h⟩,by simp,.inl rfl,by simp⟩
  ·cases A
 ·cases A;exact⟨fun q e=>by cases e;exact⟨rfl,fun h=>by cases h⟩,by simp,.inl rfl,by simp⟩
 ·split at A
  ·cases A;exact⟨fun q e=>by cases e;exact⟨rfl,fun h=>by cases h⟩,by simp,.inr (.inl rfl),by simp⟩
  ·cases A
 ·split at A
  ·cases A;exact⟨fun q e=>by cases e;exact⟨rfl,fun h=>by cases h⟩,by simp,.inl rfl,by simp⟩
  ·cases A
 ·cases A;exact⟨fun q e=>by cases e;exact⟨rfl,fun h=>by cases h⟩,by simp,.inl rfl,by simp⟩
 ·cases A;exact⟨fun q e=>by cases e;exact⟨rfl,fun h=>by cases h⟩,by simp,.inl rfl,by simp⟩
 ·cases A;exact⟨fun q e=>by cases e;exact⟨rfl,fun h=>by cases h⟩,by simp,.inl rfl,by simp⟩
 ·split at A
  ·cases A;refine⟨fun q e=>?_,?_,.inl rfl,?_⟩
   ·split at e <;> cases e <;> exact⟨rfl,fun h=>by cases h⟩
   ·intro k;split <;> simp
   ·intro d;split <;> simp
  ·cases A
 ·cases A;exact⟨fun q e=>by cases e;exact⟨rfl,fun h=>by cases h⟩,by simp,.inl rfl,by simp⟩
 all_goals
  cases A;exact⟨fun q e=>by cases e;exact⟨rfl,fun h=>by cases h⟩,by simp,.inl rfl,by simp⟩
theorem OC(w:World)(v wt sm:Nat):(F.put w v wt sm).heap.size=w.heap.size:=by simp [Fam.put]
theorem L2(w:World)(v wt sm:Nat){b:Nat}(h:b≠F.wg):(F.put w v wt sm).heap[b]? =w.heap[b]? :=by simp [Fam.put,Array.getElem?_setIfInBounds_ne (Ne.symm h)]
theorem Ms(w:World)(v wt sm:Nat)(h:F.wg<w.heap.size):F.WG (F.put w v wt sm) v wt sm:=by simp [Fam.WG,Fam.put,h]
theorem Inv.act(h:Inv P F B gs w t φ r bt S Sh j c v wt' sm cl k){i:Nat}{g:Goroutine}(hi:gs[i]? =some g){p:Ph}(W:φ i= .ph p)(O:(i==0)=Fam.B6 p){s₀:St}(aj:BJ (S i) s₀)(hs:Stop P F p g s₀)
  {es:Array Event} {nx:Nx} (K:F.act p v wt' sm=some ((v₁,wt₁,sm₁),es,nx)):Ey P F B gs w sl t i (mu F gs.size φ r bt):=by
 have Z:i<gs.size:=(Array.getElem?_eq_some_iff.1 hi).1;obtain⟨g',ay,az,ak⟩:=hs.law.act _ _ _ _ _ _ _ _ K;obtain⟨n1,al,aA,aB⟩:=Qp K;have aa:=h.BD.C3 F.wg h.Fb;have am:=h.A0.act Z W K;obtain⟨an,ao,aC⟩:=h.Cy.act h.A0 Z W K g.frame.fn g.frame.place;have aD:Br t w gs.size (upd S i s₀) Sh:=h.BD.ghost Z aj;have ab:Br (t++MemOp.ofEvents i g.frame.fn g.frame.place es) (F.put w v₁ wt₁ sm₁) gs.size (upd S i s₀) Sh:=by
  refine aD.ext (h.Cy.noRace h.BD.clean Z aC ao) (fun op ac a aE b hb=>?_) (fun op ac=>?_) (OC ..) (fun b hb=>L2 _ _ _ _ fun e=>hb (e▸h.Fb))
  ·obtain⟨e,he,rfl⟩:=mem_ofEvents ac;obtain⟨⟨aL,ap,aF⟩,_⟩:=(ao e he).1 a aE;rw [hb] at ap;cases ap;rcases aF with rfl | rfl
   ·exact h.Fb
   ·exact h.DJ
  ·obtain⟨e,he,rfl⟩:=mem_ofEvents ac;exact(MG p K).2.2 e he _ aa
 have aq:stepG P (i==0) g w= .go g' (F.put w v₁ wt₁ sm₁) es:=by rw [O];exact ay w h.wg
 have ar:F.ChanAt (F.put w v₁ wt₁ sm₁) cl k:=by show(F.put w v₁ wt₁ sm₁).heap[F.ch]? =_;rw [L2 _ _ _ _ (Ne.symm h.ne)];exact h.Em
 have au:sm₁=sm∨sm₁=0∨(mayWake P g=true∧g'.status= .running∧φ (B.N0+F.n)= .ph .BY)∨(c=true→bt (B.N0+F.n)=true):=by
  rcases aA with q | q | q
  ·exact .inl q
  ·exact .inr (.inl q)
  ·subst q;have aG:=hs.law.Eg (.inl rfl);by_cases e:φ (B.N0+F.n)= .ph .BY
   ·exact .inr (.inr (.inl ⟨aG,az,e⟩))
   ·refine .inr (.inr (.inr fun ae=>?_));have aH:B.N0+F.n<gs.size:=by have av:=h.A0.size;have aM:=h.A0.cj ae;rw [ae] at av;simp at av;omega
    obtain⟨o,A⟩:∃o,gs[B.N0+F.n]? =some o:=⟨_,Array.getElem?_eq_getElem aH⟩;have U:=h.Cz _ _ A;generalize r (B.N0+F.n)=aN at U;generalize S (B.N0+F.n)=aO at U;have ag:=h.A0.cls ae;generalize hb:bt (B.N0+F.n)=b at U ⊢;generalize aP:φ (B.N0+F.n)=x at U ag e;cases U with
    | walk _ _ _=>rfl
    | again _ _=>rfl
    | CZ _ _=>exact ag.elim
    | Df _ _ _ _=>exact ag.elim
    | blk _ _=>exact absurd rfl e
    | gone _ _=>rfl
 cases nx with
 | ph q=>
  obtain⟨aI,aJ⟩:=n1 q rfl;obtain⟨ρ,aK⟩:=ak;have ah:Br (t++MemOp.ofEvents i g.frame.fn g.frame.place es) (F.put w v₁ wt₁ sm₁) gs.size (upd S i (Fam.D2 p s₀)) Sh:=by
   by_cases e:p= .DI
   ·subst e;have:=ab.less (i:=i) (s':= .quiet) (fun b o A=>by cases A) (fun b o A=>by cases A)
    rwa [IY] at this
   ·have:Fam.D2 p s₀=s₀:=by cases p <;> first | rfl | exact absurd rfl e
    rw [this];exact ab
  refine h.go' hi aq am an (x:= .ph q) (ρ:=ρ) (s':=Fam.D2 p s₀) (.walk (by rw [O,aI]) (fun ai=>?_) (by rw [O];exact aK)) ah (Ms _ _ _ _ aa) ar (.inl rfl) (fun e=>h.noSend e) au (fun e=>?_) rfl rfl rfl (fun k' e=>absurd e (al k')) (.inl (by rw [W];exact L5 K))
  ·rcases aJ ai with e | e
   ·subst e;rfl
   ·have:Fam.D2 p s₀=s₀:=by cases p <;> first | rfl | cases e
    rw [this];exact hs.law.quiet e
  ·have:Fam.D2 p s₀=s₀:=by
    cases p <;> first | rfl | (subst e;simp [Fam.B6] at O)
   rw [this];subst e;exact fun b o A=>aj.ext b o A
 | gone d=>
  obtain⟨q,ai⟩:=ak;have aw:(i==0)=false:=by rw [O];exact aB d rfl
  have ah:Br (t++MemOp.ofEvents i g.frame.fn g.frame.place es) (F.put w v₁ wt₁ sm₁) gs.size (upd S i .quiet) Sh:=by
   have:=ab.less (i:=i) (s':= .quiet) (fun b o A=>by cases A) (fun b o A=>by cases A)
   rwa [IY] at this
  exact h.go' hi aq am an (x:= .gone d) (ρ:=chain q) (s':= .quiet) (.gone aw ai) ah (Ms _ _ _ _ aa) ar (.inl rfl) (fun e=>h.noSend e) au (fun e=>by subst e;simp at aw) rfl rfl rfl (fun k' e=>absurd e (al k')) (.inl (by rw [W];exact L5 K))
theorem Nu{g g' o:Goroutine}(h:g'.status= .blocked):woken P g g' w o=o:=by
 unfold woken;rw [if_neg (by simp [h])]
theorem Inv.rest(h:Inv P F B gs w t φ r bt S Sh j c v wt' sm cl k){i:Nat}{g':Goroutine}{u:Trace}{s₀:St}(ab:i<gs.size)(ak:bt i=true)(ag:BJ (S i) s₀)(al:BT P F (i==0) (φ i) (r i) false g' s₀)(hu:u= #[])
  (am:i=0→cl=false∧∀a k',a<gs.size→φ a= .ph (.Bu k')→bt a=true) (hsend:∀k',φ i= .ph (.Bu k')→bt 0=true) (an:c=true→i=B.N0+F.n→sm=0):
  ∃ah,Inv P F B (gs.setIfInBounds i g') w (t++u) φ r ah (upd S i s₀) Sh j c v wt' sm cl k∧Mu.lt (mu F (gs.setIfInBounds i g').size φ r ah) (mu F gs.size φ r bt):=by
 subst hu;have K:(gs.setIfInBounds i g').size=gs.size:=by simp
 have ao:t++(#[]:Trace)=t:=by simp
 have aa:∀{a},a≠i→upd bt i false a=bt a:=fun e=>upd_ne _ _ e;rw [ao];refine⟨upd bt i false,⟨by rw [K];exact h.A0,by rw [K];exact h.Cy,fun a o O=>?_,by rw [K];exact h.BD.ghost ab ag,h.Fb,h.DJ,h.ne,h.wg,h.Em,fun A=>?_,fun ai A=>?_,?_,h.tape,h.os,h.output⟩,?_⟩
 ·by_cases e:a=i
  ·subst e;rw [Array.getElem?_setIfInBounds_self_of_lt ab] at O;obtain rfl:=Option.some.inj O;rw [upd_same,upd_same];exact al
  ·rw [Array.getElem?_setIfInBounds_ne (Ne.symm e)] at O;rw [upd_ne _ _ e,upd_ne _ _ e];exact h.Cz a o O
 ·by_cases e:0=i
  ·subst e;obtain⟨ac,ae⟩:=am rfl;refine⟨ac,fun a k' U W=>?_⟩;rw [K] at U;by_cases Z:a=0
   ·subst Z;obtain⟨p,aj,hm⟩:=h.A0.main;rw [W] at aj;cases aj;exact hm.elim
   ·rw [aa Z];exact ae a k' U W
  ·rw [aa e] at A;obtain⟨ac,ae⟩:=h.It A;refine⟨ac,fun a k' U W=>?_⟩;rw [K] at U;by_cases Z:a=i
   ·subst Z;rw [hsend k' W] at A;cases A
   ·rw [aa Z];exact ae a k' U W
 ·by_cases e:B.N0+F.n=i
  ·exact an ai e.symm
  ·rw [aa e] at A;exact h.blk ai A
 ·by_cases e:0=i
  ·subst e;rw [upd_same];exact fun b o O=>ag.ext b o (h.le b o O)
  ·rw [upd_ne _ _ e];exact h.le
 ·rw [K];have:=sumTo_upd bt false bit ab;rw [ak] at this;exact .inr ⟨rfl,rfl,.inr ⟨rfl,by show(sumTo gs.size fun a=>bit (upd bt i false a))<sumTo gs.size fun a=>bit (bt a);simp only [bit] at this ⊢;simp only [if_true,Bool.false_eq_true,if_false] at this;omega⟩⟩
theorem Inv.block(h:Inv P F B gs w t φ r bt S Sh j c v wt' sm cl k){i:Nat}{g:Goroutine}(hi:gs[i]? =some g)(K:φ i= .ph .BY)(U:bt i=true)(A:(i==0)=false){s₀:St}(W:BJ (S i) s₀)(hs:Stop P F .BY g s₀)(Z:sm=0):
  Ey P F B gs w sl t i (mu F gs.size φ r bt):=by
 have aa:i<gs.size:=(Array.getElem?_eq_some_iff.1 hi).1;subst Z;have ab:=hs.law.CB rfl w v wt' h.wg;have O:=runT_crowd_go (P:=P) (sl:=sl) (i:=i) hi (by rw [A];exact ab);have ac:(gs.map (woken P g {g with status:= .blocked} w)).setIfInBounds i {g with status:= .blocked}=gs.setIfInBounds i {g with status:= .blocked}:=by
  have:(woken P g {g with status:= .blocked} w)=id:=by funext o;exact Nu rfl
  rw [this,Array.map_id]
 rw [ac] at O;obtain⟨ah,ae,ag⟩:=h.rest (g':={g with status:= .blocked}) (u:=MemOp.ofEvents i g.frame.fn g.frame.place #[]) aa U W (by rw [K];exact .blk A hs) (by rw [ofEvents_eq];simp) (fun e=>by subst e;simp at A) (fun k' e=>by rw [K] at e;cases e) (fun _ _=>rfl);exact⟨_,_,_,_,O,.inl ⟨_,_,_,_,_,_,_,_,_,_,_,_,ae,ag⟩⟩
theorem Inv.close(h:Inv P F B gs w t φ r bt S Sh j c v wt' sm cl k){i:Nat}{g:Goroutine}(hi:gs[i]? =some g)(A:φ i= .ph .Cb)(ab:(i==0)=false){s₀:St}(hs:Stop P F .Cb g s₀):
  Ey P F B gs w sl t i (mu F gs.size φ r bt):=by
 have W:i<gs.size:=(Array.getElem?_eq_some_iff.1 hi).1;have ao:c=true∧i=B.N0+F.n:=by
  rcases h.A0.C6 W with rfl | ⟨a,b⟩ | ⟨k',ap,rfl⟩ | q
  ·simp at ab
  ·have:=h.A0.old i a b;rw [A] at this;exact this.elim
  ·have:=h.A0.work k' ap;rw [A] at this;exact this.elim
  ·exact q
 obtain⟨K,rfl⟩:=ao;have aq:cl=false:=by
  have hm:=h.A0.mode;rw [if_pos K,A] at hm;exact hm.2.2.2.2.2
 subst aq;have aH:v=0:=by
  have hm:=h.A0.mode;rw [if_pos K,A] at hm;exact hm.2.2.2.2.1
 obtain⟨g',ar,au,q,av⟩:=hs.law.close rfl;have ag:=h.BD.C3 F.ch h.DJ;have aw:=hs.law.Eg (.inr rfl);have ay:MemOp.ofEvents (B.N0+F.n) g.frame.fn g.frame.place (closeEvents F.ch)= #[{g:=B.N0+F.n,fn:=g.frame.fn,pos:=g.frame.place,act:= .access ⟨.obj F.ch,false,true⟩},{g:=B.N0+F.n,fn:=g.frame.fn,pos:=g.frame.place,act:= .close F.ch}]:=by
  simp [MemOp.ofEvents,closeEvents,MemAct.ofEvent]
 have ah:∀b,b≠F.ch→(w.setChan F.ch 0 #[] true k k false).heap[b]? =w.heap[b]? :=fun b hb=>by simp [World.setChan,Array.getElem?_setIfInBounds_ne (Ne.symm hb)]
 have ai:∀e∈closeEvents F.ch,∀a,(MemAct.ofEvent e).touch? =some a→a=⟨.obj F.ch,false,.atomic⟩:=by
  intro e he a O;simp only [closeEvents,List.mem_toArray,List.mem_cons,List.not_mem_nil,or_false] at he;rcases he with rfl | rfl
  ·simp [MemAct.ofEvent,MemAct.touch?] at O;exact O.symm
  ·simp [MemAct.ofEvent,MemAct.touch?] at O
 have Z:∀e∈closeEvents F.ch,EvS F (B.N0+F.n=if c=true then B.N0+F.n else 0) e:=by
  intro e he;refine⟨fun a O=>?_,?_⟩
  ·have:=ai e he a O;subst this;exact⟨⟨F.ch,rfl,.inr rfl⟩,by simp,by simp⟩
  ·simp only [closeEvents,List.mem_toArray,List.mem_cons,List.not_mem_nil,or_false] at he;rcases he with rfl | rfl <;> simp
 have aI:=h.A0.n1;have aJ:=h.A0.pos;refine h.go' hi (w':=w.setChan F.ch 0 #[] true k k false) (by rw [ab];exact au w k h.Em) (x:= .gone 0) (ρ:=chain q) (s':= .quiet) (cl₁:=true) (k₁:=k) (h.A0.close K A) ?_ (.gone ab av) ?_ ?_ ?_ (.inr ⟨aw,ar⟩) (fun _ az k' aA e=>?_) (.inl rfl) (fun e=>absurd e (by omega)) rfl rfl rfl (by simp) (.inl (by rw [A];simp [wt]))
 ·refine h.Cy.app W h.A0.jn (by rw [A];rfl) (fun e he=>⟨fun a b O hb aK=>⟨((Z e he).1 a O).2.1,((Z e he).1 a O).2.2⟩,(Z e he).2⟩) (.inl (.inr (by omega))) (fun K aa=>h.A0.HQ K aa) (fun k' aj e aB ρ ak=>by omega) (fun k' aj e aB aL=>by have:=h.A0.cj K;omega) (fun K e aa=> .inr (.inl A)) (fun aM e aa=> .inl ?_);obtain⟨al,am⟩:=h.Cy.acq K (.inl A);have aN:al<t.size:=lt_of_act? am.1;rw [ay];generalize hu:(#[({g:=B.N0+F.n,fn:=g.frame.fn,pos:=g.frame.place,act:= .access ⟨.obj F.ch,false,true⟩}:MemOp),{g:=B.N0+F.n,fn:=g.frame.fn,pos:=g.frame.place,act:= .close F.ch}]:Trace)=u;have aC:(t++u)[t.size]? =some {g:=B.N0+F.n,fn:=g.frame.fn,pos:=g.frame.place,act:= .access ⟨.obj F.ch,false,true⟩}:=by subst hu;simp
  have ac:(t++u)[t.size+1]? =some {g:=B.N0+F.n,fn:=g.frame.fn,pos:=g.frame.place,act:= .close F.ch}:=by
   subst hu;rw [Array.getElem?_append_right (by omega)];simp
  refine⟨t.size+1,by rw [act?_of ac],by simp [Trace.g?,ac],⟨B.N0+F.n,by simp [Trace.g?,ac],?_⟩,⟨al,by omega,am.app fun k' ρ aj ak=>ak.appOther (g:=B.N0+F.n) (by subst hu;simp) (by omega)⟩,fun x aa aD aE=>?_⟩
  ·rw [deaf_succ aC,deaf_old (Nat.le_refl _)];have:=h.Cy.deaf _ W;rw [A] at this;show deafStep _ (Deaf t _) _=0;rw [this];rfl
  ·obtain⟨op,U,_⟩:=Option.map_eq_some_iff.1 aD;have:=lt_size_of_getElem? U;subst hu;simp at this;omega
 ·have aF:Br (t++MemOp.ofEvents (B.N0+F.n) g.frame.fn g.frame.place (closeEvents F.ch)) (w.setChan F.ch 0 #[] true k k false) gs.size S Sh:=by
   refine h.BD.ext (h.Cy.noRace h.BD.clean W (.inr (by omega)) Z) (fun op ae a aG b hb=>?_) (fun op ae=>?_) (by simp [World.setChan]) (fun b hb=>ah b fun e=>hb (e▸h.DJ))
   ·obtain⟨e,he,rfl⟩:=mem_ofEvents ae;have:=ai e he a aG;subst this;simp [Ca] at hb;subst hb;exact h.DJ
   ·obtain⟨e,he,rfl⟩:=mem_ofEvents ae;simp only [closeEvents,List.mem_toArray,List.mem_cons,List.not_mem_nil,or_false] at he;rcases he with rfl | rfl <;> simpa [MemAct.ofEvent,MemAct.low,Loc.low] using ag
  exact aF.less (i:=B.N0+F.n) (s':= .quiet) (fun b o U=>by cases U) (fun b o U=>by cases U)
 ·show(w.setChan F.ch 0 #[] true k k false).heap[F.wg]? =_;rw [ah _ h.ne];exact h.wg
 ·show(w.setChan F.ch 0 #[] true k k false).heap[F.ch]? =_;simp [World.setChan,ag]
 ·have aE:=h.A0.cnt;have an:cU (φ az)≤sumTo gs.size fun a=>cU (φ a):=le_sumTo (f:=fun a=>cU (φ a)) aA;rw [e] at an;have aO:1≤sumTo gs.size fun a=>cU (φ a):=an;omega
end
end Pal
namespace Pal
open Go Go.Conc
open Go.ConcN (upd upd_same upd_ne sumTo sumTo_upd sumTo_upd_out sumTo_congr le_sumTo sumTo_le fork_knows RelBy)
section
variable {P:Program}{F:Fam}{B:Base}{gs gs':Array Goroutine}{w w':World}{sl:Option (Nat×Nat)}{t:Trace}{φ:Nat→Nx}{r:Nat→Rk}{bt:Nat→Bool}{S:Nat→St}{Sh:Nat→Prop}{j:Nat}{c:Bool}{v wt' sm v₁ wt₁ sm₁:Nat}{cl cl₁:Bool}{k k₁:Nat}{main:Bool}
theorem BT.Mi{x:Nx}{r:Rk}{b:Bool}{o:Goroutine}{s:St}(h:BT P F main x r b o s)(hb:main=true→b=true):offersAt o F.ch false= []:=by
 cases h with
 | walk _ _ A=>exact offersAt_of_not_blocked (by rw [A.running];simp) _ _
 | again _ _=>exact offersAt_of_not_blocked (by simp) _ _
 | CZ K _=>cases hb K
 | Df _ _ _ _=>exact offersAt_parked_send' _ _ _ _ _ _
 | blk _ hs=>simp [offersAt,hs.law.offers]
 | gone _ O=>exact offersAt_of_not_blocked (by rcases O.status with e | e <;> rw [e] <;> simp) _ _
theorem BT.noSend{x:Nx}{r:Rk}{b:Bool}{o:Goroutine}{s:St}(h:BT P F main x r b o s)(hb:∀k,x= .ph (.Bu k)→b=true):offersAt o F.ch true= []:=by
 cases h with
 | walk _ _ A=>exact offersAt_of_not_blocked (by rw [A.running];simp) _ _
 | again _ _=>exact offersAt_of_not_blocked (by simp) _ _
 | CZ O _=>exact offersAt_parked_recv' _ _ _ _ _
 | Df _ _ _ _=>cases hb _ rfl
 | blk _ hs=>simp [offersAt,hs.law.offers]
 | gone _ K=>exact offersAt_of_not_blocked (by rcases K.status with e | e <;> rw [e] <;> simp) _ _
theorem BT.I6{k:Nat}{r:Rk}{o:Goroutine}{s:St}(h:BT P F main (.ph (.Bu k)) r false o s):∃g v z,o=parked g #[scase F.ch v z] .send∧F.msg k v s.E∧s.q=false∧Way P false (Stop P F .BL) (served g undef) s:=by
 generalize A:Nx.ph (.Bu k)=x at h;generalize hb:false=b at h;cases h with
 | walk _ _ _=>cases hb
 | again _ _=>cases A
 | CZ _ _=>cases A
 | Df _ K O U=>cases A;exact⟨_,_,_,rfl,K,O,U⟩
 | blk _ _=>cases A
 | gone _ _=>cases A
theorem BT.IL{x:Nx}{r:Rk}{b:Bool}{o:Goroutine}{s:St}(h:BT P F main x r b o s)(A:offersAt o F.ch true≠ []):∃k,x= .ph (.Bu k)∧b=false:=by
 cases h with
 | walk _ _ K=>exact absurd (offersAt_of_not_blocked (by rw [K.running];simp) _ _) A
 | again _ _=>exact absurd (offersAt_of_not_blocked (by simp) _ _) A
 | CZ U _=>exact absurd (offersAt_parked_recv' _ _ _ _ _) A
 | Df _ _ _ _=>exact⟨_,rfl,rfl⟩
 | blk _ hs=>exact absurd (by simp [offersAt,hs.law.offers]) A
 | gone _ O=>exact absurd (offersAt_of_not_blocked (by rcases O.status with e | e <;> rw [e] <;> simp) _ _) A
theorem BT.receiver{p:Ph}{r:Rk}{b:Bool}{o:Goroutine}{s:St}(h:BT P F main (.ph p) r b o s)(hb:b=false)(hm:main=true):∃K vs g z,p= .Bq K vs∧o=parked g #[rcase F.ch z] (.recv true)∧Stop P F (.Bq K vs) g s:=by
 generalize O:Nx.ph p=x at h;cases h with
 | walk _ _ _=>cases hb
 | again _ _=>cases hb
 | CZ _ U=>cases O;exact⟨_,_,_,_,rfl,rfl,U⟩
 | Df A _ _ _=>rw [A] at hm;cases hm
 | blk A _=>rw [A] at hm;cases hm
 | gone _ _=>cases O
theorem NY{g g':Goroutine}{cs A:Array CommCase}{sh K:CommShape}(h:parked g cs sh=parked g' A K):cs=A∧sh=K∧∀x,served g x=served g' x:=by
 obtain⟨a,b,c,d,e⟩:=g;obtain⟨O,U,W,Z,aa⟩:=g';simp only [parked,Goroutine.mk.injEq,Option.some.injEq,Prod.mk.injEq,true_and] at h;obtain⟨rfl,rfl,rfl,rfl,rfl⟩:=h;exact⟨rfl,rfl,fun _=>rfl⟩
theorem Kg(w:World)(c cap:Nat)(buf:Array Value)(cl:Bool)(s r:Nat)(A:Bool){b:Nat}(h:b≠c):(w.setChan c cap buf cl s r A).heap[b]? =w.heap[b]? :=by simp [World.setChan,Array.getElem?_setIfInBounds_ne (Ne.symm h)]
def EB(E E':LH):LH:=fun b=>match E b with | some o=>some o | none=>E' b
def DC(i s:Nat)(c:Nat)(f1 f2:FuncId)(p1 p2:String):Trace:=
 #[{g:=i,fn:=f1,pos:=p1,act:= .send c s},{g:=0,fn:=f2,pos:=p2,act:= .recv c s 0},{g:=i,fn:=f1,pos:=p1,act:= .sendDone c s},{g:=0,fn:=f2,pos:=p2,act:= .recvDone c s}]
theorem NX{i s A:Nat}{f1 f2:FuncId}{p1 p2:String}(hi:i≠0)(U:Deaf t i=0)(W:Deaf t 0=0){x:Nat}(Z:Knows t i x):Knows (t++DC i s A f1 f2 p1 p2) 0 x:=by
 generalize hu:DC i s A f1 f2 p1 p2=u;have K:(t++u)[t.size]? =some {g:=i,fn:=f1,pos:=p1,act:= .send A s}:=by subst hu;rw [Array.getElem?_append_right (by omega)];simp [DC]
 have aa:(t++u)[t.size+1]? =some {g:=0,fn:=f2,pos:=p2,act:= .recv A s 0}:=by subst hu;rw [Array.getElem?_append_right (by omega)];simp [DC]
 have ab:(t++u)[t.size+2]? =some {g:=i,fn:=f1,pos:=p1,act:= .sendDone A s}:=by subst hu;rw [Array.getElem?_append_right (by omega)];simp [DC]
 have O:(t++u)[t.size+3]? =some {g:=0,fn:=f2,pos:=p2,act:= .recvDone A s}:=by subst hu;rw [Array.getElem?_append_right (by omega)];simp [DC]
 have ac:=Z.hb_new (Nat.le_refl _) K rfl;have ae:(t++u).heard t.size:=⟨i,by simp [Trace.g?,K],by rw [deaf_old (Nat.le_refl _)];exact U⟩;have ag:(t++u).heard (t.size+3):=⟨0,by simp [Trace.g?,O],by
  rw [deaf_succ ab,deaf_succ aa,deaf_succ K,deaf_old (Nat.le_refl _)]
  simp only [deafStep];exact W⟩
 exact⟨t.size+3,_,O,rfl,.inr (ac.trans (.single (.inr ⟨.handOver (by rw [act?_of K]) (by rw [act?_of O]),ae,ag⟩)))⟩
theorem Inv.meet(h:Inv P F B gs w t φ r bt S Sh j c v wt' sm cl k)(aL:∀k v E E',Le E E'→F.msg k v E→F.msg k v E'){i k':Nat}(ai:k'<j)(aj:i=B.N0+k')(Z:φ i= .ph (.Bu k')){O:List Nat}{vs:List Value}(ag:φ 0= .ph (.Bq O vs))
  {az aA:Goroutine} {s₀ A:St} (aB:BJ (S 0) s₀) (aM:BJ (S i) A) (aN:Stop P F (.Bq O vs) az s₀) {x:Value} (aO:F.msg k' x A.E) (aP:Way P false (Stop P F .BL) (served aA undef) A)
  (ak:gs'.size=gs.size) (aQ:gs'[0]? =some (served az (.tuple #[x,.bool true]))) (hi:gs'[i]? =some (served aA undef)) (U:∀a,a≠0→a≠i→gs'[a]? =gs[a]?) (aR:cl=false) {f1 f2:FuncId} {p1 p2:String}:
  ∃aC aD aE S',Inv P F B gs' (w.setChan F.ch 0 #[] false (k+1) (k+1) false) (t++DC i k F.ch f1 f2 p1 p2) aC aD aE S' Sh j c v wt' sm false (k+1)∧Mu.lt (mu F gs'.size aC aD aE) (mu F gs.size φ r bt):=by
 subst aR;have bc:=h.A0.pos;have bd:=h.A0.size;have aa:i<gs.size:=by omega
 have ab:0<gs.size:=by omega
 have ah:i≠0:=by omega
 have aF:F.has k'=true:=by have:=h.A0.work k' ai;rw [← aj,Z] at this;exact this.2
 have aS:k' ∉ O:=by have:=(h.A0.Ej k' ai aF).1 (by rw [← aj];exact Z);rwa [ag] at this
 have aG:=h.A0.meet (x:=x) ag ai (by rw [← aj];exact Z);rw [← aj] at aG;have hu:∀op∈DC i k F.ch f1 f2 p1 p2,op.act.touch? =none∧∀m,op.act≠ .mark m:=by
  intro op K;simp only [DC,List.mem_toArray,List.mem_cons,List.not_mem_nil,or_false] at K;rcases K with rfl | rfl | rfl | rfl <;> exact⟨rfl,by simp⟩
 have aT:=h.Cy.BS h.A0 hu;have aH:=h.BD.C3 F.ch h.DJ;have al:Br t w gs.size (upd (upd S i A) 0 s₀) Sh:=by
  have:=(h.BD.ghost aa aM).ghost (i:=0) (s₀:=s₀) ab (by rw [upd_ne _ _ (Ne.symm ah)];exact aB);exact this
 have aq:upd (upd S i A) 0 s₀ 0=s₀:=upd_same _ _ _;have ar:upd (upd S i A) 0 s₀ i=A:=by rw [upd_ne _ _ ah,upd_same]
 have aU:Br (t++DC i k F.ch f1 f2 p1 p2) (w.setChan F.ch 0 #[] false (k+1) (k+1) false) gs.size (upd (upd S i A) 0 s₀) Sh:=by
  refine al.ext (fun said=>?_) (fun op K a am=>by rw [(hu op K).1] at am;cases am) (fun op K=>?_) (by simp [World.setChan]) (fun b hb=>Kg _ _ _ _ _ _ _ _ fun e=>hb (e▸h.DJ))
  ·have key:∀(l:List MemOp) (t:Trace),¬Race said t→(∀op∈l,op.act.touch? =none)→¬Race said (t++l.toArray):=by
    intro l
    induction l with
    | nil=>intro t ht _;simpa using ht
    | cons y l aV=>
     intro t ht ac;have e:t++(y::l).toArray=(t++ #[y])++l.toArray:=by apply Array.ext';simp
     rw [e];exact aV _ (noRace_append (g:=y.g) ht (by simp) fun z a _ op K b hb _=>by simp at K;subst K;rw [ac op (by simp)] at hb;cases hb) fun op K=>ac op (by simp [K])
   exact key _ t (h.BD.clean said) fun op K=>(hu op (by simpa [DC] using K)).1
  ·simp only [DC,List.mem_toArray,List.mem_cons,List.not_mem_nil,or_false] at K;rcases K with rfl | rfl | rfl | rfl <;> exact aH
 have aW:∀b o o',s₀.E b=some o→A.E b=some o'→o=o':=by
  intro b o o' au av;have aw:=(al.fits 0 ab).e b o (by rw [aq];exact au);have an:=(al.fits i aa).e b o' (by rw [ar];exact av);rw [aw] at an;exact Option.some.inj an
 have aI:Le s₀.E (EB s₀.E A.E):=fun b o U=>by simp [EB,U]
 have aX:Le A.E (EB s₀.E A.E):=fun b o U=>by
  unfold EB;cases ao:s₀.E b with
  | none=>exact U
  | some o'=>simp only;rw [aW b o' o ao U]
 have aY:Deaf t 0=0:=by rw [h.Cy.deaf 0 ab,ag];rfl
 have aZ:Deaf t i=0:=by rw [h.Cy.deaf i aa,Z];rfl
 have aJ:Br (t++DC i k F.ch f1 f2 p1 p2) (w.setChan F.ch 0 #[] false (k+1) (k+1) false) gs.size (upd (upd S i A) 0 ⟨EB s₀.E A.E,s₀.H,false⟩) Sh:=by
  have:=aU.grow (i:=0) (E':=EB s₀.E A.E) (q:=false) ab (fun b o hb=>by
   rw [aq]
   unfold EB at hb
   cases ao:s₀.E b with
   | some o'=>rw [ao] at hb;exact .inl hb
   | none=>
    rw [ao] at hb
    have aK:A.E b=some o:=hb
    refine .inr ⟨i,aa,by rw [ar];exact aK,fun y a a0 a1 a2=>?_⟩
    have hold:touchAt t y=some a:=by
     obtain⟨op,U,ay⟩:=touch_of a0
     rcases getElem?_append_cases U with⟨_,a3⟩ | ⟨_,a4⟩
     ·rw [touchAt_of a3];exact ay
     ·rw [(hu op a4).1] at ay;cases ay
    exact NX ah aZ aY (al.kE i aa b (by rw [ar,aK];simp) y a hold a1 a2))
  rw [aq,IY] at this;exact this
 have a5:∀b,EB s₀.E A.E b≠none→s₀.H b=none:=by
  intro b hb;have:=(aJ.fits 0 ab).d b (by rw [upd_same];exact hb)
  rwa [upd_same] at this
 have a6:k'<F.n:=Nat.lt_of_lt_of_le ai h.A0.jn;obtain⟨z,_,a7,_⟩:=aN.law.recv O vs rfl;obtain⟨a8,a9⟩:=a7 k' x (EB s₀.E A.E) a6 aF aS aI a5 (aL _ _ _ _ aX aO);obtain⟨ba,bb⟩:=aP;have f0:∀a,a≠0→a≠i→upd (upd φ i (.ph .BL)) 0 (.ph (.Bq (O++ [k']) (vs++ [x]))) a=φ a:=fun a au av=>by rw [upd_ne _ _ au,upd_ne _ _ av]
 have fi:upd (upd φ i (.ph .BL)) 0 (.ph (.Bq (O++ [k']) (vs++ [x]))) i= .ph .BL:=by rw [upd_ne _ _ ah,upd_same]
 refine⟨upd (upd φ i (.ph .BL)) 0 (.ph (.Bq (O++ [k']) (vs++ [x]))),upd (upd r i ba) 0 a8,upd (upd bt i true) 0 true,upd (upd S i A) 0 ⟨EB s₀.E A.E,s₀.H,false⟩,⟨by rw [ak];exact aG,?_,fun a o ae=>?_,by rw [ak];exact aJ,h.Fb,h.DJ,h.ne,?_,?_,fun hb=>(by rw [upd_same] at hb;cases hb),fun ap hb=>?_,?_,h.tape,h.os,h.output⟩,?_⟩
 ·rw [ak];refine aT.PF (fun a am=>?_) (fun a am ac=>?_) (fun ap=>?_)
  ·by_cases q:a=0
   ·subst q;rw [upd_same,ag];rfl
   ·by_cases W:a=i
    ·subst W;rw [fi,Z];rfl
    ·rw [f0 a q W]
  ·by_cases q:B.N0+a=i
   ·rw [q,fi] at ac;exact ac.elim
   ·rwa [f0 _ (by omega) q] at ac
  ·have:=h.A0.cj ap;exact f0 _ (by omega) (by omega)
 ·by_cases q:a=0
  ·subst q;rw [aQ] at ae;obtain rfl:=Option.some.inj ae;rw [upd_same,upd_same,upd_same,upd_same];exact .walk rfl (fun q=>by cases q) a9
  ·by_cases W:a=i
   ·subst W;rw [hi] at ae;obtain rfl:=Option.some.inj ae;rw [fi,upd_ne _ _ q,upd_same,upd_ne _ _ q,upd_same,upd_ne _ _ q,upd_same];have hm:(a==0)=false:=by simp [q]
    exact .walk (by rw [hm];rfl) (fun q=>by cases q) (by rw [hm];exact bb)
   ·rw [U a q W] at ae;rw [f0 a q W,upd_ne _ _ q,upd_ne _ _ W,upd_ne _ _ q,upd_ne _ _ W,upd_ne _ _ q,upd_ne _ _ W];exact h.Cz a o ae
 ·show(w.setChan F.ch 0 #[] false (k+1) (k+1) false).heap[F.wg]? =_;rw [Kg _ _ _ _ _ _ _ _ h.ne];exact h.wg
 ·show(w.setChan F.ch 0 #[] false (k+1) (k+1) false).heap[F.ch]? =_;simp [World.setChan,aH]
 ·have bf:=h.A0.cj ap;rw [upd_ne _ _ (by omega),upd_ne _ _ (by omega)] at hb;exact h.blk ap hb
 ·rw [upd_same];exact(h.le.trans fun b o U=>aB.ext b o U).trans aI
 ·rw [ak];refine MV ?_;have aw:=sumTo_upd (upd φ i (.ph .BL)) (.ph (.Bq (O++ [k']) (vs++ [x]))) (wt F.n) ab;have an:=sumTo_upd φ (.ph .BL) (wt F.n) aa;rw [upd_ne _ _ (Ne.symm ah),ag] at aw;rw [Z] at an;have bg:wt F.n (.ph (.Bq O vs))=2:=rfl;have bh:wt F.n (.ph (.Bq (O++ [k']) (vs++ [x])))=2:=rfl;have bi:wt F.n (.ph (.Bu k'))=10:=rfl;have bj:wt F.n (.ph .BL)=9:=rfl;omega
theorem Inv.send(h:Inv P F B gs w t φ r bt S Sh j c v wt' sm cl k)(aw:∀k v E E',Le E E'→F.msg k v E→F.msg k v E'){i k':Nat}{g:Goroutine}(hi:gs[i]? =some g)(A:φ i= .ph (.Bu k'))(ay:bt i=true)(aa:(i==0)=false){s₀:St}(ak:BJ (S i) s₀)(hs:Stop P F (.Bu k') g s₀):
  Ey P F B gs w sl t i (mu F gs.size φ r bt):=by
 have U:i<gs.size:=(Array.getElem?_eq_some_iff.1 hi).1;have al:0<gs.size:=by omega
 have K:i≠0:=by simpa using aa
 have az:k'<j∧i=B.N0+k':=by
  rcases h.A0.C6 U with rfl | ⟨a,b⟩ | ⟨aA,W,rfl⟩ | ⟨ab,rfl⟩
  ·exact absurd rfl K
  ·have:=h.A0.old i a b;rw [A] at this;exact this.elim
  ·have:=h.A0.work aA W;rw [A] at this;obtain⟨rfl,_⟩:=this;exact⟨W,rfl⟩
  ·have:=h.A0.cls ab;rw [A] at this;exact this.elim
 obtain⟨W,aB⟩:=az;have aC:cl=false:=by
  cases aD:cl with
  | false=>rfl
  | true=>exact absurd A (h.noSend aD i k' U)
 subst aC;obtain⟨x,z,am,aE,an⟩:=hs.law.send k' rfl;have ao:stepG P (i==0) g w= .comm g #[scase F.ch x z] true .send w #[]:=by rw [aa];exact aE w
 have ap:∀(a:Nat) (fn:FuncId) (pos:String),MemOp.ofEvents a fn pos #[]= #[]:=fun a fn pos=>by rw [ofEvents_eq];simp
 cases ac:bt 0 with
 | true=>
  have aF:partners (gs.setIfInBounds i ph) F.ch false= []:=by
   refine partners_nil fun a o ae=>?_;rcases getElem?_stand gs i a o ae with⟨_,rfl⟩ | ⟨_,ag⟩
   ·exact offersAt_ph _ _
   ·exact(h.Cz a o ag).Mi fun e=>by
     have:a=0:=by simpa using e
     subst this;exact ac
  have Z:=crowd_waits (sl:=sl) hi ao fun aQ aq=>by
   simp at aq;subst aq;exact ways_send_none (v:=x) (z:=z) h.Em (Nat.le_refl _) aF
  obtain⟨ar,ah,ai⟩:=h.rest (g':=parked g #[scase F.ch x z] .send) (u:=MemOp.ofEvents i g.frame.fn g.frame.place #[]) U ay ak (by rw [A];exact .Df aa am (hs.law.live rfl) an) (ap _ _ _) (fun e=>absurd e K) (fun _ _=>ac) (fun ab e=>by have:=h.A0.cj ab;omega);exact⟨_,_,_,_,Z,.inl ⟨_,_,_,_,_,_,_,_,_,_,_,_,ah,ai⟩⟩
 | false=>
  obtain⟨aG,aj⟩:∃o,gs[0]? =some o:=⟨_,Array.getElem?_eq_getElem al⟩;obtain⟨p0,au,hm⟩:=h.A0.main;have av:=h.Cz 0 aG aj;rw [ac,au] at av;obtain⟨aR,vs,O,aH,rfl,rfl,aI⟩:=av.receiver rfl rfl;have aJ:partners (gs.setIfInBounds i ph) F.ch false= [(0,0)]:=by
   rw [partners_one (j:=0) (g:=parked O #[rcase F.ch aH] (.recv true)) (stand_get (Ne.symm K) aj) fun a o aK ae=>?_]
   ·rw [offersAt_parked_recv];simp
   ·rcases getElem?_stand gs i a o ae with⟨_,rfl⟩ | ⟨_,ag⟩
    ·exact offersAt_ph _ _
    ·exact(h.Cz a o ag).Mi fun e=>by
      have:a=0:=by simpa using e
      exact absurd this aK
  have Z:=crowd_send_meets (sl:=sl) hi ao h.Em (Ne.symm K) aj aJ;rw [finishComm_recv,finishComm_send,ap] at Z;have aL:((gs.setIfInBounds 0 (served O (recvd true x true))).setIfInBounds i (served g undef)).size=gs.size:=by simp
  obtain⟨aM,aN,ar,S',ah,ai⟩:=h.meet aw W aB A au (.refl _) ak aI am an (gs':=(gs.setIfInBounds 0 (served O (recvd true x true))).setIfInBounds i (served g undef)) aL
   (by rw [Array.getElem?_setIfInBounds_ne K,Array.getElem?_setIfInBounds_self_of_lt al];rfl) (by rw [Array.getElem?_setIfInBounds_self_of_lt (by simpa using U)]) (fun a aO aP=>by rw [Array.getElem?_setIfInBounds_ne (Ne.symm aP),Array.getElem?_setIfInBounds_ne (Ne.symm aO)]) rfl
   (f1:=g.frame.fn) (f2:=O.frame.fn) (p1:=g.frame.place) (p2:=O.frame.place)
  refine⟨_,_,_,_,Z,.inl ⟨aM,aN,ar,S',Sh,j,c,v,wt',sm,false,k+1,?_,ai⟩⟩;rw [Array.empty_append];exact ah
end
end Pal
namespace Pal
open Go Go.Conc
open Go.ConcN (upd upd_same upd_ne sumTo sumTo_upd sumTo_upd_out sumTo_congr le_sumTo sumTo_le fork_knows RelBy)
section
variable {P:Program}{F:Fam}{B:Base}{gs gs':Array Goroutine}{w w':World}{sl:Option (Nat×Nat)}{t:Trace}{φ:Nat→Nx}{r:Nat→Rk}{bt:Nat→Bool}{S:Nat→St}{Sh:Nat→Prop}{j:Nat}{c:Bool}{v wt' sm v₁ wt₁ sm₁:Nat}{cl cl₁:Bool}{k k₁:Nat}{main:Bool}
theorem Inv.LK(h:Inv P F B gs w t φ r bt S Sh j c v wt' sm true k):c=true∧CO (φ (B.N0+F.n))∧∀i,0<i→i<gs.size→∃d,φ i= .gone d:=by
 have hm:=h.A0.mode;have A:c=true∧CO (φ (B.N0+F.n)):=by
  split at hm
  ·rename_i A;refine⟨A,?_⟩;cases K:φ (B.N0+F.n) with
   | gone d=>trivial
   | ph p=>rw [K] at hm;cases p <;> simp [BI] at hm
  ·simp [BI] at hm
 refine⟨A.1,A.2,fun i hi O=>?_⟩;have:CO (φ i):=by
  rcases h.A0.C6 O with rfl | ⟨a,b⟩ | ⟨k',U,rfl⟩ | ⟨_,rfl⟩
  ·omega
  ·exact h.A0.old i a b
  ·exact h.A0.I1 A.1 (.inr (.inr (.inr (.inr A.2)))) k' U
  ·exact A.2
 cases K:φ i with
 | gone d=>exact⟨d,rfl⟩
 | ph p=>rw [K] at this;exact this.elim
theorem Inv.over(h:Inv P F B gs w t φ r bt S Sh j c v wt' sm true k){aD:List Nat}{vs:List Value}(ao:φ 0= .ph (.Bq aD vs)){s₀:St}(ap:BJ (S 0) s₀){g':Goroutine}(aE:F.fin g' s₀)
  (aq:gs'.size=gs.size) (aF:gs'[0]? =some g') (aa:∀a,a≠0→gs'[a]? =gs[a]?) {f1:FuncId} {p1:String}:
  Over P F B gs' w (t++ #[{g:=0,fn:=f1,pos:=p1,act:= .recvClosed F.ch}]):=by
 obtain⟨ae,ar,aG⟩:=h.LK;have aY:=h.A0.pos;have au:=h.A0.size;have ai:0<gs.size:=by omega
 have aH:F.ch<w.heap.size:=h.BD.C3 F.ch h.DJ;generalize hu:(#[{g:=0,fn:=f1,pos:=p1,act:= .recvClosed F.ch}]:Trace)=u;have av:∀op∈u,op.act.touch? =none∧∀m,op.act≠ .mark m:=by
  intro op K;subst hu;simp at K;subst K;exact⟨rfl,by simp⟩
 have ab:=h.Cy.BS h.A0 av;have aI:Deaf t 0=0:=by rw [h.Cy.deaf 0 ai,ao];rfl
 have aw:∀i g,0<i→gs[i]? =some g→∃q d,φ i= .gone d∧QuitsD P q d g∧S i= .quiet:=by
  intro i g hi A;obtain⟨d,ay⟩:=aG i hi (Array.getElem?_eq_some_iff.1 A).1;have hs:=h.Cz i g A;rw [ay] at hs;generalize U:Nx.gone d=x at hs;generalize S i=s at hs ⊢;generalize r i=ρ at hs;generalize bt i=aZ at hs;cases hs with
  | gone _ ag=>cases U;exact⟨_,_,ay,ag,rfl⟩
  | _=>cases U
 have ag:∀i,∃q,∀g,0<i→gs[i]? =some g→QuitsD P q (Deaf t i) g:=by
  intro i;by_cases hi:0<i∧i<gs.size
  ·obtain⟨q,d,O,Z,_⟩:=aw i _ hi.1 (Array.getElem?_eq_getElem hi.2);refine⟨q,fun g _ A=>?_⟩;rw [Array.getElem?_eq_getElem hi.2] at A;obtain rfl:=Option.some.inj A;rw [h.Cy.deaf i hi.2,O];exact Z
  ·exact⟨0,fun g O Z=>absurd ⟨O,(Array.getElem?_eq_some_iff.1 Z).1⟩ hi⟩
 have az:∀op∈u,op.g=0:=by intro op K;subst hu;simp at K;subst K;rfl
 have aJ:Br t w gs.size (lone s₀) Sh:=by
  have O:=h.BD.ghost ai ap;refine O.congr fun i hi=>?_;by_cases e:i=0
  ·subst e;rw [upd_same];exact⟨rfl,rfl⟩
  ·rw [upd_ne _ _ e];obtain⟨_,_,_,_,aK⟩:=aw i _ (by omega) (Array.getElem?_eq_getElem hi);rw [aK];simp [lone,e]
 have aL:Br (t++u) w gs.size (lone s₀) Sh:=aJ.mute (g:=0) az (fun op aa=>(av op aa).1) (fun op K=>by subst hu;simp at K;subst K;exact aH) rfl;refine⟨fun i=>Classical.choose (ag i),Sh,g',s₀,⟨aF,⟨fun i g hi A=>?_,fun i hi=>?_⟩,by rw [aq];exact aL,fun x g A aM aj=>?_,?_⟩,aE,h.le.trans fun b o aa=>ap.ext b o aa,h.tape,h.os,h.output⟩
 ·rw [Deaf_other t (by omega) u az];rw [aa i (by omega)] at A;exact Classical.choose_spec (ag i) g hi A
 ·exact ab.above i (by rw [← aq];exact hi)
 ·rcases ab.over x g A aM aj with q | ⟨q1,q2⟩
  ·exact q
  obtain⟨p,W⟩:=ab.GF ae ar;have a0:p<t.size:=by
   obtain⟨a1,a2⟩:=h.Cy.GF ae ar;rcases Nat.lt_or_ge p t.size with q | q
   ·exact q
   ·have O:=W.1;obtain⟨op,K,aN⟩:=Option.map_eq_some_iff.1 O;rcases getElem?_append_cases K with⟨aO,_⟩ | ⟨_,hm⟩
    ·exact aO
    ·subst hu;simp at hm;subst hm;cases aN
  have ak:(t++u)[t.size]? =some {g:=0,fn:=f1,pos:=p1,act:= .recvClosed F.ch}:=by subst hu;simp
  have aP:(t++u).heard t.size:=⟨0,by simp [Trace.g?,ak],by rw [deaf_old (Nat.le_refl _)];exact aI⟩;have ah:HappensBefore (t++u) p t.size:= .single (.inr ⟨.closed W.1 (by rw [act?_of ak]),W.2.2.1,aP⟩);have aA:(t++u).g? t.size=some 0:=by simp [Trace.g?,ak]
  have al:∀{a b:Nat} {g:Nat},a<b→(t++u).g? a=some g→(t++u).g? b=some g→HappensBefore (t++u) a b:=fun O Z aQ=> .single (.inl ⟨O,_,Z,aQ⟩);rcases Nat.lt_or_ge g (B.N0+F.n) with aR | aR
  ·
   obtain⟨q,aS,aT,aU,aV,aW⟩:=W.2.2.2.1;obtain⟨ρ,a3,aX,ac⟩:=aW (g - B.N0) (by omega);have am:B.N0+(g - B.N0)=g:=by omega
   rw [am] at ac;have aB:HappensBefore (t++u) ρ q:= .single (.inr ⟨.marked aX (.inr ac.act) aT (fun z O Z=>ab.norel z (by omega)),ac.heard,aV⟩);have aC:HappensBefore (t++u) q p:=al aS aU W.2.1;have hle:x≤ρ:=Nat.le_of_not_lt fun an=>ac.after x an A aj;refine⟨t.size,aA,?_⟩;rcases Nat.lt_or_ge x ρ with U | U
   ·exact((al U A ac.g).trans (aB.trans aC)).trans ah
   ·obtain rfl:x=ρ:=by omega
    exact(aB.trans aC).trans ah
  ·
   have am:g=B.N0+F.n:=by rw [ae] at au;have:=h.A0.cj ae;simp at au;omega
   subst am;have hle:x≤p:=Nat.le_of_not_lt fun an=>W.2.2.2.2 x an A aj;refine⟨t.size,aA,?_⟩;rcases Nat.lt_or_ge x p with U | U
   ·exact(al U A W.2.1).trans ah
   ·obtain rfl:x=p:=by omega
    exact ah
 ·have:=ab.deaf 0 ai;rw [ao] at this;exact this
theorem Inv.recv(h:Inv P F B gs w t φ r bt S Sh j c v wt' sm cl k)(aK:∀k v E E',Le E E'→F.msg k v E→F.msg k v E'){x:Goroutine}(hi:gs[0]? =some x){ai:List Nat}{vs:List Value}(aa:φ 0= .ph (.Bq ai vs))(aL:bt 0=true)
  {K:Goroutine} {s₀:St} (aj:BJ (S 0) s₀) (hs:Stop P F (.Bq ai vs) K s₀) (ak:∀w,stepG P true x w=stepG P true K w) (a4:x.frame=K.frame):
  Ey P F B gs w sl t 0 (mu F gs.size φ r bt):=by
 have al:0<gs.size:=(Array.getElem?_eq_some_iff.1 hi).1;obtain⟨z,aM,_,aN⟩:=hs.law.recv ai vs rfl;have am:stepG P (0==0) x w= .comm K #[rcase F.ch z] true (.recv true) w #[]:=by rw [show((0:Nat)==0)=true from rfl,ak];exact aM w
 have an:∀(a:Nat) (fn:FuncId) (pos:String),MemOp.ofEvents a fn pos #[]= #[]:=fun a fn pos=>by rw [ofEvents_eq];simp
 by_cases ab:partners (gs.setIfInBounds 0 ph) F.ch true= []
 ·cases ac:cl with
  | false=>
   have W:=h.Em;rw [ac] at W;have Z:=crowd_waits (sl:=sl) hi am fun a5 az=>by
    simp at az;subst az;exact ways_recv_none (z:=z) W ab
   have aO:∀a k',a<gs.size→φ a= .ph (.Bu k')→bt a=true:=by
    intro a k' ag ao;cases hb:bt a with
    | true=>rfl
    | false=>
     have U:=h.Cz a _ (Array.getElem?_eq_getElem ag);rw [ao,hb] at U;obtain⟨g,y,ap,hgo,_⟩:=U.I6;have ah:a≠0:=fun e=>by subst e;rw [aa] at ao;cases ao
     have:(a,0)∈partners (gs.setIfInBounds 0 ph) F.ch true:=mem_partners.2 ⟨gs[a],stand_get ah (Array.getElem?_eq_getElem ag),by rw [hgo,offersAt_parked_send];simp⟩;rw [ab] at this;cases this
   obtain⟨aA,aq,ar⟩:=h.rest (g':=parked K #[rcase F.ch z] (.recv true)) (u:=MemOp.ofEvents 0 x.frame.fn x.frame.place #[]) al aL aj (by rw [aa];exact .CZ rfl hs) (an _ _ _) (fun _=>⟨ac,aO⟩) (fun k' e=>by rw [aa] at e;cases e) (fun W e=>by have:=h.A0.pos;omega);exact⟨_,_,_,_,Z,.inl ⟨_,_,_,_,_,_,_,_,_,_,_,_,aq,ar⟩⟩
  | true=>
   subst ac;have Z:=crowd_recv_closed (sl:=sl) hi am h.Em ab;rw [finishComm_recv,an] at Z;obtain⟨W,a6,aP⟩:=h.LK;have aQ:=aN fun k' O hh=>by
    have aR:k'<j:=by rw [h.A0.cj W];exact O
    have aB:=h.A0.Ej k' aR hh;rw [aa] at aB;have a7:=h.A0.size;have a8:=h.A0.pos;obtain⟨d,aC⟩:=aP (B.N0+k') (by omega) (by omega);apply Classical.byContradiction;intro aS;rw [aB.2 aS] at aC;cases aC
   have aT:=h.over (gs':=gs.setIfInBounds 0 (served K (recvd true z false))) aa aj aQ (by simp) (by rw [Array.getElem?_setIfInBounds_self_of_lt al];rfl) (fun a ag=>by rw [Array.getElem?_setIfInBounds_ne (Ne.symm ag)]) (f1:=K.frame.fn) (p1:=K.frame.place);refine⟨_,_,_,_,Z,.inr ?_⟩;rw [Array.empty_append];exact aT
 ·have ac:cl=false:=by
   obtain⟨⟨a,b⟩,au⟩:=List.exists_mem_of_ne_nil _ ab;obtain⟨o,av,A⟩:=mem_partners.1 au;rcases getElem?_stand gs 0 a o av with⟨_,rfl⟩ | ⟨_,ae⟩
   ·rw [offersAt_ph] at A;cases A
   ·obtain⟨k',O,_⟩:=(h.Cz a o ae).IL fun e=>by rw [e] at A;cases A
    cases ak:cl with
    | false=>rfl
    | true=>exact absurd O (h.noSend ak a k' (Array.getElem?_eq_some_iff.1 ae).1)
  subst ac;obtain⟨a,aw,aD,a9,ba,d,ah,aE,Z⟩:=crowd_recv_meets_some (sl:=sl) hi am h.Em ab fun a b au=>by
   obtain⟨o,av,A⟩:=mem_partners.1 au;rcases getElem?_stand gs 0 a o av with⟨_,rfl⟩ | ⟨aU,ae⟩
   ·rw [offersAt_ph] at A;cases A
   ·have U:=h.Cz a o ae;obtain⟨k',O,ay⟩:=U.IL fun e=>by rw [e] at A;cases A
    rw [O,ay] at U;obtain⟨g,y,ap,hgo,_⟩:=U.I6;rw [hgo,offersAt_parked_send] at A;simp at A;exact⟨A,aU,g,y,ap,_,by rw [ae,hgo]⟩
  have aF:a<gs.size:=(Array.getElem?_eq_some_iff.1 aE).1;have U:=h.Cz a _ aE;obtain⟨k',O,ay⟩:=U.IL (by rw [offersAt_parked_send];simp);rw [O,ay] at U;obtain⟨g,y,ap,hgo,aV,bb,aG⟩:=U.I6;obtain⟨aH,aW,aX⟩:=NY hgo;have aY:aD=y:=by simp [scase] at aH;exact aH.1
  subst aY;subst aW;rw [finishComm_recv,finishComm_send,an] at Z;rw [← aX] at aG;have aI:k'<j∧a=B.N0+k':=by
   rcases h.A0.C6 aF with rfl | ⟨q1,q2⟩ | ⟨aZ,aJ,rfl⟩ | ⟨W,rfl⟩
   ·exact absurd rfl ah
   ·have:=h.A0.old a q1 q2;rw [O] at this;exact this.elim
   ·have:=h.A0.work aZ aJ;rw [O] at this;obtain⟨rfl,_⟩:=this;exact⟨aJ,rfl⟩
   ·have:=h.A0.cls W;rw [O] at this;exact this.elim
  obtain⟨a0,a1,aA,S',aq,ar⟩:=(h.at_ d).meet aK aI.1 aI.2 O aa aj (.refl _) hs aV aG (gs':=(gs.setIfInBounds a (served aw undef)).setIfInBounds 0 (served K (recvd true aD true))) (by simp)
   (by rw [Array.getElem?_setIfInBounds_self_of_lt (by simpa using al)];rfl) (by rw [Array.getElem?_setIfInBounds_ne (Ne.symm ah),Array.getElem?_setIfInBounds_self_of_lt aF]) (fun b a2 a3=>by rw [Array.getElem?_setIfInBounds_ne (Ne.symm a2),Array.getElem?_setIfInBounds_ne (Ne.symm a3)]) rfl
   (f1:=aw.frame.fn) (f2:=K.frame.fn) (p1:=aw.frame.place) (p2:=K.frame.place)
  refine⟨_,_,_,_,Z,.inl ⟨a0,a1,aA,S',Sh,j,c,v,wt',sm,false,k+1,?_,ar⟩⟩;rw [Array.empty_append];exact aq
theorem Inv.spawn(h:Inv P F B gs w t φ r bt S Sh j c v wt' sm cl k){g g' child:Goroutine}(hi:gs[0]? =some g){p O K:Ph}(ah:φ 0= .ph p)(av:c=false){s₀:St}(aq:BJ (S 0) s₀)(aw:stepG P true g w= .spawn g' child w #[])
  (ay:Way P true (Stop P F O) g' s₀) (az:Way P false (Stop P F K) child ⟨s₀.E,fun _=>none,false⟩) (aA:Fam.B6 O=true) (aB:Fam.B6 K=false) (aC:Fam.Cj O=false) (aD:Fam.Cj K=false) {ai:Nat} {aj:Bool}
  (aE:Bp F B.N0 (gs.size+1) ai aj (upd (upd φ gs.size (.ph K)) 0 (.ph O)) v wt' sm cl)
  (aa:Cn (.ph p)=0∧Cn (.ph O)=0∧Cn (.ph K)=0) (aF:∀k,k<ai→late (upd (upd φ gs.size (.ph K)) 0 (.ph O) (B.N0+k))→k<j∧late (φ (B.N0+k))) (an:aj=true→B.N0+F.n=gs.size∧K= .BN)
  (hm:wt F.n (.ph O)+wt F.n (.ph K)<wt F.n (.ph p)) (aG:sm=0):
  Ey P F B gs w sl t 0 (mu F gs.size φ r bt):=by
 have W:0<gs.size:=(Array.getElem?_eq_some_iff.1 hi).1;have ak:=runT_crowd_spawn (P:=P) (sl:=sl) (i:=0) hi (show stepG P (0==0) g w=_ from aw);have aH:∀(a:Nat) (fn:FuncId) (pos:String),MemOp.ofEvents a fn pos #[]= #[]:=fun a fn pos=>by rw [ofEvents_eq];simp
 rw [aH] at ak;generalize aI:({g:=0,fn:=g.frame.fn,pos:=g.frame.place,act:= .go gs.size}:MemOp)=x at ak;generalize aJ:({g:=gs.size,fn:=child.frame.fn,pos:=g.frame.place,act:= .start}:MemOp)=y at ak;have ab:x.g=0∧x.act= .go gs.size:=by subst aI;exact⟨rfl,rfl⟩
 have ac:y.g=gs.size∧y.act= .start:=by subst aJ;exact⟨rfl,rfl⟩
 have aK:((#[]:Trace).push x).push y= #[x,y]:=rfl;have al:((gs.setIfInBounds 0 g').push child).size=gs.size+1:=by simp
 have f0:upd (upd φ gs.size (.ph K)) 0 (.ph O) 0= .ph O:=upd_same _ _ _;have am:upd (upd φ gs.size (.ph K)) 0 (.ph O) gs.size= .ph K:=by rw [upd_ne _ _ (by omega),upd_same]
 have ar:∀a,a≠0→a≠gs.size→upd (upd φ gs.size (.ph K)) 0 (.ph O) a=φ a:=fun a aL aM=>by rw [upd_ne _ _ aL,upd_ne _ _ aM]
 have hu:∀op∈(#[x,y]:Array MemOp),op.act.touch? =none∧∀m,op.act≠ .mark m:=by
  intro op A;simp only [List.mem_toArray,List.mem_cons,List.not_mem_nil,or_false] at A;rcases A with rfl | rfl
  ·rw [ab.2];exact⟨rfl,by simp⟩
  ·rw [ac.2];exact⟨rfl,by simp⟩
 have aN:Cg F B.N0 B.t0 (gs.size+1) ai aj (upd (upd φ gs.size (.ph K)) 0 (.ph O)) (t++ #[x,y]):=by
  refine h.Cy.spawn h.A0 av (fun a ao=>?_) (by rw [am];exact aa.2.2) (by rw [ah];exact aa.1) aF (fun e=>⟨(an e).1,by rw [(an e).1,am,(an e).2]⟩) ab ac;by_cases e:a=0
  ·subst e;rw [f0,ah,aa.1,aa.2.1]
  ·rw [ar a e (by omega)]
 have au:Br t w gs.size (upd S 0 s₀) Sh:=h.BD.ghost W aq;have aO:Br (t++ #[x,y]) w gs.size (upd S 0 s₀) Sh:=by
  refine au.ext (fun said=>?_) (fun op A a ao=>by rw [(hu op A).1] at ao;cases ao) (fun op A=>?_) rfl fun _ _=>rfl
  ·have e:t++ #[x,y]=(t++ #[x])++ #[y]:=by apply Array.ext';simp
   rw [e];exact noRace_append (g:=gs.size) (noRace_append (g:=0) (h.BD.clean said) (fun op A=>by simp at A;subst A;exact ab.1) fun z a _ op A b hb _=>by rw [(hu op (by simp at A ⊢;exact .inl A)).1] at hb;cases hb)
    (fun op A=>by simp at A;subst A;exact ac.1) fun z a _ op A b hb _=>by rw [(hu op (by simp at A ⊢;exact .inr A)).1] at hb;cases hb
  ·simp only [List.mem_toArray,List.mem_cons,List.not_mem_nil,or_false] at A;rcases A with rfl | rfl
   ·rw [ab.2];trivial
   ·rw [ac.2];trivial
 have aP:Br (t++ #[x,y]) w (gs.size+1) (upd (upd S 0 s₀) gs.size ⟨s₀.E,fun _=>none,false⟩) Sh:=by
  refine aO.push (i:=0) W (E:=s₀.E) (fun b o ae=>by rw [upd_same];exact ae) fun b hb z a aQ aR aS=>?_;have hold:touchAt t z=some a:=by
   obtain⟨op,ae,ap⟩:=touch_of aQ;rcases getElem?_append_cases ae with⟨_,aT⟩ | ⟨_,aU⟩
   ·rw [touchAt_of aT];exact ap
   ·rw [(hu op aU).1] at ap;cases ap
  exact fork_knows ab ac (by rw [h.Cy.deaf 0 W,ah];exact aa.1) (h.Cy.above _ (Nat.le_refl _)) (au.kE 0 W b (by rw [upd_same];exact hb) z a hold aR aS)
 obtain⟨aV,aW⟩:=ay;obtain⟨aX,aY⟩:=az;have ag:∀{α:Type} (f:Nat→α) (a b:α),upd (upd f 0 a) gs.size b 0=a:=fun f a b=>by rw [upd_ne _ _ (by omega),upd_same]
 refine⟨_,_,_,_,ak,.inl ⟨upd (upd φ gs.size (.ph K)) 0 (.ph O),upd (upd r 0 aV) gs.size aX,upd (upd bt 0 true) gs.size true,upd (upd S 0 s₀) gs.size ⟨s₀.E,fun _=>none,false⟩,Sh,ai,aj,v,wt',sm,cl,k,?_,?_⟩⟩
 ·rw [aK];refine⟨by rw [al];exact aE,by rw [al];exact aN,fun a o U=>?_,by rw [al];exact aP,h.Fb,h.DJ,h.ne,h.wg,h.Em,fun hb=>(by rw [ag] at hb;cases hb),fun _ _=>aG,?_,h.tape,h.os,h.output⟩
  ·by_cases e:a=0
   ·subst e;rw [Array.getElem?_push_lt (by simpa using W)] at U;simp at U;subst U;rw [f0,ag,ag,ag];exact .walk aA.symm (fun q=>by rw [aC] at q;cases q) aW
   ·by_cases Z:a=gs.size
    ·subst Z;have:child=o:=by
      rw [show gs.size=(gs.setIfInBounds 0 g').size by simp,Array.getElem?_push_size] at U;exact Option.some.inj U
     subst this;rw [am,upd_same,upd_same,upd_same];have aZ:(gs.size==0)=false:=by rw [beq_eq_false_iff_ne];omega
     rw [aZ];exact .walk aB.symm (fun q=>by rw [aD] at q;cases q) aY
    ·rw [ar a e Z,upd_ne _ _ Z,upd_ne _ _ e,upd_ne _ _ Z,upd_ne _ _ e,upd_ne _ _ Z,upd_ne _ _ e];have:gs[a]? =some o:=by
      rw [Array.getElem?_push] at U;simp [Z] at U;simpa [Array.getElem?_setIfInBounds_ne (Ne.symm e)] using U
     exact h.Cz a o this
  ·rw [ag];exact h.le.trans fun b o ae=>aq.ext b o ae
 ·rw [al];refine MV ?_;simp only [sumTo];rw [am];have a0:=sumTo_upd (upd φ gs.size (.ph K)) (.ph O) (wt F.n) W;rw [upd_ne _ _ (by omega),ah] at a0;have a1:=sumTo_upd_out φ (.ph K) (wt F.n) (i:=gs.size) (j:=gs.size) (Nat.le_refl _);omega
theorem Inv.step(h:Inv P F B gs w t φ r bt S Sh j c v wt' sm cl k)(aB:∀k v E E',Le E E'→F.msg k v E→F.msg k v E'):
  ∃gs' w' aC u,stepT P (crowd gs w sl)=(.next (crowd gs' w' aC),u)∧
  ((∃aO aP aQ S' a0 K a1 v' a2 sm' cl' k',Inv P F B gs' w' (t++u) aO aP aQ S' a0 K a1 v' a2 sm' cl' k'∧Mu.lt (mu F gs'.size aO aP aQ) (mu F gs.size φ r bt))∨Over P F B gs' w' (t++u)):=by
 have bu:=h.A0.pos;have ah:=h.A0.size;have aD:0<gs.size:=by omega
 have a3:∀x∈gs,awake x:=by
  intro x A;obtain⟨i,hi,rfl⟩:=Array.mem_iff_getElem.1 A;exact(h.Cz i _ (Array.getElem?_eq_getElem hi)).awake
 have aE:∀i (hi:i<gs.size) p,φ i= .ph p→bt i=true→(gs[i]).status= .running:=by
  intro i hi p a4 hb;have hs:=h.Cz i _ (Array.getElem?_eq_getElem hi);rw [a4,hb] at hs;generalize A:Nx.ph p=x at hs;generalize Z:true=b at hs;generalize gs[i]=o at hs ⊢;generalize r i=ρ at hs;generalize S i=s at hs;cases hs with
  | walk _ _ am=>exact am.running
  | again _ _=>rfl
  | CZ _ _=>cases Z
  | Df _ _ _ _=>cases Z
  | blk _ _=>cases Z
  | gone _ _=>cases A
 have a5:∃(i:Nat) (g:Goroutine),gs[i]? =some g∧g.status= .running:=by
  obtain⟨p0,aa,an⟩:=h.A0.main;cases aF:bt 0 with
  | true=>exact⟨0,_,Array.getElem?_eq_getElem aD,aE 0 aD p0 aa aF⟩
  | false=>
   obtain⟨a6,a7⟩:=h.It aF;have aR:=h.Cz 0 _ (Array.getElem?_eq_getElem aD);rw [aa,aF] at aR;obtain⟨ai,vs,aS,bv,rfl,_,_⟩:=aR.receiver rfl rfl;obtain⟨am,O⟩:=an;have aG:B.N0+F.n<gs.size:=by rw [O] at ah;simp at ah;omega
   have a8:=h.A0.cls O;have ab:=h.A0.mode;rw [if_pos O] at ab;cases aq:φ (B.N0+F.n) with
   | gone d=>rw [aq] at ab;have:=ab.2.2.2.2.2;rw [a6] at this;cases this
   | ph aH=>
    cases aI:bt (B.N0+F.n) with
    | true=>exact⟨_,_,Array.getElem?_eq_getElem aG,aE _ aG aH aq aI⟩
    | false=>
     have ar:=h.blk O aI;have ac:=h.Cz _ _ (Array.getElem?_eq_getElem aG);have a9:aH= .BY:=by
      have au:=a8;rw [aq] at ac au;rw [aI] at ac;generalize gs[B.N0+F.n]=o at ac;generalize r (B.N0+F.n)=ρ at ac;generalize S (B.N0+F.n)=s at ac;generalize A:Nx.ph aH=x at ac au;generalize Z:false=b at ac;cases ac with
      | walk _ _ _=>cases Z
      | again _ _=>cases Z
      | CZ _ _=>cases A;exact au.elim
      | Df _ _ _ _=>cases A;exact au.elim
      | blk _ _=>cases A;rfl
      | gone _ _=>cases A
     subst a9;rw [aq] at ab;obtain⟨ba,_,_⟩:=ab;have aT:=h.A0.cnt;rw [aa] at aT;simp only [pend,Nat.add_zero] at aT;have hex:∃i,i<gs.size∧1≤cU (φ i)+cL (φ i)+cS (φ i):=by
      apply Classical.byContradiction;intro bb;have aJ:∀i,i<gs.size→cU (φ i)=0∧cL (φ i)=0∧cS (φ i)=0:=fun i hi=>by
       have:¬1≤cU (φ i)+cL (φ i)+cS (φ i):=fun q=>bb ⟨i,hi,q⟩;omega
      have zero:∀f:Nat→Nat,(∀i,i<gs.size→f i=0)→sumTo gs.size f=0:=fun f bc=>by
       have:=sumTo_le (f:=f) (c:=0) (j:=gs.size) (fun i hi=>by rw [bc i hi];exact Nat.le_refl _);omega
      have z1:=zero (fun i=>cU (φ i)) fun i hi=>(aJ i hi).1;have bw:=zero (fun i=>cL (φ i)) fun i hi=>(aJ i hi).2.1;have bx:=zero (fun i=>cS (φ i)) fun i hi=>(aJ i hi).2.2;omega
     obtain⟨i,hi,aj⟩:=hex;cases ao:φ i with
     | gone d=>rw [ao] at aj;simp [cU,cL,cS] at aj
     | ph pi=>
      have bd:bt i=true:=by
       cases hb:bt i with
       | true=>rfl
       | false=>
        have hs:=h.Cz i _ (Array.getElem?_eq_getElem hi);rw [ao,hb] at hs;rw [ao] at aj;generalize gs[i]=o at hs;generalize r i=ρ at hs;generalize S i=s at hs;generalize A:Nx.ph pi=x at hs aj;generalize Z:false=b at hs;cases hs with
        | walk _ _ _=>cases Z
        | again _ _=>cases Z
        | CZ _ _=>simp [cU,cL,cS] at aj
        | Df _ _ _ _=>have:=a7 i _ hi (ao.trans A);rw [hb] at this;cases this
        | blk _ _=>simp [cU,cL,cS] at aj
        | gone _ _=>cases A
      exact⟨i,_,Array.getElem?_eq_getElem hi,aE i hi pi ao bd⟩
 obtain⟨i,g,d,aC,hi,av,bf⟩:=crowd_pick (P:=P) (w:=w) (sl:=sl) a3 a5
 suffices Ey P F B gs (w.at d) aC t i (mu F gs.size φ r bt) by
  obtain⟨gs',w',bg,u,aK,aw⟩:=this;exact⟨gs',w',bg,u,bf.trans aK,aw⟩
 have U:=h.at_ d;have aL:i<gs.size:=(Array.getElem?_eq_some_iff.1 hi).1;have hs:=h.Cz i g hi;generalize A:φ i=x at hs;generalize aU:r i=ρ at hs;generalize hb:bt i=b at hs;generalize ay:S i=s at hs;cases hs with
 | CZ _ _=>cases av
 | Df _ _ _ _=>cases av
 | blk _ _=>cases av
 | gone hm ak=>exact U.slip hi av A aU hm ak ay
 | @again ai vs _ aS _ z hm W=>
  have ag:i=0:=by simpa using hm
  subst ag;refine U.recv aB hi A hb (by rw [ay];exact .refl _) W (fun w=>?_) rfl;rw [stepG_tries];congr 1;have:=W.law.run;obtain⟨a,b,c,d,e⟩:=aS;simp only at this;subst this;rfl
 | @walk p _ _ _ hm ak am=>
  have bh:JQ (Stop P F p) g s∨∃f,ρ= .node f∧(∀w,Fits s w→∃g' s' w' es,stepG P (i==0) g w= .go g' w' es∧Jr P (i==0) (JQ (Stop P F p)) (f w) g' s'∧Fits s' w'∧Fr s w s' w'∧(∀e∈es,Ev s w w' e)∧(s= .quiet→s'= .quiet∧w'=w∧es= #[])):=by
   cases ρ with
   | leaf=>exact .inl am
   | node f=>
    rcases am with q | ⟨_,q⟩
    ·exact .inl q
    ·exact .inr ⟨f,rfl,q⟩
  rcases bh with⟨s₀,al,W⟩ | ⟨f,rfl,hgo⟩
  ·subst ay;by_cases aV:∃k',p= .Bu k'
   ·obtain⟨k',rfl⟩:=aV;exact U.send aB hi A hb hm al W
   by_cases c2:∃K,p= .CS K
   ·obtain⟨K,rfl⟩:=c2;have ag:i=0:=by simpa [Fam.B6] using hm
    subst ag;obtain⟨p0,aa,an⟩:=h.A0.main;have:p0= .CS K:=by rw [A] at aa;exact(Nx.ph.inj aa).symm
    subst this;obtain⟨rfl,bi,O⟩:=an;obtain⟨g',child,_,_,hgo,aM,aN⟩:=W.law.go _ rfl;have ar:sm=0:=by have:=h.A0.mode;rw [O] at this;exact this.2.2.1
    have bj:=h.A0.spawn A;have az:F.Cc K= .Dg∨F.Cc K= .C4 (K+1):=by unfold Fam.Cc;split;exact .inl rfl;exact .inr rfl
    have ap:F.start K= .Bu K∨F.start K= .BL:=by unfold Fam.start;split;exact .inl rfl;exact .inr rfl
    have bk:gs.size=B.N0+K:=by rw [O] at ah;simpa using ah
    refine U.spawn hi A O al (hgo _) aN aM ?_ ?_ ?_ ?_ bj ⟨rfl,?_,?_⟩ (fun k' aW ae=>?_) (fun e=>by rw [O] at e;cases e) ?_ ar
    ·rcases az with e | e <;> rw [e] <;> rfl
    ·rcases ap with e | e <;> rw [e] <;> rfl
    ·rcases az with e | e <;> rw [e] <;> rfl
    ·rcases ap with e | e <;> rw [e] <;> rfl
    ·rcases az with e | e <;> rw [e] <;> rfl
    ·rcases ap with e | e <;> rw [e] <;> rfl
    ·by_cases e:k'=K
     ·subst e;rw [upd_ne _ _ (by omega),show B.N0+k'=gs.size by omega,upd_same] at ae;rcases ap with e | e <;> rw [e] at ae <;> exact ae.elim
     ·rw [upd_ne _ _ (by omega),upd_ne _ _ (by omega)] at ae;exact⟨by omega,ae⟩
    ·have:wt F.n (.ph (F.start K))≤10:=by rcases ap with e | e <;> rw [e] <;> simp [wt]
     have aw:wt F.n (.ph (F.Cc K))+20≤5*F.n+60+20*(F.n - K):=by
      rcases az with e | e <;> rw [e] <;> simp only [wt] <;> omega
     have aX:wt F.n (.ph (.CS K))=5*F.n+55+20*(F.n - K):=rfl;omega
   by_cases c3:p= .Dg
   ·subst c3;have ag:i=0:=by simpa [Fam.B6] using hm
    subst ag;obtain⟨p0,aa,an⟩:=h.A0.main;have:p0= .Dg:=by rw [A] at aa;exact(Nx.ph.inj aa).symm
    subst this;obtain⟨bi,O⟩:=an;obtain⟨g',child,_,_,hgo,aM,aN⟩:=W.law.D1 rfl;have ar:sm=0:=by have:=h.A0.mode;rw [O] at this;exact this.2.2.1
    have bk:gs.size=B.N0+j:=by rw [O] at ah;simpa using ah
    refine U.spawn hi A O al (hgo _) aN aM rfl rfl rfl rfl (h.A0.Qr A) ⟨rfl,rfl,rfl⟩ (fun k' aW ae=>?_) (fun _=>⟨by omega,rfl⟩) (by simp only [wt];omega) ar;rw [upd_ne _ _ (by omega),upd_ne _ _ (by omega)] at ae;exact⟨aW,ae⟩
   by_cases c4:∃ai vs,p= .Bq ai vs
   ·obtain⟨ai,vs,rfl⟩:=c4;have ag:i=0:=by simpa [Fam.B6] using hm
    subst ag;exact U.recv aB hi A hb al W (fun _=>rfl) rfl
   by_cases aY:p= .Cb
   ·subst aY;exact U.close hi A hm W
   by_cases aA:p= .BY∧sm=0
   ·obtain⟨rfl,aA⟩:=aA;exact U.block hi A hb hm al W aA
   obtain⟨v',w',sm',es,nx,bl⟩:=h.A0.enabled aL A (fun k e=>aV ⟨k,e⟩) (fun k e=>c2 ⟨k,e⟩) c3 (fun ai vs e=>c4 ⟨ai,vs,e⟩) aY (fun e=>by
    have ab:=h.A0.mode
    subst e
    have aZ:c=true∧i=B.N0+F.n:=by
     rcases h.A0.C6 aL with rfl | ⟨a,b⟩ | ⟨k',bm,rfl⟩ | q
     ·obtain⟨q,ak,bn⟩:=h.A0.main;rw [A] at ak;cases ak;exact bn.elim
     ·have:=h.A0.old i a b;rw [A] at this;exact this.elim
     ·have:=h.A0.work k' bm;rw [A] at this;exact this.elim
     ·exact q
    rw [if_pos aZ.1,← aZ.2,A] at ab
    obtain⟨ba,_⟩:=ab
    have:sm≠0:=fun q=>aA ⟨rfl,q⟩
    omega)
   exact U.act hi A hm al W bl
  ·subst ay;have bo:Fits (S i) (w.at d):=U.BD.fits i aL;obtain⟨g',s',w',es,aK,aw,aX,bp,bq,br⟩:=hgo (w.at d) bo;exact U.own hi A hm ak aK aw aX bp bq br (by rw [aU];exact⟨f,_,rfl,rfl⟩)
theorem Inv.run(W:∀k v E E',Le E E'→F.msg k v E→F.msg k v E'):∀(A:Mu) (gs:Array Goroutine) (w:World) (sl:Option (Nat×Nat)) (t:Trace) (φ:Nat→Nx) (r:Nat→Rk) (bt:Nat→Bool) (S:Nat→St) (Sh:Nat→Prop) (j:Nat) (c:Bool) (v wt' sm:Nat) (cl:Bool) (k:Nat),
  mu F gs.size φ r bt=A→Inv P F B gs w t φ r bt S Sh j c v wt' sm cl k→∃n gs' w' K O,runNT P n (crowd gs w sl) t=(.next (crowd gs' w' K),O)∧Over P F B gs' w' O:=by
 intro A
 induction A using Mu.wf.induction with
 | _ A Z=>
  intro gs w sl t φ r bt S Sh j c v wt' sm cl k aa h;obtain⟨gs',w',K,u,U,hh⟩:=h.step (sl:=sl) W;rcases hh with⟨ab,ac,ae,S',ag,ah,ai,v',aj,sm',cl',k',ak,al⟩ | am
  ·obtain⟨n,an,ao,ap,aq,ar,au⟩:=Z _ (aa▸al) gs' w' K (t++u) ab ac ae S' ag ah ai v' aj sm' cl' k' rfl ak;exact⟨n+1,an,ao,ap,aq,Hy U ar,au⟩
  ·exact⟨1,gs',w',K,t++u,Hy U rfl,am⟩
end
end Pal
namespace Pal
open Go Go.Conc
open Go.ConcN (upd upd_same upd_ne sumTo sumTo_upd sumTo_upd_out sumTo_congr le_sumTo sumTo_le)
def Fu(H:LH)(a b:Nat):LH:=fun x=>if x=b then none else if x=a then none else H x
theorem Pl{P:Program}(F:Fam){Q:GP}{g:Goroutine}{s:St}(ac:1≤F.n)(al:F.n<2147483647)(am:∀k v E E',Le E E'→F.msg k v E→F.msg k v E')
  (U:F.wg≠F.ch) (W:s.H F.wg=some (F.DZ 0 0)) (Z:s.H F.ch=some (.chan 0 #[] false 0 0 false))
  (an:Way P true (Stop P F (.C4 0)) g ⟨s.E,Fu s.H F.wg F.ch,false⟩) (ao:∀g s,F.fin g s→(Ce P).ok Q g s):(Ce P).ok Q g s:=by
 intro gs w sl t q Sh hC;have K:0<gs.size:=(Array.getElem?_eq_some_iff.1 hC.main).1;let s1:St:={s with H:=fun b=>if b=F.wg then none else s.H b}
 have ae:lone s 0=s:=rfl;have ap:Br t w gs.size (upd (lone s) 0 s1) (fun b=>Sh b∨b=F.wg):=by
  have:=hC.BD.share (i:=0) K (b₀:=F.wg) (o₀:=F.DZ 0 0) (by rw [ae];exact W);exact this
 have c2:Br t w gs.size (upd (upd (lone s) 0 s1) 0 ⟨s.E,Fu s.H F.wg F.ch,false⟩) (fun b=>(Sh b∨b=F.wg)∨b=F.ch):=by
  have:=ap.share (i:=0) K (b₀:=F.ch) (o₀:= .chan 0 #[] false 0 0 false) (by rw [upd_same];simp [s1,Ne.symm U,Z]);refine this.congr fun i hi=>?_;by_cases e:i=0
  ·subst e;rw [upd_same,upd_same,upd_same];exact⟨rfl,rfl⟩
  ·have h:∀(f:Nat→St) (x:St),upd f 0 x i=f i:=fun f x=>upd_ne f x e;constructor <;> simp only [h]
 have ag:∀b,s.H b≠none→∀x a,touchAt t x=some a→Ca a.loc=some b→Knows t 0 x:=fun b hb=>hC.BD.kH 0 K b (by rw [ae];exact hb);have ah:∀b,(b=F.wg∨b=F.ch)→s.H b≠none:=by rintro b (rfl | rfl) <;> simp [W,Z]
 have ai:=hC.BD.fits 0 K;obtain⟨ρ,aq⟩:=an;let φ:Nat→Nx:=fun i=>if i=0 then .ph (.C4 0) else .gone (Deaf t i)
 have z:∀f:Nx→Nat,(∀d,f (.gone d)=0)→f (.ph (.C4 0))=0→(sumTo gs.size fun i=>f (φ i))=0:=by
  intro f aj ak;have:=sumTo_le (f:=fun i=>f (φ i)) (c:=0) (j:=gs.size) fun i _=>by
   show f (φ i)≤0;by_cases e:i=0
   ·simp [φ,e,ak]
   ·simp [φ,e,aj]
  omega
 have ar:∀i,(upd (upd (lone s) 0 s1) 0 ⟨s.E,Fu s.H F.wg F.ch,false⟩) i=if i=0 then⟨s.E,Fu s.H F.wg F.ch,false⟩ else .quiet:=by
  intro i;by_cases e:i=0
  ·subst e;rw [upd_same];rfl
  ·rw [upd_ne _ _ e,upd_ne _ _ e];simp [lone,e]
 have au:F.DZ (Fam.word 0 0) (0:Nat)=F.DZ 0 0:=by simp [Fam.word]
 have av:Inv P F ⟨gs.size,t.size,s.E,w⟩ gs w t φ (fun i=>if i=0 then ρ else chain (q i)) (fun _=>true) (upd (upd (lone s) 0 s1) 0 ⟨s.E,Fu s.H F.wg F.ch,false⟩) (fun b=>(Sh b∨b=F.wg)∨b=F.ch) 0 false 0 0 0 false 0:=by
  refine⟨⟨K,ac,al,by simp,Nat.zero_le _,by simp,⟨.C4 0,rfl,rfl,ac,rfl⟩,fun i aj ak=>?_,fun k A=>by omega,by simp,?_,by simp [φ,pend],?_,fun k A=>by omega,.nil,fun k A=>by cases A⟩,
   ⟨fun i hi=>?_,fun i hi=>hC.lv.above i hi,fun x a b O hb aa A i hi aw=>?_,fun x a b O hb aa A=>?_,fun x g ay U az=> .inl (hC.over x g ay U az),fun x O e=>?_,Nat.le_refl _,fun k A=>by omega,by simp,by simp⟩,fun i g' ab=>?_,c2,.inl (.inr rfl),.inr rfl,U,?_,?_,by simp,by simp,?_,rfl,rfl,rfl⟩
  ·have:i≠0:=by omega
   simp [φ,this,CO]
  ·rw [z cU (fun _=>rfl) rfl];simp [φ,pend]
  ·simp only [Bool.false_eq_true,if_false,BI];exact⟨z cL (fun _=>rfl) rfl,z cS (fun _=>rfl) rfl,trivial,trivial,trivial⟩
  ·by_cases e:i=0
   ·subst e;simp [φ,Cn];exact hC.hears
   ·simp [φ,e,Cn]
  ·have:i=0:=by
    rcases aw with e | e
    ·exact e
    ·exact absurd hi (Nat.not_lt.2 e)
   subst this;exact ag b (ah b aa) x a O hb
  ·exact ag b (ah b aa) x a O hb
  ·have:=lt_of_act? e;have aV:t.size≤x:=O;omega
  ·rw [ar];by_cases e:i=0
   ·subst e;rw [hC.main] at ab;obtain rfl:=Option.some.inj ab;simp only [if_true,φ];exact .walk rfl (fun h=>by cases h) aq
   ·have hm:(i==0)=false:=by rw [beq_eq_false_iff_ne];exact e
    simp only [e,if_false,φ];exact .gone hm (hC.lv.old i g' (by omega) ab)
  ·show w.heap[F.wg]? =_;rw [au];exact ai.h _ _ W
  ·exact ai.h _ _ Z
  ·rw [upd_same];exact Le.refl _
 obtain⟨n,gs',w',aA,aB,aC,aD,aE,g',s',aF,aG,hle,aH,aI,aJ⟩:=Inv.run am _ _ _ sl _ _ _ _ _ _ _ _ _ _ _ _ _ rfl av;obtain⟨aK,aL,w2,aM,t2,q2,aN,aO,s2,k1,aP,aQ,aR,aS,aT,aU⟩:=ao g' s' aG gs' w' aA aB aD aE aF;refine⟨n+aK,aL,w2,aM,t2,q2,aN,aO,s2,?_,aP,aQ,fun b o h=>aR b o (hle b o h),aS.trans aH,aT.trans aI,aU.trans aJ⟩;rw [runNT_add,aC];exact k1
end Pal
namespace Pal
open Go Go.Conc
section
variable {P:Program}{F:Fam}{J:Judge P}{Q:GP}{n:Nat}{L L':Env}{ds:List Deferred}{k:List Item}{cs:List Frame}{s s':St}{b:Frame}{main:Bool}
theorem BF(hb:b.roundOf=none)(T:Array Value)(todo:List Item):fr b T ds todo=b.at ⟨T,ds⟩ todo:=by simp [fr,Frame.at,hb]
theorem Gd(hb:b.roundOf=none)(T:Array Value)(todo:List Item):Cr b T ds todo={b.at ⟨T,ds⟩ todo with mode:= .returning}:=by simp [Cr,Frame.at,hb]
theorem CN(T:Array Value)(ds:List Deferred)(x:Operand):(⟨T,ds⟩:Act).eval x=A9 T x:=by cases x <;> rfl
theorem Dp(T:Array Value)(ds:List Deferred)(d:Option Tmp)(v:Value):(⟨T,ds⟩:Act).put d v=⟨BB T d v,ds⟩:=by cases d <;> rfl
def JO(J:Judge P)(Q:GP)(b:Frame)(n:Nat)(L:Env)(ds:List Deferred)(cs:List Frame)(s:St):Prop:=
 ∀T,Has n L T→∀todo,J.ok Q (G (Cr b T ds todo) cs) s
theorem JL.out(A:b.roundOf=none)(h:JO J Q b n L ds cs s):JL J Q b n L ds [] cs s:=fun T K=>
 Judge.BS rfl (fun w=>by simp [G,stepG,stepG.exec,fr,Cr,A]) (h T K [])
theorem JL.DV(A:b.roundOf=none)(h:JO J Q b n L ds cs s):JL J Q b n L ds (.code .ret::k) cs s:=fun T K=>
 Judge.BS rfl (fun w=>by simp [G,stepG,stepG.exec,fr,Cr,A]) (h T K (.code .ret::k))
theorem JO.leave{c:Frame}{v:Value}(K:b.kind= .normal)(A:Bl P b.fn L n s v)(h:J.ok Q (G (c.finish v) cs) s):JO J Q b n L [] (c::cs) s:=fun T O todo=>by
 obtain⟨fn,U,A⟩:=A
 exact Judge.leave K U (A T O) h
theorem JO.leaveD{c:Frame}{fn:Func}(K:b.kind= .deferred)(O:P.funcs[b.fn]? =some fn)(A:fn.results= #[])(U:c.mode= .returning∨c.mode= .panicking [goexitEntry])(h:J.ok Q (G c cs) s):JO J Q b n L [] (c::cs) s:=fun T aa todo=>by
 refine Judge.BS rfl (fun w=>?_) h
 have W:=results_none A T P w
 have Z:=fun(x:Array Event)=>events_results_none (P:=P) (w:=w) A T x
 rcases U with e | e <;> simp [G,stepG,unwind,Cr,O,W,Z,doReturn,K,GStep.after,seen_none,e,goexitEntry]
theorem JO.enter{f:FuncId}{fn:Func}{c:Code}{vs:List Value}(K:b.roundOf=none)(U:P.funcs[f]? =some fn)(W:(fn.name== "runtime.NumGoroutine")=false)(hb:fn.body=some c)(ab:vs.length≤fn.ntmps)
  (h:∀T,Has n L T→∀todo,JL J Q (baseD f) fn.ntmps (Ds 0 vs) [] [.code c] (Cr b T ds todo::cs) s):JO J Q b n L (dcall f vs.toArray::ds) cs s:=fun T Z todo=>by
 refine Judge.BS rfl (fun w=>?_) (h T Z todo (vs.toArray++Array.replicate (fn.ntmps - vs.length) undef) ⟨by simp;omega,fun t v ht=>?_⟩)
 ·rw [Gd K,stepG_unwind_enter (a:=⟨T,dcall f vs.toArray::ds⟩) rfl U W hb,Gd K]
  rw [BF (b:=baseD f) rfl];simp
 ·obtain⟨_,A⟩:=F9 ht;have aa:t<vs.length:=by
   rcases Nat.lt_or_ge t vs.length with O | O
   ·exact O
   ·simp at A;have:=(List.getElem?_eq_some_iff.1 A).1;omega
  rw [Array.getD_eq_getD_getElem?,Array.getElem?_append_left (by simpa using aa)];simp at A;simp [A]
theorem JL.defer{ops:Array Oper}{i:Nat}{rest:List Nat}{d:Option Tmp}{f:FuncId}{args:Array Operand}{ats:Array TypeId}{ty:TypeId}{p:String}{af:Array Edge}{g:Option (Nat×Bool)}{vs:List Value}
  (O:ops[i]? =some ⟨d,.defer ⟨.value (.func f),args,ats⟩,ty,p,af,g⟩) (U:b.roundOf=none) (hw:AS L ops ⟨d,.defer ⟨.value (.func f),args,ats⟩,ty,p,af,g⟩=some true) (A:((b.kind != .early)&&A2 n d)=true)
  (W:evs L args.toList=some vs) (h:JL J Q b n (AH L d undef) (dcall f vs.toArray::ds) (.inRegion ops rest::k) cs s):
  JL J Q b n L ds (.inRegion ops (i::rest)::k) cs s:=fun T K=>by
 simp only [Bool.and_eq_true] at A
 have Z:args.map (A9 T)=vs.toArray:=by
  rw [← Dz K.Dr W];apply Array.ext';simp
 refine Judge.oper O (BM K hw) (by simpa using A.1) (.inl U) ?_;have aa:execOp (A9 T) ⟨d,.defer ⟨.value (.func f),args,ats⟩,ty,p,af,g⟩= .pure (.defer (dcall f vs.toArray)):=by
  simp only [execOp,resolve,bind,Sem.bind,Deferred.ofValue,A9,pure,dcall];rw [Z];simp
 rw [aa];exact h _ (K.put A.2 undef)
def Gi:Ph→Bool
 | .Bu _ | .CS _ | .Dg | .Bq _ _ | .Cb | .BY=>false
 | _=>true
theorem Et{p:Ph}{g:Goroutine}(A:Gi p=true)(O:g.status= .running)(U:g.offers=none)(K:if Fam.Cj p=true then s= .quiet else s.q=false)(W:p= .Cx→mayWake P g=true)
  (h:∀v wt sm v' wt' sm' es nx,F.act p v wt sm=some ((v',wt',sm'),es,nx)→∃g',(∀w,F.WG w v wt sm→stepG P (Fam.B6 p) g w= .go g' (F.put w v' wt' sm') es)∧g'.status= .running∧Hp P (Stop P F) (Fam.B6 p) nx g' (Fam.D2 p s)):Stop P F p g s:=
 Dh.stop {
  run:=O
  offers:=U
  quiet:=fun e=>by rw [if_pos e] at K;exact K
  live:=fun e=>by rw [if_neg (by rw [e];simp)] at K;exact K
  act:=h
  Eg:=fun e=>by rcases e with e | e;exact W e;subst e;cases A
  CB:=fun e=>by subst e;cases A
  close:=fun e=>by subst e;cases A
  send:=fun k e=>by subst e;cases A
  go:=fun j e=>by subst e;cases A
  D1:=fun e=>by subst e;cases A
  recv:=fun Z vs e=>by subst e;cases A}
theorem Gf{w:World}{v wt sm:Nat}(h:F.WG w v wt sm):F.put w v wt sm=w:=by
 unfold Fam.put;have:w.heap.setIfInBounds F.wg (F.DZ (Fam.word v wt) sm)=w.heap:=by
  apply Array.ext_getElem?;intro i;by_cases e:F.wg=i
  ·subst e;unfold Fam.WG at h;have K:F.wg<w.heap.size:=by
    rcases Nat.lt_or_ge F.wg w.heap.size with A | A
    ·exact A
    ·simp [Array.getElem?_eq_none A] at h
   rw [Array.getElem?_setIfInBounds_self_of_lt K,h]
  ·rw [Array.getElem?_setIfInBounds_ne e]
 rw [this]
theorem Eu{w:World}{v wt sm:Nat}(h:F.WG w v wt sm):w.cell? F.sA=some (.int .u64 (Fam.word v wt))∧w.cell? F.mA=some (.int .u32 sm)∧w.frozen? F.sA=false∧w.frozen? F.mA=false:=by
 unfold Fam.WG Fam.DZ at h;refine⟨?_,?_,?_,?_⟩
 ·simp [World.cell?,Fam.sA,h]
 ·simp [World.cell?,Fam.mA,h]
 ·simp [World.frozen?,Fam.sA,h]
 ·simp [World.frozen?,Fam.mA,h]
theorem Hx{w:World}{v wt sm v' wt':Nat}(h:F.WG w v wt sm):w.setCell F.sA (.int .u64 (Fam.word v' wt'))=F.put w v' wt' sm:=by
 unfold Fam.put World.setCell;congr 1;apply Array.ext_getElem?;intro i;unfold Fam.WG Fam.DZ at h;rw [Array.getElem?_modify];have K:F.wg<w.heap.size:=by
  rcases Nat.lt_or_ge F.wg w.heap.size with A | A
  ·exact A
  ·simp [Array.getElem?_eq_none A] at h
 by_cases e:F.wg=i
 ·subst e;rw [Array.getElem?_setIfInBounds_self_of_lt K,h];simp [Fam.sA,Fam.DZ]
 ·rw [Array.getElem?_setIfInBounds_ne e];simp [Fam.sA,e]
theorem Kh{w:World}{v wt sm sm':Nat}(h:F.WG w v wt sm):w.setCell F.mA (.int .u32 sm')=F.put w v wt sm':=by
 unfold Fam.put World.setCell;congr 1;apply Array.ext_getElem?;intro i;unfold Fam.WG Fam.DZ at h;rw [Array.getElem?_modify];have K:F.wg<w.heap.size:=by
  rcases Nat.lt_or_ge F.wg w.heap.size with A | A
  ·exact A
  ·simp [Array.getElem?_eq_none A] at h
 by_cases e:F.wg=i
 ·subst e;rw [Array.getElem?_setIfInBounds_self_of_lt K,h];simp [Fam.mA,Fam.DZ]
 ·rw [Array.getElem?_setIfInBounds_ne e];simp [Fam.mA,e]
structure BZ (P:Program) (f:FuncId) (e:Array Value→Sem Value):Prop where
 h:∃fn,P.funcs[f]? =some fn∧(fn.name== "runtime.NumGoroutine")=false∧fn.body.isNone=true∧Extern.findNext fn=none∧Extern.find fn=some e
section
variable {ops:Array Oper}{i:Nat}{rest:List Nat}{d:Option Tmp}{f:FuncId}{args:Array Operand}{ats:Array TypeId}{ty:TypeId}{pp:String}{af:Array Edge}{g:Option (Nat×Bool)}{vs:List Value}{p q:Ph}
theorem JD{T:Array Value}(A:Has n L T)(K:evs L args.toList=some vs):args.map (⟨T,ds⟩:Act).eval=vs.toArray:=by
 have:(⟨T,ds⟩:Act).eval=A9 T:=funext fun x=>CN T ds x;rw [this,← Dz A.Dr K];apply Array.ext';simp
theorem JL.G6{m:Mark}(W:Gi p=true)(Z:if Fam.Cj p=true then s= .quiet else s.q=false)(aa:p≠ .Cx)(ab:∀v wt sm,F.act p v wt sm=some ((v,wt,sm),#[Fam.Cu m],.ph q))(ac:Fam.D2 p s=s)
  (ae:ops[i]? =some ⟨d,.call ⟨.value (.func f),args,ats⟩,ty,pp,af,g⟩) (K:b.roundOf=none) (hw:AS L ops ⟨d,.call ⟨.value (.func f),args,ats⟩,ty,pp,af,g⟩=some true) (A:((b.kind != .early)&&A2 n d)=true)
  (hm:∀x,m≠ .extern x) (he:BZ P f (fun _=>do mark m;pure Extern.Race.none_))
  (h:JL (AZ P (Fam.B6 p)) (Stop P F q) b n (AH L d (.tuple #[])) ds (.inRegion ops rest::k) cs s):
  JL (AZ P (Fam.B6 p)) (Stop P F p) b n L ds (.inRegion ops (i::rest)::k) cs s:=fun T O=>by
 simp only [Bool.and_eq_true] at A
 obtain⟨fn,ag,ah,hb,ai,he⟩:=he.h
 refine(AZ P _).stop (Et W rfl rfl Z (fun e=>absurd e aa) fun v wt sm v' wt' sm' es nx U=>?_)
 rw [ab] at U;cases U
 refine⟨_,fun w aj=>?_,rfl,by rw [ac];exact h _ (O.put A.2 _)⟩
 rw [BF K,BF K,stepG_mark0 (a:=⟨T,ds⟩) m hm ae (BM O hw) (by simpa using A.1) rfl ag ah hb ai he,Gf aj,Dp]
 rfl
theorem JL.GY{mk:Addr→Mark}{ad:Addr}(W:Gi p=true)(Z:if Fam.Cj p=true then s= .quiet else s.q=false)(aa:p≠ .Cx)(ab:∀v wt sm,F.act p v wt sm=some ((v,wt,sm),#[Fam.Cu (mk ad)],.ph q))
  (ac:ops[i]? =some ⟨d,.call ⟨.value (.func f),args,ats⟩,ty,pp,af,g⟩) (O:b.roundOf=none) (hw:AS L ops ⟨d,.call ⟨.value (.func f),args,ats⟩,ty,pp,af,g⟩=some true) (A:((b.kind != .early)&&A2 n d)=true)
  (hm:∀ad x,mk ad≠ .extern x) (he:BZ P f (Extern.Race.marked mk)) (ae:evs L args.toList=some vs) (ag:vs[0]? =some (.pointer (some ad)))
  (h:JL (AZ P (Fam.B6 p)) (Stop P F q) b n (AH L d (.tuple #[])) ds (.inRegion ops rest::k) cs (Fam.D2 p s)):
  JL (AZ P (Fam.B6 p)) (Stop P F p) b n L ds (.inRegion ops (i::rest)::k) cs s:=fun T K=>by
 simp only [Bool.and_eq_true] at A
 obtain⟨fn,ah,ai,hb,aj,he⟩:=he.h
 refine(AZ P _).stop (Et W rfl rfl Z (fun e=>absurd e aa) fun v wt sm v' wt' sm' es nx U=>?_)
 rw [ab] at U;cases U
 refine⟨_,fun w ak=>?_,rfl,h _ (K.put A.2 _)⟩
 rw [BF O,BF O,stepG_markAt (a:=⟨T,ds⟩) mk hm ac (BM K hw) (by simpa using A.1) rfl ah ai hb aj he (ad:=ad) (by rw [JD K ae];simpa using ag),Gf ak,Dp]
 rfl
end
end
end Pal
namespace Pal
open Go Go.Conc
section
variable {E H:LH}{S:List Seg}{j l:Nat}{o o':Obj}
theorem HI(ae:Az E H S)(U:S[j]? =some [(l,o)])(o':Obj):(Ap E H S).upd l o'=Ap E H (S.set j [(l,o')])∧Az E H (S.set j [(l,o')]):=by
 obtain⟨A,W⟩:=DR ae U;have O:=Nd.iff.1 W;have Z:E l=none:=(O.2 (l,o) (by simp)).1;have ag:H l=none:=(O.2 (l,o) (by simp)).2;have aa:Nd E H (S.set j []).flatten:=JL.Fs.Nd.left W;have ah:∀q∈(S.set j []).flatten,q.1≠l:=fun q K e=>by
  have:=O.1;rw [List.map_append,List.nodup_append] at this;exact this.2.2 q.1 (List.mem_map_of_mem K) l (by simp) e
 have ab:AT (S.set j []).flatten H l=none:=by
  have key:∀(B:List (Nat×Obj)),(∀q∈B,q.1≠l)→AT B H l=none:=by
   intro B
   induction B with
   | nil=>intro _;exact ag
   | cons q B ai=>
    intro K;obtain⟨c,aj⟩:=q;have ac:l≠c:=fun e=>K (c,aj) (by simp) e.symm;have A:=ai fun ak al=>K ak (List.mem_cons_of_mem _ al);simp only [AT]
    first
    | rw [if_neg ac];exact A
    | rw [if_neg (Ne.symm ac)];exact A
  exact key _ ah
 have f1:=Ge (E:=E) (H:=H) (B:=(S.set j []).flatten) (r:=l) Z ab o aa;have f2:=Ge (E:=E) (H:=H) (B:=(S.set j []).flatten) (r:=l) Z ab o' aa;obtain⟨am,an⟩:=ES (seg:= [(l,o)]) U f2.1;refine⟨?_,an⟩;rw [A,← am,← f1.2,← f2.2];unfold St.upd;congr 1;funext x;by_cases ao:x=l <;> simp [ao]
end
section
variable {P:Program}{J:Judge P}{Q:Goroutine→St→Prop}{b:Frame}{n:Nat}{L:Env}{ds:List Deferred}{k:List Item}{cs:List Frame}{E H:LH}{S:List Seg}{j l:Nat}
theorem Judge.CB{α:Type}{g:Goroutine}{g':α→Goroutine}{s:St}(x:Sem α)(Z:s.q=false)(aa:g.status= .running)
  (ab:∀w a w',x.run P w= .ok a w'→∃es,stepG P J.main g w= .go (g' a) w' es∧∀e∈es,e∈x.events P w #[])
  (h:lp P x s (fun a s'=>J.ok Q (g' a) s') (fun _ _=>False)):J.ok Q g s:=by
 refine J.step ⟨aa,fun w f=>?_,fun e=>by subst e;cases Z⟩;obtain⟨s',K,O,U,A⟩:=HE _ h f;cases W:x.run P w with
 | ok a w'=>
  rw [W] at K O U A;simp only [F0] at K O U;obtain⟨es,he,hm⟩:=ab w a w' W;exact⟨g' a,s',w',es,he,A,K,O,fun e ac=>U e (hm e ac)⟩
 | halt a w'=>rw [W] at A;exact A.elim
theorem Hw{r:Loop}{s:St}{A:Loop→St→Prop}{X:Halt→St→Prop}(h:s.get l=some (.loop r))(k:A r s):lp P (Instr.getLoop l) s A X:=by
 unfold Instr.getLoop getObj;simp only [bind,Sem.bind,lp];exact⟨_,h,rfl,k⟩
def Sw(A:Nat):Deferred:=⟨.collected A,#[]⟩
theorem Ka{r:Loop}{T:Array Value}(j:Nat)(A:Az E H S)(K:S[j]? =some [(l,.loop r)])(hs:(r.state== .busy)=false)(O:r.pending=none)
  (h:Az E H (S.set j [(l,.loop {r with state:= .exhausted})])→J.ok Q (G (fr b T ds k) cs) (Ap E H (S.set j [(l,.loop {r with state:= .exhausted})]))):
  J.ok Q (G (fr b T ds (.endRangeFunc l::k)) cs) (Ap E H S):=by
 obtain⟨u1,U⟩:=HI A K (.loop {r with state:= .exhausted});have W:lp P (Instr.endLoop l) (Ap E H S) (fun a s'=>a=none∧s'=Ap E H (S.set j [(l,.loop {r with state:= .exhausted})])) (fun _ _=>False):=by
  unfold Instr.endLoop;refine AF _ _ (Hw (CI (i:=0) A K rfl) ?_);rw [if_neg (by rw [hs];simp)];have Z:(Ap E H S).H l=some (.loop r):=by
   have:=CI (i:=0) A K rfl;have aa:E l=none:=G0 A K;unfold St.get at this;rw [show(Ap E H S).E l=none from aa] at this;exact this
  simp only [bind,Sem.bind,lp,setObj,pure];refine⟨⟨_,Z,rfl⟩,rfl,O,?_⟩;exact u1
 refine Judge.CB (g':=fun ab=>G (fr b T ds ((ab.map Item.code).toList++k)) cs) (Instr.endLoop l) rfl rfl (fun w a w' ac=>?_) (BV _ W (fun a s' ⟨ae,ag⟩=>by subst ae ag;exact h U) (fun _ _ h=>h));refine⟨seen P b.fn ((Instr.endLoop l).events P w #[])++ #[],?_,fun e he=>?_⟩
 ·simp [G,stepG,stepG.exec,fr,ac,GStep.after]
 ·exact mem_seen (by simpa using he)
theorem Sv(f:FuncId)(T:Array Value)(as A:Code):Frame.round l f T as A .normal=fr {(default:Frame) with fn:=f,kind:= .normal,roundOf:=some l} T [] [.code as,.beginRound,.code A]:=rfl
def MN(l:Nat)(f:FuncId):Frame:={(default:Frame) with fn:=f,kind:= .normal,roundOf:=some l}
theorem CJ.yield{r:Loop}{t:Tmp}{v:Value}{B:Seg}{R:Value→LH→Seg→Prop}{i:Nat}(A:B[i]? =some (l,.loop r))(K:r.params= #[t])
  (h:∀(Q:Goroutine→St→Prop) (O:Frame) (cs:List Frame) (H:LH),Az E H [B]→(∀w E' S' B',Le E E'→S'.flatten=B'→R w E' B'→Az E' H S'→J.ok Q (G (O.finish w) cs) (Ap E' H S'))→
   J.ok Q (G (fr (MN l r.fn) (r.tmps.setIfInBounds t v) [] [.code r.assign,.beginRound,.code r.body]) (O::cs)) (Ap E H [B])):
  CJ J (.func (.yield l) #[] #[]) [v] E B R:=fun H U Q c cs W=>by
 have Z:(mk E H B).get l=some (.loop r):=II U A
 simp only [Deferred.ofValue,bind,Sem.bind,pure,invoke]
 unfold Instr.yield
 refine AF _ _ (Hw Z ?_)
 have aa:¬((#[]:Array Value)++ [v].toArray).size≠r.params.size:=by rw [K];simp
 rw [if_neg aa];have ab:((r.params.zip ((#[]:Array Value)++ [v].toArray)).foldl (fun tmps (t,a)=>tmps.setIfInBounds t a) r.tmps)=r.tmps.setIfInBounds t v:=by rw [K];simp [Array.zip,Array.zipWith,Array.zipWithMAux]
 simp only [lp,pure];have ac:mk E H B=Ap E H [B]:=by unfold Ap;simp
 rw [ab,ac];exact h Q c cs H (by unfold Az;simpa using U) fun w E' S' B' hle A ae ag=>by
  subst A;exact W w _ ⟨E',S'.flatten,hle,ae,ag,rfl⟩
theorem JL.beginRound{r:Loop}(j:Nat)(O:b.roundOf=some l)(U:b.kind= .normal)(A:Az E H S)(K:S[j]? =some [(l,.loop r)])(hs:r.state= .ready)
  (h:Az E H (S.set j [(l,.loop {r with state:= .busy})])→JL J Q b n L ds k cs (Ap E H (S.set j [(l,.loop {r with state:= .busy})]))):
  JL J Q b n L ds (.beginRound::k) cs (Ap E H S):=fun T W=>by
 obtain⟨u1,Z⟩:=HI A K (.loop {r with state:= .busy})
 have aa:lp P (Instr.beginRound l) (Ap E H S) (fun _ s'=>s'=Ap E H (S.set j [(l,.loop {r with state:= .busy})])) (fun _ _=>False):=by
  unfold Instr.beginRound;refine AF _ _ (Hw (CI (i:=0) A K rfl) ?_);have ab:(Ap E H S).H l=some (.loop r):=by
   have:=CI (i:=0) A K rfl;have ac:E l=none:=G0 A K;unfold St.get at this;rw [show(Ap E H S).E l=none from ac] at this;exact this
  simp only [bind,Sem.bind,lp,setObj,pure,hs];exact⟨⟨_,ab,rfl⟩,rfl,u1⟩
 refine Judge.CB (g':=fun _=>G (fr b T ds k) cs) (Instr.beginRound l) rfl rfl (fun w a w' ae=>?_) (BV _ aa (fun a s' ag=>by subst ag;exact h Z T W) (fun _ _ h=>h));refine⟨seen P b.fn ((Instr.beginRound l).events P w #[])++ #[],?_,fun e he=>?_⟩
 ·simp [G,stepG,stepG.exec,fr,stepG.apply,O,U,ae,GStep.after,Frame.finish]
 ·exact mem_seen (by simpa using he)
theorem Ip{o:Obj}{seg:Seg}(A:Az E H S)(K:S[j]? =some ((l,o)::seg)):(Ap E H S).H l=some o:=by
 have:=CI (i:=0) A K rfl;have O:E l=none:=G0 A K;unfold St.get at this;rw [show(Ap E H S).E l=none from O] at this;exact this
theorem JL.endRound{r:Loop}{c:Frame}(j:Nat)(O:b.roundOf=some l)(U:b.kind= .normal)(A:Az E H S)(K:S[j]? =some [(l,.loop r)])
  (h:Az E H (S.set j [(l,.loop {r with state:= .ready,pending:=none})])→J.ok Q (G (c.finish (.bool true)) cs) (Ap E H (S.set j [(l,.loop {r with state:= .ready,pending:=none})]))):
  JL J Q b n L [] [] (c::cs) (Ap E H S):=fun T ae=>by
 obtain⟨u1,W⟩:=HI A K (.loop {r with state:= .ready,pending:=none})
 have Z:lp P (Instr.endRound l none) (Ap E H S) (fun a s'=>a= .bool true∧s'=Ap E H (S.set j [(l,.loop {r with state:= .ready,pending:=none})])) (fun _ _=>False):=by
  unfold Instr.endRound;refine AF _ _ (Hw (CI (i:=0) A K rfl) ?_);simp only [bind,Sem.bind,lp,setObj,pure];exact⟨⟨_,Ip A K,rfl⟩,rfl,rfl,u1⟩
 refine Judge.CB (g':=fun v=>G (c.finish v) cs) (Instr.endRound l none) rfl rfl (fun w a w' aa=>?_) (BV _ Z (fun a s' ⟨ab,ac⟩=>by subst ab ac;exact h W) (fun _ _ h=>h));refine⟨seen P b.fn ((Instr.endRound l none).events P w #[])++ #[],?_,fun e he=>?_⟩
 ·simp [G,stepG,stepG.exec,fr,O,U,aa,GStep.after,doReturn]
 ·exact mem_seen (by simpa using he)
theorem JL.rangeFunc{x:Operand}{params:Array Tmp}{as K:Code}{f:FuncId}{caps:List Value}(ag:b.roundOf=none)(ah:b.kind≠ .early)(aa:ev L x=some (.func (.func f) #[] caps.toArray))(hb:Cd P f=true)(ai:Az E H S)
  (h:∀A l T,Has n L T→Az E H (S++ [[(A,.deferred (some []))]]++ [[(l,.loop ⟨.ready,none,b.fn,T,params,as,K,A⟩)]])→
   J.ok Q (G (Frame.enter P f (.func (.yield l) #[] #[]::caps).toArray .normal) (fr b T (⟨.collected A,#[]⟩::ds) (.inRangeFunc l::k)::cs)) (Ap E H (S++ [[(A,.deferred (some []))]]++ [[(l,.loop ⟨.ready,none,b.fn,T,params,as,K,A⟩)]]))):
  JL J Q b n L ds (.code (.rangeFunc x params as K)::k) cs (Ap E H S):=fun T ab=>by
 have aj:lp P (Instr.enterLoop b.fn T params as K b.roundOf) (Ap E H S) (fun q s'=>∃A,q.2= [⟨.collected A,#[]⟩]∧Az E H (S++ [[(A,.deferred (some []))]]++ [[(q.1,.loop ⟨.ready,none,b.fn,T,params,as,K,A⟩)]])∧s'=Ap E H (S++ [[(A,.deferred (some []))]]++ [[(q.1,.loop ⟨.ready,none,b.fn,T,params,as,K,A⟩)]])) (fun _ _=>False):=by
  unfold Instr.enterLoop;rw [ag];simp only [newObj,bind,Sem.bind,lp,pure];refine⟨rfl,fun A U W=>?_⟩;obtain⟨Z,ak⟩:=Ge U W (.deferred (some [])) ai;obtain⟨p1,p2⟩:=CF Z;have al:(Ap E H S).upd A (.deferred (some []))=Ap E H (S++ [[(A,.deferred (some []))]]):=by rw [← p1,← ak];rfl
  rw [al];refine⟨rfl,fun l am an=>?_⟩;obtain⟨ao,ap⟩:=Ge am an (.loop ⟨.ready,none,b.fn,T,params,as,K,A⟩) p2;obtain⟨p3,p4⟩:=CF ao;exact⟨A,rfl,p4,by rw [← p3,← ap];rfl⟩
 refine Judge.CB (g':=fun q=>G (Frame.enter P f (.func (.yield q.1) #[] #[]::caps).toArray .normal) (fr b T (q.2++ds) (.inRangeFunc q.1::k)::cs)) (Instr.enterLoop b.fn T params as K b.roundOf) rfl rfl (fun w a w' aq=>?_) (BV _ aj (fun a s' ⟨A,U,W,Z⟩=>by subst Z;simp only [U];exact h A a.1 T ab W) (fun _ _ h=>h));obtain⟨l,mk⟩:=a;have ar:A9 T x= .func (.func f) #[] caps.toArray:=ab.ev aa;obtain⟨fn,O,au,ac⟩:∃fn,P.funcs[f]? =some fn∧(fn.name== "runtime.NumGoroutine")=false∧fn.body.isNone=false:=by
  unfold Cd at hb;cases O:P.funcs[f]? with
  | none=>rw [O] at hb;cases hb
  | some fn=>
   rw [O] at hb;simp only [Bool.and_eq_true,Bool.not_eq_true'] at hb;exact⟨fn,rfl,hb.1,by cases aa:fn.body <;> simp_all⟩
 refine⟨seen P b.fn ((Instr.enterLoop b.fn T params as K b.roundOf).events P w #[])++ #[],?_,fun e he=>?_⟩
 ·have ae:=K9 (b:=b) (ds:=mk++ds) T (.inRangeFunc l::k);simp only [fr] at ae;have av:¬fn.name= "runtime.NumGoroutine" :=by simpa using au
  have aw:¬fn.body=none:=by intro e;rw [e] at ac;cases ac
  have ay:A9 T (.const (.func (.yield l) #[] #[]))= .func (.yield l) #[] #[]:=rfl;simp [G,stepG,stepG.exec,fr,aq,GStep.after,stepG.apply,resolve,ae,ar,Deferred.ofValue,invoke,callFunc,O,av,aw,ah,ay,seen_none]
 ·exact mem_seen (by simpa using he)
theorem JO.collected{A:Nat}(j:Nat)(ae:b.roundOf=none)(K:Az E H S)(O:S[j]? =some [(A,.deferred (some []))])
  (h:Az E H (S.set j [(A,.deferred none)])→JO J Q b n L ds cs (Ap E H (S.set j [(A,.deferred none)]))):JO J Q b n L (⟨.collected A,#[]⟩::ds) cs (Ap E H S):=fun T U todo=>by
 obtain⟨u1,W⟩:=HI K O (.deferred none)
 have Z:lp P (Instr.takeDeferred A) (Ap E H S) (fun a s'=>a= []∧s'=Ap E H (S.set j [(A,.deferred none)])) (fun _ _=>False):=by
  unfold Instr.takeDeferred getObj;simp only [bind,Sem.bind,lp,setObj,pure];exact⟨_,CI (i:=0) K O rfl,rfl,⟨_,Ip K O,rfl⟩,rfl,rfl,u1⟩
 refine Judge.CB (g':=fun l=>G (Cr b T (l++ds) todo) cs) (Instr.takeDeferred A) rfl rfl (fun w a w' aa=>?_) (BV _ Z (fun a s' ⟨ab,ac⟩=>by subst ab ac;exact h W T U todo) (fun _ _ h=>h));refine⟨seen P b.fn ((Instr.takeDeferred A).events P w #[])++ #[],?_,fun e he=>?_⟩
 ·simp [G,stepG,unwind,Cr,aa,GStep.after]
 ·exact mem_seen (by simpa using he)
def Hf(f:FuncId)(args caps:Array Value):Deferred:={target:= .fn (.func f) caps,args:=args}
theorem JO.Ma{f:FuncId}{fn:Func}{c:Code}{vs caps:List Value}(ac:b.roundOf=none)(K:P.funcs[f]? =some fn)(U:(fn.name== "runtime.NumGoroutine")=false)(hb:fn.body=some c)(W:(vs++caps).length≤fn.ntmps){s:St}
  (h:∀T,Has n L T→∀todo,JL J Q (baseD f) fn.ntmps (Ds 0 (vs++caps)) [] [.code c] (Cr b T ds todo::cs) s):JO J Q b n L (Hf f vs.toArray caps.toArray::ds) cs s:=fun T Z todo=>by
 have aa:¬fn.name= "runtime.NumGoroutine" :=by simpa using U
 refine Judge.BS rfl (fun w=>?_) (h T Z todo ((vs++caps).toArray++Array.replicate (fn.ntmps - (vs++caps).length) undef) ⟨by simp;simp at W;omega,fun t v ht=>?_⟩)
 ·rw [BF (b:=baseD f) rfl];have:=enter_atD (P:=P) (vs++caps).toArray K hb;simp only [List.size_toArray] at this;rw [← this];simp [G,stepG,unwind,callDeferred,Cr,Hf,invoke,callFunc,K,aa,hb,GStep.after,seen_none]
 ·obtain⟨_,A⟩:=F9 ht;have ab:t<(vs++caps).length:=by
   rcases Nat.lt_or_ge t (vs++caps).length with O | O
   ·exact O
   ·simp only [Nat.sub_zero] at A;have:=(List.getElem?_eq_some_iff.1 A).1;omega
  rw [Array.getD_eq_getD_getElem?,Array.getElem?_append_left (by simpa using ab)];simp only [Nat.sub_zero] at A;rw [List.getElem?_toArray,A];rfl
theorem JL.LZ{ops:Array Oper}{i:Nat}{rest:List Nat}{d:Option Tmp}{x:Operand}{f:FuncId}{caps:List Value}{args:Array Operand}{ats:Array TypeId}{ty:TypeId}{p:String}{af:Array Edge}{g:Option (Nat×Bool)}{vs:List Value}{s:St}
  (O:ops[i]? =some ⟨d,.defer ⟨.value x,args,ats⟩,ty,p,af,g⟩) (U:b.roundOf=none) (hw:AS L ops ⟨d,.defer ⟨.value x,args,ats⟩,ty,p,af,g⟩=some true) (K:((b.kind != .early)&&A2 n d)=true)
  (W:ev L x=some (.func (.func f) #[] caps.toArray)) (Z:evs L args.toList=some vs) (h:JL J Q b n (AH L d undef) (Hf f vs.toArray caps.toArray::ds) (.inRegion ops rest::k) cs s):
  JL J Q b n L ds (.inRegion ops (i::rest)::k) cs s:=fun T A=>by
 simp only [Bool.and_eq_true] at K
 have aa:args.map (A9 T)=vs.toArray:=by
  rw [← Dz A.Dr Z];apply Array.ext';simp
 refine Judge.oper O (BM A hw) (by simpa using K.1) (.inl U) ?_;have ab:execOp (A9 T) ⟨d,.defer ⟨.value x,args,ats⟩,ty,p,af,g⟩= .pure (.defer (Hf f vs.toArray caps.toArray)):=by
  simp only [execOp,resolve,bind,Sem.bind,Deferred.ofValue,A.ev W,pure,Hf];rw [aa];simp
 rw [ab];exact h _ (A.put K.2 undef)
end
end Pal
namespace Pal
open Go Go.Conc
section
variable {P:Program}{s:St}{ρ:Operand→Value}{x y z:Operand}{d:Option Tmp}{t u ty e:TypeId}{p:String}{af:Array Edge}{g:Option (Nat×Bool)}{a:Option Addr}{l c:Nat}
theorem Yl.H4(ht:P.underlying t=some (.slice e))(A:ρ x= .slice a l c)(K:ρ (.const (.slice none 0 0))= .slice none 0 0):Yl P ⟨d,.binOp .eql t x (.const (.slice none 0 0)) u,ty,p,af,g⟩ ρ s (.bool a.isNone):=by
 refine Yl.Db (sm:=do eqGuard .eql t x (.const (.slice none 0 0)) (ρ x) (ρ (.const (.slice none 0 0)));binOp .eql t (ρ x) (ρ (.const (.slice none 0 0)))) rfl ?_
 rw [A,K];have O:lp P (eqGuard .eql t x (.const (.slice none 0 0)) (.slice a l c) (.slice none 0 0)) s (fun _ s'=>s'=s) (fun _ _=>False):=by
  simp [eqGuard,lp,pure]
 refine AF _ _ (BV _ O ?_ (fun _ _ h=>h));rintro _ _ rfl;have hb:binOp .eql t (.slice a l c) (.slice none 0 0)=(do pure (.bool (← Op.equal t (.slice a l c) (.slice none 0 0)))):=rfl
 rw [hb];refine AF (x:=Op.equal t (.slice a l c) (.slice none 0 0)) _ ?_;unfold Op.equal Op.maxDepth Op.equalIn;refine AF _ _ (BU ht ?_);cases a <;> exact⟨rfl,rfl⟩
end
def EA{α B:Type}(step:B→α→Option B):List α→B→Option B
 | [],b=>some b
 | x::l,b=>(step b x).bind fun A=>EA step l A
section
variable {P:Program}{J:Judge P}{Q:Goroutine→St→Prop}{b:Frame}{n:Nat}{L:Env}{ds:List Deferred}{k:List Item}{cs:List Frame}{s:St}
theorem JL.OI{α B:Type}{c:Code}{l:List α}{step:B→α→Option B}{acc acc':B}(ac:EA step l acc=some acc')(I:Env→St→Nat→B→Prop)(ae:I L s 0 acc)
  (round:∀L s i A x K,I L s i A→l[i]? =some x→i<l.length→step A x=some K→(∀L' s',I L' s' (i+1) K→JL J Q b n L' ds (.inLoop c::k) cs s')→JL J Q b n L ds (.code c:: .inLoop c::k) cs s)
  (exit:∀L s,I L s l.length acc'→JL J Q b n L ds (.code c:: .inLoop c::k) cs s):JL J Q b n L ds (.code (.loop c)::k) cs s:=by
 refine JL.Gq ?_;have key:∀(rest:List α) (i:Nat) (A:B),l.drop i=rest→EA step rest A=some acc'→∀L s,I L s i A→i≤l.length→JL J Q b n L ds (.code c:: .inLoop c::k) cs s:=by
  intro rest
  induction rest with
  | nil=>
   intro i A O U L s W hle;have:l.length≤i:=by simpa using O
   obtain rfl:i=l.length:=by omega
   obtain rfl:A=acc':=Option.some.inj U;exact exit L s W
  | cons x rest ag=>
   intro i A O U L s W hle;have aa:l[i]? =some x:=by
    have Z:(l.drop i)[0]? =some x:=by rw [O];rfl
    simpa using Z
   have ab:i<l.length:=(List.getElem?_eq_some_iff.1 aa).1;obtain⟨K,Z,ah⟩:=Option.bind_eq_some_iff.1 U;refine round L s i A x K W aa ab Z fun L' s' ai=>JL.again (ag (i+1) K ?_ ah L' s' ai ab);rw [← List.drop_drop,O];rfl
 exact key l 0 acc rfl ac L s ae (Nat.zero_le _)
end
section
variable {P:Program}{J:Judge P}{Q:Goroutine→St→Prop}{b:Frame}{n:Nat}{ds:List Deferred}{ops:Array Oper}{k:List Item}{cs:List Frame}{m fuel:Nat}{listed:Array Bool}{L:Env}{E H:LH}{S:List Seg}
variable {d:Option Tmp}{x y:Operand}{t u ty e:TypeId}{p:String}{af:Array Edge}{g:Option (Nat×Bool)}{v:Value}{i:Nat}
theorem Take.M6(K:Az E H S)(O:ops[i]? =some ⟨d,.box e x,ty,p,af,g⟩)(hw:AS L ops ⟨d,.box e x,ty,p,af,g⟩=some true)(U:A2 n d=true)(W:ev L x=some v)
  (h:∀r,Az E H (S++ [[(r,.cells v.cells e (0,0))]])→Av J Q b n ds ops k cs m CG fuel (AW listed i) (AH L d (.pointer (some ⟨r,0,none⟩))) (Ap E H (S++ [[(r,.cells v.cells e (0,0))]]))):
  Take J Q b n ds ops k cs m CG fuel listed L (Ap E H S) i:=
 Take.Iy O (by simp [B7,U]) hw fun ρ Z=>by
  show lp P (do pure (Next.value (← Instr.box e (ρ x)))) _ _ _
  rw [Z x v W]
  refine AF _ _ ?_
  unfold Instr.box
  refine AF _ _ (Es K fun r A=>?_)
  rw [(CF A).1]
  exact h r (CF A).2
end
end Pal
namespace Pal
open Go Go.Conc
def Ee(P:Program)(d:Nat):GP:=fun g _=>∃q,QuitsD P q d g
def EV(P:Program):Frame:={(default:Frame) with fn:=P.funcs.size,defers:= [],mode:= .panicking [goexitEntry]}
section
variable {P:Program}{F:Fam}{J:Judge P}{Q:GP}{n:Nat}{L L':Env}{ds:List Deferred}{k:List Item}{cs:List Frame}{s s':St}{b:Frame}{main:Bool}
theorem Lv.quits{d:Nat}:∀{m:Nat} {g:Goroutine},Lv P (Ee P d) m g→∃q,QuitsD P q d g
 | 0,_,h=>h
 | m+1,_,h=>by
  rcases h with h | ⟨A,g',K,h⟩
  ·exact h
  ·obtain⟨q,O⟩:=h.quits;exact⟨q+1,.ctl A K O⟩
theorem Hu{d:Nat}{g:Goroutine}(h:(DN P).ok (Ee P d) g .quiet):∃q,QuitsD P q d g:=by
 obtain⟨m,hm⟩:=h rfl;exact hm.quits
theorem GI:(DN P).ok (Ee P 0) (G (EV P) []) .quiet:=by
 refine Judge.BS (g':={frame:=EV P,callers:= [],status:= .finished,dying:=none}) rfl (fun w=>?_) ((DN P).stop ⟨0,rfl,rfl⟩);have A:(default:Frame).todo= []:=rfl;have K:∀(m:FrameMode),Frame.catches P {fn:=P.funcs.size,tmps:=(default:Frame).tmps,todo:= [],defers:= [],mode:=m,kind:=(default:Frame).kind,roundOf:=(default:Frame).roundOf}=false:=fun m=>by simp [Frame.catches]
 simp [G,stepG,unwind,EV,goexitEntry,A,K]
theorem OJ{ops:Array Oper}{i:Nat}{rest:List Nat}{d:Option Tmp}{f:FuncId}{args:Array Operand}{ats:Array TypeId}{ty:TypeId}{pp:String}{af:Array Edge}{g:Option (Nat×Bool)}{T:Array Value}{e:Array Value→Sem Value}
  (A:ops[i]? =some ⟨d,.call ⟨.value (.func f),args,ats⟩,ty,pp,af,g⟩) (he:BZ P f e):mayWake P (G (fr b T ds (.inRegion ops (i::rest)::k)) cs)=true:=by
 obtain⟨fn,K,_,hb,_⟩:=he.h;have O:fn.body.isSome=false:=by cases h:fn.body <;> simp_all
 simp [mayWake,G,fr,A,Frame.eval,K,O]
theorem OT{v wt:Nat}(A:1≤v)(K:v<2147483648)(O:wt≤1):IntKind.u64.wrap (Fam.word v wt+18446744069414584320)=Fam.word (v - 1) wt:=by
 simp only [Fam.word,Fam.KK,IntKind.wrap,IntKind.bits,IntKind.signed];simp;omega
theorem OK{v:Nat}(h:v<2147483647):IntKind.u64.wrap (Fam.word v 0+4294967296)=Fam.word (v+1) 0:=by
 simp only [Fam.word,Fam.KK,IntKind.wrap,IntKind.bits,IntKind.signed];simp;omega
theorem word_inj{v v' wt:Nat}(h:Fam.word v wt=Fam.word v' wt):v=v':=by
 simp only [Fam.word,Fam.KK] at h;omega
section
variable {ops:Array Oper}{i:Nat}{rest:List Nat}{d:Option Tmp}{f:FuncId}{x y z:Operand}{ats:Array TypeId}{ty:TypeId}{pp:String}{af:Array Edge}{g:Option (Nat×Bool)}{p q:Ph}
theorem JL.RZ(aa:ops[i]? =some ⟨d,.call ⟨.value (.func f),#[x,y],ats⟩,ty,pp,af,g⟩)(W:b.roundOf=none)(hw:AS L ops ⟨d,.call ⟨.value (.func f),#[x,y],ats⟩,ty,pp,af,g⟩=some true)(K:((b.kind != .early)&&A2 n d)=true)
  (he:BZ P f (Extern.Atomic.update (Op.intArith .add) .u64 true)) (ab:ev L x=some (.pointer (some F.sA))) (ac:ev L y=some (.int .u64 18446744069414584320))
  (ae:JL (AZ P false) (Stop P F .DF) b n (AH L d (.int .u64 (Fam.word 0 1))) ds (.inRegion ops rest::k) cs .quiet)
  (ag:∀v wt:Nat,v<2147483647→wt≤1→¬(v=0∧wt=1)→JL (DN P) (Ee P 1) b n (AH L d (.int .u64 (Fam.word v wt))) ds (.inRegion ops rest::k) cs .quiet):
  JL (AZ P false) (Stop P F .Ef) b n L ds (.inRegion ops (i::rest)::k) cs .quiet:=fun T A=>by
 simp only [Bool.and_eq_true] at K
 obtain⟨fn,ah,ai,hb,aj,he⟩:=he.h
 refine(AZ P _).stop (Et rfl rfl rfl rfl (by simp) fun v wt sm v' wt' sm' es nx O=>?_)
 simp only [Fam.act] at O
 split at O
 ·rename_i U
  cases O;refine⟨G (fr b (BB T d (.int .u64 (Fam.word (v - 1) wt))) ds (.inRegion ops rest::k)) cs,fun w Z=>?_,rfl,?_⟩
  ·obtain⟨ak,_,c3,_⟩:=Eu Z;rw [BF W,BF W];show stepG P false _ w=_;rw [stepG_add_atomic (a:=⟨T,ds⟩) aa (BM A hw) (by simpa using K.1) rfl ah ai hb aj .u64 he (by rw [CN];exact A.ev ab) (by rw [CN];exact A.ev ac) ak c3,OT U.1 U.2.1 U.2.2,Hx Z,Dp]
   rfl
  ·split
   ·rename_i e;obtain⟨rfl,rfl⟩:=e;exact ae _ (A.put K.2 _)
   ·rename_i e;exact Hu (ag (v - 1) wt (by omega) U.2.2 (by omega) _ (A.put K.2 _))
 ·cases O
theorem JL.Se{j:Nat}(aa:s.q=false)(ab:ops[i]? =some ⟨d,.call ⟨.value (.func f),#[x,y],ats⟩,ty,pp,af,g⟩)(W:b.roundOf=none)(hw:AS L ops ⟨d,.call ⟨.value (.func f),#[x,y],ats⟩,ty,pp,af,g⟩=some true)(K:((b.kind != .early)&&A2 n d)=true)
  (he:BZ P f (Extern.Atomic.update (Op.intArith .add) .u64 true)) (ac:ev L x=some (.pointer (some F.sA))) (ae:ev L y=some (.int .u64 4294967296))
  (ag:JL (AZ P true) (Stop P F (.Ei j)) b n (AH L d (.int .u64 (Fam.word 1 0))) ds (.inRegion ops rest::k) cs s)
  (ah:∀v:Nat,1≤v→v<2147483647→JL (AZ P true) (Stop P F (.Dv j)) b n (AH L d (.int .u64 (Fam.word (v+1) 0))) ds (.inRegion ops rest::k) cs s):
  JL (AZ P true) (Stop P F (.EC j)) b n L ds (.inRegion ops (i::rest)::k) cs s:=fun T A=>by
 simp only [Bool.and_eq_true] at K
 obtain⟨fn,ai,aj,hb,ak,he⟩:=he.h
 refine(AZ P _).stop (Et rfl rfl rfl aa (by simp) fun v wt sm v' wt' sm' es nx O=>?_)
 simp only [Fam.act] at O
 split at O
 ·rename_i U
  obtain⟨U,rfl⟩:=U;cases O;refine⟨G (fr b (BB T d (.int .u64 (Fam.word (v+1) 0))) ds (.inRegion ops rest::k)) cs,fun w Z=>?_,rfl,?_⟩
  ·obtain⟨al,_,c3,_⟩:=Eu Z;rw [BF W,BF W];show stepG P true _ w=_;rw [stepG_add_atomic (a:=⟨T,ds⟩) ab (BM A hw) (by simpa using K.1) rfl ai aj hb ak .u64 he (by rw [CN];exact A.ev ac) (by rw [CN];exact A.ev ae) al c3,OK U,Hx Z,Dp]
   rfl
  ·split
   ·rename_i e;subst e;exact ag _ (A.put K.2 _)
   ·rename_i e;exact ah v (by omega) U _ (A.put K.2 _)
 ·cases O
theorem JL.Sf(ac:Gi p=true)(ae:if Fam.Cj p=true then s= .quiet else s.q=false)(ag:p≠ .Cx)(ah:Fam.D2 p s=s)(ai:∀v wt sm r,F.act p v wt sm=some r→r.1=(v,wt,sm)∧r.2.1= #[Fam.CR F.sA])
  (aj:ops[i]? =some ⟨d,.call ⟨.value (.func f),#[x],ats⟩,ty,pp,af,g⟩) (O:b.roundOf=none) (hw:AS L ops ⟨d,.call ⟨.value (.func f),#[x],ats⟩,ty,pp,af,g⟩=some true) (A:((b.kind != .early)&&A2 n d)=true)
  (he:BZ P f (Extern.Atomic.loadT (.int .u64))) (ak:ev L x=some (.pointer (some F.sA)))
  (h:∀v wt sm r,F.act p v wt sm=some r→∃q,r.2.2= .ph q∧JL (AZ P (Fam.B6 p)) (Stop P F q) b n (AH L d (.int .u64 (Fam.word v wt))) ds (.inRegion ops rest::k) cs s):
  JL (AZ P (Fam.B6 p)) (Stop P F p) b n L ds (.inRegion ops (i::rest)::k) cs s:=fun T K=>by
 simp only [Bool.and_eq_true] at A
 obtain⟨fn,al,am,hb,an,he⟩:=he.h
 refine(AZ P _).stop (Et ac rfl rfl ae (fun e=>absurd e ag) fun v wt sm v' wt' sm' es nx U=>?_)
 obtain⟨W,Z⟩:=ai _ _ _ _ U
 obtain⟨q,aa,ao⟩:=h _ _ _ _ U
 simp only at W Z aa
 cases W
 subst Z aa
 refine⟨_,fun w ab=>?_,rfl,by rw [ah];exact ao _ (K.put A.2 _)⟩
 obtain⟨ap,_,_,_⟩:=Eu ab
 rw [BF O,BF O,stepG_load_atomic (a:=⟨T,ds⟩) aj (BM K hw) (by simpa using A.1) rfl al am hb an .u64 he (by rw [CN];exact K.ev ak) ap,Gf ab,Dp]
 rfl
theorem JL.stA(Z:ops[i]? =some ⟨d,.call ⟨.value (.func f),#[x,y],ats⟩,ty,pp,af,g⟩)(U:b.roundOf=none)(hw:AS L ops ⟨d,.call ⟨.value (.func f),#[x,y],ats⟩,ty,pp,af,g⟩=some true)(O:((b.kind != .early)&&A2 n d)=true)
  (he:BZ P f Extern.Atomic.storeT) (aa:ev L x=some (.pointer (some F.sA))) (ab:ev L y=some (.int .u64 0))
  (h:JL (AZ P false) (Stop P F .Cx) b n (AH L d (.tuple #[])) ds (.inRegion ops rest::k) cs .quiet):
  JL (AZ P false) (Stop P F .DT) b n L ds (.inRegion ops (i::rest)::k) cs .quiet:=fun T A=>by
 simp only [Bool.and_eq_true] at O
 obtain⟨fn,ac,ae,hb,ag,he⟩:=he.h
 refine(AZ P _).stop (Et rfl rfl rfl rfl (by simp) fun v wt sm v' wt' sm' es nx K=>?_)
 simp only [Fam.act] at K
 split at K
 ·rename_i ah
  obtain⟨rfl,rfl⟩:=ah;cases K;refine⟨_,fun w W=>?_,rfl,h _ (A.put O.2 _)⟩;obtain⟨ai,_,c3,_⟩:=Eu W;have aj:(.int .u64 0:Value)= .int .u64 (Fam.word 0 0):=by simp [Fam.word]
  rw [BF U,BF U];show stepG P false _ w=_;rw [stepG_store_atomic (a:=⟨T,ds⟩) Z (BM A hw) (by simpa using O.1) rfl ac ae hb ag he (by rw [CN];exact A.ev aa) (by rw [CN];exact A.ev ab) ai c3,aj,Hx W,Dp]
  rfl
 ·cases K
theorem JL.Sg{m:Nat}(aj:s.q=false)(aa:ops[i]? =some ⟨d,.call ⟨.value (.func f),#[x,y,z],ats⟩,ty,pp,af,g⟩)(W:b.roundOf=none)(hw:AS L ops ⟨d,.call ⟨.value (.func f),#[x,y,z],ats⟩,ty,pp,af,g⟩=some true)(O:((b.kind != .early)&&A2 n d)=true)
  (he:BZ P f (Extern.Atomic.casT (.int .u64))) (ab:ev L x=some (.pointer (some F.sA))) (ac:ev L y=some (.int .u64 (Fam.word m 0))) (ae:ev L z=some (.int .u64 (Fam.word m 1)))
  (ak:JL (AZ P false) (Stop P F .EI) b n (AH L d (.bool true)) ds (.inRegion ops rest::k) cs s)
  (al:JL (AZ P false) (Stop P F (.Dd (m - 1))) b n (AH L d (.bool false)) ds (.inRegion ops rest::k) cs s):
  JL (AZ P false) (Stop P F (.Eh m)) b n L ds (.inRegion ops (i::rest)::k) cs s:=fun T A=>by
 simp only [Bool.and_eq_true] at O
 obtain⟨fn,ag,ah,hb,ai,he⟩:=he.h
 refine(AZ P _).stop (Et rfl rfl rfl aj (by simp) fun v wt sm v' wt' sm' es nx K=>?_)
 simp only [Fam.act] at K
 split at K
 ·rename_i am
  obtain⟨_,_,rfl⟩:=am;split at K
  ·rename_i e;subst e;cases K;refine⟨_,fun w U=>?_,rfl,ak _ (A.put O.2 _)⟩;obtain⟨Z,_,c3,_⟩:=Eu U;rw [BF W,BF W];show stepG P false _ w=_;rw [stepG_cas_hit (a:=⟨T,ds⟩) aa (BM A hw) (by simpa using O.1) rfl ag ah hb ai .u64 he (by rw [CN];exact A.ev ab) (by rw [CN];exact A.ev ac) (by rw [CN];exact A.ev ae) Z c3,Hx U,Dp]
   rfl
  ·rename_i e;cases K;refine⟨_,fun w U=>?_,rfl,al _ (A.put O.2 _)⟩;obtain⟨Z,_,c3,_⟩:=Eu U;rw [BF W,BF W];show stepG P false _ w=_;rw [stepG_cas_miss (a:=⟨T,ds⟩) aa (BM A hw) (by simpa using O.1) rfl ag ah hb ai .u64 he (by rw [CN];exact A.ev ab) (by rw [CN];exact A.ev ac) (by rw [CN];exact A.ev ae) Z c3 (fun q=>e (word_inj q)),Gf U,Dp]
   rfl
 ·cases K
theorem JL.Rf{args:Array Operand}{vs:List Value}(U:ops[i]? =some ⟨d,.call ⟨.value (.func f),args,ats⟩,ty,pp,af,g⟩)(W:b.roundOf=none)(hw:AS L ops ⟨d,.call ⟨.value (.func f),args,ats⟩,ty,pp,af,g⟩=some true)(K:((b.kind != .early)&&A2 n d)=true)
  (he:BZ P f Extern.Sync.semrelease) (aa:evs L args.toList=some vs) (ab:vs[0]? =some (.pointer (some F.mA)))
  (h:JL (DN P) (Ee P 1) b n (AH L d (.tuple #[])) ds (.inRegion ops rest::k) cs .quiet):
  JL (AZ P false) (Stop P F .Cx) b n L ds (.inRegion ops (i::rest)::k) cs .quiet:=fun T O=>by
 simp only [Bool.and_eq_true] at K
 have ac:=OJ (P:=P) (b:=b) (ds:=ds) (k:=k) (cs:=cs) (rest:=rest) (T:=T) U he
 obtain⟨fn,ae,ag,hb,ah,he⟩:=he.h
 refine(AZ P _).stop (Et rfl rfl rfl rfl (fun _=>ac) fun v wt sm v' wt' sm' es nx A=>?_)
 simp only [Fam.act] at A
 split at A
 ·rename_i ai
  subst ai;cases A;refine⟨_,fun w Z=>?_,rfl,Hu (h _ (O.put K.2 _))⟩;obtain⟨_,c2,_,c4⟩:=Eu Z;rw [BF W,BF W];show stepG P false _ w=_;rw [stepG_semrelease (a:=⟨T,ds⟩) U (BM O hw) (by simpa using K.1) rfl ae ag hb ah he (ad:=F.mA) (by rw [JD O aa];simpa using ab) c2 c4,Dp];have aj:IntKind.u32.wrap (((0:Nat):Int)+1)=((1:Nat):Int):=by decide
  rw [aj,Kh Z]
 ·cases A
theorem JL.Pd{args:Array Operand}{vs:List Value}(ag:s.q=false)(Z:ops[i]? =some ⟨d,.call ⟨.value (.func f),args,ats⟩,ty,pp,af,g⟩)(U:b.roundOf=none)(hw:AS L ops ⟨d,.call ⟨.value (.func f),args,ats⟩,ty,pp,af,g⟩=some true)(W:((b.kind != .early)&&A2 n d)=true)
  (he:BZ P f Extern.Sync.semacquire) (ah:evs L args.toList=some vs) (ai:vs[0]? =some (.pointer (some F.mA)))
  (h:JL (AZ P false) (Stop P F .DU) b n (AH L d (.tuple #[])) ds (.inRegion ops rest::k) cs s):
  JL (AZ P false) (Stop P F .BY) b n L ds (.inRegion ops (i::rest)::k) cs s:=fun T A=>by
 simp only [Bool.and_eq_true] at W
 obtain⟨fn,aa,ab,hb,ac,he⟩:=he.h
 have ae:(args.map (⟨T,ds⟩:Act).eval)[0]? =some (.pointer (some F.mA)):=by rw [JD A ah];simpa using ai
 refine(AZ P _).stop (Dh.stop {
  run:=rfl,offers:=rfl,quiet:=(by simp [Fam.Cj]),live:=fun _=>ag,act:=?_,Eg:=(by simp),CB:=?_,close:=(by simp),send:=(by simp),go:=(by simp),D1:=(by simp),recv:=(by simp)})
 ·intro v wt sm v' wt' sm' es nx K;simp only [Fam.act] at K;split at K
  ·rename_i aj;subst aj;cases K;refine⟨_,fun w O=>?_,rfl,h _ (A.put W.2 _)⟩;obtain⟨_,c2,_,c4⟩:=Eu O;rw [BF U,BF U];show stepG P false _ w=_;rw [stepG_semacquire (a:=⟨T,ds⟩) Z (BM A hw) (by simpa using W.1) rfl aa ab hb ac he (ad:=F.mA) ae c2 (by decide) c4,Dp];have ak:(((1:Nat):Int) - 1)=((0:Nat):Int):=by decide
   rw [ak,Kh O]
  ·cases K
 ·intro _ w v wt O;obtain⟨_,c2,_,c4⟩:=Eu O;rw [BF U];exact stepG_semacquire_wait (a:=⟨T,ds⟩) Z (BM A hw) rfl aa ab hb ac he (ad:=F.mA) ae c2
theorem JL.QI(W:s.q=false)(O:ops[i]? =some ⟨d,.call ⟨.builtin .close,#[x],ats⟩,ty,pp,af,g⟩)(U:b.roundOf=none)(hw:AS L ops ⟨d,.call ⟨.builtin .close,#[x],ats⟩,ty,pp,af,g⟩=some true)(A:((b.kind != .early)&&A2 n d)=true)
  (Z:ev L x=some (.chan (some F.ch))) (aa:(P.funcs[b.fn]?).any (·.norace)=false)
  (h:JL (DN P) (Ee P 0) b n (AH L d (.tuple #[])) ds (.inRegion ops rest::k) cs .quiet):
  JL (AZ P false) (Stop P F .Cb) b n L ds (.inRegion ops (i::rest)::k) cs s:=fun T K=>by
 simp only [Bool.and_eq_true] at A
 refine(AZ P _).stop (Dh.stop {
  run:=rfl,offers:=rfl,quiet:=(by simp [Fam.Cj]),live:=fun _=>W,act:=(by simp [Fam.act]),Eg:=fun _=>(by simp [mayWake,G,fr,O]),CB:=(by simp),close:=fun _=>?_,send:=(by simp),go:=(by simp),D1:=(by simp),recv:=(by simp)})
 refine⟨_,?_,fun w k' ab=>?_,Hu (h _ (K.put A.2 _))⟩
 ·rfl
 ·rw [BF U,BF U,stepG_close (a:=⟨T,ds⟩) O (BM K hw) (by simpa using A.1) rfl (by rw [CN];exact K.ev Z) ab aa,Dp]
theorem JL.MU{kk:Nat}{v:Value}(W:s.q=false)(O:ops[i]? =some ⟨d,.send x y,ty,pp,af,g⟩)(Z:b.roundOf=none)(hw:AS L ops ⟨d,.send x y,ty,pp,af,g⟩=some true)(K:((b.kind != .early)&&A2 n d)=true)
  (aa:ev L x=some (.chan (some F.ch))) (ab:ev L y=some v) (hm:F.msg kk v s.E)
  (h:JL (AZ P false) (Stop P F .BL) b n (AH L d undef) ds (.inRegion ops rest::k) cs s):
  JL (AZ P false) (Stop P F (.Bu kk)) b n L ds (.inRegion ops (i::rest)::k) cs s:=fun T A=>by
 simp only [Bool.and_eq_true] at K
 have U:execOp (A9 T) ⟨d,.send x y,ty,pp,af,g⟩= .pure (.comm #[scase F.ch v (.tuple #[])] true .send):=by
  simp [execOp,A.ev aa,A.ev ab,scase,pure]
 refine(AZ P _).stop (Dh.stop {
  run:=rfl,offers:=rfl,quiet:=(by simp [Fam.Cj]),live:=fun _=>W,act:=(by simp [Fam.act]),Eg:=(by simp),CB:=(by simp),close:=(by simp),send:=fun k' e=>?_,go:=(by simp),D1:=(by simp),recv:=(by simp)})
 cases e;refine⟨v,.tuple #[],hm,fun w=>?_,?_⟩
 ·have he:(⟨T,ds⟩:Act).eval=A9 T:=funext fun x=>CN T ds x;rw [BF Z,stepG_comm (a:=⟨T,ds⟩) (w':=w) O (BM A hw) (by simpa using K.1) (by rw [he,U];rfl),listed_none (by rw [he,U];simp [Sem.events_pure'])]
 ·have:Conc.served (G (fr b T ds (.inRegion ops (i::rest)::k)) cs) undef=G (fr b (BB T d undef) ds (.inRegion ops rest::k)) cs:=by
   have:=Dm (b:=b) (ds:=ds) (k:=k) T ops i rest undef _ O;simp only [Conc.served,G,this]
  rw [this];exact h _ (A.put K.2 _)
end
end
end Pal
namespace Pal
open Go Go.Conc
section
variable {P:Program}{F:Fam}{J:Judge P}{Q:GP}{n:Nat}{L L':Env}{ds:List Deferred}{k:List Item}{cs:List Frame}{s s':St}{b:Frame}{main:Bool}
variable {ops:Array Oper}{i:Nat}{rest:List Nat}{d:Option Tmp}{f:FuncId}{x y z:Operand}{ats:Array TypeId}{ty t e:TypeId}{pp:String}{af:Array Edge}{g:Option (Nat×Bool)}{p q:Ph}
theorem Kw{T:Array Value}{o:Oper}(A:ops[i]? =some o)(v:Value):Conc.served (G (fr b T ds (.inRegion ops (i::rest)::k)) cs) v=G (fr b (BB T o.dst v) ds (.inRegion ops rest::k)) cs:=by
 have:=Dm (b:=b) (ds:=ds) (k:=k) T ops i rest v _ A;simp only [Conc.served,G,this]
theorem FH(T:Array Value)(ds:List Deferred):(⟨T,ds⟩:Act).eval=A9 T:=funext fun x=>CN T ds x
theorem JL.RQ{K:List Nat}{vs:List Value}{A:Value}{dir:ChanDir}(ac:s.q=false)(W:ops[i]? =some ⟨d,.recv t x true,ty,pp,af,g⟩)(ae:b.roundOf=none)(hw:AS L ops ⟨d,.recv t x true,ty,pp,af,g⟩=some true)(O:((b.kind != .early)&&A2 n d)=true)
  (ag:ev L x=some (.chan (some F.ch))) (ht:P.underlying t=some (.chan dir e)) (ah:zeroOf P e=some A)
  (Z:∀kk v E',kk<F.n→F.has kk=true→kk ∉ K→Le s.E E'→(∀b,E' b≠none→s.H b=none)→F.msg kk v E'→JL (AZ P true) (Stop P F (.Bq (K++ [kk]) (vs++ [v]))) b n (AH L d (.tuple #[v,.bool true])) ds (.inRegion ops rest::k) cs ⟨E',s.H,false⟩)
  (aa:(∀kk,kk<F.n→F.has kk=true→kk∈K)→∀T,Has n (AH L d (.tuple #[A,.bool false])) T→F.fin (G (fr b T ds (.inRegion ops rest::k)) cs) s):
  JL (AZ P true) (Stop P F (.Bq K vs)) b n L ds (.inRegion ops (i::rest)::k) cs s:=fun T U=>by
 simp only [Bool.and_eq_true] at O
 have ab:∀w,(execOp (A9 T) ⟨d,.recv t x true,ty,pp,af,g⟩).run P w= .ok (.comm #[rcase F.ch A] true (.recv true)) w∧listed P b.fn ⟨T,ds⟩ ⟨d,.recv t x true,ty,pp,af,g⟩ w= #[]:=by
  have ai:∀s,lp P (execOp (A9 T) ⟨d,.recv t x true,ty,pp,af,g⟩) s (fun nx s'=>nx= .comm #[rcase F.ch A] true (.recv true)∧s'=s) (fun _ _=>False):=by
   intro s;unfold execOp;simp only;refine AF (x:=underlying t) _ (BU ht ?_);simp only;refine AF (x:=zeroValue e) _ (Dy ah ?_);rw [U.ev ag];exact⟨rfl,rfl⟩
  obtain⟨es,Z,aa,aj⟩:=IQ _ (ai .quiet);rcases aj with⟨a,⟨rfl,_⟩,ak⟩ | ⟨_,al,_⟩
  ·intro w;refine⟨ak w,?_⟩;unfold listed;rw [FH,Z];exact IB aa
  ·exact al.elim
 refine(AZ P _).stop (Dh.stop {
  run:=rfl,offers:=rfl,quiet:=(by simp [Fam.Cj]),live:=fun _=>ac,act:=(by simp [Fam.act]),Eg:=(by simp),CB:=(by simp),close:=(by simp),send:=(by simp),go:=(by simp),D1:=(by simp),recv:=fun aw ay am=>?_})
 cases am;refine⟨A,fun w=>?_,fun kk v E' an ao ap aq ar au=>?_,fun av=>?_⟩
 ·rw [BF ae,stepG_comm (a:=⟨T,ds⟩) (w':=w) W (BM U hw) (by simpa using O.1) (by rw [FH];exact(ab w).1),(ab w).2]
 ·rw [Kw W];exact Z kk v E' an ao ap aq ar au _ (U.put O.2 _)
 ·rw [Kw W];exact aa av _ (U.put O.2 _)
theorem K1{X:GP}{fn:Func}{c:Code}{vs:List Value}{caps:Array Value}{args:Array Value}(K:P.funcs[f]? =some fn)(W:(fn.name== "runtime.NumGoroutine")=false)(hb:fn.body=some c)(Z:args++caps=vs.toArray)(ac:vs.length≤fn.ntmps)
  (h:JL (AZ P false) X (baseD f) fn.ntmps (Ds 0 vs) [] [.code c] [EV P] s):Way P false X (born P {target:= .fn (.func f) caps,args:=args}) s:=by
 have aa:¬fn.name= "runtime.NumGoroutine" :=by simpa using W
 refine Judge.BS (J:=AZ P false) rfl (fun w=>?_) (h (vs.toArray++Array.replicate (fn.ntmps - vs.length) undef) ⟨by simp;omega,fun t v ht=>?_⟩)
 ·show stepG P false _ w=_;have O:=enter_atD (P:=P) vs.toArray K hb;rw [BF (b:=baseD f) rfl];simp only [List.size_toArray] at O;simp [G,born,stepG,unwind,callDeferred,invoke,callFunc,K,aa,hb,GStep.after,seen_none,Z,EV,O]
 ·obtain⟨_,A⟩:=F9 ht;have ab:t<vs.length:=by
   rcases Nat.lt_or_ge t vs.length with U | U
   ·exact U
   ·simp at A;have:=(List.getElem?_eq_some_iff.1 A).1;omega
  rw [Array.getD_eq_getD_getElem?,Array.getElem?_append_left (by simpa using ab)];simp at A;simp [A]
theorem Md{T:Array Value}{args:Array Operand}{A:Go.Fn}{fi K:Array Value}{as:List Value}(O:Has n L T)(U:ev L x=some (.func A fi K))(W:evs L args.toList=some as):
  execOp (A9 T) ⟨d,.go ⟨.value x,args,ats⟩,ty,pp,af,g⟩= .pure (.spawn {target:= .fn A K,args:=fi++as.toArray}):=by
 have Z:args.map (A9 T)=as.toArray:=by
  rw [← Dz O.Dr W];apply Array.ext';simp
 simp only [execOp,resolve,bind,Sem.bind,Deferred.ofValue,O.ev U,pure,Z]
theorem JL.Sl{j:Nat}{args:Array Operand}{fi O:Array Value}{as:List Value}{U:FuncId}(aa:s.q=false)(ab:ops[i]? =some ⟨d,.go ⟨.value x,args,ats⟩,ty,pp,af,g⟩)(W:b.roundOf=none)(hw:AS L ops ⟨d,.go ⟨.value x,args,ats⟩,ty,pp,af,g⟩=some true)(A:((b.kind != .early)&&A2 n d)=true)
  (ac:ev L x=some (.func (.func U) fi O)) (ae:evs L args.toList=some as)
  (ag:Way P false (Stop P F (F.start j)) (born P {target:= .fn (.func U) O,args:=fi++as.toArray}) ⟨s.E,fun _=>none,false⟩)
  (ah:JL (AZ P true) (Stop P F (F.Cc j)) b n (AH L d undef) ds (.inRegion ops rest::k) cs s):
  JL (AZ P true) (Stop P F (.CS j)) b n L ds (.inRegion ops (i::rest)::k) cs s:=fun T K=>by
 simp only [Bool.and_eq_true] at A
 have Z:=Md (d:=d) (ats:=ats) (ty:=ty) (pp:=pp) (af:=af) (g:=g) K ac ae
 refine(AZ P _).stop (Dh.stop {
  run:=rfl,offers:=rfl,quiet:=(by simp [Fam.Cj]),live:=fun _=>aa,act:=(by simp [Fam.act]),Eg:=(by simp),CB:=(by simp),close:=(by simp),send:=(by simp),go:=fun ai e=>?_,D1:=(by simp),recv:=(by simp)})
 cases e
 refine⟨G (fr b (BB T d undef) ds (.inRegion ops rest::k)) cs,_,rfl,rfl,fun w=>?_,ag,ah _ (K.put A.2 _)⟩
 rw [BF W,BF W,stepG_spawn (a:=⟨T,ds⟩) (w':=w) ab (BM K hw) (by simpa using A.1) (by rw [FH,Z];rfl) rfl,listed_none (by rw [FH,Z];simp [Sem.events_pure']),Dp]
theorem JL.D1{args:Array Operand}{fi O:Array Value}{as:List Value}{U:FuncId}(aa:s.q=false)(ab:ops[i]? =some ⟨d,.go ⟨.value x,args,ats⟩,ty,pp,af,g⟩)(W:b.roundOf=none)(hw:AS L ops ⟨d,.go ⟨.value x,args,ats⟩,ty,pp,af,g⟩=some true)(A:((b.kind != .early)&&A2 n d)=true)
  (ac:ev L x=some (.func (.func U) fi O)) (ae:evs L args.toList=some as)
  (ag:Way P false (Stop P F .BN) (born P {target:= .fn (.func U) O,args:=fi++as.toArray}) ⟨s.E,fun _=>none,false⟩)
  (ah:JL (AZ P true) (Stop P F (.Bq [] [])) b n (AH L d undef) ds (.inRegion ops rest::k) cs s):
  JL (AZ P true) (Stop P F .Dg) b n L ds (.inRegion ops (i::rest)::k) cs s:=fun T K=>by
 simp only [Bool.and_eq_true] at A
 have Z:=Md (d:=d) (ats:=ats) (ty:=ty) (pp:=pp) (af:=af) (g:=g) K ac ae
 refine(AZ P _).stop (Dh.stop {
  run:=rfl,offers:=rfl,quiet:=(by simp [Fam.Cj]),live:=fun _=>aa,act:=(by simp [Fam.act]),Eg:=(by simp),CB:=(by simp),close:=(by simp),send:=(by simp),go:=(by simp),D1:=fun _=>?_,recv:=(by simp)})
 refine⟨G (fr b (BB T d undef) ds (.inRegion ops rest::k)) cs,_,rfl,rfl,fun w=>?_,ag,ah _ (K.put A.2 _)⟩
 rw [BF W,BF W,stepG_spawn (a:=⟨T,ds⟩) (w':=w) ab (BM K hw) (by simpa using A.1) (by rw [FH,Z];rfl) rfl,listed_none (by rw [FH,Z];simp [Sem.events_pure']),Dp]
theorem JO.LS{j:Nat}(U:s.q=false)(A:b.roundOf=none)(he:BZ P f (fun _=>do mark .enable;pure Extern.Race.none_))
  (h:JO (AZ P true) (Stop P F (.CS j)) b n L ds cs s):JO (AZ P true) (Stop P F (.Dv j)) b n L (dcall f #[]::ds) cs s:=fun T W todo=>by
 obtain⟨fn,Z,aa,hb,ab,he⟩:=he.h
 refine(AZ P _).stop (Et rfl rfl rfl U (by simp) fun v wt sm v' wt' sm' es nx K=>?_)
 simp only [Fam.act] at K
 cases K
 refine⟨G (Cr b T ds todo) cs,fun w ac=>?_,rfl,h T W todo⟩
 rw [Gd A,Gd A,Gf ac]
 exact stepG_unwind_entry (a:=⟨T,dcall f #[]::ds⟩) (v:= .tuple #[]) (evs:= #[Fam.Cu .enable]) rfl Z aa hb ab he (by simp [Extern.Race.none_]) (by simp;rfl) (by
  intro x O
  simp at O
  subst O
  exact⟨rfl,fun g h=>by cases h⟩)
theorem JO.HP(A:b.roundOf=none)(he:BZ P f (fun _=>do mark .enable;pure Extern.Race.none_))
  (h:JO (DN P) (Ee P 0) b n L ds cs .quiet):JO (DN P) (Ee P 1) b n L (dcall f #[]::ds) cs .quiet:=fun T O todo=>by
 obtain⟨fn,U,W,hb,Z,he⟩:=he.h
 refine(DN P).stop ?_
 obtain⟨q,K⟩:=Hu (h T O todo)
 rw [Gd A] at K
 rw [Gd A]
 exact⟨q+1,QuitsD.unwind_mark (a:=⟨T,dcall f #[]::ds⟩) .enable rfl (by simp) rfl U W hb Z he K⟩
end
end Pal
namespace Pal
open Go Go.Conc
def M5:BinOp→Int→Int→Option Bool
 | .lss,m,m'=>some (decide (m<m'))
 | .leq,m,m'=>some (decide (m≤m'))
 | .gtr,m,m'=>some (decide (m'<m))
 | .geq,m,m'=>some (decide (m'≤m))
 | .eql,m,m'=>some (decide (m=m'))
 | .neq,m,m'=>some (decide (m≠m'))
 | _,_,_=>none
def F3(L:Env):Op→Option Value
 | .move x=>ev L x
 | .assign x=>ev L x
 | .pick z x y=>match ev L z with
  | some (.bool true)=>ev L x
  | some (.bool false)=>ev L y
  | _=>none
 | .extract x i=>match ev L x with
  | some (.tuple vs)=>vs[i]?
  | _=>none
 | .nilCheck x=>match ev L x with
  | some (.pointer (some a))=>some (.pointer (some a))
  | _=>none
 | .binOp op _ x y _=>match ev L x with
  | some (.int kd m)=>match ev L y with
   | some (.int kd' m')=>if kd=kd' then(match M5 op m m' with | some t=>some (.bool t) | none=>none) else none
   | _=>none
  | _=>none
 | _=>none
theorem Yl.R8{P:Program}{s:St}{ρ:Operand→Value}{d:Option Tmp}{x y:Operand}{t u ty:TypeId}{p:String}{af:Array Edge}{g:Option (Nat×Bool)}{kd:IntKind}{m m':Int}(A:ρ x= .int kd m)(K:ρ y= .int kd m'):Yl P ⟨d,.binOp .neq t x y u,ty,p,af,g⟩ ρ s (.bool (decide (m≠m'))):=by
 have h:=Yl.neq (P:=P) (s:=s) (d:=d) (t:=t) (u:=u) (ty:=ty) (p:=p) (af:=af) (g:=g) A K;simpa using h
theorem HK{P:Program}{L:Env}{ρ:Operand→Value}{s:St}{o:Oper}{v:Value}(A:Cw L ρ)(h:F3 L o.op=some v):Yl P o ρ s v:=by
 obtain⟨d,op,ty,p,af,g⟩:=o;simp only at h;unfold F3 at h;split at h
 ·exact Yl.move (A _ _ h)
 ·exact Yl.assign (A _ _ h)
 ·split at h
  ·rename_i e;exact Yl.QH (A _ _ e) (A _ _ h)
  ·rename_i e;exact Yl.Qz (A _ _ e) (A _ _ h)
  ·cases h
 ·split at h
  ·rename_i e;exact Yl.extract (A _ _ e) h
  ·cases h
 ·split at h
  ·rename_i e;cases h;exact Yl.nilCheck (A _ _ e)
  ·cases h
 ·split at h
  ·rename_i K;split at h
   ·rename_i O;split at h
    ·rename_i e;subst e;split at h
     ·rename_i e;cases h;unfold M5 at e;split at e
      ·cases e;exact Yl.lss (A _ _ K) (A _ _ O)
      ·cases e;exact Yl.leq (A _ _ K) (A _ _ O)
      ·cases e;exact Yl.gtr (A _ _ K) (A _ _ O)
      ·cases e;exact Yl.geq (A _ _ K) (A _ _ O)
      ·cases e;exact Yl.eql (A _ _ K) (A _ _ O)
      ·cases e;exact Yl.R8 (A _ _ K) (A _ _ O)
      ·cases e
     ·cases h
    ·cases h
   ·cases h
  ·cases h
 ·cases h
def Fa:List Oper→Nat→Option Oper
 | [],_=>none
 | o::_,0=>some o
 | _::os,i+1=>Fa os i
theorem Gh:∀(os:List Oper) (i:Nat),Fa os i=os[i]?
 | [],i=>by simp [Fa]
 | _::_,0=>rfl
 | _::os,i+1=>by simp [Fa,Gh os i]
def Jy(b:Frame)(n:Nat)(L:Env):List Item→Option (List Item×Env)
 | .code (.seq x y)::k=>some (.code x:: .code y::k,L)
 | .code (.block i c)::k=>some (.code c:: .inBlock i::k,L)
 | .code (.scope c)::k=>some (.code c:: .inScope c::k,L)
 | .code .skip::k=>some (k,L)
 | .code (.exit i)::k=>match exitTo i k with
  | some k'=>some (k',L)
  | none=>none
 | .code (.cond c x y)::k=>match ev L c with
  | some (.bool true)=>some (.code x::k,L)
  | some (.bool false)=>some (.code y::k,L)
  | _=>none
 | .code (.region _ ops false)::k=>some (.inRegion ops (List.range ops.size)::k,L)
 | .inBlock _::k=>some (k,L)
 | .inScope _::k=>some (k,L)
 | .inRegion _ []::k=>some (k,L)
 | .inRegion ops (i::rest)::k=>match Fa ops.toList i with
  | some ⟨d,op,ty,p,af,g⟩=>match AS L ops ⟨d,op,ty,p,af,g⟩ with
   | some true=>match BC b n ⟨d,op,ty,p,af,g⟩ with
    | true=>match F3 L op with
     | some v=>match d with
      | some d=>some (.inRegion ops rest::k,(d,v)::L)
      | none=>some (.inRegion ops rest::k,L)
     | none=>none
    | false=>none
   | some false=>match A2 n d with
    | true=>match d with
     | some d=>some (.inRegion ops rest::k,(d,undef)::L)
     | none=>some (.inRegion ops rest::k,L)
    | false=>none
   | none=>none
  | none=>none
 | _=>none
def Jh(b:Frame)(n:Nat):Nat→List Item→Env→Option (List Item×Env)
 | 0,k,L=>some (k,L)
 | m+1,k,L=>match Jy b n L k with
  | some (k',L')=>Jh b n m k' L'
  | none=>none
section
variable {P:Program}{J:Judge P}{Q:Goroutine→St→Prop}{b:Frame}{n:Nat}{L L':Env}{ds:List Deferred}{k k':List Item}{cs:List Frame}{s:St}
theorem JL.Sk(h:Jy b n L k=some (k',L'))(A:JL J Q b n L' ds k' cs s):JL J Q b n L ds k cs s:=by
 unfold Jy at h;split at h
 ·cases h;exact JL.seq A
 ·cases h;exact JL.block A
 ·cases h;exact JL.scope A
 ·cases h;exact JL.skip A
 ·split at h
  ·rename_i e;cases h;exact JL.exit e A
  ·cases h
 ·split at h
  ·rename_i e;cases h;exact JL.Qu e A
  ·rename_i e;cases h;exact JL.QC e A
  ·cases h
 ·cases h;exact JL.region A
 ·cases h;exact JL.outBlock A
 ·cases h;exact JL.OV A
 ·cases h;exact JL.done A
 ·split at h
  ·rename_i d op ty p af g K;rw [Gh,Array.getElem?_toList] at K;split at h
   ·rename_i hw;split at h
    ·rename_i O;split at h
     ·rename_i v W;cases d with
      | none=>cases h;exact JL.y K hw O (fun ρ U=>HK U W) A
      | some d=>cases h;exact JL.y K hw O (fun ρ U=>HK U W) A
     ·cases h
    ·cases h
   ·rename_i hw;split at h
    ·rename_i O;cases d with
     | none=>cases h;exact JL.no K hw O A
     | some d=>cases h;exact JL.no K hw O A
    ·cases h
   ·cases h
  ·cases h
 ·cases h
theorem JL.go(m:Nat)(h:Jh b n m k L=some (k',L'))(A:JL J Q b n L' ds k' cs s):JL J Q b n L ds k cs s:=by
 induction m generalizing k L with
 | zero=>cases h;exact A
 | succ m K=>
  unfold Jh at h;split at h
  ·rename_i e;exact JL.Sk e (K h)
  ·cases h
end
end Pal
namespace Pal
open Go Go.Conc Go.Conc.Lib
open Go.ConcR.Gen
theorem CV{P:Program}{t:TypeId}{n:Nat}(h:∀w,Sem.run P (Go.sizeOf t) w= .ok n w):Bf P t=some n:=by
 have A:=h default;unfold Bf;simp only [Go.sizeOf,typeInfo,bind,Sem.bind,program,Sem.run] at A;cases hi:P.info? t with
 | none=>rw [hi] at A;simp [stuck,Sem.run,Sem.bind] at A
 | some i=>
  rw [hi] at A;simp [pure,Sem.bind,Sem.run] at A;simp [A]
section
variable {P:Program}{L:WgLink}(H:WgLib P L)
include H
theorem IF:BZ P L.disable (fun _=>do mark .disable;pure Extern.Race.none_):=⟨⟨_,H.f_disable,x_disable_n L,x_disable_b L,x_disable_x L,x_disable_f L⟩⟩
theorem Fi:BZ P L.enable (fun _=>do mark .enable;pure Extern.Race.none_):=⟨⟨_,H.f_enable,x_enable_n L,x_enable_b L,x_enable_x L,x_enable_f L⟩⟩
theorem Ny:BZ P L.relMerge (Extern.Race.marked .releaseMerge):=⟨⟨_,H.f_relMerge,x_relMerge_n L,x_relMerge_b L,x_relMerge_x L,x_relMerge_f L⟩⟩
theorem Ke:BZ P L.acquire (Extern.Race.marked .acquire):=⟨⟨_,H.f_acquire,x_acquire_n L,x_acquire_b L,x_acquire_x L,x_acquire_f L⟩⟩
theorem O0:BZ P L.raceRead (Extern.Race.marked .read):=⟨⟨_,H.f_raceRead,x_raceRead_n L,x_raceRead_b L,x_raceRead_x L,x_raceRead_f L⟩⟩
theorem Ov:BZ P L.raceWrite (Extern.Race.marked .write):=⟨⟨_,H.f_raceWrite,x_raceWrite_n L,x_raceWrite_b L,x_raceWrite_x L,x_raceWrite_f L⟩⟩
theorem LI:BZ P L.addU64 (Extern.Atomic.update (Op.intArith .add) .u64 true):=⟨⟨_,H.f_addU64,x_addU64_n L,x_addU64_b L,x_addU64_x L,x_addU64_f L⟩⟩
theorem OX:BZ P L.loadU64 (Extern.Atomic.loadT (.int .u64)):=⟨⟨_,H.f_loadU64,x_loadU64_n L,x_loadU64_b L,x_loadU64_x L,x_loadU64_f L⟩⟩
theorem Od:BZ P L.storeU64 Extern.Atomic.storeT:=⟨⟨_,H.f_storeU64,x_storeU64_n L,x_storeU64_b L,x_storeU64_x L,x_storeU64_f L⟩⟩
theorem O6:BZ P L.casU64 (Extern.Atomic.casT (.int .u64)):=⟨⟨_,H.f_casU64,x_casU64_n L,x_casU64_b L,x_casU64_x L,x_casU64_f L⟩⟩
theorem Oh:BZ P L.semrelease Extern.Sync.semrelease:=⟨⟨_,H.f_semrelease,x_semrelease_n L,x_semrelease_b L,x_semrelease_x L,x_semrelease_f L⟩⟩
theorem NI:BZ P L.semacquire Extern.Sync.semacquire:=⟨⟨_,H.f_semacquire,x_semacquire_n L,x_semacquire_b L,x_semacquire_x L,x_semacquire_f L⟩⟩
theorem Kf:BZ P L.inBubble (fun _=>pure (.bool false)):=⟨⟨_,H.f_inBubble,x_inBubble_n L,x_inBubble_b L,x_inBubble_x L,x_inBubble_f L⟩⟩
end
section
variable {P:Program}{F:Fam}{J:Judge P}{Q:GP}{n:Nat}{L L':Env}{ds:List Deferred}{k:List Item}{cs:List Frame}{s s':St}{b:Frame}{main:Bool}
variable {ops:Array Oper}{i:Nat}{rest:List Nat}{d:Option Tmp}{f:FuncId}{x y z:Operand}{ats:Array TypeId}{ty t u e tw:TypeId}{pp:String}{af:Array Edge}{g:Option (Nat×Bool)}{p q:Ph}
theorem Yl.to{o:Oper}{ρ:Operand→Value}{v v':Value}(h:Yl P o ρ s v)(e:v=v'):Yl P o ρ s v':=e▸h
theorem JL.conv{ad:Addr}(ag:Gi p=true)(ah:if Fam.Cj p=true then s= .quiet else s.q=false)(ai:p≠ .Cx)(aj:∀v wt sm,F.act p v wt sm=some ((v,wt,sm),#[],.ph q))(ak:Fam.D2 p s=s)
  (al:ops[i]? =some ⟨d,.convert t u x,ty,pp,af,g⟩) (O:b.roundOf=none) (hw:AS L ops ⟨d,.convert t u x,ty,pp,af,g⟩=some true) (A:((b.kind != .early)&&A2 n d)=true)
  (ht:P.underlying t=some (.pointer tw)) (hu:P.underlying u=some .unsafePointer) (U:(P.info? tw).map (fun i=>decide (i.size=0))=some false) (am:ev L x=some (.pointer (some ad))) (hb:ad=F.sA∨ad=F.mA)
  (h:JL (AZ P (Fam.B6 p)) (Stop P F q) b n (AH L d (.pointer (some ad))) ds (.inRegion ops rest::k) cs s):
  JL (AZ P (Fam.B6 p)) (Stop P F p) b n L ds (.inRegion ops (i::rest)::k) cs s:=fun T K=>by
 simp only [Bool.and_eq_true] at A
 refine(AZ P _).stop (Et ag rfl rfl ah (fun e=>absurd e ai) fun v wt sm v' wt' sm' es nx W=>?_)
 rw [aj] at W;cases W
 refine⟨_,fun w Z=>?_,rfl,by rw [ak];exact h _ (K.put A.2 _)⟩
 obtain⟨aa,ab⟩:∃aa,w.cell? ad=some aa:=by
  obtain⟨an,c2,_,_⟩:=Eu Z;rcases hb with e | e <;> rw [e]
  ·exact⟨_,an⟩
  ·exact⟨_,c2⟩
 have ac:=run_convert_to_unsafe (P:=P) (w:=w) ht hu U ab;have ao:=events_convert_to_unsafe (P:=P) (w:=w) ht hu U ab;have ae:execOp (⟨T,ds⟩:Act).eval ⟨d,.convert t u x,ty,pp,af,g⟩=(do pure (Next.value (← Go.convert t u (.pointer (some ad))))):=by
  rw [FH];simp only [execOp,K.ev am]
 rw [BF O,BF O,stepG_value (a:=⟨T,ds⟩) (v:= .pointer (some ad)) (w':=w) al (BM K hw) (by simpa using A.1) (by rw [ae];simp [ac,Result.andThen]),Gf Z,Dp];have ap:listed P b.fn ⟨T,ds⟩ ⟨d,.convert t u x,ty,pp,af,g⟩ w= #[]:=by
  unfold listed;rw [ae];simp [ac,ao,Result.evThen,seen_none]
 rw [ap]
end
end Pal
namespace Pal
open Go Go.Conc Go.Conc.Lib
open Go.ConcR.Gen
section
variable {P:Program}{F:Fam}{J:Judge P}{Q:GP}{n:Nat}{L L':Env}{ds:List Deferred}{k:List Item}{cs:List Frame}{s s':St}{b:Frame}{main:Bool}
variable {ops:Array Oper}{i:Nat}{rest:List Nat}{d:Option Tmp}{f:FuncId}{x y z:Operand}{args:Array Operand}{ats:Array TypeId}{ty t u e tw:TypeId}{pp:String}{af:Array Edge}{g:Option (Nat×Bool)}{p q:Ph}{vs:List Value}
def Sb(P:Program)(b:Frame)(n:Nat)(L:Env)(d:Option Tmp)(ds:List Deferred)(todo:List Item)(cs:List Frame)(O:Frame):Prop:=
 ∀(A:Judge P) (K:GP) (v:Value) (s':St),JL A K b n (AH L d v) ds todo cs s'→A.ok K (G (O.finish v) cs) s'
theorem JL.FA{fn:Func}{c:Code}(U:ops[i]? =some ⟨d,.call ⟨.value (.func f),args,ats⟩,ty,pp,af,g⟩)(hw:AS L ops ⟨d,.call ⟨.value (.func f),args,ats⟩,ty,pp,af,g⟩=some true)(K:((b.kind != .early)&&A2 n d)=true)
  (W:P.funcs[f]? =some fn) (ab:(fn.name== "runtime.NumGoroutine")=false) (hb:fn.body=some c) (ac:evs L args.toList=some vs) (al:vs.length≤fn.ntmps)
  (h:∀Z:Frame,Sb P b n L d ds (.inRegion ops rest::k) cs Z→JL J Q (base f) fn.ntmps (Ds 0 vs) [] [.code c] (Z::cs) s):
  JL J Q b n L ds (.inRegion ops (i::rest)::k) cs s:=fun T O=>by
 simp only [Bool.and_eq_true] at K
 have ae:args.map (A9 T)=vs.toArray:=by
  rw [← Dz O.Dr ac];apply Array.ext';simp
 refine Judge.oper U (BM O hw) (by simpa using K.1) (.inr fun c ag=>by cases ag) ?_;have ah:Cd P f=true:=by unfold Cd;rw [W];simp [ab,hb]
 have ai:lp P (execOp (A9 T) ⟨d,.call ⟨.value (.func f),args,ats⟩,ty,pp,af,g⟩) s (upon J Q b T ds ops i rest k cs d) (Ha J Q b T ds ops i rest k cs):=by
  simp only [execOp,resolve,bind,Sem.bind,Deferred.ofValue,A9,pure,invoke];have e: #[]++args.map (A9 T)++ #[]=vs.toArray:=by rw [ae];simp
  rw [e];refine FG ah ?_;have he:Frame.enter P f vs.toArray .normal=fr (base f) (vs.toArray++Array.replicate (fn.ntmps - vs.length) undef) [] [.code c]:=by
   simp [Frame.enter,fr,W,hb,base];rfl
  show J.ok Q (G (Frame.enter P f vs.toArray .normal) _) s;rw [he];refine h _ (fun am an v s' aj=>?_) _ ⟨by simp;omega,fun t v ht=>?_⟩
  ·rw [Dm (o:=⟨d,.call ⟨.value (.func f),args,ats⟩,ty,pp,af,g⟩) _ _ _ _ _ U];exact aj _ (O.put K.2 v)
  ·obtain⟨_,A⟩:=F9 ht;have ak:t<vs.length:=by
    rcases Nat.lt_or_ge t vs.length with aa | aa
    ·exact aa
    ·simp at A;have:=(List.getElem?_eq_some_iff.1 A).1;omega
   rw [Array.getD_eq_getD_getElem?,Array.getElem?_append_left (by simpa using ak)];simp at A;simp [A]
 exact ai
theorem Yl.ext{e:Array Value→Sem Value}{v:Value}{ρ:Operand→Value}(he:BZ P f e)(K:args.map ρ=vs.toArray)(h:e vs.toArray= .pure v):Yl P ⟨d,.call ⟨.value (.func f),args,ats⟩,ty,pp,af,g⟩ ρ s v∨ρ (.func f)≠ .func (.func f) #[] #[]:=by
 by_cases A:ρ (.func f)= .func (.func f) #[] #[]
 ·left;obtain⟨fn,O,U,W,Z,aa⟩:=he.h;unfold Yl;simp only [execOp,resolve,bind,Sem.bind,Deferred.ofValue,A,pure,invoke];have ab: #[]++args.map ρ++ #[]=vs.toArray:=by rw [K];simp
  rw [ab];have ac:fn.body=none:=by simpa using W
  simp only [callFunc,bind,Sem.bind,program,lp,O,U,ac,Option.isNone_none,Bool.false_eq_true,if_false,if_true,mark,Z,aa,h,pure];exact⟨.inr ⟨f,rfl⟩,trivial,trivial⟩
 ·exact .inr A
theorem JL.ext{e:Array Value→Sem Value}{v:Value}(K:ops[i]? =some ⟨d,.call ⟨.value (.func f),args,ats⟩,ty,pp,af,g⟩)(hw:AS L ops ⟨d,.call ⟨.value (.func f),args,ats⟩,ty,pp,af,g⟩=some true)(O:BC b n ⟨d,.call ⟨.value (.func f),args,ats⟩,ty,pp,af,g⟩=true)
  (he:BZ P f e) (U:evs L args.toList=some vs) (W:e vs.toArray= .pure v) (h:JL J Q b n (AH L d v) ds (.inRegion ops rest::k) cs s):JL J Q b n L ds (.inRegion ops (i::rest)::k) cs s:=
 JL.y K hw O (fun ρ A=>by
  have Z:args.map ρ=vs.toArray:=by
   rw [← Dz A U]
   apply Array.ext';simp
  rcases Yl.ext (s:=s) (d:=d) (ats:=ats) (ty:=ty) (pp:=pp) (af:=af) (g:=g) he Z W with q | q
  ·exact q
  ·exact absurd (A (.func f) _ rfl) q) h
end
section
variable {P:Program}{L:WgLink}(H:WgLib P L){F:Fam}{n:Nat}{M:Env}{ds:List Deferred}{k:List Item}{cs:List Frame}{s:St}{b:Frame}
variable {ops:Array Oper}{i:Nat}{rest:List Nat}{d:Option Tmp}{x y z:Operand}{ats:Array TypeId}{ty:TypeId}{pp:String}{af:Array Edge}{g:Option (Nat×Bool)}{p q:Ph}
include H
theorem JL.Ri(A:ops[i]? =some ⟨d,.call ⟨.value (.func L.uAdd),#[x,y],ats⟩,ty,pp,af,g⟩)(hw:AS M ops ⟨d,.call ⟨.value (.func L.uAdd),#[x,y],ats⟩,ty,pp,af,g⟩=some true)(K:((b.kind != .early)&&A2 n d)=true)
  (O:ev M x=some (.pointer (some F.sA))) (U:ev M y=some (.int .u64 18446744069414584320))
  (W:JL (AZ P false) (Stop P F .DF) b n (AH M d (.int .u64 (Fam.word 0 1))) ds (.inRegion ops rest::k) cs .quiet)
  (Z:∀v wt:Nat,v<2147483647→wt≤1→¬(v=0∧wt=1)→JL (DN P) (Ee P 1) b n (AH M d (.int .u64 (Fam.word v wt))) ds (.inRegion ops rest::k) cs .quiet):
  JL (AZ P false) (Stop P F .Ef) b n M ds (.inRegion ops (i::rest)::k) cs .quiet:=by
 refine JL.FA (vs:= [.pointer (some F.sA),.int .u64 18446744069414584320]) A hw K H.f_uAdd (nm_uAdd L) rfl (by simp [evs,O,U]) (Nat.le_of_ble_eq_true rfl) fun ae back=>?_;refine JL.go 8 rfl ?_;refine JL.y rfl rfl rfl (fun ρ h=>Yl.fieldAddr H.underlying_tAU rfl (CV H.sizeOf_tU64) (h _ _ rfl)) ?_;refine JL.go 1 rfl ?_;refine JL.RZ rfl rfl rfl rfl (LI H) rfl rfl ?_ fun v wt aa ab ac=>?_
 ·refine JL.y rfl rfl rfl (fun ρ h=>Yl.assign (h _ _ rfl)) ?_;refine JL.done ?_;exact JL.ret rfl rfl (Bl.one H.f_uAdd rfl rfl) (back _ _ _ _ W)
 ·refine JL.y rfl rfl rfl (fun ρ h=>Yl.assign (h _ _ rfl)) ?_;refine JL.done ?_;exact JL.ret rfl rfl (Bl.one H.f_uAdd rfl rfl) (back _ _ _ _ (Z v wt aa ab ac))
theorem JL.Rg{j:Nat}(A:s.q=false)(K:ops[i]? =some ⟨d,.call ⟨.value (.func L.uAdd),#[x,y],ats⟩,ty,pp,af,g⟩)(hw:AS M ops ⟨d,.call ⟨.value (.func L.uAdd),#[x,y],ats⟩,ty,pp,af,g⟩=some true)(O:((b.kind != .early)&&A2 n d)=true)
  (U:ev M x=some (.pointer (some F.sA))) (W:ev M y=some (.int .u64 4294967296))
  (Z:JL (AZ P true) (Stop P F (.Ei j)) b n (AH M d (.int .u64 (Fam.word 1 0))) ds (.inRegion ops rest::k) cs s)
  (aa:∀v:Nat,1≤v→v<2147483647→JL (AZ P true) (Stop P F (.Dv j)) b n (AH M d (.int .u64 (Fam.word (v+1) 0))) ds (.inRegion ops rest::k) cs s):
  JL (AZ P true) (Stop P F (.EC j)) b n M ds (.inRegion ops (i::rest)::k) cs s:=by
 refine JL.FA (vs:= [.pointer (some F.sA),.int .u64 4294967296]) K hw O H.f_uAdd (nm_uAdd L) rfl (by simp [evs,U,W]) (Nat.le_of_ble_eq_true rfl) fun ae back=>?_;refine JL.go 8 rfl ?_;refine JL.y rfl rfl rfl (fun ρ h=>Yl.fieldAddr H.underlying_tAU rfl (CV H.sizeOf_tU64) (h _ _ rfl)) ?_;refine JL.go 1 rfl ?_;refine JL.Se A rfl rfl rfl rfl (LI H) rfl rfl ?_ fun v ab ac=>?_
 ·refine JL.y rfl rfl rfl (fun ρ h=>Yl.assign (h _ _ rfl)) ?_;refine JL.done ?_;exact JL.ret rfl rfl (Bl.one H.f_uAdd rfl rfl) (back _ _ _ _ Z)
 ·refine JL.y rfl rfl rfl (fun ρ h=>Yl.assign (h _ _ rfl)) ?_;refine JL.done ?_;exact JL.ret rfl rfl (Bl.one H.f_uAdd rfl rfl) (back _ _ _ _ (aa v ab ac))
theorem JL.uLoad(A:Gi p=true)(K:if Fam.Cj p=true then s= .quiet else s.q=false)(O:p≠ .Cx)(U:Fam.D2 p s=s)(W:∀v wt sm r,F.act p v wt sm=some r→r.1=(v,wt,sm)∧r.2.1= #[Fam.CR F.sA])(Z:ops[i]? =some ⟨d,.call ⟨.value (.func L.uLoad),#[x],ats⟩,ty,pp,af,g⟩)(hw:AS M ops ⟨d,.call ⟨.value (.func L.uLoad),#[x],ats⟩,ty,pp,af,g⟩=some true)(aa:((b.kind != .early)&&A2 n d)=true)
  (ab:ev M x=some (.pointer (some F.sA)))
  (h:∀v wt sm r,F.act p v wt sm=some r→∃q,r.2.2= .ph q∧JL (AZ P (Fam.B6 p)) (Stop P F q) b n (AH M d (.int .u64 (Fam.word v wt))) ds (.inRegion ops rest::k) cs s):
  JL (AZ P (Fam.B6 p)) (Stop P F p) b n M ds (.inRegion ops (i::rest)::k) cs s:=by
 refine JL.FA (vs:= [.pointer (some F.sA)]) Z hw aa H.f_uLoad (nm_uLoad L) rfl (by simp [evs,ab]) (Nat.le_of_ble_eq_true rfl) fun ah back=>?_;refine JL.go 8 rfl ?_;refine JL.y rfl rfl rfl (fun ρ h=>Yl.fieldAddr H.underlying_tAU rfl (CV H.sizeOf_tU64) (h _ _ rfl)) ?_;refine JL.Sf A K O U W rfl rfl rfl rfl (OX H) rfl fun v wt sm r ac=>?_;obtain⟨q,ae,ag⟩:=h v wt sm r ac;refine⟨q,ae,?_⟩
 ·refine JL.y rfl rfl rfl (fun ρ h=>Yl.assign (h _ _ rfl)) ?_;refine JL.done ?_;exact JL.ret rfl rfl (Bl.one H.f_uLoad rfl rfl) (back _ _ _ _ ag)
theorem JL.uStore(A:ops[i]? =some ⟨d,.call ⟨.value (.func L.uStore),#[x,y],ats⟩,ty,pp,af,g⟩)(hw:AS M ops ⟨d,.call ⟨.value (.func L.uStore),#[x,y],ats⟩,ty,pp,af,g⟩=some true)(K:((b.kind != .early)&&A2 n d)=true)
  (O:ev M x=some (.pointer (some F.sA))) (U:ev M y=some (.int .u64 0))
  (h:JL (AZ P false) (Stop P F .Cx) b n (AH M d (.tuple #[])) ds (.inRegion ops rest::k) cs .quiet):
  JL (AZ P false) (Stop P F .DT) b n M ds (.inRegion ops (i::rest)::k) cs .quiet:=by
 refine JL.FA (vs:= [.pointer (some F.sA),.int .u64 0]) A hw K H.f_uStore (nm_uStore L) rfl (by simp [evs,O,U]) (Nat.le_of_ble_eq_true rfl) fun W back=>?_;refine JL.go 3 rfl ?_;refine JL.y rfl rfl rfl (fun ρ h=>Yl.fieldAddr H.underlying_tAU rfl (CV H.sizeOf_tU64) (h _ _ rfl)) ?_;refine JL.go 1 rfl ?_;refine JL.stA rfl rfl rfl rfl (Od H) rfl rfl ?_;refine JL.done ?_;exact JL.fin rfl rfl (Bl.none H.f_uStore rfl) (back _ _ _ _ h)
theorem JL.uCas{m:Nat}(A:s.q=false)(K:ops[i]? =some ⟨d,.call ⟨.value (.func L.uCas),#[x,y,z],ats⟩,ty,pp,af,g⟩)(hw:AS M ops ⟨d,.call ⟨.value (.func L.uCas),#[x,y,z],ats⟩,ty,pp,af,g⟩=some true)(O:((b.kind != .early)&&A2 n d)=true)
  (U:ev M x=some (.pointer (some F.sA))) (W:ev M y=some (.int .u64 (Fam.word m 0))) (Z:ev M z=some (.int .u64 (Fam.word m 1)))
  (aa:JL (AZ P false) (Stop P F .EI) b n (AH M d (.bool true)) ds (.inRegion ops rest::k) cs s)
  (ab:JL (AZ P false) (Stop P F (.Dd (m - 1))) b n (AH M d (.bool false)) ds (.inRegion ops rest::k) cs s):
  JL (AZ P false) (Stop P F (.Eh m)) b n M ds (.inRegion ops (i::rest)::k) cs s:=by
 refine JL.FA (vs:= [.pointer (some F.sA),.int .u64 (Fam.word m 0),.int .u64 (Fam.word m 1)]) K hw O H.f_uCas (nm_uCas L) rfl (by simp [evs,U,W,Z]) (Nat.le_of_ble_eq_true rfl) fun ac back=>?_;refine JL.go 8 rfl ?_;refine JL.y rfl rfl rfl (fun ρ h=>Yl.fieldAddr H.underlying_tAU rfl (CV H.sizeOf_tU64) (h _ _ rfl)) ?_;refine JL.go 2 rfl ?_;refine JL.Sg (m:=m) A rfl rfl rfl rfl (O6 H) rfl rfl rfl ?_ ?_
 ·refine JL.y rfl rfl rfl (fun ρ h=>Yl.assign (h _ _ rfl)) ?_;refine JL.done ?_;exact JL.ret rfl rfl (Bl.one H.f_uCas rfl rfl) (back _ _ _ _ aa)
 ·refine JL.y rfl rfl rfl (fun ρ h=>Yl.assign (h _ _ rfl)) ?_;refine JL.done ?_;exact JL.ret rfl rfl (Bl.one H.f_uCas rfl rfl) (back _ _ _ _ ab)
end
end Pal
namespace Pal
open Go Go.Conc Go.Conc.Lib
open Go.ConcR.Gen
theorem Gr{v wt:Nat}(A:v<2147483648)(K:wt≤1):IntKind.u64.wrap (BitVec.ofInt IntKind.u64.bits (Fam.word v wt)&&& BitVec.ofInt IntKind.u64.bits 2147483648).toNat=0:=by
 have:=Go.ConcN.st_flag v wt A K;simpa [bits,Fam.word,Fam.KK] using this
theorem Gu{v wt:Nat}(A:v<2147483648)(K:wt≤1):IntKind.u64.wrap (BitVec.ofInt IntKind.u64.bits (Fam.word v wt)&&& BitVec.ofInt IntKind.u64.bits 2147483647).toNat=(wt:Int):=by
 have:=Go.ConcN.st_waiters v wt A K;simpa [bits,Fam.word,Fam.KK] using this
theorem Gc{v wt:Nat}(A:wt≤1):(Fam.word v wt).fdiv (2 ^ (min (32:Int).toNat IntKind.u64.bits))=(v:Int):=by
 have e:(2:Int) ^ (min (32:Int).toNat IntKind.u64.bits)=4294967296:=by decide
 rw [e,Int.fdiv_eq_ediv_of_nonneg _ (by decide)];simp only [Fam.word,Fam.KK];omega
theorem wrap_i32{v:Nat}(A:v<2147483648):IntKind.i32.wrap (v:Int)=v:=by
 simp only [IntKind.wrap,IntKind.bits,IntKind.signed];simp;split <;> omega
theorem wrap_u32{v:Nat}(A:v≤1):IntKind.u32.wrap (v:Int)=v:=by
 simp only [IntKind.wrap,IntKind.bits,IntKind.signed];simp;omega
theorem N1{F:Fam}:∀v wt sm r,F.act .DF v wt sm=some r→r.1=(v,wt,sm)∧r.2.1= #[Fam.CR F.sA]:=by
 intro v wt sm r h;simp only [Fam.act] at h;split at h
 ·rename_i A;obtain⟨rfl,rfl⟩:=A;cases h;exact⟨rfl,rfl⟩
 ·cases h
theorem O3{F:Fam}{v wt sm:Nat}{r}(h:F.act .DF v wt sm=some r):v=0∧wt=1∧r.2.2= .ph .DT:=by
 simp only [Fam.act] at h;split at h
 ·rename_i A;cases h;exact⟨A.1,A.2,rfl⟩
 ·cases h
section
variable {P:Program}{L:WgLink}(H:WgLib P L){F:Fam}{n:Nat}{M:Env}{ds:List Deferred}{k:List Item}{cs:List Frame}{s:St}{b:Frame}
variable {ops:Array Oper}{i:Nat}{rest:List Nat}{d:Option Tmp}{x y z:Operand}{ats:Array TypeId}{ty:TypeId}{pp:String}{af:Array Edge}{g:Option (Nat×Bool)}{p q:Ph}
include H
theorem JL.addNeg(O:s.q=false)(U:ops[i]? =some ⟨d,.call ⟨.value (.func L.add),#[x,y],ats⟩,ty,pp,af,g⟩)(hw:AS M ops ⟨d,.call ⟨.value (.func L.add),#[x,y],ats⟩,ty,pp,af,g⟩=some true)(W:((b.kind != .early)&&A2 n d)=true)
  (Z:ev M x=some (.pointer (some F.sA))) (aa:ev M y=some (.int .i64 (-1)))
  (h:JL (DN P) (Ee P 0) b n (AH M d (.tuple #[])) ds (.inRegion ops rest::k) cs .quiet):
  JL (AZ P false) (Stop P F .BL) b n M ds (.inRegion ops (i::rest)::k) cs s:=by
 refine JL.FA (vs:= [.pointer (some F.sA),.int .i64 (-1)]) U hw W H.f_add (nm_add L) rfl (by simp [evs,Z,aa]) (Nat.le_of_ble_eq_true rfl) fun ac back=>?_;refine JL.go 11 rfl ?_;refine JL.conv (p:= .BL) (q:= .DI) (ad:=F.sA) rfl O (by simp) (fun _ _ _=>rfl) rfl rfl rfl rfl rfl H.underlying_tWgP H.underlying_tUP H.room_tWg rfl (.inl rfl) ?_
 refine JL.GY (p:= .DI) (q:= .EX) (mk:= .releaseMerge) (ad:=F.sA) (vs:= [.pointer (some F.sA)]) rfl O (by simp) (fun _ _ _=>rfl) rfl rfl rfl rfl (by simp) (Ny H) rfl rfl ?_;refine JL.go 3 rfl ?_;refine JL.G6 (p:= .EX) (q:= .Ef) rfl rfl (by simp) (fun _ _ _=>rfl) rfl rfl rfl rfl rfl (by simp) (IF H) ?_;refine JL.go 2 rfl ?_;refine JL.defer (vs:= []) rfl rfl rfl rfl rfl ?_;refine JL.go 8 rfl ?_;refine JL.ext (vs:= []) rfl rfl rfl (Kf H) rfl rfl ?_;refine JL.go 7 rfl ?_;refine JL.y rfl rfl rfl (fun ρ h=>Yl.fieldAddr H.underlying_tWg rfl (CV H.sizeOf_tAU) (h _ _ rfl)) ?_;refine JL.go 1 rfl ?_;refine JL.y rfl rfl rfl (fun ρ h=>Yl.conv H.underlying_t3 H.underlying_tU64 (h _ _ rfl)) ?_
 refine JL.y (v:= .int .u64 18446744069414584320) rfl rfl rfl (fun ρ h=>(Yl.shl (h _ _ rfl) (h _ _ rfl) (by decide)).to (congrArg _ (by decide))) ?_;refine JL.Ri H rfl rfl rfl rfl rfl ?_ fun v wt ae A ag=>?_
 ·refine JL.y rfl rfl rfl (fun ρ h=>Yl.assign (h _ _ rfl)) ?_;refine JL.go 5 rfl ?_;refine JL.y (v:= .int .u64 0) rfl rfl rfl (fun ρ h=>(Yl.and (h _ _ rfl) (h _ _ rfl)).to (congrArg _ (Gr (v:=0) (wt:=1) (by decide) (by decide)))) ?_;refine JL.y rfl rfl rfl (fun ρ h=>Yl.neq (h _ _ rfl) (h _ _ rfl)) ?_;refine JL.go 10 rfl ?_;refine JL.y (v:= .int .u64 (0:Nat)) rfl rfl rfl (fun ρ h=>(Yl.shr (h _ _ rfl) (h _ _ rfl) (by decide)).to (congrArg _ (Gc (v:=0) (wt:=1) (by decide)))) ?_;refine JL.y (v:= .int .i32 (0:Nat)) rfl rfl rfl (fun ρ h=>(Yl.conv H.underlying_tU64 H.underlying_t21 (h _ _ rfl)).to (congrArg _ (wrap_i32 (by decide)))) ?_
  refine JL.go 5 rfl ?_;refine JL.y (v:= .int .u64 (1:Nat)) rfl rfl rfl (fun ρ h=>(Yl.and (h _ _ rfl) (h _ _ rfl)).to (congrArg _ (Gu (v:=0) (wt:=1) (by decide) (by decide)))) ?_;refine JL.y (v:= .int .u32 (1:Nat)) rfl rfl rfl (fun ρ h=>(Yl.conv H.underlying_tU64 H.underlying_tU32 (h _ _ rfl)).to (congrArg _ (wrap_u32 (by decide)))) ?_
  refine JL.go 30 rfl ?_;refine JL.y rfl rfl rfl (fun ρ h=>Yl.neq (h _ _ rfl) (h _ _ rfl)) ?_;refine JL.go 30 rfl ?_;refine JL.y rfl rfl rfl (fun ρ h=>Yl.fieldAddr H.underlying_tWg rfl (CV H.sizeOf_tAU) (h _ _ rfl)) ?_;refine JL.uLoad H (p:= .DF) rfl rfl (by simp) rfl N1 rfl rfl rfl rfl fun v wt sm r ab=>?_;obtain⟨rfl,rfl,e⟩:=O3 ab;refine⟨.DT,e,?_⟩;refine JL.go 1 rfl ?_;refine JL.y (v:= .bool false) rfl rfl rfl (fun ρ h=>(Yl.neq (h _ _ rfl) (h _ _ rfl)).to (by simp)) ?_;refine JL.go 7 rfl ?_;refine JL.y rfl rfl rfl (fun ρ h=>Yl.fieldAddr H.underlying_tWg rfl (CV H.sizeOf_tAU) (h _ _ rfl)) ?_;refine JL.uStore H rfl rfl rfl rfl rfl ?_;refine JL.go 9 rfl ?_;refine JL.Gq ?_;refine JL.go 4 rfl ?_;refine JL.y rfl rfl rfl (fun ρ h=>Yl.neq (h _ _ rfl) (h _ _ rfl)) ?_;refine JL.go 8 rfl ?_;refine JL.y rfl rfl rfl (fun ρ h=>Yl.fieldAddr H.underlying_tWg rfl (CV H.sizeOf_tU32) (h _ _ rfl)) ?_;refine JL.Rf (vs:= [.pointer (some F.mA),.bool false,.int .i64 0]) rfl rfl rfl rfl (Oh H) rfl rfl ?_;refine JL.go 4 rfl ?_;refine JL.y (v:= .int .u32 ((0:Nat):Int)) rfl rfl rfl (fun ρ h=>(Yl.sub (h _ _ rfl) (h _ _ rfl)).to (congrArg _ (by decide))) ?_;refine JL.go 2 rfl ?_;refine JL.again ?_;refine JL.go 4 rfl ?_;refine JL.y rfl rfl rfl (fun ρ h=>Yl.neq (h _ _ rfl) (h _ _ rfl)) ?_;refine JL.go 3 rfl ?_;refine JL.out rfl (JO.HP rfl (Fi H) (JO.leave rfl (Bl.none H.f_add rfl) (back _ _ _ _ h)))
 ·refine JL.y rfl rfl rfl (fun ρ h=>Yl.assign (h _ _ rfl)) ?_;refine JL.go 5 rfl ?_;refine JL.y (v:= .int .u64 0) rfl rfl rfl (fun ρ h=>(Yl.and (h _ _ rfl) (h _ _ rfl)).to (congrArg _ (Gr (v:=v) (wt:=wt) (by omega) A))) ?_;refine JL.y rfl rfl rfl (fun ρ h=>Yl.neq (h _ _ rfl) (h _ _ rfl)) ?_;refine JL.go 10 rfl ?_;refine JL.y (v:= .int .u64 (v:Nat)) rfl rfl rfl (fun ρ h=>(Yl.shr (h _ _ rfl) (h _ _ rfl) (by decide)).to (congrArg _ (Gc (v:=v) (wt:=wt) A))) ?_;refine JL.y (v:= .int .i32 (v:Nat)) rfl rfl rfl (fun ρ h=>(Yl.conv H.underlying_tU64 H.underlying_t21 (h _ _ rfl)).to (congrArg _ (wrap_i32 (by omega)))) ?_
  refine JL.go 5 rfl ?_;refine JL.y (v:= .int .u64 (wt:Nat)) rfl rfl rfl (fun ρ h=>(Yl.and (h _ _ rfl) (h _ _ rfl)).to (congrArg _ (Gu (v:=v) (wt:=wt) (by omega) A))) ?_;refine JL.y (v:= .int .u32 (wt:Nat)) rfl rfl rfl (fun ρ h=>(Yl.conv H.underlying_tU64 H.underlying_tU32 (h _ _ rfl)).to (congrArg _ (wrap_u32 A))) ?_
  refine JL.go 22 rfl ?_;refine JL.y (v:= .bool false) rfl rfl rfl (fun ρ h=>(Yl.lss (h _ _ rfl) (h _ _ rfl)).to (by simp)) ?_;refine JL.go 6 rfl ?_;by_cases K:wt=0
  ·refine JL.y rfl rfl rfl (fun ρ h=>Yl.move (h _ _ rfl)) ?_;refine JL.y (v:= .bool false) rfl rfl rfl (fun ρ h=>(Yl.neq (h _ _ rfl) (h _ _ rfl)).to (by simp [K])) ?_;refine JL.go 16 rfl ?_;by_cases ah:0<v
   ·refine JL.y rfl rfl rfl (fun ρ h=>Yl.move (h _ _ rfl)) ?_;refine JL.y (v:= .bool true) rfl rfl rfl (fun ρ h=>(Yl.gtr (h _ _ rfl) (h _ _ rfl)).to (by simp <;> omega)) ?_;refine JL.go 6 rfl ?_;refine JL.DV rfl (JO.HP rfl (Fi H) (JO.leave rfl (Bl.none H.f_add rfl) (back _ _ _ _ h)))
   ·refine JL.y rfl rfl rfl (fun ρ h=>Yl.move (h _ _ rfl)) ?_;refine JL.y (v:= .bool false) rfl rfl rfl (fun ρ h=>(Yl.gtr (h _ _ rfl) (h _ _ rfl)).to (by simp <;> omega)) ?_;refine JL.go 2 rfl ?_;refine JL.y (v:= .bool true) rfl rfl rfl (fun ρ h=>(Yl.eql (h _ _ rfl) (h _ _ rfl)).to (by simp [K])) ?_;refine JL.go 3 rfl ?_;refine JL.DV rfl (JO.HP rfl (Fi H) (JO.leave rfl (Bl.none H.f_add rfl) (back _ _ _ _ h)))
  ·refine JL.y rfl rfl rfl (fun ρ h=>Yl.move (h _ _ rfl)) ?_;refine JL.y (v:= .bool true) rfl rfl rfl (fun ρ h=>(Yl.neq (h _ _ rfl) (h _ _ rfl)).to (by simp [K])) ?_;refine JL.go 17 rfl ?_;refine JL.y (v:= .bool true) rfl rfl rfl (fun ρ h=>(Yl.gtr (h _ _ rfl) (h _ _ rfl)).to (by simp <;> omega)) ?_;refine JL.go 6 rfl ?_;refine JL.DV rfl (JO.HP rfl (Fi H) (JO.leave rfl (Bl.none H.f_add rfl) (back _ _ _ _ h)))
theorem JL.addPos{j:Nat}(A:s.q=false)(K:ops[i]? =some ⟨d,.call ⟨.value (.func L.add),#[x,y],ats⟩,ty,pp,af,g⟩)(hw:AS M ops ⟨d,.call ⟨.value (.func L.add),#[x,y],ats⟩,ty,pp,af,g⟩=some true)(O:((b.kind != .early)&&A2 n d)=true)
  (U:ev M x=some (.pointer (some F.sA))) (W:ev M y=some (.int .i64 1))
  (h:JL (AZ P true) (Stop P F (.CS j)) b n (AH M d (.tuple #[])) ds (.inRegion ops rest::k) cs s):
  JL (AZ P true) (Stop P F (.C4 j)) b n M ds (.inRegion ops (i::rest)::k) cs s:=by
 refine JL.FA (vs:= [.pointer (some F.sA),.int .i64 1]) K hw O H.f_add (nm_add L) rfl (by simp [evs,U,W]) (Nat.le_of_ble_eq_true rfl) fun Z back=>?_;refine JL.go 12 rfl ?_;refine JL.G6 (p:= .C4 j) (q:= .EC j) rfl A (by simp) (fun _ _ _=>rfl) rfl rfl rfl rfl rfl (by simp) (IF H) ?_;refine JL.go 2 rfl ?_;refine JL.defer (vs:= []) rfl rfl rfl rfl rfl ?_;refine JL.go 8 rfl ?_;refine JL.ext (vs:= []) rfl rfl rfl (Kf H) rfl rfl ?_;refine JL.go 7 rfl ?_;refine JL.y rfl rfl rfl (fun ρ h=>Yl.fieldAddr H.underlying_tWg rfl (CV H.sizeOf_tAU) (h _ _ rfl)) ?_;refine JL.go 1 rfl ?_;refine JL.y rfl rfl rfl (fun ρ h=>Yl.conv H.underlying_t3 H.underlying_tU64 (h _ _ rfl)) ?_
 refine JL.y (v:= .int .u64 4294967296) rfl rfl rfl (fun ρ h=>(Yl.shl (h _ _ rfl) (h _ _ rfl) (by decide)).to (congrArg _ (by decide))) ?_;refine JL.Rg H A rfl rfl rfl rfl rfl ?_ fun v aa ab=>?_
 ·refine JL.y rfl rfl rfl (fun ρ h=>Yl.assign (h _ _ rfl)) ?_;refine JL.go 5 rfl ?_;refine JL.y (v:= .int .u64 0) rfl rfl rfl (fun ρ h=>(Yl.and (h _ _ rfl) (h _ _ rfl)).to (congrArg _ (Gr (v:=1) (wt:=0) (by decide) (by decide)))) ?_;refine JL.y rfl rfl rfl (fun ρ h=>Yl.neq (h _ _ rfl) (h _ _ rfl)) ?_;refine JL.go 10 rfl ?_;refine JL.y (v:= .int .u64 (1:Nat)) rfl rfl rfl (fun ρ h=>(Yl.shr (h _ _ rfl) (h _ _ rfl) (by decide)).to (congrArg _ (Gc (v:=1) (wt:=0) (by decide)))) ?_;refine JL.y (v:= .int .i32 (1:Nat)) rfl rfl rfl (fun ρ h=>(Yl.conv H.underlying_tU64 H.underlying_t21 (h _ _ rfl)).to (congrArg _ (wrap_i32 (by decide)))) ?_
  refine JL.go 5 rfl ?_;refine JL.y (v:= .int .u64 (0:Nat)) rfl rfl rfl (fun ρ h=>(Yl.and (h _ _ rfl) (h _ _ rfl)).to (congrArg _ (Gu (v:=1) (wt:=0) (by decide) (by decide)))) ?_;refine JL.y (v:= .int .u32 (0:Nat)) rfl rfl rfl (fun ρ h=>(Yl.conv H.underlying_tU64 H.underlying_tU32 (h _ _ rfl)).to (congrArg _ (wrap_u32 (by decide)))) ?_
  refine JL.go 12 rfl ?_;refine JL.y (v:= .int .i32 1) rfl rfl rfl (fun ρ h=>(Yl.conv H.underlying_t3 H.underlying_t21 (h _ _ rfl)).to (congrArg _ (by decide))) ?_
  refine JL.y (v:= .bool true) rfl rfl rfl (fun ρ h=>(Yl.eql (h _ _ rfl) (h _ _ rfl)).to (by simp)) ?_;refine JL.go 6 rfl ?_;refine JL.y rfl rfl rfl (fun ρ h=>Yl.fieldAddr H.underlying_tWg rfl (CV H.sizeOf_tU32) (h _ _ rfl)) ?_;refine JL.conv (p:= .Ei j) (q:= .DW j) (ad:=F.mA) rfl A (by simp) (fun _ _ _=>rfl) rfl rfl rfl rfl rfl H.underlying_tPU32 H.underlying_tUP H.room_tU32 rfl (.inr rfl) ?_
  refine JL.GY (p:= .DW j) (q:= .Dv j) (mk:= .read) (ad:=F.mA) (vs:= [.pointer (some F.mA)]) rfl A (by simp) (fun _ _ _=>rfl) rfl rfl rfl rfl (by simp) (O0 H) rfl rfl ?_;refine JL.go 5 rfl ?_;refine JL.y (v:= .bool false) rfl rfl rfl (fun ρ h=>(Yl.lss (h _ _ rfl) (h _ _ rfl)).to (by simp)) ?_;refine JL.go 7 rfl ?_;refine JL.y (v:= .bool false) rfl rfl rfl (fun ρ h=>(Yl.neq (h _ _ rfl) (h _ _ rfl)).to (by simp)) ?_;refine JL.go 17 rfl ?_;refine JL.y (v:= .bool true) rfl rfl rfl (fun ρ h=>(Yl.gtr (h _ _ rfl) (h _ _ rfl)).to (by simp)) ?_;refine JL.go 6 rfl ?_;exact JL.DV rfl (JO.LS A rfl (Fi H) (JO.leave rfl (Bl.none H.f_add rfl) (back _ _ _ _ h)))
 ·refine JL.y rfl rfl rfl (fun ρ h=>Yl.assign (h _ _ rfl)) ?_;refine JL.go 5 rfl ?_;refine JL.y (v:= .int .u64 0) rfl rfl rfl (fun ρ h=>(Yl.and (h _ _ rfl) (h _ _ rfl)).to (congrArg _ (Gr (v:=(v+1)) (wt:=0) (by omega) (by decide)))) ?_;refine JL.y rfl rfl rfl (fun ρ h=>Yl.neq (h _ _ rfl) (h _ _ rfl)) ?_;refine JL.go 10 rfl ?_;refine JL.y (v:= .int .u64 ((v+1):Nat)) rfl rfl rfl (fun ρ h=>(Yl.shr (h _ _ rfl) (h _ _ rfl) (by decide)).to (congrArg _ (Gc (v:=(v+1)) (wt:=0) (by decide)))) ?_;refine JL.y (v:= .int .i32 ((v+1):Nat)) rfl rfl rfl (fun ρ h=>(Yl.conv H.underlying_tU64 H.underlying_t21 (h _ _ rfl)).to (congrArg _ (wrap_i32 (by omega)))) ?_
  refine JL.go 5 rfl ?_;refine JL.y (v:= .int .u64 (0:Nat)) rfl rfl rfl (fun ρ h=>(Yl.and (h _ _ rfl) (h _ _ rfl)).to (congrArg _ (Gu (v:=(v+1)) (wt:=0) (by omega) (by decide)))) ?_;refine JL.y (v:= .int .u32 (0:Nat)) rfl rfl rfl (fun ρ h=>(Yl.conv H.underlying_tU64 H.underlying_tU32 (h _ _ rfl)).to (congrArg _ (wrap_u32 (by decide)))) ?_
  refine JL.go 12 rfl ?_;refine JL.y (v:= .int .i32 1) rfl rfl rfl (fun ρ h=>(Yl.conv H.underlying_t3 H.underlying_t21 (h _ _ rfl)).to (congrArg _ (by decide))) ?_
  refine JL.y (v:= .bool false) rfl rfl rfl (fun ρ h=>(Yl.eql (h _ _ rfl) (h _ _ rfl)).to (by simp <;> omega)) ?_;refine JL.go 8 rfl ?_;refine JL.y (v:= .bool false) rfl rfl rfl (fun ρ h=>(Yl.lss (h _ _ rfl) (h _ _ rfl)).to (by simp <;> omega)) ?_;refine JL.go 7 rfl ?_;refine JL.y (v:= .bool false) rfl rfl rfl (fun ρ h=>(Yl.neq (h _ _ rfl) (h _ _ rfl)).to (by simp)) ?_;refine JL.go 17 rfl ?_;refine JL.y (v:= .bool true) rfl rfl rfl (fun ρ h=>(Yl.gtr (h _ _ rfl) (h _ _ rfl)).to (by simp <;> omega)) ?_;refine JL.go 6 rfl ?_;exact JL.DV rfl (JO.LS A rfl (Fi H) (JO.leave rfl (Bl.none H.f_add rfl) (back _ _ _ _ h)))
omit H in
theorem N7{m:Nat}:∀v wt sm r,F.act (.Dd m) v wt sm=some r→r.1=(v,wt,sm)∧r.2.1= #[Fam.CR F.sA]:=by
 intro v wt sm r h;simp only [Fam.act] at h;split at h
 ·rename_i A;obtain⟨_,rfl⟩:=A;cases h;exact⟨rfl,rfl⟩
 ·cases h
omit H in
theorem O4{m v wt sm:Nat}{r}(h:F.act (.Dd m) v wt sm=some r):v≤m∧wt=0∧r.2.2=if v=0 then .ph .C5 else .ph (.Eh v):=by
 simp only [Fam.act] at h;split at h
 ·rename_i A;cases h;exact⟨A.1,A.2,rfl⟩
 ·cases h
omit H in
theorem NP:∀v wt sm r,F.act .DU v wt sm=some r→r.1=(v,wt,sm)∧r.2.1= #[Fam.CR F.sA]:=by
 intro v wt sm r h;simp only [Fam.act] at h;split at h
 ·rename_i A;obtain⟨rfl,rfl⟩:=A;cases h;exact⟨rfl,rfl⟩
 ·cases h
omit H in
theorem Oc{v wt sm:Nat}{r}(h:F.act .DU v wt sm=some r):v=0∧wt=0∧r.2.2= .ph .C5:=by
 simp only [Fam.act] at h;split at h
 ·rename_i A;cases h;exact⟨A.1,A.2,rfl⟩
 ·cases h
omit H in
theorem Oa{v:Nat}(A:v<2147483648):IntKind.u64.wrap (Fam.word v 0+1)=Fam.word v 1:=by
 simp only [Fam.word,Fam.KK,IntKind.wrap,IntKind.bits,IntKind.signed];simp;omega
theorem JL.wait(W:F.n<2147483648)(A:s.q=false)(Z:ops[i]? =some ⟨d,.call ⟨.value (.func L.wait),#[x],ats⟩,ty,pp,af,g⟩)(hw:AS M ops ⟨d,.call ⟨.value (.func L.wait),#[x],ats⟩,ty,pp,af,g⟩=some true)(aa:((b.kind != .early)&&A2 n d)=true)
  (ab:ev M x=some (.pointer (some F.sA)))
  (h:JL (AZ P false) (Stop P F .Cb) b n (AH M d (.tuple #[])) ds (.inRegion ops rest::k) cs s):
  JL (AZ P false) (Stop P F .BN) b n M ds (.inRegion ops (i::rest)::k) cs s:=by
 refine JL.FA (vs:= [.pointer (some F.sA)]) Z hw aa H.f_wait (nm_wait L) rfl (by simp [evs,ab]) (Nat.le_of_ble_eq_true rfl) fun ae back=>?_;refine JL.go 3 rfl ?_;refine JL.G6 (p:= .BN) (q:= .Dd F.n) rfl A (by simp) (fun _ _ _=>rfl) rfl rfl rfl rfl rfl (by simp) (IF H) ?_;refine JL.go 2 rfl ?_;refine JL.Gq ?_;refine JL.BK (L':= [(0,.pointer (some F.sA))]) ⟨rfl,trivial⟩ ?_;generalize F.n=m at W ⊢
 induction m using Nat.strongRecOn with
 | _ m ac=>?_
 refine JL.go 5 rfl ?_;refine JL.y rfl rfl rfl (fun ρ h=>Yl.fieldAddr H.underlying_tWg rfl (CV H.sizeOf_tAU) (h _ _ rfl)) ?_;refine JL.uLoad H (p:= .Dd m) rfl A (by simp) rfl N7 rfl rfl rfl rfl fun v wt sm r O=>?_;obtain⟨ag,rfl,e⟩:=O4 O;have K:v<2147483648:=by omega
 by_cases U:v=0
 ·subst U;refine⟨.C5,e,?_⟩;refine JL.go 5 rfl ?_;refine JL.y (v:= .int .u64 (0:Nat)) rfl rfl rfl (fun ρ h=>(Yl.shr (h _ _ rfl) (h _ _ rfl) (by decide)).to (congrArg _ (Gc (v:=0) (wt:=0) (by decide)))) ?_;refine JL.y (v:= .int .i32 (0:Nat)) rfl rfl rfl (fun ρ h=>(Yl.conv H.underlying_tU64 H.underlying_t21 (h _ _ rfl)).to (congrArg _ (wrap_i32 (by decide)))) ?_
  refine JL.go 5 rfl ?_;refine JL.y (v:= .int .u64 ((0:Nat):Int)) rfl rfl rfl (fun ρ h=>(Yl.and (h _ _ rfl) (h _ _ rfl)).to (congrArg _ (Gu (v:=0) (wt:=0) (by decide) (by decide)))) ?_;refine JL.y (v:= .int .u32 ((0:Nat):Int)) rfl rfl rfl (fun ρ h=>(Yl.conv H.underlying_tU64 H.underlying_tU32 (h _ _ rfl)).to (congrArg _ (wrap_u32 (by decide)))) ?_
  refine JL.go 6 rfl ?_;refine JL.y (v:= .bool true) rfl rfl rfl (fun ρ h=>(Yl.eql (h _ _ rfl) (h _ _ rfl)).to (by simp)) ?_;refine JL.go 6 rfl ?_;refine JL.G6 (p:= .C5) (q:= .ED) rfl A (by simp) (fun _ _ _=>rfl) rfl rfl rfl rfl rfl (by simp) (Fi H) ?_;refine JL.go 3 rfl ?_;refine JL.conv (p:= .ED) (q:= .DY) (ad:=F.sA) rfl A (by simp) (fun _ _ _=>rfl) rfl rfl rfl rfl rfl H.underlying_tWgP H.underlying_tUP H.room_tWg rfl (.inl rfl) ?_
  refine JL.GY (p:= .DY) (q:= .Cb) (mk:= .acquire) (ad:=F.sA) (vs:= [.pointer (some F.sA)]) rfl A (by simp) (fun _ _ _=>rfl) rfl rfl rfl rfl (by simp) (Ke H) rfl rfl ?_;refine JL.go 5 rfl ?_;refine JL.y (v:= .bool true) rfl rfl rfl (fun ρ h=>(Yl.eql (h _ _ rfl) (h _ _ rfl)).to (by simp)) ?_;refine JL.go 2 rfl ?_;refine JL.y (v:= .int .u64 0) rfl rfl rfl (fun ρ h=>(Yl.and (h _ _ rfl) (h _ _ rfl)).to (congrArg _ (Gr (v:=0) (wt:=0) (by decide) (by decide)))) ?_;refine JL.y (v:= .bool false) rfl rfl rfl (fun ρ h=>(Yl.neq (h _ _ rfl) (h _ _ rfl)).to (by simp)) ?_;refine JL.go 8 rfl ?_;exact JL.ret rfl rfl (Bl.none H.f_wait rfl) (back _ _ _ _ h)
 ·refine⟨.Eh v,by rw [e,if_neg U],?_⟩;refine JL.go 5 rfl ?_;refine JL.y (v:= .int .u64 (v:Nat)) rfl rfl rfl (fun ρ h=>(Yl.shr (h _ _ rfl) (h _ _ rfl) (by decide)).to (congrArg _ (Gc (v:=v) (wt:=0) (by decide)))) ?_;refine JL.y (v:= .int .i32 (v:Nat)) rfl rfl rfl (fun ρ h=>(Yl.conv H.underlying_tU64 H.underlying_t21 (h _ _ rfl)).to (congrArg _ (wrap_i32 K))) ?_
  refine JL.go 5 rfl ?_;refine JL.y (v:= .int .u64 ((0:Nat):Int)) rfl rfl rfl (fun ρ h=>(Yl.and (h _ _ rfl) (h _ _ rfl)).to (congrArg _ (Gu (v:=v) (wt:=0) K (by decide)))) ?_;refine JL.y (v:= .int .u32 ((0:Nat):Int)) rfl rfl rfl (fun ρ h=>(Yl.conv H.underlying_tU64 H.underlying_tU32 (h _ _ rfl)).to (congrArg _ (wrap_u32 (by decide)))) ?_
  refine JL.go 6 rfl ?_;refine JL.y (v:= .bool false) rfl rfl rfl (fun ρ h=>(Yl.eql (h _ _ rfl) (h _ _ rfl)).to (by simp <;> omega)) ?_;refine JL.go 7 rfl ?_;refine JL.y rfl rfl rfl (fun ρ h=>Yl.fieldAddr H.underlying_tWg rfl (CV H.sizeOf_tAU) (h _ _ rfl)) ?_;refine JL.go 2 rfl ?_;refine JL.y (v:= .int .u64 (Fam.word v 1)) rfl rfl rfl (fun ρ h=>(Yl.add (h _ _ rfl) (h _ _ rfl)).to (congrArg _ (Oa K))) ?_;refine JL.uCas H (m:=v) A rfl rfl rfl rfl rfl rfl ?_ ?_
  ·refine JL.done ?_;refine JL.go 6 rfl ?_;refine JL.y (v:= .bool true) rfl rfl rfl (fun ρ h=>(Yl.eql (h _ _ rfl) (h _ _ rfl)).to (by simp)) ?_;refine JL.go 6 rfl ?_;refine JL.y rfl rfl rfl (fun ρ h=>Yl.fieldAddr H.underlying_tWg rfl (CV H.sizeOf_tU32) (h _ _ rfl)) ?_;refine JL.conv (p:= .EI) (q:= .En) (ad:=F.mA) rfl A (by simp) (fun _ _ _=>rfl) rfl rfl rfl rfl rfl H.underlying_tPU32 H.underlying_tUP H.room_tU32 rfl (.inr rfl) ?_
   refine JL.GY (p:= .En) (q:= .BY) (mk:= .write) (ad:=F.mA) (vs:= [.pointer (some F.mA)]) rfl A (by simp) (fun _ _ _=>rfl) rfl rfl rfl rfl (by simp) (Ov H) rfl rfl ?_;refine JL.go 9 rfl ?_;refine JL.y (v:= .int .u64 0) rfl rfl rfl (fun ρ h=>(Yl.and (h _ _ rfl) (h _ _ rfl)).to (congrArg _ (Gr (v:=v) (wt:=0) K (by decide)))) ?_;refine JL.y (v:= .bool false) rfl rfl rfl (fun ρ h=>(Yl.neq (h _ _ rfl) (h _ _ rfl)).to (by simp)) ?_;refine JL.go 10 rfl ?_;refine JL.y rfl rfl rfl (fun ρ h=>Yl.fieldAddr H.underlying_tWg rfl (CV H.sizeOf_tU32) (h _ _ rfl)) ?_;refine JL.go 1 rfl ?_;refine JL.Pd (vs:= [.pointer (some F.mA),.bool false]) A rfl rfl rfl rfl (NI H) rfl rfl ?_;refine JL.go 5 rfl ?_;refine JL.y rfl rfl rfl (fun ρ h=>Yl.fieldAddr H.underlying_tWg rfl (CV H.sizeOf_tAU) (h _ _ rfl)) ?_;refine JL.uLoad H (p:= .DU) rfl A (by simp) rfl NP rfl rfl rfl rfl fun v wt sm r O=>?_;obtain⟨rfl,rfl,e⟩:=Oc O;refine⟨.C5,e,?_⟩;refine JL.y (v:= .bool false) rfl rfl rfl (fun ρ h=>(Yl.neq (h _ _ rfl) (h _ _ rfl)).to (by simp [Fam.word])) ?_;refine JL.go 6 rfl ?_;refine JL.G6 (p:= .C5) (q:= .ED) rfl A (by simp) (fun _ _ _=>rfl) rfl rfl rfl rfl rfl (by simp) (Fi H) ?_;refine JL.go 3 rfl ?_;refine JL.conv (p:= .ED) (q:= .DY) (ad:=F.sA) rfl A (by simp) (fun _ _ _=>rfl) rfl rfl rfl rfl rfl H.underlying_tWgP H.underlying_tUP H.room_tWg rfl (.inl rfl) ?_
   refine JL.GY (p:= .DY) (q:= .Cb) (mk:= .acquire) (ad:=F.sA) (vs:= [.pointer (some F.sA)]) rfl A (by simp) (fun _ _ _=>rfl) rfl rfl rfl rfl (by simp) (Ke H) rfl rfl ?_;refine JL.go 8 rfl ?_;exact JL.ret rfl rfl (Bl.none H.f_wait rfl) (back _ _ _ _ h)
  ·refine JL.done ?_;refine JL.go 3 rfl ?_;refine JL.again ?_;refine JL.BK (L':= [(0,.pointer (some F.sA))]) ⟨rfl,trivial⟩ ?_;exact ac (v - 1) (by omega) (by omega)
theorem JO.Ik(A:b.roundOf=none)(K:s.q=false)(h:JO (DN P) (Ee P 0) b n M ds cs .quiet):
  JO (AZ P false) (Stop P F .BL) b n M (dcall L.done #[.pointer (some F.sA)]::ds) cs s:=by
 refine JO.enter (vs:= [.pointer (some F.sA)]) A H.f_done (nm_done L) rfl (Nat.le_of_ble_eq_true rfl) fun T O todo=>?_;refine JL.go 2 rfl ?_;refine JL.addNeg H K rfl rfl rfl rfl rfl ?_;refine JL.done ?_;exact JL.out rfl (JO.leaveD rfl H.f_done rfl (.inl rfl) (h T O todo))
end
end Pal
namespace Pal
open Go Go.Conc
section
variable {P:Program}{J:Judge P}{Q:Goroutine→St→Prop}{g:Goroutine}{cs:List Frame}{c:Frame}{E H:LH}{S S':List Seg}
theorem I4(A:S.flatten.Perm S'.flatten)(K:Az E H S)(h:Az E H S'→J.ok Q g (Ap E H S')):J.ok Q g (Ap E H S):=by
 have O:Ap E H S=Ap E H S':=CW K A;rw [O];exact h (Nd.perm K A)
theorem Lo(A:S'.flatten=S.flatten)(K:Az E H S)(h:Az E H S'→J.ok Q g (Ap E H S')):J.ok Q g (Ap E H S):=I4 (by rw [A]) K h
theorem Lf{f:FuncId}{vs:List Value}{seg:Seg}{R:Value→LH→Seg→Prop}(j:Nat)(ab:Au J f vs E seg R)(A:Az E H S)(K:S[j]? =some seg)
  (ac:∀v E' seg',Le E E'→R v E' seg'→Az E' H (S.set j seg')→J.ok Q (G (c.finish v) cs) (Ap E' H (S.set j seg'))):
  J.ok Q (G (Frame.enter P f vs.toArray .normal) (c::cs)) (Ap E H S):=by
 have O:S.flatten.Perm (seg++(S.set j []).flatten):=(Co (seg':=seg) K).1.trans List.perm_append_comm;have U:Nd E H (seg++(S.set j []).flatten):=Nd.perm A O;have ae:Ap E H S=mk E (AT (S.set j []).flatten H) seg:=by
  rw [show Ap E H S=mk E H S.flatten from rfl,CW A O];unfold mk;rw [Dl]
 have W:=Ch.EZ (ab (AT (S.set j []).flatten H) (Nd.front U)) (by rintro v s' ⟨E',B',_,_,_,rfl⟩;rfl);rw [← ae] at W;refine W Q c cs ?_;rintro v aq ⟨⟨E',B',hle,ag,ah,rfl⟩,w,ai⟩;have aj:mk E' (AT (S.set j []).flatten H) B'=mk E' H (B'++(S.set j []).flatten):=by unfold mk;rw [Dl]
 have ak:Nd E H (S.set j []).flatten:=by
  have:=U;rw [Nd.iff] at this ⊢;rw [List.map_append,List.nodup_append] at this;exact⟨this.1.2.1,fun q al=>this.2 q (List.mem_append_right _ al)⟩
 have am:Nd E' H (S.set j []).flatten:=ak.grow fun x an=>by
  have ao:=ai.d x an;have ap:AT B' (AT (S.set j []).flatten H) x=none:=ao;exact(D5 ap).1
 have Z:Nd E' H (B'++(S.set j []).flatten):=Nd.glue ah am;rw [aj];have aa:(B'++(S.set j []).flatten).Perm (S.set j B').flatten:=List.perm_append_comm.trans (Co K).2.symm;rw [CW Z aa];exact ac v E' B' hle ag (Nd.perm Z aa)
theorem Mc{e p d l:Seg}:([e,p]++ [d]++ [l]:List Seg).flatten.Perm ([e++(l++p),d]:List Seg).flatten:=by
 simp only [List.cons_append,List.nil_append,List.flatten_cons,List.flatten_nil,List.append_nil,List.append_assoc];refine List.Perm.append_left e ?_;rw [← List.append_assoc];exact List.perm_append_comm
end
section
variable {P:Program}{J:Judge P}{Q:Goroutine→St→Prop}{b:Frame}{n:Nat}{L:Env}{ds:List Deferred}{k:List Item}{cs:List Frame}{E H:LH}{S:List Seg}{ops:Array Oper}{i:Nat}{rest:List Nat}{d:Option Tmp}{t ty e:TypeId}{p:String}{af:Array Edge}{g:Option (Nat×Bool)}
theorem JS.makeChan{dir:ChanDir}{A:Nat}(K:ops[i]? =some ⟨d,.makeChan t (.const (.int .i64 0)),ty,p,af,g⟩)(hw:AS L ops ⟨d,.makeChan t (.const (.int .i64 0)),ty,p,af,g⟩=some true)(O:BC b n ⟨d,.makeChan t (.const (.int .i64 0)),ty,p,af,g⟩=true)
  (ht:P.underlying t=some (.chan dir e)) (hb:CH P e=some A) (U:Az E H S)
  (h:∀r,Az E H (S++ [[(r,.chan 0 #[] false 0 0 false)]])→JL J Q b n (AH L d (.chan (some r))) ds (.inRegion ops rest::k) cs (Ap E H (S++ [[(r,.chan 0 #[] false 0 0 false)]]))):
  JL J Q b n L ds (.inRegion ops (i::rest)::k) cs (Ap E H S):=
 JL.op K hw O fun ρ W=>by
  show lp P (do pure (Next.value (← Instr.makeChan t (ρ (.const (.int .i64 0)))))) _ _ _
  rw [W _ _ rfl]
  obtain⟨inf,hi,ah⟩:=Hz hb
  refine AF _ _ ?_
  unfold Instr.makeChan
  simp only [asInt,bind,Sem.bind,pure]
  refine AF (x:=underlying t) _ (BU ht ?_)
  simp only
  refine AF (x:=typeInfo e) _ (Fh hi ?_)
  have Z:¬((0:Int)<0∨(0:Int)>IntKind.i64.max∨(inf.bytes:Int)*0>2 ^ 48 - 112):=by
   simp [IntKind.max,IntKind.signed,IntKind.bits]
  rw [if_neg Z];simp only [newObj,Sem.bind,lp];refine⟨rfl,fun r aa ab=>?_⟩;obtain⟨ac,ae⟩:=Ge aa ab (.chan 0 #[] false 0 0 false) U;obtain⟨p1,p2⟩:=CF ac;have ag:(Ap E H S).upd r (.chan 0 #[] false 0 0 false)=Ap E H (S++ [[(r,.chan 0 #[] false 0 0 false)]]):=by rw [← p1,← ae];rfl
  show JL J Q b n (AH L d (.chan (some r))) ds (.inRegion ops rest::k) cs ((Ap E H S).upd r (.chan 0 #[] false 0 0 false));rw [ag];exact h r p2
end
theorem NN{E H:LH}{a b:Nat}{A K:Obj}(W:Az E H [[(a,A)],[(b,K)]]):(⟨E,Fu (Ap E H [[(a,A)],[(b,K)]]).H b a,false⟩:St)=Ap E H []:=by
 have h:=Nd.iff.1 W;have Z:H a=none:=(h.2 (a,A) (by simp)).2;have aa:H b=none:=(h.2 (b,K) (by simp)).2;unfold Ap mk;congr 1;funext x;simp only [Fu,Ap,mk,List.flatten_cons,List.flatten_nil,List.append_nil,List.cons_append,List.nil_append,AT];by_cases O:x=a
 ·subst O;simp [Z]
 ·by_cases U:x=b
  ·subst U;simp [O,aa]
  ·simp [O,U]
theorem Az.up{E E' H:LH}{S:List Seg}(O:Az E H S)(h:∀x,E' x≠none→(Ap E H S).H x=none):Az E' H S:=by
 have A:=Nd.iff.1 O;refine Nd.iff.2 ⟨A.1,fun q K=>⟨?_,(A.2 q K).2⟩⟩;cases U:E' q.1 with
 | none=>rfl
 | some o=>
  have W:=h q.1 (by rw [U];simp);have Z:AT S.flatten H q.1=none:=W;exact absurd rfl ((D5 Z).2 q K)
end Pal
namespace Pal
open Go Go.Conc
theorem JS.merge{P:Program}{J:Judge P}{Q:Goroutine→St→Prop}{b:Frame}{n:Nat}{L:Env}{ds:List Deferred}{cs:List Frame}{E H:LH}{S:List Seg}{todo:List Item}{A B:Seg}(j K:Nat)(O:S[j]? =some A)(Z:(S.set j [])[K]? =some B)(aa:Az E H S)
  (h:Az E H (((S.set j []).set K []).set j (A++B))→JL J Q b n L ds todo cs (Ap E H (((S.set j []).set K []).set j (A++B)))):JL J Q b n L ds todo cs (Ap E H S):=by
 refine JS.perm ?_ aa h;have U:j<S.length:=(List.getElem?_eq_some_iff.1 O).1;have ab:=(Co (seg':=A) O).1;have ac:=(Co (seg':=B) Z).1;have ae:((S.set j []).set K [])[j]? =some []:=by
  by_cases e:K=j
  ·subst e;rw [List.getElem?_set_self (by simpa using U)]
  ·rw [List.getElem?_set_ne e,List.getElem?_set_self U]
 have W:=(Co (seg':=A++B) ae).2;have ag:(((S.set j []).set K []).set j [])=(S.set j []).set K []:=by
  by_cases e:K=j
  ·subst e;simp
  ·rw [List.set_comm _ _ e];simp
 rw [ag] at W;refine ab.trans (List.Perm.trans ?_ W.symm);refine(List.Perm.append_right A ac).trans ?_;rw [List.append_assoc];exact List.Perm.append_left _ List.perm_append_comm
end Pal
namespace Pal
open Go Go.Conc
def WL{α:Type}(e:TypeId)(pp:Rp α)(E:LH)(A c n:Nat)(f:Array Value)(xs:List α):Prop:=
 OL e pp E (some ⟨A,0,none⟩) c [(A,.cells f e (0,0))] xs∧xs.length=n
theorem WL.mono{α:Type}{e:TypeId}{pp:Rp α}{E E':LH}{A c n:Nat}{f:Array Value}{xs:List α}(h:WL e pp E A c n f xs)(hle:Le E E'):WL e pp E' A c n f xs:=⟨h.1.mono hle,h.2⟩
theorem WL.at{α:Type}{e:TypeId}{pp:Rp α}{E:LH}{A c n:Nat}{f:Array Value}{xs:List α}{m:Int}{x:α}(h:WL e pp E A c n f xs)(hm:ix xs m=some x):
  ∃ws,pp.r E ws x∧(∀j w,ws[j]? =some w→f[m.toNat*pp.n+j]? =some w):=by
 obtain⟨ws,K,O,_,_⟩:=OL.again h.1 hm rfl;exact⟨ws,K,O⟩
theorem WL.put{α:Type}{e:TypeId}{pp:Rp α}{E:LH}{K c n:Nat}{f:Array Value}{xs O:List α}{m:Int}{U x':α}{ws':List Value}(h:WL e pp E K c n f xs)(W:O.length=n)(hm:ix O m=some U)(Z:pp.r E ws' x'):
  WL e pp E K c n (AL f (m.toNat*pp.n) ws') (xs.set m.toNat x')∧m.toNat*pp.n+pp.n≤f.size:=by
 obtain⟨A,rfl,aa⟩:=EP hm;have ab:A<xs.length:=by rw [h.2,← W];exact(List.getElem?_eq_some_iff.1 aa).1
 have ac:ix xs (A:Int)=some xs[A]:=by simp [ix,ab]
 obtain⟨ws,ah,ai,ae,ag⟩:=OL.again h.1 ac rfl;exact⟨⟨ag x' ws' Z,by rw [List.length_set];exact h.2⟩,ae⟩
theorem OL.cases{α:Type}{e:TypeId}{pp:Rp α}{E:LH}{a:Option Addr}{c:Nat}{seg:Seg}{xs:List α}(h:OL e pp E a c seg xs):
  (a=none∧c=0∧seg= []∧xs= [])∨∃A f,a=some ⟨A,0,none⟩∧seg= [(A,.cells f e (0,0))]∧WL e pp E A c xs.length f xs:=by
 have W:=h;obtain⟨wss,Z,ab,ac⟩:=h;rcases Z with⟨K,O,U,aa,ae⟩ | ⟨A,f,K,O,U⟩
 ·exact .inl ⟨K,U,aa,List.length_eq_zero_iff.1 O⟩
 ·subst K O;exact .inr ⟨A,f,rfl,rfl,W,rfl⟩
theorem Yl.A7{P:Program}{s:St}{ρ:Operand→Value}{x y:Operand}{d:Option Tmp}{t ty e:TypeId}{p:String}{af:Array Edge}{g:Option (Nat×Bool)}{kd:IntKind}{α:Type}{xs:List α}{xv:α}{m:Int}{A c K n:Nat}(O:xs.length=n)(hm:ix xs m=some xv)(ht:P.underlying t=some (.slice e))(U:Bf P e=some K)(W:ρ x= .slice (some ⟨A,0,none⟩) n c)(Z:ρ y= .int kd m):
  Yl P ⟨d,.indexAddr t x y,ty,p,af,g⟩ ρ s (.pointer (some ⟨A,m.toNat*K,none⟩)):=by
 subst O;exact Yl.Rm hm ht U W Z
theorem Yl.M3{P:Program}{s:St}{ρ:Operand→Value}{x:Operand}{d:Option Tmp}{t ty e:TypeId}{p:String}{af:Array Edge}{g:Option (Nat×Bool)}{α:Type}{xs:List α}{a:Option Addr}{n c:Nat}{ats:Array TypeId}(A:xs.length=n)(K:ats[0]? =some t)(ht:P.underlying t=some (.slice e))(O:ρ x= .slice a n c):
  Yl P ⟨d,.call ⟨.builtin .len,#[x],ats⟩,ty,p,af,g⟩ ρ s (.int .i64 (xs.length:Int)):=by
 subst A;exact Yl.len K ht O
section
variable {P:Program}{J:Judge P}{Q:Goroutine→St→Prop}{b:Frame}{n:Nat}{ds:List Deferred}{ops:Array Oper}{k:List Item}{cs:List Frame}{m fuel:Nat}{D:Nat→Bool}{listed:Array Bool}{L:Env}{s:St}{E E' H:LH}{S:List Seg}
variable {d:Option Tmp}{x y:Operand}{t u ty e:TypeId}{p:String}{af:Array Edge}{g:Option (Nat×Bool)}{v:Value}{i:Nat}{kd:IntKind}
theorem Av.FZ{f:FuncId}{args:Array Operand}{ats:Array TypeId}{vs:List Value}{R:Value→St→Prop}(O:s.q=false)(U:Region.ready .any ops listed= [i])
  (W:ops[i]? =some ⟨d,.call ⟨.value x,args,ats⟩,ty,p,af,g⟩) (Z:ev L x=some (.func (.func f) #[] #[])) (aa:A2 n d=true) (hw:AS L ops ⟨d,.call ⟨.value x,args,ats⟩,ty,p,af,g⟩=some true) (hb:Cd P f=true) (ab:evs L args.toList=some vs)
  (ac:Ch J f vs.toArray s R) (h:∀v A,R v A→A.q=false∧(∀x o,(A8 D s).E x=some o→(A8 D A).E x=some o)∧Av J Q b n ds ops k cs m D fuel (AW listed i) (AH L d v) A):
  Av J Q b n ds ops k cs m D (fuel+1) listed L s:=by
 refine Av.one O U W (by simp [B7,aa]) hw fun ρ K=>?_;have ae:args.map ρ=vs.toArray:=by
  rw [← Dz K ab];apply Array.ext';simp
 have ag:ρ x= .func (.func f) #[] #[]:=K _ _ Z;simp only [execOp,resolve,bind,Sem.bind,Deferred.ofValue,ag,pure,invoke];have e: #[]++args.map ρ++ #[]=vs.toArray:=by rw [ae];simp
 rw [e];refine FG hb ?_;rw [GM];exact⟨R,ac,h⟩
theorem JG.ER{bks:List Nat}{f:FuncId}{args:Array Operand}{ats:Array TypeId}{vs:List Value}{R:Value→LH→Seg→Prop}(ae:Ed S bks)(ag:Au J f vs E [] R)(ah:Region.ready .any ops listed= [i])
  (ai:ops[i]? =some ⟨d,.call ⟨.value x,args,ats⟩,ty,p,af,g⟩) (A:ev L x=some (.func (.func f) #[] #[])) (aj:A2 n d=true) (hw:AS L ops ⟨d,.call ⟨.value x,args,ats⟩,ty,p,af,g⟩=some true) (hb:Cd P f=true) (ak:evs L args.toList=some vs) (Z:Az E H S)
  (al:∀v E' seg',Le E E'→R v E' seg'→Az E' H (S++ [seg'])→Av J Q b n ds ops k cs m (AD bks) fuel (AW listed i) (AH L d v) (Ap E' H (S++ [seg']))):
  Av J Q b n ds ops k cs m (AD bks) (fuel+1) listed L (Ap E H S):=by
 have am:=Ch.EZ (ag (AT S.flatten H) trivial) (by rintro v s' ⟨E',B',_,_,_,rfl⟩;rfl);refine Av.FZ rfl ah ai A aj hw hb ak am ?_;rintro v ay ⟨⟨E',B',hle,an,ao,rfl⟩,w,ap⟩;have aq:mk E' (AT S.flatten H) B'=mk E' H (B'++S.flatten):=by unfold mk;rw [Dl]
 have ar:Nd E' H S.flatten:=Nd.grow Z fun x A=>by
  have au:=ap.d x A;have O:AT B' (AT S.flatten H) x=none:=au;exact(D5 O).1
 have aa:Nd E' H (B'++S.flatten):=Nd.glue ao ar;have ab:(B'++S.flatten).Perm (S++ [B']).flatten:=by rw [D7];exact List.perm_append_comm
 have ac:Az E' H (S++ [B']):=Nd.perm aa ab;rw [aq,CW aa ab];refine⟨rfl,fun x o A=>?_,al v E' B' hle an ac⟩;by_cases U:AD bks x=true
 ·obtain⟨j,o',W⟩:=ae.mem x (by simpa [AD] using U);have O:(Ap E H S).get x=some o':=CI (i:=0) Z W rfl;have av:j<S.length:=(List.getElem?_eq_some_iff.1 W).1;have aw:(Ap E' H (S++ [B'])).get x=some o':=CI (i:=0) ac (by rw [List.getElem?_append_left av];exact W) rfl;have K:(if AD bks x then(Ap E H S).get x else E x)=some o:=A
  show(if AD bks x then(Ap E' H (S++ [B'])).get x else E' x)=some o
  rw [if_pos U] at K ⊢;rw [aw,← O];exact K
 ·have K:(if AD bks x then(Ap E H S).get x else E x)=some o:=A
  show(if AD bks x then(Ap E' H (S++ [B'])).get x else E' x)=some o
  rw [if_neg U] at K ⊢;exact hle _ _ K
end
section
variable {P:Program}{J:Judge P}{Q:Goroutine→St→Prop}{b:Frame}{n:Nat}{ds:List Deferred}{ops:Array Oper}{k:List Item}{cs:List Frame}{L:Env}{s:St}{E E' H:LH}{S:List Seg}
variable {d:Option Tmp}{x y:Operand}{t u ty e:TypeId}{p:String}{af:Array Edge}{g:Option (Nat×Bool)}{v:Value}{i:Nat}{rest:List Nat}{kd:IntKind}
theorem JS.FZ{f:FuncId}{args:Array Operand}{ats:Array TypeId}{vs:List Value}{R:Value→LH→Seg→Prop}
  (K:Au J f vs E [] R) (O:ops[i]? =some ⟨d,.call ⟨.value x,args,ats⟩,ty,p,af,g⟩) (U:ev L x=some (.func (.func f) #[] ([]:List Value).toArray)) (hw:AS L ops ⟨d,.call ⟨.value x,args,ats⟩,ty,p,af,g⟩=some true) (W:((b.kind != .early)&&A2 n d)=true) (hb:Cd P f=true)
  (Z:evs L args.toList=some vs) (aa:Az E H S) (ab:∀v E' seg',Le E E'→R v E' seg'→Az E' H (S++ [seg'])→JL J Q b n (AH L d v) ds (.inRegion ops rest::k) cs (Ap E' H (S++ [seg']))):
  JL J Q b n L ds (.inRegion ops (i::rest)::k) cs (Ap E H S):=by
 have ac:CJ J (.func (.func f) #[] ([]:List Value).toArray) vs E [] R:=CJ.ofFn hb (by rw [List.append_nil];exact K);have ae:Az E H (S++ [[]]):=by unfold Az at*;rw [D7,List.append_nil];exact aa
 have ag:Ap E H S=Ap E H (S++ [[]]):=by unfold Ap;rw [D7,List.append_nil]
 rw [ag];refine JS.Gw (seg:= []) S.length ac O hw W U Z ae (by simp) fun v E' seg' hle ah A=>?_;have ai:(S++ [([]:Seg)]).set S.length seg'=S++ [seg']:=Ft _ _ _ _;rw [ai] at A ⊢;exact ab v E' seg' hle ah A
end
def EG(a b:Int):Option Int:=if b=0 then none else Aw (a.tdiv b)
def Hj(l:List Nat)(i:Int):Option Nat:=if 0≤i then l[i.toNat]? else none
section
variable {P:Program}{s:St}{ρ:Operand→Value}{x y z:Operand}{d:Option Tmp}{t u ty e:TypeId}{p:String}{af:Array Edge}{g:Option (Nat×Bool)}{v:Value}{kd kd':IntKind}{m m':Int}{a b:Nat}
theorem Yl.Hd{r:Int}(A:ρ x=iV m)(K:ρ y=iV m')(h:EG m m'=some r):Yl P ⟨d,.binOp .quo t x y u,ty,p,af,g⟩ ρ s (iV r):=by
 unfold EG at h;split at h
 ·cases h
 ·rename_i O;obtain⟨rfl,hb⟩:=GK h;have:=Yl.quo (P:=P) (s:=s) (d:=d) (t:=t) (u:=u) (ty:=ty) (p:=p) (af:=af) (g:=g) A K O
  rwa [FI hb] at this
theorem Nh{a:Nat}:IntKind.u8.wrap (a:Int)=((a % 256:Nat):Int):=by
 simp only [IntKind.wrap,IntKind.bits,IntKind.signed];simp
theorem Yl.RF(A:ρ x= .int .u8 (a:Int))(K:ρ y= .int .u8 (b:Int)):Yl P ⟨d,.binOp .add t x y u,ty,p,af,g⟩ ρ s (.int .u8 (((a+b) % 256:Nat):Int)):=by
 have h:=Yl.add (P:=P) (s:=s) (d:=d) (t:=t) (u:=u) (ty:=ty) (p:=p) (af:=af) (g:=g) A K;rw [← Int.natCast_add,Nh] at h;exact h
theorem Yl.R9(ht:P.underlying t=some (.int .u64))(hu:P.underlying u=some (.int .u8))(A:ρ x= .int .u64 (a:Int)):Yl P ⟨d,.convert t u x,ty,p,af,g⟩ ρ s (.int .u8 ((a % 256:Nat):Int)):=by
 have h:=Yl.conv (P:=P) (s:=s) (d:=d) (ty:=ty) (p:=p) (af:=af) (g:=g) ht hu A
 rw [Nh] at h;exact h
theorem Yl.M1{r:Int}(ht:P.underlying t=some (.int .u8))(hu:P.underlying u=some (.int .i64))(A:ρ x= .int .u8 (a:Int))(h:Aw ((a:Nat):Int)=some r):Yl P ⟨d,.convert t u x,ty,p,af,g⟩ ρ s (iV r):=by
 obtain⟨rfl,hb⟩:=GK h;have h:=Yl.conv (P:=P) (s:=s) (d:=d) (ty:=ty) (p:=p) (af:=af) (g:=g) ht hu A
 rwa [FI hb] at h
theorem Yl.RH(c:Nat)(A:ρ x= .int .u16 (a:Int))(K:ρ y= .int .u64 (c:Int))(U:c≤16):Yl P ⟨d,.binOp .shr t x y u,ty,p,af,g⟩ ρ s (.int .u16 ((a>>>c:Nat):Int)):=by
 have h:=Yl.shr (P:=P) (s:=s) (d:=d) (t:=t) (u:=u) (ty:=ty) (p:=p) (af:=af) (g:=g) A K (by omega);have e:min (c:Int).toNat IntKind.u16.bits=c:=by simp [IntKind.bits];omega
 rw [e,Int.fdiv_eq_ediv_of_nonneg _ (Int.pow_nonneg (by decide))] at h;have O:(a:Int) / 2 ^ c=((a>>>c:Nat):Int):=by rw [Nat.shiftRight_eq_div_pow,Int.natCast_ediv];rfl
 rw [O] at h;exact h
theorem Yl.I5{l:List Nat}{bs:ByteArray}{r:Nat}(K:(bs.data.toList.map UInt8.toNat==l)=true)(ht:P.underlying t=some .string)(O:ρ y= .int kd m)(U:ρ (.const (.string bs))= .string bs)(h:Hj l m=some r):Yl P ⟨d,.index t (.const (.string bs)) y,ty,p,af,g⟩ ρ s (.int .u8 (r:Int)):=by
 unfold Hj at h;split at h
 ·rename_i W;have Z:=eq_of_beq K;rw [← Z,List.getElem?_map] at h;obtain⟨A,hb,rfl⟩:=Option.map_eq_some_iff.1 h;have aa:bs[m.toNat]? =some A:=by
   have ab:bs.data[m.toNat]? =some A:=by rw [← Array.getElem?_toList];exact hb
   obtain⟨ac,ae⟩:=Array.getElem?_eq_some_iff.1 ab;rw [getElem?_pos bs m.toNat ac];exact congrArg some ae
  simp [Yl,execOp,lp,pure,bind,Sem.bind,U,O,Instr.index,underlying,program,ht,W,aa,asIntOf]
 ·cases h
end
end Pal
