/- ToothMore. Part 2 of 8. -/
import Derived.Test.YtboibffcmhheiaaGreatDoorTra
import Derived.Conc.Beside
import Derived.Conc.CrowdComm
import Derived.Conc.TokenWalk
import Derived.Conc.MarkLaws
import Derived.Conc.AtomicLaws2
import Derived.Conc.WgLib
import Derived.Conc.WgArith
import Derived.Conc.WgGenW
set_option linter.all false
set_option maxRecDepth 100000
namespace Pal
open Go Go.Conc
open Go.ConcN (upd upd_same upd_ne)
def Dl:Loc→Option Nat | .cell a=>some a.block | .obj r=>some r | _=>none
structure BZ (t:Trace) (w:World) (N:Nat) (S:Nat→St) (Sh:Nat→Prop):Prop where
 fits:∀i,i<N→Fits (S i) w
 hh:∀i j,i<N→j<N→i≠j→∀b,(S i).H b≠none→(S j).H b=none∧(S j).E b=none
 sh:∀i,i<N→∀b,Sh b→(S i).H b=none∧(S i).E b=none
 EP:∀b,Sh b→b<w.heap.size
 clean:∀said,¬Race said t
 low:∀op∈t,op.act.low w.heap.size
 kH:∀i,i<N→∀b,(S i).H b≠none→∀x a,touchAt t x=some a→Dl a.loc=some b→Knows t i x
 kE:∀i,i<N→∀b,(S i).E b≠none→∀x a,touchAt t x=some a→Dl a.loc=some b→a.write=true→Knows t i x
theorem ML{t:Trace}{x:Nat}{a:Touch}{b n:Nat}(W:∀op∈t,op.act.low n)(h:touchAt t x=some a)(hb:Dl a.loc=some b):b<n:=by
 obtain⟨op,Y,K⟩:=touch_of h;have O:=W op (mem_of_getElem? Y);cases U:op.act with
 | access e=>
  rw [U] at K O;simp only [MemAct.touch?,Option.some.injEq] at K;subst K;simp only [MemAct.low] at O;cases V:e.loc with
  | cell ad=>rw [V] at O hb;simp only [Dl,Option.some.injEq] at hb;subst hb;exact O
  | obj r=>rw [V] at O hb;simp only [Dl,Option.some.injEq] at hb;subst hb;exact O
  | _=>rw [V] at hb;simp [Dl] at hb
 | mark m=>
  rw [U] at K O;cases m <;> simp only [MemAct.touch?] at K <;> first
   | (simp at K;done)
   | (simp only [Option.some.injEq] at K;subst K;simp only [Dl,Option.some.injEq] at hb;subst hb;exact O)
 | _=>rw [U] at K;simp [MemAct.touch?] at K
theorem K0{s:St}{w w':World}{e:Event}{a:Touch}{b:Nat}(h:Ev s w w' e)(K:(MemAct.ofEvent e).touch? =some a)(hb:Dl a.loc=some b):
  Fz s w w' b a.write:=by
 obtain⟨loc,wr,V⟩:=e;cases loc with
 | cell ad=>
  obtain⟨O,U⟩:=h;simp only at O;subst O;simp only [MemAct.ofEvent,MemAct.touch?,Option.some.injEq] at K;subst K;simp only [Dl,Option.some.injEq] at hb;subst hb;exact U
 | obj r=>
  obtain⟨O,U⟩:=h;simp only at O;subst O;simp only [MemAct.ofEvent,MemAct.touch?,Option.some.injEq] at K;subst K;simp only [Dl,Option.some.injEq] at hb;subst hb;exact U
 | mark m=>
  cases m <;> simp only [Ev] at h <;> first | exact h.elim | simp [MemAct.ofEvent,MemAct.touch?] at K
 | _=>exact h.elim
theorem Vu{s:St}{w w':World}{e:Event}(h:Ev s w w' e):(MemAct.ofEvent e).low w'.heap.size:=by
 obtain⟨loc,wr,U⟩:=e;cases loc with
 | cell ad=>obtain⟨K,O⟩:=h;simp only at K;subst K;exact O.1
 | obj r=>obtain⟨K,O⟩:=h;simp only at K;subst K;cases wr <;> exact O.1
 | mark m=>cases m <;> simp only [Ev] at h <;> first | exact h.elim | exact trivial
 | _=>exact h.elim
theorem Rw{l:Loc}(h:l.isMemory=true):∃b,Dl l=some b:=by
 cases l <;> simp [Loc.isMemory] at h <;> exact⟨_,rfl⟩
theorem BZ.own{t:Trace}{w w':World}{N:Nat}{S:Nat→St}{Sh:Nat→Prop}(h:BZ t w N S Sh){i:Nat}(hi:i<N){s':St}{fn:FuncId}{pos:String}{es:Array Event}
  (ay:Fits s' w') (V:Fr (S i) w s' w') (aj:∀e∈es,Ev (S i) w w' e):BZ (t++MemOp.ofEvents i fn pos es) w' N (upd S i s') Sh:=by
 have aq:∀j,j<N→j≠i→∀b o,((S j).H b=some o∨(S j).E b=some o)→w'.heap[b]? =some o∧(S i).H b=none:=by
  intro j U W b o K;have hw:w.heap[b]? =some o:=K.elim ((h.fits j U).h b o) ((h.fits j U).e b o);have aa:b<w.heap.size:=by
   rcases Nat.lt_or_ge b w.heap.size with am | am
   ·exact am
   ·simp [Array.getElem?_eq_none am] at hw
  have ar:(S i).H b=none:=by
   cases az:(S i).H b with
   | none=>rfl
   | some u=>
    have:=h.hh i j hi U (Ne.symm W) b (by rw [az];simp);rcases K with K | K
    ·rw [this.1] at K;cases K
    ·rw [this.2] at K;cases K
  exact⟨by rw [V.keep b aa ar,hw],ar⟩
 have ak:∀j,j<N→∀b,w.heap.size≤b→(S j).H b=none∧(S j).E b=none:=by
  intro j U b hb;constructor
  ·cases O:(S j).H b with
   | none=>rfl
   | some o=>have:=(h.fits j U).h b o O;simp [Array.getElem?_eq_none hb] at this
  ·cases O:(S j).E b with
   | none=>rfl
   | some o=>have:=(h.fits j U).e b o O;simp [Array.getElem?_eq_none hb] at this
 have ab:∀op∈MemOp.ofEvents i fn pos es,op.g=i∧∃e∈es,op.act=MemAct.ofEvent e:=by
  intro op ab;obtain⟨e,he,rfl⟩:=mem_ofEvents ab;exact⟨rfl,e,he,rfl⟩
 have hold:∀x a,touchAt t x=some a→touchAt (t++MemOp.ofEvents i fn pos es) x=some a:=by
  intro x a O;obtain⟨op,K,_⟩:=touch_of O;rw [touchAt_old (lt_size_of_getElem? K)];exact O
 have al:∀x a,touchAt (t++MemOp.ofEvents i fn pos es) x=some a→touchAt t x=some a∨(Knows (t++MemOp.ofEvents i fn pos es) i x∧∃e∈es,(MemAct.ofEvent e).touch? =some a):=by
  intro x a O;obtain⟨op,K,au⟩:=touch_of O;rcases getElem?_append_cases K with⟨aa,aA⟩ | ⟨_,aB⟩
  ·left;rw [touchAt_of aA];exact au
  ·right;obtain⟨aC,e,he,ag⟩:=ab op aB;exact⟨by have:=knows_own K;rwa [aC] at this,e,he,by rw [← ag];exact au⟩
 have aD:∀j,j<N→j≠i→∀b,s'.H b≠none→(S j).H b=none∧(S j).E b=none:=by
  intro j U W b hb;rcases V.own b hb with O | O
  ·exact h.hh i j hi U (Ne.symm W) b O
  ·exact ak j U b O
 have aE:∀j,j<N→j≠i→∀b,(S j).H b≠none→s'.H b=none∧s'.E b=none:=by
  intro j U W b hb;have Y:=h.hh j i U hi W b hb;have aa:¬w.heap.size≤b:=fun O=>hb (ak j U b O).1;constructor
  ·cases O:s'.H b with
   | none=>rfl
   | some o=>
    rcases V.own b (by rw [O];simp) with y | y
    ·exact absurd Y.1 y
    ·exact absurd y aa
  ·cases O:s'.E b with
   | none=>rfl
   | some o=>
    rcases V.D2 b (by rw [O];simp) with y | y | y
    ·exact absurd Y.2 y
    ·exact absurd Y.1 y
    ·exact absurd y aa
 constructor
 ·intro j U;by_cases e:j=i
  ·subst e;rw [upd_same];exact ay
  ·rw [upd_ne _ _ e];exact⟨fun b o K=>(aq j U e b o (.inr K)).1,fun b o K=>(aq j U e b o (.inl K)).1,(h.fits j U).d⟩
 ·intro a c av ah W b hb;by_cases e:a=i
  ·subst e;rw [upd_same] at hb;rw [upd_ne _ _ (Ne.symm W)];exact aD c ah (Ne.symm W) b hb
  ·rw [upd_ne _ _ e] at hb;by_cases aw:c=i
   ·subst aw;rw [upd_same];exact aE a av W b hb
   ·rw [upd_ne _ _ aw];exact h.hh a c av ah W b hb
 ·intro j U b hb;by_cases e:j=i
  ·subst e;rw [upd_same];have Y:=h.sh j U b hb;have aa:=h.EP b hb;constructor
   ·cases O:s'.H b with
    | none=>rfl
    | some o=>
     rcases V.own b (by rw [O];simp) with y | y
     ·exact absurd Y.1 y
     ·omega
   ·cases O:s'.E b with
    | none=>rfl
    | some o=>
     rcases V.D2 b (by rw [O];simp) with y | y | y
     ·exact absurd Y.2 y
     ·exact absurd Y.1 y
     ·omega
  ·rw [upd_ne _ _ e];exact h.sh j U b hb
 ·exact fun b hb=>Nat.lt_of_lt_of_le (h.EP b hb) V.size
 ·intro said;refine noRace_append (g:=i) (h.clean said) (fun op K=>(ab op K).1) fun x a O op K c ah aF=>?_;obtain⟨_,e,he,ag⟩:=ab op K;rw [ag] at ah;obtain⟨aG,hm,ae,_⟩:=aF;obtain⟨b,hb⟩:=Rw hm;have aH:Dl c.loc=some b:=by rw [← aG];exact hb
  have ai:=K0 (aj e he) ah aH;rcases ai.2 with y | y | ⟨y,an⟩
  ·exact h.kH i hi b y x a O hb
  ·have:=ML h.low O hb;omega
  ·rcases ae with z | z
   ·exact h.kE i hi b y x a O hb z
   ·rw [an] at z;cases z
 ·intro op K;rcases Array.mem_append.1 K with K | K
  ·exact MemAct.low_mono V.size (h.low op K)
  ·obtain⟨_,e,he,ag⟩:=ab op K;rw [ag];exact Vu (aj e he)
 ·intro j U b hb x a O Z;by_cases e:j=i
  ·subst e;rw [upd_same] at hb;rcases al x a O with K | ⟨ao,_⟩
   ·rcases V.own b hb with y | y
    ·exact(h.kH j U b y x a K Z).app _
    ·have:=ML h.low K Z;omega
   ·exact ao
  ·rw [upd_ne _ _ e] at hb;rcases al x a O with K | ⟨_,ev,he,ap⟩
   ·exact(h.kH j U b hb x a K Z).app _
   ·have ai:=K0 (aj ev he) ap Z;have Y:=h.hh j i U hi e b hb;rcases ai.2 with y | y | ⟨y,_⟩
    ·exact absurd Y.1 y
    ·exact absurd (ak j U b y).1 hb
    ·exact absurd Y.2 y
 ·intro j U b hb x a O Z ae;by_cases e:j=i
  ·subst e;rw [upd_same] at hb;rcases al x a O with K | ⟨ao,_⟩
   ·rcases V.D2 b hb with y | y | y
    ·exact(h.kE j U b y x a K Z ae).app _
    ·exact(h.kH j U b y x a K Z).app _
    ·have:=ML h.low K Z;omega
   ·exact ao
  ·rw [upd_ne _ _ e] at hb;rcases al x a O with K | ⟨_,ev,he,ap⟩
   ·exact(h.kE j U b hb x a K Z ae).app _
   ·have ai:=K0 (aj ev he) ap Z;rcases ai.2 with y | y | ⟨_,an⟩
    ·exact absurd ((h.hh i j hi U (Ne.symm e) b y).2) hb
    ·exact absurd (ak j U b y).2 hb
    ·rw [an] at ae;cases ae
theorem BZ.mute{t u:Trace}{w w':World}{N:Nat}{S:Nat→St}{Sh:Nat→Prop}(h:BZ t w N S Sh){g:Nat}(hu:∀op∈u,op.g=g)(W:∀op∈u,op.act.touch? =none)(aa:∀op∈u,op.act.low w'.heap.size)(hw:w'.heap=w.heap):BZ (t++u) w' N S Sh:=by
 have Y:∀x a,touchAt (t++u) x=some a→touchAt t x=some a:=by
  intro x a O;obtain⟨op,K,U⟩:=touch_of O;rcases getElem?_append_cases K with⟨ah,ab⟩ | ⟨_,ae⟩
  ·rw [touchAt_of ab];exact U
  ·rw [W op ae] at U;cases U
 exact⟨fun i hi=>⟨fun b o K=>by rw [hw];exact(h.fits i hi).e b o K,fun b o K=>by rw [hw];exact(h.fits i hi).h b o K,(h.fits i hi).d⟩,h.hh,h.sh,fun b hb=>by rw [hw];exact h.EP b hb,
  fun said=>noRace_append (g:=g) (h.clean said) hu (fun x a _ op K c Z _=>by rw [W op K] at Z;cases Z),
  fun op K=>(Array.mem_append.1 K).elim (fun K=>by rw [hw];exact h.low op K) (aa op),
  fun i hi b hb x a O V=>(h.kH i hi b hb x a (Y x a O) V).app _,fun i hi b hb x a O V ag=>(h.kE i hi b hb x a (Y x a O) V ag).app _⟩
theorem BZ.ghost{t:Trace}{w:World}{N:Nat}{S:Nat→St}{Sh:Nat→Prop}(h:BZ t w N S Sh){i:Nat}(hi:i<N){s₀:St}(Z:CM (S i) s₀):BZ t w N (upd S i s₀) Sh:=by
 have W:∀b,s₀.H b≠none→(S i).H b≠none:=fun b hb=>by obtain⟨o,aa⟩:=GN hb;rw [Z.own b o aa];simp
 have ab:∀b,s₀.E b≠none→(S i).E b≠none∨(S i).H b≠none:=fun b hb=>by
  obtain⟨o,aa⟩:=GN hb;rcases Z.D2 b o aa with x | x
  ·exact .inl (by rw [x];simp)
  ·exact .inr (by rw [x.1];simp)
 have Jz:∀{x:Option Obj},¬x≠none→x=none:=fun h=>Classical.not_not.1 h;constructor
 ·intro j K;by_cases e:j=i
  ·subst e;rw [upd_same];exact Z.fits (h.fits j K)
  ·rw [upd_ne _ _ e];exact h.fits j K
 ·intro a c ae ag Y b hb;by_cases e:a=i
  ·subst e;rw [upd_same] at hb;rw [upd_ne _ _ (Ne.symm Y)];exact h.hh a c ae ag Y b (W b hb)
  ·rw [upd_ne _ _ e] at hb;by_cases ah:c=i
   ·subst ah;rw [upd_same];have O:=h.hh a c ae ag Y b hb;exact⟨Jz fun x=>W b x O.1,Jz fun x=>(ab b x).elim (fun y=>y O.2) fun y=>y O.1⟩
   ·rw [upd_ne _ _ ah];exact h.hh a c ae ag Y b hb
 ·intro j K b hb;by_cases e:j=i
  ·subst e;rw [upd_same];have O:=h.sh j K b hb;exact⟨Jz fun x=>W b x O.1,Jz fun x=>(ab b x).elim (fun y=>y O.2) fun y=>y O.1⟩
  ·rw [upd_ne _ _ e];exact h.sh j K b hb
 ·exact h.EP
 ·exact h.clean
 ·exact h.low
 ·intro j K b hb x a U V;by_cases e:j=i
  ·subst e;rw [upd_same] at hb;exact h.kH j K b (W b hb) x a U V
  ·rw [upd_ne _ _ e] at hb;exact h.kH j K b hb x a U V
 ·intro j K b hb x a U V ai;by_cases e:j=i
  ·subst e;rw [upd_same] at hb;rcases ab b hb with y | y
   ·exact h.kE j K b y x a U V ai
   ·exact h.kH j K b y x a U V
  ·rw [upd_ne _ _ e] at hb;exact h.kE j K b hb x a U V ai
end Pal
namespace Pal
open Go Go.Conc
open Go.ConcN (sumTo upd sumTo_upd upd_ne upd_same)
abbrev St.none:St:=St.quiet
def lone(s:St):Nat→St:=fun i=>if i=0 then s else St.none
structure FU (P:Program) (gs:Array Goroutine) (w:World) (t:Trace) (q:Nat→Nat) (Sh:Nat→Prop) (g:Goroutine) (s:St):Prop where
 main:gs[0]? =some g
 lv:Leavers P t gs q
 Cu:BZ t w gs.size (lone s) Sh
 over:t.HandedOver
 hears:Deaf t 0=0
def Reaches(P:Program)(gs:Array Goroutine)(w:World)(sl:Option (Nat×Nat))(t:Trace)(s:St)(K:Gs_):Prop:=
 ∃(n:Nat) (gs':Array Goroutine) (w':World) (U:Option (Nat×Nat)) (O:Trace) (V:Nat→Nat) (W:Nat→Prop) (g':Goroutine) (s':St),
  runNT P n (crowd gs w sl) t=(.next (crowd gs' w' U),O)∧FU P gs' w' O V W g' s'∧K g' s'∧Le' s s'∧w'.tape=w.tape∧w'.os=w.os∧w'.output=w.output
 where
  Le' (s s' : St) : Prop := ∀ b o, s.E b = some o → s'.E b = some o
theorem OV{s s':St}:upd (lone s) 0 s'=lone s':=by
 funext i;unfold upd lone;split <;> rfl
theorem KB{P:Program}{m m':Machine}{t ops:Trace}{k:Nat}{r:Stepped×Trace}(h:stepT P m=(.next m',ops))(K:runNT P k m' (t++ops)=r):runNT P (k+1) m t=r:=by
 simp only [runNT,h];exact K
theorem FU.at_{P:Program}{gs:Array Goroutine}{w:World}{t:Trace}{q:Nat→Nat}{Sh:Nat→Prop}{g:Goroutine}{s:St}(h:FU P gs w t q Sh g s)(d:Nat):FU P gs (w.at d) t q Sh g s:=
 ⟨h.main,h.lv,by
  have:=h.Cu.mute (u:= #[]) (w':=w.at d) (g:=0) (by simp) (by simp) (by simp) rfl
  simpa using this,h.over,h.hears⟩
theorem SO{P:Program}{g:Goroutine}{s:St}{K:Gs_}(av:P8 P true g s K):
  ∀(M:Nat) (gs:Array Goroutine) (w:World) (sl:Option (Nat×Nat)) (t:Trace) (q:Nat→Nat) (Sh:Nat→Prop),sumTo gs.size q≤M→FU P gs w t q Sh g s→Reaches P gs w sl t s K:=by
 intro M
 induction M with
 | zero=>?_
 | succ M aB=>?_
 all_goals
  intro gs w sl t q Sh aR hC;have ai:=av.1;have aC:∀x∈gs,awake x:=by
   intro x aa;obtain⟨i,hi,rfl⟩:=Array.mem_iff_getElem.1 aa;rcases Nat.eq_zero_or_pos i with rfl | aj
   ·have:gs[0]=g:=by simpa [Array.getElem?_eq_getElem hi] using hC.main
    rw [this];exact awake_of (.inl ai)
   ·exact awake_of ((hC.lv.old i _ aj (Array.getElem?_eq_getElem hi)).status.elim .inl fun x=> .inr (.inr x))
  obtain⟨i,x,d,ab,hi,aa,aw⟩:=crowd_pick (P:=P) (w:=w) (sl:=sl) aC ⟨0,g,hC.main,ai⟩;have ak:=hC.at_ d;have al:0<gs.size:=(Array.getElem?_eq_some_iff.1 hC.main).1;rcases Nat.eq_zero_or_pos i with rfl | aj
  ·obtain rfl:x=g:=by rw [hC.main] at hi;exact(Option.some.inj hi).symm
   have aD:Fits s (w.at d):=ak.Cu.fits 0 al;obtain⟨g',s',w',es,am,an,ao,W,ae⟩:=av.2.1 (w.at d) aD;have ap:=runT_crowd_go (P:=P) (sl:=ab) (i:=0) hi (show stepG P (0==0) x (w.at d)=_ from am);have ag:((gs.map (woken P x g' w')).setIfInBounds 0 g').size=gs.size:=by simp
   have V:∀op∈MemOp.ofEvents 0 x.frame.fn x.frame.place es,op.g=0:=fun op O=>by obtain⟨e,_,rfl⟩:=mem_ofEvents O;rfl
   have aE:deafBehind (Deaf t 0) es=Deaf t 0:=deafBehind_still (fun e he=>by
    have:=ae e he
    unfold Ev at this
    constructor <;> intro aF <;> rw [aF] at this <;> exact this) _
   refine⟨1,_,w',ab,t++MemOp.ofEvents 0 x.frame.fn x.frame.place es,q,Sh,g',s',KB (aw.trans ap) rfl,⟨by simp [al],⟨fun j y U Y=>?_,fun j U=>?_⟩,?_,?_,?_⟩,an,W.ext,W.tape,W.os,W.output⟩
   ·have aq:0≠j:=by omega
    rw [Array.getElem?_setIfInBounds_ne aq,Array.getElem?_map] at Y;obtain⟨z,ar,rfl⟩:=Option.map_eq_some_iff.1 Y;have Z:=hC.lv.old j z U ar;rw [woken_quitsD Z,Deaf_other t (by omega) _ V];exact Z
   ·rw [Deaf_other t (g':=0) (by simp at U;omega) _ V];exact hC.lv.above j (by simpa using U)
   ·rw [ag,← OV (s:=s)];exact ak.Cu.own al ao (by simpa [lone] using W) (by simpa [lone] using ae)
   ·exact handedOver_app hC.over fun op O=> .inl (V op O)
   ·rw [Deaf_own,aE];exact hC.hears
  ·
   have Z:=hC.lv.old i x aj hi;have aG:(i==0)=false:=by simp;omega
   have ay:i<gs.size:=(Array.getElem?_eq_some_iff.1 hi).1;cases au:q i with
   | zero=>rw [au] at Z;rw [Z.1] at aa;cases aa
   | succ k=>
    rw [au] at Z;rcases Z with⟨aH,_⟩ | ⟨_,x',es,hm,aI,aJ⟩
    ·rw [aH] at aa;cases aa
    have aS:sumTo gs.size (upd q i k)+(k+1)=sumTo gs.size q+k:=by
     have:=sumTo_upd q k id ay;simpa [au] using this
    first
     | (exfalso;omega)
     | (
      have ap:=runT_crowd_go (P:=P) (sl:=ab) (i:=i) hi (by rw [aG];exact aI (w.at d))
      have ag:((gs.map (woken P x x' (w.at d))).setIfInBounds i x').size=gs.size:=by simp
      have V:∀op∈MemOp.ofEvents i x.frame.fn x.frame.place es,op.g=i:=fun op O=>by obtain⟨e,_,rfl⟩:=mem_ofEvents O;rfl
      have az:∀op∈MemOp.ofEvents i x.frame.fn x.frame.place es,op.act.touch? =none:=fun op O=>by obtain⟨e,he,rfl⟩:=mem_ofEvents O;exact touch_mute (hm e he)
      have aK:FU P ((gs.map (woken P x x' (w.at d))).setIfInBounds i x') (w.at d) (t++MemOp.ofEvents i x.frame.fn x.frame.place es) (upd q i k) Sh g s:=by
       refine⟨?_,⟨fun j y U Y=>?_,fun j U=>?_⟩,?_,?_,?_⟩
       ·have aq:i≠0:=by omega
        rw [Array.getElem?_setIfInBounds_ne aq,Array.getElem?_map,hC.main]
        simp [woken_run ai]
       ·by_cases ah:i=j
        ·subst ah
         rw [Array.getElem?_setIfInBounds_self_of_lt (by simpa using ay)] at Y
         obtain rfl:=Option.some.inj Y
         rw [upd_same,Deaf_own]
         exact aJ
        ·rw [Array.getElem?_setIfInBounds_ne ah,Array.getElem?_map] at Y
         obtain⟨z,ar,rfl⟩:=Option.map_eq_some_iff.1 Y
         have aA:=hC.lv.old j z U ar
         rw [woken_quitsD aA,upd_ne q k (Ne.symm ah),Deaf_other t ah _ V]
         exact aA
       ·rw [Deaf_other t (g':=i) (by simp at U;omega) _ V]
        exact hC.lv.above j (by simpa using U)
       ·rw [ag]
        exact ak.Cu.mute V az (fun op O=>by obtain⟨e,he,rfl⟩:=mem_ofEvents O;exact low_mute (hm e he) _) rfl
       ·exact handedOver_app hC.over fun op O=> .inr (az op O)
       ·rw [Deaf_other t (by omega) _ V];exact hC.hears
      obtain⟨n,gs',w',aL,aM,aN,aO,g',s',am,an,ao,W,ae,aP,aQ⟩:=aB _ (w.at d) ab _ _ Sh (by rw [ag];omega) aK
      exact⟨n+1,gs',w',aL,aM,aN,aO,g',s',KB (aw.trans ap) am,an,ao,W,ae,aP,aQ⟩)
def Dv(P:Program):Judge P where
 main:=true
 ok Q g s:=∀gs w sl t q Sh,FU P gs w t q Sh g s→Reaches P gs w sl t s Q
 stop {Q g s} h:=fun gs w sl t q Sh hC=>⟨0,gs,w,sl,t,q,Sh,g,s,rfl,hC,h,fun _ _ h=>h,rfl,rfl,rfl⟩
 step {Q g s} h:=fun gs w sl t q Sh hC=>by
  obtain⟨n,gs',w',K,O,U,V,g',s',W,Y,Z,aa,ab,ae,ag⟩:=SO h _ gs w sl t q Sh (Nat.le_refl _) hC
  obtain⟨ah,ai,aj,ak,al,am,an,ao,ap,k1,aq,ar,au,av,aw,ay⟩:=Z gs' w' K O U V Y
  refine⟨n+ah,ai,aj,ak,al,am,an,ao,ap,?_,aq,ar,fun b o h=>au b o (aa b o h),av.trans ab,aw.trans ae,ay.trans ag⟩
  rw [runNT_add,W];exact k1
 trans {Q R g s} h k:=fun gs w sl t q Sh hC=>by
  obtain⟨n,gs',w',K,O,U,V,g',s',W,Y,Z,aa,ab,ae,ag⟩:=h gs w sl t q Sh hC
  obtain⟨ah,ai,aj,ak,al,am,an,ao,ap,k1,aq,ar,au,av,aw,ay⟩:=k g' s' Z gs' w' K O U V Y
  refine⟨n+ah,ai,aj,ak,al,am,an,ao,ap,?_,aq,ar,fun b o h=>au b o (aa b o h),av.trans ab,aw.trans ae,ay.trans ag⟩
  rw [runNT_add,W];exact k1
 ghost {Q g s s₀} az h:=fun gs w sl t q Sh hC=>by
  have aA:0<gs.size:=(Array.getElem?_eq_some_iff.1 hC.main).1
  have aB:FU P gs w t q Sh g s₀:=⟨hC.main,hC.lv,by
   rw [← OV (s:=s)];exact hC.Cu.ghost aA (by simpa [lone] using az),hC.over,hC.hears⟩
  obtain⟨n,gs',w',K,O,U,V,g',s',W,Y,Z,aa,ab,ae,ag⟩:=h gs w sl t q Sh aB
  exact⟨n,gs',w',K,O,U,V,g',s',W,Y,Z,fun b o h=>aa b o (az.ext b o h),ab,ae,ag⟩
end Pal
namespace Pal
open Go Go.Conc
open Go.ConcN (upd upd_same upd_ne)
section
variable {t u:Trace}{w w':World}{N:Nat}{S:Nat→St}{Sh:Nat→Prop}
theorem BZ.ext(h:BZ t w N S Sh)(Y:∀said,¬Race said (t++u))(hu:∀op∈u,∀a,op.act.touch? =some a→∀b,Dl a.loc=some b→Sh b)
  (Z:∀op∈u,op.act.low w.heap.size) (hs:w'.heap.size=w.heap.size) (hw:∀b,¬Sh b→w'.heap[b]? =w.heap[b]?):BZ (t++u) w' N S Sh:=by
 have hold:∀x a b,touchAt (t++u) x=some a→Dl a.loc=some b→¬Sh b→touchAt t x=some a:=by
  intro x a b U hb O;obtain⟨op,K,W⟩:=touch_of U;rcases getElem?_append_cases K with⟨ah,aa⟩ | ⟨_,ab⟩
  ·rw [touchAt_of aa];exact W
  ·exact absurd (hu op ab a W b hb) O
 have O:∀i,i<N→∀b,((S i).H b≠none∨(S i).E b≠none)→¬Sh b:=by
  intro i hi b hb ae;have:=h.sh i hi b ae;exact hb.elim (fun x=>x this.1) (fun x=>x this.2)
 refine⟨fun i hi=>⟨fun b o K=>?_,fun b o K=>?_,(h.fits i hi).d⟩,h.hh,h.sh,fun b hb=>by rw [hs];exact h.EP b hb,Y,fun op K=>?_,fun i hi b hb x a U V=>?_,fun i hi b hb x a U V ag=>?_⟩
 ·rw [hw b (O i hi b (.inr (by rw [K];simp)))];exact(h.fits i hi).e b o K
 ·rw [hw b (O i hi b (.inl (by rw [K];simp)))];exact(h.fits i hi).h b o K
 ·rcases Array.mem_append.1 K with K | K
  ·rw [hs];exact h.low op K
  ·rw [hs];exact Z op K
 ·exact(h.kH i hi b hb x a (hold x a b U V (O i hi b (.inl hb))) V).app _
 ·exact(h.kE i hi b hb x a (hold x a b U V (O i hi b (.inr hb))) V ag).app _
theorem BZ.congr{S':Nat→St}(h:BZ t w N S Sh)(K:∀i,i<N→(S' i).E=(S i).E∧(S' i).H=(S i).H):BZ t w N S' Sh:=by
 refine⟨fun i hi=>⟨by rw [(K i hi).1];exact(h.fits i hi).e,by rw [(K i hi).2];exact(h.fits i hi).h,by rw [(K i hi).1,(K i hi).2];exact(h.fits i hi).d⟩,fun i j hi O U b=>?_,fun i hi b=>?_,h.EP,h.clean,h.low,fun i hi b=>?_,fun i hi b=>?_⟩
 ·rw [(K i hi).2,(K j O).1,(K j O).2];exact h.hh i j hi O U b
 ·rw [(K i hi).1,(K i hi).2];exact h.sh i hi b
 ·rw [(K i hi).2];exact h.kH i hi b
 ·rw [(K i hi).1];exact h.kE i hi b
theorem BZ.less(h:BZ t w N S Sh){i:Nat}{s':St}(ab:∀b o,s'.E b=some o→(S i).E b=some o)(ae:∀b o,s'.H b=some o→(S i).H b=some o):BZ t w N (upd S i s') Sh:=by
 have V:∀j b o,(upd S i s' j).E b=some o→(S j).E b=some o:=by
  intro j b o K;by_cases e:j=i
  ·subst e;rw [upd_same] at K;exact ab b o K
  ·rwa [upd_ne _ _ e] at K
 have W:∀j b o,(upd S i s' j).H b=some o→(S j).H b=some o:=by
  intro j b o K;by_cases e:j=i
  ·subst e;rw [upd_same] at K;exact ae b o K
  ·rwa [upd_ne _ _ e] at K
 have n1:∀j b,(S j).E b=none→(upd S i s' j).E b=none:=by
  intro j b hb;cases U:(upd S i s' j).E b with
  | none=>rfl
  | some o=>rw [V j b o U] at hb;cases hb
 have n2:∀j b,(S j).H b=none→(upd S i s' j).H b=none:=by
  intro j b hb;cases U:(upd S i s' j).H b with
  | none=>rfl
  | some o=>rw [W j b o U] at hb;cases hb
 have p1:∀j b,(upd S i s' j).E b≠none→(S j).E b≠none:=fun j b hb x=>hb (n1 j b x);have p2:∀j b,(upd S i s' j).H b≠none→(S j).H b≠none:=fun j b hb x=>hb (n2 j b x);exact⟨fun j O=>⟨fun b o K=>(h.fits j O).e b o (V j b o K),fun b o K=>(h.fits j O).h b o (W j b o K),fun b hb=>n2 j b ((h.fits j O).d b (p1 j b hb))⟩,
  fun a c Y Z aa b hb=>⟨n2 c b (h.hh a c Y Z aa b (p2 a b hb)).1,n1 c b (h.hh a c Y Z aa b (p2 a b hb)).2⟩,
  fun j O b hb=>⟨n2 j b (h.sh j O b hb).1,n1 j b (h.sh j O b hb).2⟩,h.EP,h.clean,h.low,
  fun j O b hb=>h.kH j O b (p2 j b hb),fun j O b hb=>h.kE j O b (p1 j b hb)⟩
theorem BZ.grow(h:BZ t w N S Sh){i:Nat}(hi:i<N){E':LH}{q:Bool}
  (Z:∀b o,E' b=some o→(S i).E b=some o∨∃j,j<N∧(S j).E b=some o∧∀x a,touchAt t x=some a→Dl a.loc=some b→a.write=true→Knows t i x):
  BZ t w N (upd S i ⟨E',(S i).H,q⟩) Sh:=by
 have ag:∀{b},E' b≠none→∃j,j<N∧∃o,(S j).E b=some o:=by
  intro b hb;obtain⟨o,V⟩:=GN hb;rcases Z b o V with x | ⟨j,K,x,_⟩
  ·exact⟨i,hi,o,x⟩
  ·exact⟨j,K,o,x⟩
 have ah:∀a,a<N→∀b,(S a).H b≠none→E' b=none:=by
  intro a U b hb;cases O:E' b with
  | none=>rfl
  | some o=>
   obtain⟨j,K,o',W⟩:=ag (b:=b) (by rw [O];simp);by_cases e:a=j
   ·subst e;have:=(h.fits a U).d b (by rw [W];simp);exact absurd this hb
   ·have:=(h.hh a j U K e b hb).2;rw [W] at this;cases this
 constructor
 ·intro j K;by_cases e:j=i
  ·subst e;rw [upd_same];refine⟨fun b o V=>?_,(h.fits j K).h,fun b hb=>?_⟩
   ·rcases Z b o V with x | ⟨k,Y,x,_⟩
    ·exact(h.fits j K).e b o x
    ·exact(h.fits k Y).e b o x
   ·cases O:(S j).H b with
    | none=>rfl
    | some o=>exact absurd (ah j K b (by rw [O];simp)) hb
  ·rw [upd_ne _ _ e];exact h.fits j K
 ·intro a c U ai aj b hb;have aa:(S a).H b≠none:=by
   by_cases e:a=i
   ·subst e;rwa [upd_same] at hb
   ·rwa [upd_ne _ _ e] at hb
  by_cases e:c=i
  ·subst e;rw [upd_same];exact⟨(h.hh a c U ai aj b aa).1,ah a U b aa⟩
  ·rw [upd_ne _ _ e];exact h.hh a c U ai aj b aa
 ·intro j K b hb;by_cases e:j=i
  ·subst e;rw [upd_same];refine⟨(h.sh j K b hb).1,?_⟩;cases O:E' b with
   | none=>exact O
   | some o=>
    obtain⟨k,Y,o',W⟩:=ag (b:=b) (by rw [O];simp);rw [(h.sh k Y b hb).2] at W;cases W
  ·rw [upd_ne _ _ e];exact h.sh j K b hb
 ·exact h.EP
 ·exact h.clean
 ·exact h.low
 ·intro j K b hb;by_cases e:j=i
  ·subst e;rw [upd_same] at hb;exact h.kH j K b hb
  ·rw [upd_ne _ _ e] at hb;exact h.kH j K b hb
 ·intro j K b hb x a O ab ae;by_cases e:j=i
  ·subst e;rw [upd_same] at hb;obtain⟨o,V⟩:=GN hb;rcases Z b o V with y | ⟨k,Y,y,ak⟩
   ·exact h.kE j K b (by rw [y];simp) x a O ab ae
   ·exact ak x a O ab ae
  ·rw [upd_ne _ _ e] at hb;exact h.kE j K b hb x a O ab ae
theorem BZ.push(h:BZ t w N S Sh){i:Nat}(hi:i<N){E:LH}(Y:∀b o,E b=some o→(S i).E b=some o)
  (ab:∀b,E b≠none→∀x a,touchAt t x=some a→Dl a.loc=some b→a.write=true→Knows t N x):BZ t w (N+1) (upd S N ⟨E,fun _=>none,false⟩) Sh:=by
 have O:∀j,j<N→upd S N ⟨E,fun _=>none,false⟩ j=S j:=fun j K=>upd_ne _ _ (by omega);have ag:∀b,E b≠none→(S i).E b≠none:=fun b hb=>by obtain⟨o,V⟩:=GN hb;rw [Y b o V];simp
 have aa:∀b,(S i).E b=none→E b=none:=fun b hb=>by
  cases Z:E b with
  | none=>rfl
  | some o=>rw [Y b o Z] at hb;cases hb
 have cs:∀j,j<N+1→j<N∨j=N:=fun j K=>by omega
 constructor
 ·intro j K;rcases cs j K with K | rfl
  ·rw [O j K];exact h.fits j K
  ·rw [upd_same];exact⟨fun b o V=>(h.fits i hi).e b o (Y b o V),fun b o V=>(by cases V),fun b _=>rfl⟩
 ·intro a c U W ae b hb;rcases cs a U with U | rfl
  ·rw [O a U] at hb;rcases cs c W with W | rfl
   ·rw [O c W];exact h.hh a c U W ae b hb
   ·rw [upd_same];refine⟨rfl,aa b ?_⟩;by_cases e:a=i
    ·subst e;cases Z:(S a).E b with
     | none=>rfl
     | some o=>exact absurd ((h.fits a U).d b (by rw [Z];simp)) hb
    ·exact(h.hh a i U hi e b hb).2
  ·rw [upd_same] at hb;exact absurd rfl hb
 ·intro j K b hb;rcases cs j K with K | rfl
  ·rw [O j K];exact h.sh j K b hb
  ·rw [upd_same];exact⟨rfl,aa b (h.sh i hi b hb).2⟩
 ·exact h.EP
 ·exact h.clean
 ·exact h.low
 ·intro j K b hb;rcases cs j K with K | rfl
  ·rw [O j K] at hb;exact h.kH j K b hb
  ·rw [upd_same] at hb;exact absurd rfl hb
 ·intro j K b hb;rcases cs j K with K | rfl
  ·rw [O j K] at hb;exact h.kE j K b hb
  ·rw [upd_same] at hb;exact ab b hb
theorem BZ.share(h:BZ t w N S Sh){i:Nat}(hi:i<N){b₀:Nat}{o₀:Obj}(U:(S i).H b₀=some o₀):
  BZ t w N (upd S i {S i with H:=fun b=>if b=b₀ then none else(S i).H b}) (fun b=>Sh b∨b=b₀):=by
 have K:BZ t w N (upd S i {S i with H:=fun b=>if b=b₀ then none else(S i).H b}) Sh:=
  h.less (fun b o O=>O) (fun b o O=>by simp only at O;split at O <;> first | (cases O;done) | exact O)
 have Y:b₀<w.heap.size:=by
  have:=(h.fits i hi).h b₀ o₀ U;rcases Nat.lt_or_ge b₀ w.heap.size with V | V
  ·exact V
  ·simp [Array.getElem?_eq_none V] at this
 refine⟨K.fits,K.hh,fun j W b hb=>?_,fun b hb=>hb.elim (K.EP b) (fun e=>e▸Y),K.clean,K.low,K.kH,K.kE⟩;rcases hb with hb | rfl
 ·exact K.sh j W b hb
 ·by_cases e:j=i
  ·subst e;rw [upd_same];refine⟨by simp,?_⟩;cases Z:(S j).E b with
   | none=>rfl
   | some o=>have:=(h.fits j W).d b (by rw [Z];simp);rw [U] at this;cases this
  ·rw [upd_ne _ _ e];exact h.hh i j hi W (Ne.symm e) b (by rw [U];simp)
end
end Pal
namespace Pal
open Go Go.Conc
open Go.ConcN (upd upd_same upd_ne sumTo sumTo_upd)
abbrev GP:=Gs_
inductive Ph where
 | Ch (k:Nat) | FR | Hn | GA | FQ | F5 | Ec
 | CJ | Fc (m:Nat) | GB (v:Nat) | GF | C4 | F6 | EW | Gd | Dp
 | ER (j:Nat) | G4 (j:Nat) | Ga (j:Nat) | FE (j:Nat) | EE (j:Nat) | Fi | BX (K:List Nat) (vs:Lv_)
 | CH | G6 | G2 | GH (j:Nat)
inductive Nx where
 | ph (p:Ph) | gone (d:Nat)
structure Fam where
 wg:Nat
 ch:Nat
 ty:TypeId
 n:Nat
 has:Nat→Bool
 msg:Nat→Value→LH→Prop
 fin:GP
namespace Fam
variable (F:Fam)
def KK:Int:=4294967296
def Ge(st sm:Int):Obj:= .cells #[.int .u64 st,.int .u32 sm] F.ty (0,0)
def word(v wt:Nat):Int:=(v:Int)*KK+wt
def WG(w:World)(v wt sm:Nat):Prop:=w.heap[F.wg]? =some (F.Ge (word v wt) sm)
def put(w:World)(v wt sm:Nat):World:={w with heap:=w.heap.setIfInBounds F.wg (F.Ge (word v wt) sm)}
def sA:Addr:=⟨F.wg,0,none⟩
def mA:Addr:=⟨F.wg,1,none⟩
def ED(a:Addr):Event:=⟨.cell a,false,true⟩
def HW(a:Addr):Event:=⟨.cell a,true,true⟩
def D4(m:Mark):Event:=⟨.mark m,false,true⟩
def ChanAt(w:World)(closed:Bool)(k:Nat):Prop:=w.heap[F.ch]? =some (.chan 0 #[] closed k k false)
def act:Ph→Nat→Nat→Nat→Option ((Nat×Nat×Nat)×Array Event×Nx)
 | .FR,v,wt,sm=>some ((v,wt,sm),#[D4 (.releaseMerge F.sA)],.ph .Hn)
 | .Hn,v,wt,sm=>some ((v,wt,sm),#[D4 .disable],.ph .GA)
 | .GA,v,wt,sm=>if 1≤v∧v<2147483648∧wt≤1 then some ((v - 1,wt,sm),#[ED F.sA,HW F.sA],if v=1∧wt=1 then .ph .FQ else .gone 1) else none
 | .FQ,v,wt,sm=>if v=0∧wt=1 then some ((0,1,sm),#[ED F.sA],.ph .F5) else none
 | .F5,v,wt,sm=>if v=0∧wt=1 then some ((0,0,sm),#[HW F.sA],.ph .Ec) else none
 | .Ec,v,wt,sm=>if sm=0 then some ((v,wt,1),semEvents F.mA,.gone 1) else none
 | .CJ,v,wt,sm=>some ((v,wt,sm),#[D4 .disable],.ph (.Fc F.n))
 | .Fc m,v,wt,sm=>if v≤m∧wt=0 then some ((v,0,sm),#[ED F.sA],if v=0 then .ph .EW else .ph (.GB v)) else none
 | .GB m,v,wt,sm=>if v≤m∧1≤m∧wt=0 then some (if v=m then((v,1,sm),#[ED F.sA,HW F.sA],.ph .G6) else((v,0,sm),#[ED F.sA],.ph (.Fc (m - 1)))) else none
 | .GF,v,wt,sm=>some ((v,wt,sm),#[D4 (.write F.mA)],.ph .C4)
 | .C4,v,wt,sm=>if sm=1 then some ((v,wt,0),semEvents F.mA,.ph .F6) else none
 | .F6,v,wt,sm=>if v=0∧wt=0 then some ((0,0,sm),#[ED F.sA],.ph .EW) else none
 | .EW,v,wt,sm=>some ((v,wt,sm),#[D4 .enable],.ph .G2)
 | .CH,v,wt,sm=>some ((v,wt,sm),#[],.ph .FR)
 | .G6,v,wt,sm=>some ((v,wt,sm),#[],.ph .GF)
 | .G2,v,wt,sm=>some ((v,wt,sm),#[],.ph .Gd)
 | .GH j,v,wt,sm=>some ((v,wt,sm),#[],.ph (.Ga j))
 | .Gd,v,wt,sm=>some ((v,wt,sm),#[D4 (.acquire F.sA)],.ph .Dp)
 | .ER j,v,wt,sm=>some ((v,wt,sm),#[D4 .disable],.ph (.G4 j))
 | .G4 j,v,wt,sm=>if v<2147483647∧wt=0 then some ((v+1,0,sm),#[ED F.sA,HW F.sA],if v=0 then .ph (.GH j) else .ph (.FE j)) else none
 | .Ga j,v,wt,sm=>some ((v,wt,sm),#[D4 (.read F.mA)],.ph (.FE j))
 | .FE j,v,wt,sm=>some ((v,wt,sm),#[D4 .enable],.ph (.EE j))
 | _,_,_,_=>none
def Db:Ph→Bool
 | .ER _ | .G4 _ | .Ga _ | .FE _ | .EE _ | .Fi | .BX _ _ | .GH _=>true
 | _=>false
def DI:Ph→Bool
 | .Hn | .GA | .FQ | .F5 | .Ec=>true
 | _=>false
def Gh:Ph→St→St
 | .FR,_=> .quiet
 | _,s=>s
def start(k:Nat):Ph:=if F.has k then .Ch k else .CH
def Dq(j:Nat):Ph:=if j+1=F.n then .Fi else .ER (j+1)
end Fam
def Way(P:Program)(main:Bool)(X:GP):GP:=(Bn P main).ok X
theorem Jr.Ag{P:Program}{main:Bool}{Q K:GP}(h:∀g s,Q g s→K g s):∀{r:Rk} {g:Goroutine} {s:St},Jr P main Q r g s→Jr P main K r g s
 | .leaf,_,_,x=>h _ _ x
 | .node _,_,_,.inl x=> .inl (h _ _ x)
 | .node _,_,_,.inr ⟨O,x⟩=> .inr ⟨O,fun w f=>let ⟨g',s',w',es,U,V,W⟩:=x w f;⟨g',s',w',es,U,Jr.Ag h V,W⟩⟩
theorem Way.Ag{P:Program}{main:Bool}{Q K:GP}(h:∀g s,Q g s→K g s){g:Goroutine}{s:St}(x:Way P main Q g s):Way P main K g s:=
 let ⟨r,O⟩:=x;⟨r,Jr.Ag (fun g s ⟨s₀,a,b⟩=>⟨s₀,a,h g s₀ b⟩) O⟩
section
variable (P:Program)(F:Fam)
def Ka(X:Ph→GP)(main:Bool):Nx→GP
 | .ph p,g,s=>Way P main (X p) g s
 | .gone d,g,_=>∃q,QuitsD P q d g
structure Fj (X:Ph→GP) (p:Ph) (g:Goroutine) (s:St):Prop where
 run:g.status= .running
 offers:g.offers=none
 quiet:Fam.DI p=true→s= .quiet
 live:Fam.DI p=false→s.q=false
 act:∀v wt sm v' wt' sm' es nx,F.act p v wt sm=some ((v',wt',sm'),es,nx)→
  ∃g',(∀w,F.WG w v wt sm→stepG P (Fam.Db p) g w= .go g' (F.put w v' wt' sm') es)∧g'.status= .running∧Ka P X (Fam.Db p) nx g' (Fam.Gh p s)
 GC:p= .Ec∨p= .Dp→mayWake P g=true
 Eh:p= .C4→∀w v wt,F.WG w v wt 0→stepG P false g w= .go {g with status:= .blocked} w #[]
 close:p= .Dp→∃g',g'.status= .running∧(∀w k,F.ChanAt w false k→stepG P false g w= .go g' (w.setChan F.ch 0 #[] true k k false) (closeEvents F.ch))∧∃q,QuitsD P q 0 g'
 send:∀k,p= .Ch k→∃v z,F.msg k v s.E∧(∀w,stepG P false g w= .comm g #[scase F.ch v z] true .send w #[])∧Way P false (X .CH) (served g undef) s
 go:∀j,p= .EE j→∃g' child,g'.status= .running∧child.status= .running∧(∀w,stepG P true g w= .spawn g' child w #[])∧Way P false (X (F.start j)) child ⟨s.E,fun _=>none,false⟩∧Way P true (X (F.Dq j)) g' s
 Gg:p= .Fi→∃g' child,g'.status= .running∧child.status= .running∧(∀w,stepG P true g w= .spawn g' child w #[])∧Way P false (X .CJ) child ⟨s.E,fun _=>none,false⟩∧Way P true (X (.BX [] [])) g' s
 recv:∀K vs,p= .BX K vs→∃z,(∀w,stepG P true g w= .comm g #[rcase F.ch z] true (.recv true) w #[])∧
  (∀k v E',k<F.n→F.has k=true→k ∉ K→Le s.E E'→(∀b,E' b≠none→s.H b=none)→F.msg k v E'→Way P true (X (.BX (K++ [k]) (vs++ [v]))) (served g (.tuple #[v,.bool true])) ⟨E',s.H,false⟩)∧
  ((∀k,k<F.n→F.has k=true→k∈K)→F.fin (served g (.tuple #[z,.bool false])) s)
theorem Ka.Ag{X K:Ph→GP}(h:∀p g s,X p g s→K p g s){main:Bool}{nx:Nx}{g:Goroutine}{s:St}(x:Ka P X main nx g s):Ka P K main nx g s:=by
 cases nx with
 | ph p=>exact Way.Ag (h p) x
 | gone d=>exact x
theorem Fj.Ag{X Y:Ph→GP}(h:∀p g s,X p g s→Y p g s){p:Ph}{g:Goroutine}{s:St}(x:Fj P F X p g s):Fj P F Y p g s where
 run:=x.run
 offers:=x.offers
 quiet:=x.quiet
 live:=x.live
 act v wt sm v' wt' sm' es nx e:=let ⟨g',K,O,U⟩:=x.act v wt sm v' wt' sm' es nx e;⟨g',K,O,U.Ag P h⟩
 GC:=x.GC
 Eh:=x.Eh
 close:=x.close
 send k e:=let ⟨v,z,K,O,U⟩:=x.send k e;⟨v,z,K,O,U.Ag (h _)⟩
 go j e:=let ⟨g',c,K,O,U,V,W⟩:=x.go j e;⟨g',c,K,O,U,V.Ag (h _),W.Ag (h _)⟩
 Gg e:=let ⟨g',c,K,O,U,V,W⟩:=x.Gg e;⟨g',c,K,O,U,V.Ag (h _),W.Ag (h _)⟩
 recv Z vs e:=let ⟨z,K,O,U⟩:=x.recv Z vs e;⟨z,K,fun k v E' a b c d e f=>(O k v E' a b c d e f).Ag (h _),U⟩
def Stop(p:Ph)(g:Goroutine)(s:St):Prop:=∃X:Ph→GP,(∀p g s,X p g s→Fj P F X p g s)∧X p g s
variable {P F}
theorem Stop.law{p:Ph}{g:Goroutine}{s:St}(h:Stop P F p g s):Fj P F (Stop P F) p g s:=by
 obtain⟨X,O,K⟩:=h;exact(O p g s K).Ag P F fun p g s K=>⟨X,O,K⟩
theorem Fj.stop{p:Ph}{g:Goroutine}{s:St}(h:Fj P F (Stop P F) p g s):Stop P F p g s:=
 ⟨fun p g s=>Fj P F (Stop P F) p g s,fun _ _ _ x=>x.Ag P F fun _ _ _ y=>y.law,h⟩
end
end Pal
namespace Pal
open Go Go.Conc
open Go.ConcN (upd upd_same upd_ne sumTo sumTo_upd sumTo_upd_out sumTo_congr le_sumTo sumTo_le)
def cU:Nx→Nat
 | .ph (.Ch _) | .ph .CH | .ph .FR | .ph .Hn | .ph .GA=>1
 | _=>0
def cL:Nx→Nat
 | .ph .FQ | .ph .F5=>1
 | _=>0
def cS:Nx→Nat
 | .ph .Ec=>1
 | _=>0
def pend:Nx→Nat
 | .ph (.GH _) | .ph (.Ga _) | .ph (.FE _) | .ph (.EE _)=>1
 | _=>0
def got:Nx→List Nat
 | .ph (.BX K _)=>K
 | _=> []
def Ez:Nx→Prop
 | .gone _=>True
 | _=>False
def GW(n j:Nat)(c:Bool):Ph→Prop
 | .ER K | .G4 K | .GH K | .Ga K | .FE K | .EE K=>K=j∧j<n∧c=false
 | .Fi=>j=n∧c=false
 | .BX _ _=>j=n∧c=true
 | _=>False
def Hj(F:Fam)(k:Nat):Nx→Prop
 | .gone _=>True
 | .ph (.Ch k')=>k'=k∧F.has k=true
 | .ph .CH | .ph .FR | .ph .Hn | .ph .GA | .ph .FQ | .ph .F5 | .ph .Ec=>True
 | _=>False
def GZ:Nx→Prop
 | .gone _=>True
 | .ph .CJ | .ph (.Fc _) | .ph (.GB _) | .ph .G6 | .ph .GF | .ph .C4 | .ph .F6 | .ph .EW | .ph .G2 | .ph .Gd | .ph .Dp=>True
 | _=>False
def CE(x:Nx)(v wt sm L S:Nat)(cl:Bool):Prop:=
 match x with
 | .ph .CJ=>L=0∧S=0∧sm=0∧wt=0∧cl=false
 | .ph (.Fc m)=>L=0∧S=0∧sm=0∧wt=0∧cl=false∧v≤m
 | .ph (.GB m)=>L=0∧S=0∧sm=0∧wt=0∧cl=false∧v≤m∧1≤m
 | .ph .G6 | .ph .GF | .ph .C4=>L+S+sm+min v 1=1∧wt=L+min v 1∧cl=false
 | .ph .F6 | .ph .EW | .ph .G2 | .ph .Gd | .ph .Dp=>L=0∧S=0∧sm=0∧wt=0∧v=0∧cl=false
 | .gone _=>L=0∧S=0∧sm=0∧wt=0∧v=0∧cl=true
 | _=>False
structure BY (F:Fam) (N0 N j:Nat) (c:Bool) (φ:Nat→Nx) (v wt sm:Nat) (cl:Bool):Prop where
 pos:0<N0
 n1:1≤F.n
 HV:F.n<2147483647
 size:N=N0+j+c.toNat
 jn:j≤F.n
 cj:c=true→j=F.n
 main:∃p,φ 0= .ph p∧GW F.n j c p
 old:∀i,0<i→i<N0→Ez (φ i)
 work:∀k,k<j→Hj F k (φ (N0+k))
 cls:c=true→GZ (φ (N0+F.n))
 cnt:v=sumTo N (fun i=>cU (φ i))+pend (φ 0)
 Hr:v≤j+pend (φ 0)
 mode:CE (if c=true then φ (N0+F.n) else .ph .CJ) v wt sm (sumTo N fun i=>cL (φ i)) (sumTo N fun i=>cS (φ i)) cl
 GJ:∀k,k<j→F.has k=true→(φ (N0+k)= .ph (.Ch k)↔k ∉ got (φ 0))
 nd:(got (φ 0)).Nodup
 sub:∀k∈got (φ 0),k<j∧F.has k=true
section
variable {F:Fam}{N0 N j:Nat}{c:Bool}{φ:Nat→Nx}{v wt sm v' wt' sm':Nat}{cl cl':Bool}
theorem BY.EU(h:BY F N0 N j c φ v wt sm cl){i:Nat}(hi:i<N):i=0∨(0<i∧i<N0)∨(∃k,k<j∧i=N0+k)∨(c=true∧i=N0+F.n):=by
 have:=h.size;rcases Nat.eq_zero_or_pos i with K | K
 ·exact .inl K
 rcases Nat.lt_or_ge i N0 with U | U
 ·exact .inr (.inl ⟨K,U⟩)
 rcases Nat.lt_or_ge i (N0+j) with V | V
 ·exact .inr (.inr (.inl ⟨i - N0,by omega,by omega⟩))
 ·cases O:c with
  | false=>rw [O] at this;simp at this;omega
  | true=>have e:=h.cj O;rw [O] at this;simp at this;exact .inr (.inr (.inr ⟨rfl,by omega⟩))
theorem BY.Q1(h:BY F N0 N j c φ v wt sm cl):v≤F.n:=by
 have K:=h.Hr;obtain⟨p,O,hm⟩:=h.main;have:=h.jn;rw [O] at K;cases p <;> simp [GW] at hm <;> simp [pend] at K <;> omega
theorem BY.Ho(h:BY F N0 N j c φ v wt sm cl){k:Nat}(aa:k<j){x:Nx}(ab:Hj F k x)(hs:∀k',φ (N0+k)≠ .ph (.Ch k'))(ae:∀k',x≠ .ph (.Ch k'))
  (ao:v'+cU (φ (N0+k))=v+cU x)
  (hm:∀L S,L+cL (φ (N0+k))=(sumTo N fun i=>cL (φ i))+cL x→S+cS (φ (N0+k))=(sumTo N fun i=>cS (φ i))+cS x→CE (if c=true then φ (N0+F.n) else .ph .CJ) v' wt' sm' L S cl'):
  BY F N0 N j c (upd φ (N0+k) x) v' wt' sm' cl':=by
 have ap:=h.size;have aq:=h.jn;have ar:=h.pos;have V:N0+k<N:=by omega
 have K:upd φ (N0+k) x 0=φ 0:=upd_ne _ _ (by omega);have ag:(if c=true then upd φ (N0+k) x (N0+F.n) else .ph .CJ)=(if c=true then φ (N0+F.n) else .ph .CJ):=by
  cases O:c with
  | false=>rfl
  | true=>have:=h.cj O;simp only [if_true];exact upd_ne _ _ (by omega)
 have s1:=sumTo_upd φ x cU V;have s2:=sumTo_upd φ x cL V;have ah:=sumTo_upd φ x cS V;have au:=h.cnt;have av:=h.Hr;refine⟨h.pos,h.n1,h.HV,h.size,h.jn,h.cj,by rw [K];exact h.main,fun i ai aj=>by rw [upd_ne _ _ (by omega)];exact h.old i ai aj,fun k' U=>?_,fun O=>?_,by rw [K];omega,?_,?_,fun k' U hh=>?_,by rw [K];exact h.nd,by rw [K];exact h.sub⟩
 ·by_cases e:k'=k
  ·subst e;rw [upd_same];exact ab
  ·rw [upd_ne _ _ (by omega)];exact h.work k' U
 ·have:=h.cj O;rw [upd_ne _ _ (by omega)];exact h.cls O
 ·rw [K];have:cU x≤1:=by cases x with
   | gone d=>simp [cU]
   | ph p=>cases p <;> simp [cU]
  have hw:=h.work k aa;have key:cU x≤cU (φ (N0+k))∨cU (φ (N0+k))<cU x:=by omega
  rcases key with hle | aw
  ·omega
  ·
   have:(sumTo N fun a=>cU (upd φ (N0+k) x a))≤j:=by
    have hb:∀M,M≤N→(sumTo M fun a=>cU (upd φ (N0+k) x a))≤min (M - N0) j:=by
     intro M
     induction M with
     | zero=>intro _;simp [sumTo]
     | succ M ak=>
      intro ay;have:=ak (by omega);simp only [sumTo];have az:cU (upd φ (N0+k) x M)≤1:=by
       generalize upd φ (N0+k) x M=y;cases y with
       | gone d=>simp [cU]
       | ph p=>cases p <;> simp [cU]
      have Y:(M<N0∨N0+j≤M)→cU (upd φ (N0+k) x M)=0:=by
       intro aA;rw [upd_ne _ _ (by omega)];rcases h.EU (i:=M) (by omega) with rfl | ⟨a,b⟩ | ⟨k',a,rfl⟩ | ⟨a,rfl⟩
       ·obtain⟨p,al,hm⟩:=h.main;rw [al];cases p <;> simp [GW] at hm <;> rfl
       ·have:=h.old M a b;cases W:φ M with
        | gone d=>rfl
        | ph p=>rw [W] at this;exact this.elim
       ·omega
       ·have:=h.cls a;cases W:φ (N0+F.n) with
        | gone d=>rfl
        | ph p=>rw [W] at this;cases p <;> simp [GZ] at this <;> rfl
      rcases Nat.lt_or_ge M N0 with q | q
      ·rw [Y (.inl q)];omega
      ·rcases Nat.lt_or_ge M (N0+j) with Z | Z
       ·omega
       ·rw [Y (.inr Z)];omega
    have:=hb N (Nat.le_refl _);omega
   omega
 ·rw [ag];exact hm _ _ s2 ah
 ·rw [K];by_cases e:k'=k
  ·subst e;rw [upd_same];have:=h.GJ k' U hh;constructor
   ·intro am;exact absurd am (ae k')
   ·intro an;exact absurd (this.2 an) (hs k')
  ·rw [upd_ne _ _ (by omega)];exact h.GJ k' U hh
theorem BY.FC(h:BY F N0 N j c φ v wt sm cl)(O:c=true){x:Nx}(W:GZ x)
  (hm:CE x v wt' sm' (sumTo N fun i=>cL (φ i)) (sumTo N fun i=>cS (φ i)) cl'):
  BY F N0 N j c (upd φ (N0+F.n) x) v wt' sm' cl':=by
 have Y:=h.size;have ah:=h.pos;have ai:=h.cj O;have U:N0+F.n<N:=by rw [O] at Y;simp at Y;omega
 have K:upd φ (N0+F.n) x 0=φ 0:=upd_ne _ _ (by omega);have z:∀y,GZ y→cU y=0∧cL y=0∧cS y=0:=by
  intro y Z;cases y with
  | gone d=>exact⟨rfl,rfl,rfl⟩
  | ph p=>cases p <;> simp [GZ] at Z <;> exact⟨rfl,rfl,rfl⟩
 have z1:=z _ (h.cls O);have aj:=z x W;have s1:=sumTo_upd φ x cU U;have s2:=sumTo_upd φ x cL U;have ak:=sumTo_upd φ x cS U;have al:=h.cnt;refine⟨h.pos,h.n1,h.HV,h.size,h.jn,h.cj,by rw [K];exact h.main,fun i aa ab=>by rw [upd_ne _ _ (by omega)];exact h.old i aa ab,fun k' V=>?_,fun O=>?_,by rw [K];omega,by rw [K];exact h.Hr,?_,fun k' V hh=>?_,by rw [K];exact h.nd,by rw [K];exact h.sub⟩
 ·rw [upd_ne _ _ (by omega)];exact h.work k' V
 ·rw [upd_same];exact W
 ·rw [if_pos O,upd_same];have ae:(sumTo N fun i=>cL (upd φ (N0+F.n) x i))=sumTo N fun i=>cL (φ i):=by omega
  have ag:(sumTo N fun i=>cS (upd φ (N0+F.n) x i))=sumTo N fun i=>cS (φ i):=by omega
  rw [ae,ag];exact hm
 ·rw [K,upd_ne _ _ (by omega)];exact h.GJ k' V hh
theorem Ot{n j:Nat}{c:Bool}{p:Ph}(h:GW n j c p):cU (.ph p)=0∧cL (.ph p)=0∧cS (.ph p)=0:=by
 cases p <;> simp [GW] at h <;> exact⟨rfl,rfl,rfl⟩
theorem BY.I1(h:BY F N0 N j c φ v wt sm cl){p:Ph}(V:GW F.n j c p)(K:got (.ph p)=got (φ 0))(aj:v'+pend (φ 0)=v+pend (.ph p))(W:v'≤j+pend (.ph p))
  (hm:CE (if c=true then φ (N0+F.n) else .ph .CJ) v' wt' sm' (sumTo N fun i=>cL (φ i)) (sumTo N fun i=>cS (φ i)) cl'):
  BY F N0 N j c (upd φ 0 (.ph p)) v' wt' sm' cl':=by
 have ak:=h.size;have al:=h.pos;have O:0<N:=by omega
 obtain⟨am,Y,Z⟩:=h.main;have z1:=Ot Z;have an:=Ot V;rw [← Y] at z1;have s1:=sumTo_upd φ (.ph p) cU O;have s2:=sumTo_upd φ (.ph p) cL O;have ao:=sumTo_upd φ (.ph p) cS O;have ap:=h.cnt;have aa:(if c=true then upd φ 0 (.ph p) (N0+F.n) else .ph .CJ)=(if c=true then φ (N0+F.n) else .ph .CJ):=by rw [upd_ne _ _ (by omega)]
 refine⟨h.pos,h.n1,h.HV,h.size,h.jn,h.cj,⟨p,upd_same _ _ _,V⟩,fun i ab ae=>by rw [upd_ne _ _ (by omega)];exact h.old i ab ae,fun k' U=>by rw [upd_ne _ _ (by omega)];exact h.work k' U,fun ag=>by rw [upd_ne _ _ (by omega)];exact h.cls ag,by rw [upd_same];omega,by rw [upd_same];exact W,?_,fun k' U hh=>?_,by rw [upd_same,K];exact h.nd,by rw [upd_same,K];exact h.sub⟩
 ·rw [aa];have ah:(sumTo N fun i=>cL (upd φ 0 (.ph p) i))=sumTo N fun i=>cL (φ i):=by omega
  have ai:(sumTo N fun i=>cS (upd φ 0 (.ph p) i))=sumTo N fun i=>cS (φ i):=by omega
  rw [ah,ai];exact hm
 ·rw [upd_same,K,upd_ne _ _ (by omega)];exact h.GJ k' U hh
theorem BY.act(h:BY F N0 N j c φ v wt sm cl){i:Nat}(hi:i<N){p:Ph}(U:φ i= .ph p){es:Array Event}{nx:Nx}(K:F.act p v wt sm=some ((v',wt',sm'),es,nx)):
  BY F N0 N j c (upd φ i nx) v' wt' sm' cl:=by
 have O:=h.mode;have aq:=h.Q1;rcases h.EU hi with rfl | ⟨a,b⟩ | ⟨k,ah,rfl⟩ | ⟨Y,rfl⟩
 ·
  obtain⟨al,ap,ai⟩:=h.main;have:al=p:=by rw [ap] at U;exact Nx.ph.inj U
  subst this;have au:∀q,GW F.n j c q→(∀ar vs,q≠ .BX ar vs)→c=false:=by
   intro q am an;cases q <;> simp [GW] at am <;> first | exact am.2.2 | exact am.2 | exact absurd rfl (an _ _)
  have ae:=h.Hr;cases al <;> simp only [GW] at ai <;> (try exact ai.elim) <;> simp only [Fam.act] at K <;> (try (cases K;done))
  ·cases K;obtain⟨rfl,ag,rfl⟩:=ai;exact h.I1 (p:= .G4 _) ⟨rfl,ag,rfl⟩ (by rw [U];rfl) (by rw [U];rfl) (by rw [U] at ae;exact ae) (by simpa [CE] using O)
  ·split at K
   ·rename_i Z;cases K;obtain⟨rfl,ag,rfl⟩:=ai;rw [U] at ae;simp only [pend,Nat.add_zero] at ae;simp only [Bool.false_eq_true,if_false,CE] at O;split
    ·exact h.I1 (p:= .GH _) ⟨rfl,ag,rfl⟩ (by rw [U];rfl) (by rw [U];simp [pend]) (by simp [pend];omega) ⟨O.1,O.2.1,O.2.2.1,rfl,O.2.2.2.2⟩
    ·exact h.I1 (p:= .FE _) ⟨rfl,ag,rfl⟩ (by rw [U];rfl) (by rw [U];simp [pend]) (by simp [pend];omega) ⟨O.1,O.2.1,O.2.2.1,rfl,O.2.2.2.2⟩
   ·cases K
  ·cases K;obtain⟨rfl,ag,rfl⟩:=ai;exact h.I1 (p:= .FE _) ⟨rfl,ag,rfl⟩ (by rw [U];rfl) (by rw [U];rfl) (by rw [U] at ae;exact ae) (by simpa [CE] using O)
  ·cases K;obtain⟨rfl,ag,rfl⟩:=ai;exact h.I1 (p:= .EE _) ⟨rfl,ag,rfl⟩ (by rw [U];rfl) (by rw [U];rfl) (by rw [U] at ae;exact ae) (by simpa [CE] using O)
  ·cases K;obtain⟨rfl,ag,rfl⟩:=ai;exact h.I1 (p:= .Ga _) ⟨rfl,ag,rfl⟩ (by rw [U];rfl) (by rw [U];rfl) (by rw [U] at ae;exact ae) (by simpa [CE] using O)
 ·have:=h.old i a b;rw [U] at this;exact this.elim
 ·
  have hw:=h.work k ah;rw [U] at hw;have av:∀q k',q=Nx.ph p→(∀k',p≠ .Ch k')→q≠ .ph (.Ch k'):=by
   rintro q k' rfl an e;exact an k' (Nx.ph.inj e)
  cases p <;> simp only [Hj] at hw <;> (try exact hw.elim) <;> simp only [Fam.act] at K <;> (try (cases K;done))
  ·cases K;refine h.Ho ah (x:= .ph .Hn) trivial (fun k'=>by rw [U];simp) (by simp) (by rw [U];rfl) fun L S V W=>?_;rw [U] at V W;simp only [cL,cS,Nat.add_zero] at V W;subst V W;exact O
  ·cases K;refine h.Ho ah (x:= .ph .GA) trivial (fun k'=>by rw [U];simp) (by simp) (by rw [U];rfl) fun L S V W=>?_;rw [U] at V W;simp only [cL,cS,Nat.add_zero] at V W;subst V W;exact O
  ·split at K
   ·rename_i Z;cases K;have ak:∀y aa ab L S,y=(if c=true then φ (N0+F.n) else .ph .CJ)→CE y v wt sm aa ab cl→(if v=1∧wt=1 then L=aa+1 else L=aa)→S=ab→CE y (v - 1) wt sm L S cl:=by
     intro y aa ab L S aw hm V W;cases y with
     | gone d=>simp only [CE] at hm ⊢;split at V <;> omega
     | ph q=>
      cases q <;> simp only [CE] at hm ⊢ <;> (try exact hm) <;> (try (split at V <;> omega))
      ·split at V
       ·exfalso;omega
       ·exact⟨by omega,by omega,by omega,by omega,hm.2.2.2.2⟩
      ·split at V
       ·exfalso;omega
       ·exact⟨by omega,by omega,by omega,by omega,hm.2.2.2.2.1,by omega⟩
      ·split at V
       ·exfalso;omega
       ·exact⟨by omega,by omega,by omega,by omega,hm.2.2.2.2.1,by omega,by omega⟩
      ·split at V
       ·exact⟨by omega,by omega,hm.2.2⟩
       ·exact⟨by omega,by omega,hm.2.2⟩
      ·split at V
       ·exact⟨by omega,by omega,hm.2.2⟩
       ·exact⟨by omega,by omega,hm.2.2⟩
      ·split at V
       ·exact⟨by omega,by omega,hm.2.2⟩
       ·exact⟨by omega,by omega,hm.2.2⟩
    split
    ·rename_i aj;refine h.Ho ah (x:= .ph .FQ) trivial (fun k'=>by rw [U];simp) (by simp) (by rw [U];simp [cU];omega) fun L S V W=>?_;rw [U] at V W;simp only [cL,cS,Nat.add_zero] at V W;exact ak _ _ _ L S rfl O (by rw [if_pos aj];exact V) W
    ·rename_i aj;refine h.Ho ah (x:= .gone 1) trivial (fun k'=>by rw [U];simp) (by simp) (by rw [U];simp [cU];omega) fun L S V W=>?_;rw [U] at V W;simp only [cL,cS,Nat.add_zero] at V W;exact ak _ _ _ L S rfl O (by rw [if_neg aj];exact V) W
   ·cases K
  ·split at K
   ·rename_i Z;cases K;refine h.Ho ah (x:= .ph .F5) trivial (fun k'=>by rw [U];simp) (by simp) (by rw [U];simp [cU];omega) fun L S V W=>?_;rw [U] at V W;simp only [cL,cS,Nat.add_zero] at V W;have e:L=sumTo N fun i=>cL (φ i):=by
     have ay:L+1=(sumTo N fun i=>cL (φ i))+1:=V;omega
    obtain⟨aj,ao⟩:=Z;subst e W aj ao;exact O
   ·cases K
  ·split at K
   ·rename_i Z;cases K;obtain⟨aj,ao⟩:=Z;subst aj ao;refine h.Ho ah (x:= .ph .Ec) trivial (fun k'=>by rw [U];simp) (by simp) (by rw [U];simp [cU]) fun L S V W=>?_;rw [U] at V W;simp only [cL,cS,Nat.add_zero] at V W;have ak:∀y aa ab,CE y 0 1 sm aa ab cl→L+1=aa→S=ab+1→CE y 0 0 sm L S cl:=by
     intro y aa ab hm V W;cases y with
     | gone d=>simp only [CE] at hm ⊢;omega
     | ph q=>
      cases q <;> simp only [CE] at hm ⊢ <;> (try exact hm) <;> (try (exfalso;omega))
      ·exact⟨by omega,by omega,hm.2.2⟩
      ·exact⟨by omega,by omega,hm.2.2⟩
      ·exact⟨by omega,by omega,hm.2.2⟩
    exact ak _ _ _ O V W
   ·cases K
  ·split at K
   ·rename_i Z;cases K;subst Z;refine h.Ho ah (x:= .gone 1) trivial (fun k'=>by rw [U];simp) (by simp) (by rw [U];simp [cU]) fun L S V W=>?_;rw [U] at V W;simp only [cL,cS,Nat.add_zero] at V W;have ak:∀y aa ab,CE y v wt 0 aa ab cl→L=aa→S+1=ab→CE y v wt 1 L S cl:=by
     intro y aa ab hm V W;cases y with
     | gone d=>simp only [CE] at hm ⊢;omega
     | ph q=>
      cases q <;> simp only [CE] at hm ⊢ <;> (try exact hm) <;> (try (exfalso;omega))
      ·exact⟨by omega,by omega,hm.2.2⟩
      ·exact⟨by omega,by omega,hm.2.2⟩
      ·exact⟨by omega,by omega,hm.2.2⟩
    exact ak _ _ _ O V W
   ·cases K
  ·cases K;refine h.Ho ah (x:= .ph .FR) trivial (fun k'=>by rw [U];simp) (by simp) (by rw [U];rfl) fun L S V W=>?_;rw [U] at V W;simp only [cL,cS,Nat.add_zero] at V W;subst V W;exact O
 ·
  have hw:=h.cls Y;rw [if_pos Y,U] at O;rw [U] at hw;obtain⟨al,ap,ai⟩:=h.main;cases p <;> simp only [GZ] at hw <;> (try exact hw.elim) <;> simp only [Fam.act] at K <;> (try (cases K;done)) <;> simp only [CE] at O
  ·cases K;exact h.FC Y (x:= .ph (.Fc F.n)) trivial ⟨O.1,O.2.1,O.2.2.1,O.2.2.2.1,O.2.2.2.2,aq⟩
  ·split at K
   ·rename_i m Z;cases K;split
    ·exact h.FC Y (x:= .ph .EW) trivial ⟨O.1,O.2.1,O.2.2.1,rfl,by assumption,O.2.2.2.2.1⟩
    ·exact h.FC Y (x:= .ph (.GB _)) trivial ⟨O.1,O.2.1,O.2.2.1,rfl,O.2.2.2.2.1,Nat.le_refl _,by omega⟩
   ·cases K
  ·split at K
   ·rename_i m Z;split at K
    ·cases K;exact h.FC Y (x:= .ph .G6) trivial ⟨by omega,by omega,O.2.2.2.2.1⟩
    ·cases K;exact h.FC Y (x:= .ph (.Fc _)) trivial ⟨O.1,O.2.1,O.2.2.1,rfl,O.2.2.2.2.1,by omega⟩
   ·cases K
  ·cases K;exact h.FC Y (x:= .ph .C4) trivial O
  ·split at K
   ·rename_i Z;cases K;exact h.FC Y (x:= .ph .F6) trivial ⟨by omega,by omega,rfl,by omega,by omega,O.2.2⟩
   ·cases K
  ·split at K
   ·rename_i Z;obtain⟨rfl,rfl⟩:=Z;cases K;exact h.FC Y (x:= .ph .EW) trivial O
   ·cases K
  ·cases K;exact h.FC Y (x:= .ph .G2) trivial O
  ·cases K;exact h.FC Y (x:= .ph .Dp) trivial O
  ·cases K;exact h.FC Y (x:= .ph .GF) trivial O
  ·cases K;exact h.FC Y (x:= .ph .Gd) trivial O
end
end Pal
namespace Pal
open Go Go.Conc
open Go.ConcN (upd upd_same upd_ne sumTo sumTo_upd sumTo_upd_out sumTo_congr le_sumTo sumTo_le fork_knows)
section
variable {F:Fam}{N0 N j:Nat}{c:Bool}{φ:Nat→Nx}{v wt sm:Nat}{cl:Bool}
theorem BY.spawn(h:BY F N0 N j c φ v wt sm cl)(U:φ 0= .ph (.EE j)):
  BY F N0 (N+1) (j+1) c (upd (upd φ N (.ph (F.start j))) 0 (.ph (F.Dq j))) v wt sm cl:=by
 obtain⟨ai,aj,ak⟩:=h.main;obtain rfl:ai= .EE j:=by rw [aj] at U;exact Nx.ph.inj U
 obtain⟨_,aq,rfl⟩:=ak;have al:=h.size;have ar:=h.pos;simp only [Bool.toNat_false,Nat.add_zero] at al;have W:cU (.ph (F.start j))=1∧cL (.ph (F.start j))=0∧cS (.ph (F.start j))=0:=by
  unfold Fam.start;split <;> exact⟨rfl,rfl,rfl⟩
 have K:cU (.ph (F.Dq j))=0∧cL (.ph (F.Dq j))=0∧cS (.ph (F.Dq j))=0∧pend (.ph (F.Dq j))=0∧got (.ph (F.Dq j))= []:=by
  unfold Fam.Dq;split <;> exact⟨rfl,rfl,rfl,rfl,rfl⟩
 have Y:cU (φ 0)=0∧cL (φ 0)=0∧cS (φ 0)=0:=by rw [U];exact⟨rfl,rfl,rfl⟩
 let V:Nat→Nx:=upd (upd φ N (.ph (F.start j))) 0 (.ph (F.Dq j));have O:V 0= .ph (F.Dq j):=upd_same _ _ _;have Z:V N= .ph (F.start j):=by show upd _ _ _ _=_;rw [upd_ne _ _ (by omega),upd_same]
 have aa:∀i,0<i→i≠N→V i=φ i:=fun i ab ae=>by show upd _ _ _ _=_;rw [upd_ne _ _ (by omega),upd_ne _ _ ae]
 have sum:∀f:Nx→Nat,f (φ 0)=0→f (.ph (F.Dq j))=0→(sumTo (N+1) fun i=>f (V i))=(sumTo N fun i=>f (φ i))+f (.ph (F.start j)):=by
  intro f f0 f1;simp only [sumTo,Z];congr 1;have am:0<N:=by omega
  have:=sumTo_upd (upd φ N (.ph (F.start j))) (.ph (F.Dq j)) f am;have an:upd φ N (.ph (F.start j)) 0=φ 0:=upd_ne _ _ (by omega);rw [an,f0,f1] at this;have au:=sumTo_upd_out φ (.ph (F.start j)) f (i:=N) (j:=N) (Nat.le_refl _);show sumTo N (fun i=>f (upd (upd φ N (.ph (F.start j))) 0 (.ph (F.Dq j)) i))=_;omega
 have ag:=h.cnt;have ah:=h.Hr;rw [U] at ag ah;simp only [pend] at ag ah;show BY F N0 (N+1) (j+1) false V v wt sm cl;have ao:got (φ 0)= []:=by rw [U];rfl
 refine⟨h.pos,h.n1,h.HV,by simp;omega,by omega,by simp,⟨F.Dq j,O,?_⟩,fun i ab ae=>by rw [aa i ab (by omega)];exact h.old i ab ae,fun k ap=>?_,by simp,?_,?_,?_,fun k ap hh=>?_,by rw [O,K.2.2.2.2];exact .nil,by rw [O,K.2.2.2.2];simp⟩
 ·unfold Fam.Dq;split
  ·exact⟨by assumption,rfl⟩
  ·exact⟨rfl,by omega,rfl⟩
 ·by_cases e:k=j
  ·subst e;rw [show N0+k=N by omega,Z];unfold Fam.start;split
   ·exact⟨rfl,by assumption⟩
   ·trivial
  ·rw [aa _ (by omega) (by omega)];exact h.work k (by omega)
 ·rw [O,K.2.2.2.1,sum cU Y.1 K.1,W.1];exact ag
 ·rw [O,K.2.2.2.1];exact ah
 ·have hm:=h.mode;simp only [Bool.false_eq_true,if_false] at hm ⊢;rw [sum cL Y.2.1 K.2.1,sum cS Y.2.2 K.2.2.1,W.2.1,W.2.2];exact hm
 ·rw [O,K.2.2.2.2];by_cases e:k=j
  ·subst e;rw [show N0+k=N by omega,Z];unfold Fam.start;simp [hh]
  ·rw [aa _ (by omega) (by omega)];have:=h.GJ k (by omega) hh
   rwa [ao] at this
theorem BY.VM(h:BY F N0 N j c φ v wt sm cl)(O:φ 0= .ph .Fi):
  BY F N0 (N+1) j true (upd (upd φ N (.ph .CJ)) 0 (.ph (.BX [] []))) v wt sm cl:=by
 obtain⟨ai,aj,ak⟩:=h.main;obtain rfl:ai= .Fi:=by rw [aj] at O;exact Nx.ph.inj O
 obtain⟨ah,rfl⟩:=ak;have al:=h.size;have ap:=h.pos;simp only [Bool.toNat_false,Nat.add_zero] at al;have V:cU (φ 0)=0∧cL (φ 0)=0∧cS (φ 0)=0:=by rw [O];exact⟨rfl,rfl,rfl⟩
 let U:Nat→Nx:=upd (upd φ N (.ph .CJ)) 0 (.ph (.BX [] []));have K:U 0= .ph (.BX [] []):=upd_same _ _ _;have W:U N= .ph .CJ:=by show upd _ _ _ _=_;rw [upd_ne _ _ (by omega),upd_same]
 have Y:∀i,0<i→i≠N→U i=φ i:=fun i Z aa=>by show upd _ _ _ _=_;rw [upd_ne _ _ (by omega),upd_ne _ _ aa]
 have sum:∀f:Nx→Nat,f (φ 0)=0→f (.ph (.BX [] []))=0→f (.ph .CJ)=0→(sumTo (N+1) fun i=>f (U i))=(sumTo N fun i=>f (φ i)):=by
  intro f f0 f1 f2;simp only [sumTo,W,f2];have am:0<N:=by omega
  have:=sumTo_upd (upd φ N (.ph .CJ)) (.ph (.BX [] [])) f am;have an:upd φ N (.ph .CJ) 0=φ 0:=upd_ne _ _ (by omega);rw [an,f0,f1] at this;have aq:=sumTo_upd_out φ (.ph .CJ) f (i:=N) (j:=N) (Nat.le_refl _);show sumTo N (fun i=>f (upd (upd φ N (.ph .CJ)) 0 (.ph (.BX [] [])) i))+0=_;omega
 have ab:=h.cnt;have ae:=h.Hr;rw [O] at ab ae;simp only [pend] at ab ae;show BY F N0 (N+1) j true U v wt sm cl;have ao:got (φ 0)= []:=by rw [O];rfl
 refine⟨h.pos,h.n1,h.HV,by simp;omega,h.jn,fun _=>ah,⟨.BX [] [],K,ah,rfl⟩,fun i Z aa=>by rw [Y i Z (by omega)];exact h.old i Z aa,fun k ag=>?_,fun _=>by rw [show N0+F.n=N by omega,W];trivial,?_,?_,?_,fun k ag hh=>?_,by rw [K];exact .nil,by rw [K];simp [got]⟩
 ·rw [Y _ (by omega) (by omega)];exact h.work k ag
 ·rw [K,sum cU V.1 rfl rfl];exact ab
 ·rw [K];exact ae
 ·have hm:=h.mode;simp only [Bool.false_eq_true,if_false,if_true] at hm ⊢;rw [show N0+F.n=N by omega,W,sum cL V.2.1 rfl rfl,sum cS V.2.2 rfl rfl];exact hm
 ·rw [K];rw [Y _ (by omega) (by omega)];have:=h.GJ k ag hh
  rwa [ao] at this
theorem BY.meet(h:BY F N0 N j c φ v wt sm cl){K:List Nat}{vs:Lv_}{k:Nat}{x:Value}(O:φ 0= .ph (.BX K vs))(ab:k<j)(hw:φ (N0+k)= .ph (.Ch k)):
  BY F N0 N j c (upd (upd φ (N0+k) (.ph .CH)) 0 (.ph (.BX (K++ [k]) (vs++ [x])))) v wt sm cl:=by
 obtain⟨aj,ak,al⟩:=h.main;obtain rfl:aj= .BX K vs:=by rw [ak] at O;exact Nx.ph.inj O
 obtain⟨am,rfl⟩:=al;have an:=h.size;have av:=h.pos;have ae:F.has k=true:=by have:=h.work k ab;rw [hw] at this;exact this.2
 have ao:k ∉ K:=by have:=(h.GJ k ab ae).1 hw;rwa [O] at this
 let V:Nat→Nx:=upd (upd φ (N0+k) (.ph .CH)) 0 (.ph (.BX (K++ [k]) (vs++ [x])));have U:V 0= .ph (.BX (K++ [k]) (vs++ [x])):=upd_same _ _ _;have ag:V (N0+k)= .ph .CH:=by show upd _ _ _ _=_;rw [upd_ne _ _ (by omega),upd_same]
 have W:∀i,0<i→i≠N0+k→V i=φ i:=fun i Y Z=>by show upd _ _ _ _=_;rw [upd_ne _ _ (by omega),upd_ne _ _ Z]
 have sum:∀f:Nx→Nat,f (φ 0)=f (.ph (.BX (K++ [k]) (vs++ [x])))→f (.ph (.Ch k))=f (.ph .CH)→(sumTo N fun i=>f (V i))=(sumTo N fun i=>f (φ i)):=by
  intro f f0 f1;have ap:0<N:=by omega
  have Y:=sumTo_upd (upd φ (N0+k) (.ph .CH)) (.ph (.BX (K++ [k]) (vs++ [x]))) f ap;have aq:upd φ (N0+k) (.ph .CH) 0=φ 0:=upd_ne _ _ (by omega);have Z:=sumTo_upd φ (.ph .CH) f (show N0+k<N by omega);rw [aq] at Y;rw [hw] at Z;show sumTo N (fun i=>f (upd (upd φ (N0+k) (.ph .CH)) 0 (.ph (.BX (K++ [k]) (vs++ [x]))) i))=_;omega
 have ah:=h.cnt;have ai:=h.Hr;rw [O] at ah ai;show BY F N0 N j true V v wt sm cl;refine⟨h.pos,h.n1,h.HV,an,h.jn,h.cj,⟨_,U,am,rfl⟩,fun i Y Z=>by rw [W i Y (by omega)];exact h.old i Y Z,fun k' aa=>?_,fun ar=>?_,?_,?_,?_,fun k' aa hh=>?_,?_,?_⟩
 ·by_cases e:k'=k
  ·subst e;rw [ag];trivial
  ·rw [W _ (by omega) (by omega)];exact h.work k' aa
 ·rw [W _ (by omega) (by omega)];exact h.cls ar
 ·rw [U,sum cU (by rw [O];rfl) rfl];exact ah
 ·rw [U];exact ai
 ·have hm:=h.mode;simp only [if_true] at hm ⊢;rw [W _ (by omega) (by omega),sum cL (by rw [O];rfl) rfl,sum cS (by rw [O];rfl) rfl];exact hm
 ·rw [U];show _↔k' ∉ K++ [k];by_cases e:k'=k
  ·subst e;rw [ag];simp
  ·rw [W _ (by omega) (by omega)];have:=h.GJ k' aa hh;rw [O] at this;rw [this];show k' ∉ K↔_;simp [e]
 ·rw [U];have:=h.nd;rw [O] at this;show(K++ [k]).Nodup;rw [List.nodup_append];exact⟨this,by simp,fun a au b hb=>by simp at hb;subst hb;exact fun e=>ao (e▸au)⟩
 ·rw [U];intro k' aa;have hs:=h.sub;rw [O] at hs;rcases List.mem_append.1 aa with q | q
  ·exact hs k' q
  ·simp at q;subst q;exact⟨ab,ae⟩
theorem BY.close(h:BY F N0 N j c φ v wt sm cl)(K:c=true)(O:φ (N0+F.n)= .ph .Dp):BY F N0 N j c (upd φ (N0+F.n) (.gone 0)) v wt sm true:=by
 have hm:=h.mode;rw [if_pos K,O] at hm;exact h.FC K (x:= .gone 0) trivial ⟨hm.1,hm.2.1,hm.2.2.1,hm.2.2.2.1,hm.2.2.2.2.1,rfl⟩
theorem BY.leave(h:BY F N0 N j c φ v wt sm cl){i d K:Nat}(hi:i<N)(O:φ i= .gone d):BY F N0 N j c (upd φ i (.gone K)) v wt sm cl:=by
 rcases h.EU hi with rfl | ⟨a,b⟩ | ⟨k,V,rfl⟩ | ⟨W,rfl⟩
 ·obtain⟨p,Y,_⟩:=h.main;rw [O] at Y;cases Y
 ·have ae:=hi;have z:∀f:Nx→Nat,f (.gone d)=0→f (.gone K)=0→(sumTo N fun a=>f (upd φ i (.gone K) a))=sumTo N fun a=>f (φ a):=by
   intro f f0 f1;have:=sumTo_upd φ (.gone K) f ae;rw [O] at this;omega
  have ak:=h.size;have U:upd φ i (.gone K) 0=φ 0:=upd_ne _ _ (by omega);refine⟨h.pos,h.n1,h.HV,h.size,h.jn,h.cj,by rw [U];exact h.main,fun Z ag ah=>?_,fun k V=>by rw [upd_ne _ _ (by omega)];exact h.work k V,fun W=>by rw [upd_ne _ _ (by omega)];exact h.cls W,by rw [U,z cU rfl rfl];exact h.cnt,by rw [U];exact h.Hr,?_,fun k V hh=>by rw [U,upd_ne _ _ (by omega)];exact h.GJ k V hh,by rw [U];exact h.nd,by rw [U];exact h.sub⟩
  ·by_cases e:Z=i
   ·subst e;rw [upd_same];trivial
   ·rw [upd_ne _ _ e];exact h.old Z ag ah
  ·rw [z cL rfl rfl,z cS rfl rfl,upd_ne _ _ (by omega)];exact h.mode
 ·refine h.Ho V (x:= .gone K) trivial (by rw [O];simp) (by simp) (by rw [O];rfl) fun L S aa ab=>?_;rw [O] at aa ab;have ai:L=sumTo N fun i=>cL (φ i):=aa;have aj:S=sumTo N fun i=>cS (φ i):=ab;subst ai aj;exact h.mode
 ·have hm:=h.mode;rw [if_pos W,O] at hm;exact h.FC W (x:= .gone K) trivial hm
theorem BY.MY(h:BY F N0 N j c φ v wt sm cl)(O:c=true)(U:φ (N0+F.n)= .ph .F6∨φ (N0+F.n)= .ph .EW∨φ (N0+F.n)= .ph .Gd∨φ (N0+F.n)= .ph .Dp∨Ez (φ (N0+F.n))):∀k,k<j→Ez (φ (N0+k)):=by
 intro k V;have hm:=h.mode;rw [if_pos O] at hm;have W:=h.size;have Y:=h.cnt;have Z:cU (φ (N0+k))≤sumTo N fun i=>cU (φ i):=le_sumTo (f:=fun i=>cU (φ i)) (show N0+k<N by omega);have aa:cL (φ (N0+k))≤sumTo N fun i=>cL (φ i):=le_sumTo (f:=fun i=>cL (φ i)) (show N0+k<N by omega);have ab:cS (φ (N0+k))≤sumTo N fun i=>cS (φ i):=le_sumTo (f:=fun i=>cS (φ i)) (show N0+k<N by omega);have ae:v=0∧(sumTo N fun i=>cL (φ i))=0∧(sumTo N fun i=>cS (φ i))=0:=by
  rcases U with e | e | e | e | e
  ·rw [e] at hm;exact⟨hm.2.2.2.2.1,hm.1,hm.2.1⟩
  ·rw [e] at hm;exact⟨hm.2.2.2.2.1,hm.1,hm.2.1⟩
  ·rw [e] at hm;exact⟨hm.2.2.2.2.1,hm.1,hm.2.1⟩
  ·rw [e] at hm;exact⟨hm.2.2.2.2.1,hm.1,hm.2.1⟩
  ·cases K:φ (N0+F.n) with
   | gone d=>rw [K] at hm;exact⟨hm.2.2.2.2.1,hm.1,hm.2.1⟩
   | ph p=>rw [K] at e;exact e.elim
 have hw:=h.work k V;cases K:φ (N0+k) with
 | gone d=>trivial
 | ph p=>
  have ag:1≤cU (φ (N0+k))+cL (φ (N0+k))+cS (φ (N0+k)):=by
   rw [K] at hw ⊢;cases p <;> simp only [Hj] at hw <;> simp [cU,cL,cS]
  exfalso;omega
end
open Go.ConcN (RelBy)
def DT:Nx→Nat
 | .gone d=>d
 | .ph .GA | .ph .FQ | .ph .F5 | .ph .Ec=>1
 | .ph (.Fc _) | .ph (.GB _) | .ph .G6 | .ph .GF | .ph .C4 | .ph .F6 | .ph .EW=>1
 | .ph (.G4 _) | .ph (.GH _) | .ph (.Ga _) | .ph (.FE _)=>1
 | _=>0
def late:Nx→Prop
 | .ph (.Ch _) | .ph .CH | .ph .FR=>False
 | _=>True
def Io(F:Fam)(N0 t0:Nat)(t:Trace)(q:Nat):Prop:=
 t.act? q=some (.mark (.acquire F.sA))∧t.g? q=some (N0+F.n)∧t.heard q∧∀k,k<F.n→∃ρ,t0≤ρ∧ρ<q∧RelBy F.sA t (N0+k) ρ
def J6(F:Fam)(N0 t0:Nat)(t:Trace)(p:Nat):Prop:=
 t.act? p=some (.close F.ch)∧t.g? p=some (N0+F.n)∧t.heard p∧(∃q,q<p∧Io F N0 t0 t q)∧∀x,p<x→t.g? x=some (N0+F.n)→¬t.counts x
structure Dx (F:Fam) (N0 t0 N j:Nat) (c:Bool) (φ:Nat→Nx) (t:Trace):Prop where
 deaf:∀i,i<N→Deaf t i=DT (φ i)
 above:∀i,N≤i→Deaf t i=0
 plain:∀x a b,touchAt t x=some a→Dl a.loc=some b→(b=F.wg∨b=F.ch)→a.kind= .plain→∀i,i<N→(i=0∨N0≤i)→Knows t i x
 said:∀x a b,touchAt t x=some a→Dl a.loc=some b→(b=F.wg∨b=F.ch)→a.kind= .said→Knows t (if c=true then N0+F.n else 0) x
 over:∀x g,t.g? x=some g→g≠0→t.counts x→(∃y,t.g? y=some 0∧HappensBefore t x y)∨(N0≤g∧g<N)
 norel:∀x,t0≤x→t.act? x≠some (.mark (.release F.sA))
 J0:t0≤t.size
 rel:∀k,k<j→late (φ (N0+k))→∃ρ,t0≤ρ∧RelBy F.sA t (N0+k) ρ
 acq:c=true→(φ (N0+F.n)= .ph .Dp∨Ez (φ (N0+F.n)))→∃q,Io F N0 t0 t q
 I5:c=true→Ez (φ (N0+F.n))→∃p,J6 F N0 t0 t p
section
variable {F:Fam}{N0 t0 N j:Nat}{c:Bool}{φ:Nat→Nx}{t u:Trace}
def EvS(F:Fam)(K:Prop)(e:Event):Prop:=
 (∀a,(MemAct.ofEvent e).touch? =some a→(∃b,Dl a.loc=some b∧(b=F.wg∨b=F.ch))∧a.kind≠ .plain∧(a.kind= .said→K))∧e.loc≠ .mark (.release F.sA)
theorem Dx.noRace(h:Dx F N0 t0 N j c φ t)(W:∀said,¬Race said t){i:Nat}(hi:i<N)(Y:i=0∨N0≤i){fn:FuncId}{pos:String}{es:Array Event}
  (Z:∀e∈es,EvS F (i=if c=true then N0+F.n else 0) e):∀said,¬Race said (t++MemOp.ofEvents i fn pos es):=by
 intro said;refine noRace_append (g:=i) (W said) (fun op K=>by obtain⟨e,_,rfl⟩:=mem_ofEvents K;rfl) fun x a O op K d aa ab=>?_;obtain⟨e,he,rfl⟩:=mem_ofEvents K;obtain⟨⟨b,hb,U⟩,ae,hs⟩:=(Z e he).1 d aa;obtain⟨ag,hm,aj,ah⟩:=ab;have V:Dl a.loc=some b:=by rw [ag];exact hb
 rcases ah with q | q | ⟨_,q,ai⟩
 ·exact h.plain x a b O V U q i hi Y
 ·exact absurd q ae
 ·have:=h.said x a b O V U q
  rwa [← hs ai] at this
theorem Io.app{q:Nat}(h:Io F N0 t0 t q)(V:∀k ρ,k<F.n→RelBy F.sA t (N0+k) ρ→RelBy F.sA (t++u) (N0+k) ρ):Io F N0 t0 (t++u) q:=by
 obtain⟨O,W,Y,Z⟩:=h;have K:=lt_of_act? O;exact⟨by rw [act?_old K];exact O,by rw [g?_old K];exact W,(heard_old K).2 Y,fun k U=>let ⟨ρ,a,b,d⟩:=Z k U;⟨ρ,a,b,V k ρ U d⟩⟩
theorem J6.app{p:Nat}(h:J6 F N0 t0 t p)(W:∀k ρ,k<F.n→RelBy F.sA t (N0+k) ρ→RelBy F.sA (t++u) (N0+k) ρ)(Y:∀x,t.size≤x→(t++u).g? x=some (N0+F.n)→¬(t++u).counts x):J6 F N0 t0 (t++u) p:=by
 obtain⟨O,Z,aa,⟨q,ab,ae⟩,ag⟩:=h;have K:=lt_of_act? O;refine⟨by rw [act?_old K];exact O,by rw [g?_old K];exact Z,(heard_old K).2 aa,⟨q,ab,ae.app W⟩,fun x ah U V=>?_⟩;rcases Nat.lt_or_ge x t.size with q | q
 ·exact ag x ah (by rw [← g?_old (u:=u) q];exact U) ((counts_old q).1 V)
 ·exact Y x q U V
theorem O8(h:∀x g,t.g? x=some g→g≠0→t.counts x→(∃y,t.g? y=some 0∧HappensBefore t x y)∨(N0≤g∧g<N))(hu:∀op∈u,op.g=0∨(N0≤op.g∧op.g<N)∨op.act.touch? =none):
  ∀x g,(t++u).g? x=some g→g≠0→(t++u).counts x→(∃y,(t++u).g? y=some 0∧HappensBefore (t++u) x y)∨(N0≤g∧g<N):=by
 intro x g O U V;rcases Nat.lt_or_ge x t.size with q | q
 ·rcases h x g (by rw [← g?_old (u:=u) q];exact O) U ((counts_old q).1 V) with⟨y,K,hb⟩ | hh
  ·have aa:y<t.size:=by
    unfold Trace.g? at K;obtain⟨z,ab,_⟩:=Option.map_eq_some_iff.1 K;exact lt_size_of_getElem? ab
   exact .inl ⟨y,by rw [g?_old aa];exact K,hb_app u hb⟩
  ·exact .inr hh
 ·obtain⟨a,ae,_⟩:=V;obtain⟨op,W,Y⟩:=touch_of ae;have Z:op.g=g:=by simpa [Trace.g?,W] using O
  rcases getElem?_append_cases W with⟨ah,_⟩ | ⟨_,ag⟩
  ·omega
  ·rcases hu op ag with z | z | z
   ·exact absurd (Z▸z) U
   ·exact .inr (Z▸z)
   ·rw [z] at Y;cases Y
theorem ON(h:∀x,t0≤x→t.act? x≠some (.mark (.release F.sA)))(hu:∀op∈u,op.act≠ .mark (.release F.sA)):∀x,t0≤x→(t++u).act? x≠some (.mark (.release F.sA)):=by
 intro x O e;obtain⟨op,U,K⟩:=Option.map_eq_some_iff.1 e;rcases getElem?_append_cases U with⟨_,V⟩ | ⟨_,W⟩
 ·exact h x O (by rw [act?_of V,K])
 ·exact hu op W K
theorem Rb{i g:Nat}(hu:∀op∈u,op.g=i)(K:i≠g):∀x,t.size≤x→(t++u).g? x=some g→¬(t++u).counts x:=by
 intro x Y O;obtain⟨op,U,V⟩:=Option.map_eq_some_iff.1 O;rcases getElem?_append_cases U with⟨Z,_⟩ | ⟨_,W⟩
 ·omega
 ·exact absurd ((hu op W).symm.trans V) K
theorem NR{g:Nat}(hu:∀op∈u,op.g=g→op.act.touch? =none):∀x,t.size≤x→(t++u).g? x=some g→¬(t++u).counts x:=by
 intro x Z U V;obtain⟨a,W,_⟩:=V;obtain⟨op,K,O⟩:=touch_of W;rcases getElem?_append_cases K with⟨aa,_⟩ | ⟨_,Y⟩
 ·omega
 ·rw [hu op Y (by simpa [Trace.g?,K] using U)] at O;cases O
theorem Dx.app(h:Dx F N0 t0 N j c φ t){i:Nat}(hi:i<N){x:Nx}{fn:FuncId}{pos:String}{es:Array Event}(aF:j≤F.n)
  (au:deafBehind (DT (φ i)) es=DT x)
  (ak:∀e∈es,(∀a b,(MemAct.ofEvent e).touch? =some a→Dl a.loc=some b→(b=F.wg∨b=F.ch)→a.kind≠ .plain∧(a.kind= .said→i=if c=true then N0+F.n else 0))∧e.loc≠ .mark (.release F.sA))
  (av:(i=0∨N0≤i)∨∀e∈es,(MemAct.ofEvent e).touch? =none)
  (al:c=true→(φ (N0+F.n)= .ph .Dp∨Ez (φ (N0+F.n)))→∀k,k<F.n→late (φ (N0+k)))
  (aw:∀k,k<F.n→i=N0+k→late (φ i)→∀ρ,RelBy F.sA t i ρ→RelBy F.sA (t++MemOp.ofEvents i fn pos es) i ρ)
  (ay:∀k,k<j→i=N0+k→late x→¬late (φ i)→∃ρ,t0≤ρ∧RelBy F.sA (t++MemOp.ofEvents i fn pos es) i ρ)
  (az:c=true→i=N0+F.n→(x= .ph .Dp∨Ez x)→(∃q,Io F N0 t0 (t++MemOp.ofEvents i fn pos es) q)∨(φ i= .ph .Dp∨Ez (φ i)))
  (aA:c=true→i=N0+F.n→Ez x→(∃p,J6 F N0 t0 (t++MemOp.ofEvents i fn pos es) p)∨(Ez (φ i)∧∀e∈es,(MemAct.ofEvent e).touch? =none)):
  Dx F N0 t0 N j c (upd φ i x) (t++MemOp.ofEvents i fn pos es):=by
 generalize hu:MemOp.ofEvents i fn pos es=u at*;have Y:∀op∈u,op.g=i:=fun op O=>by rw [← hu] at O;obtain⟨e,_,rfl⟩:=mem_ofEvents O;rfl
 have ai:∀op∈u,∃e∈es,op.act=MemAct.ofEvent e:=fun op O=>by rw [← hu] at O;obtain⟨e,he,rfl⟩:=mem_ofEvents O;exact⟨e,he,rfl⟩
 have hold:∀{y a},touchAt (t++u) y=some a→touchAt t y=some a∨(Knows (t++u) i y∧∃e∈es,(MemAct.ofEvent e).touch? =some a):=by
  intro y a U;obtain⟨op,O,aq⟩:=touch_of U;rcases getElem?_append_cases O with⟨aG,aB⟩ | ⟨_,ar⟩
  ·left;rw [touchAt_of aB];exact aq
  ·right;obtain⟨e,he,Z⟩:=ai op ar;exact⟨by have:=knows_own O;rwa [Y op ar] at this,e,he,by rw [← Z];exact aq⟩
 have aj:∀k ρ,k<F.n→late (φ (N0+k))→RelBy F.sA t (N0+k) ρ→RelBy F.sA (t++u) (N0+k) ρ:=by
  intro k ρ K ab W;by_cases e:i=N0+k
  ·have:=aw k K e (e▸ab) ρ (e▸W)
   rwa [e] at this
  ·exact W.appOther Y e
 refine⟨fun aa ae=>?_,fun aa ae=>?_,fun y a b am hb ag K aa ae ah=>?_,fun y a b am hb ag K=>?_,O8 h.over fun op O=>?_,ON h.norel fun op O e=>?_,by simp;have:=h.J0;omega,fun k K ab=>?_,fun V U=>?_,fun V U=>?_⟩
 ·by_cases e:aa=i
  ·subst e;rw [upd_same,← hu,Deaf_own,h.deaf aa hi,au]
  ·rw [upd_ne _ _ e,Deaf_other t (Ne.symm e) u Y];exact h.deaf aa ae
 ·rw [Deaf_other t (by omega) u Y];exact h.above aa ae
 ·rcases hold am with q | ⟨_,e,he,an⟩
  ·exact(h.plain y a b q hb ag K aa ae ah).app _
  ·exact absurd K ((ak e he).1 a b an hb ag).1
 ·rcases hold am with q | ⟨aC,e,he,an⟩
  ·exact(h.said y a b q hb ag K).app _
  ·rw [← ((ak e he).1 a b an hb ag).2 K];exact aC
 ·rw [Y op O];rcases av with(q | q) | q
  ·exact .inl q
  ·exact .inr (.inl ⟨q,hi⟩)
  ·obtain⟨e,he,Z⟩:=ai op O;rw [Z];exact .inr (.inr (q e he))
 ·obtain⟨ev,ao,Z⟩:=ai op O;rw [Z] at e;exact(ak ev ao).2 (by
   obtain⟨loc,wr,aD⟩:=ev
   cases loc with
   | mark m=>simp only [MemAct.ofEvent,MemAct.mark.injEq] at e;rw [e]
   | obj r=>cases wr <;> cases aD <;> simp [MemAct.ofEvent] at e
   | _=>simp [MemAct.ofEvent] at e)
 ·by_cases e:i=N0+k
  ·subst e;rw [upd_same] at ab;by_cases ap:late (φ (N0+k))
   ·obtain⟨ρ,a,b⟩:=h.rel k K ap;exact⟨ρ,a,aj k ρ (by omega) ap b⟩
   ·exact ay k K rfl ab ap
  ·rw [upd_ne _ _ (Ne.symm e)] at ab;obtain⟨ρ,a,b⟩:=h.rel k K ab;exact⟨ρ,a,b.appOther Y e⟩
 ·have old:(φ (N0+F.n)= .ph .Dp∨Ez (φ (N0+F.n)))→∃q,Io F N0 t0 (t++u) q:=by
   intro U;obtain⟨q,aE⟩:=h.acq V U;exact⟨q,aE.app fun k ρ K W=>aj k ρ K (al V U k K) W⟩
  by_cases e:i=N0+F.n
  ·subst e;rw [upd_same] at U;rcases az V rfl U with q | q
   ·exact q
   ·exact old q
  ·rw [upd_ne _ _ (Ne.symm e)] at U;exact old U
 ·by_cases e:i=N0+F.n
  ·subst e;rw [upd_same] at U;rcases aA V rfl U with q | ⟨q,hm⟩
   ·exact q
   ·obtain⟨p,ah⟩:=h.I5 V q;exact⟨p,ah.app (fun k ρ K W=>aj k ρ K (al V (.inr q) k K) W) (NR fun op O _=>by obtain⟨ev,ao,Z⟩:=ai op O;rw [Z];exact hm ev ao)⟩
  ·rw [upd_ne _ _ (Ne.symm e)] at U;obtain⟨p,ah⟩:=h.I5 V U;exact⟨p,ah.app (fun k ρ K W=>aj k ρ K (al V (.inr U) k K) W) (Rb Y e)⟩
end
end Pal
namespace Pal
open Go Go.Conc
open Go.ConcN (upd upd_same upd_ne sumTo sumTo_upd sumTo_upd_out sumTo_congr le_sumTo sumTo_le fork_knows RelBy)
section
variable {F:Fam}{N0 t0 N j:Nat}{c:Bool}{φ:Nat→Nx}{t u:Trace}{v wt sm v' wt' sm':Nat}{cl:Bool}
theorem NX{x:Nx}(h:Ez x):late x:=by
 cases x with
 | gone d=>trivial
 | ph p=>exact h.elim
theorem MO{α:Type}(f:Nat→α)(i:Nat):upd f i (f i)=f:=by
 funext a;unfold upd;split
 ·rename_i e;rw [e]
 ·rfl
theorem BY.Lc(K:BY F N0 N j c φ v wt sm cl)(O:c=true)(h:φ (N0+F.n)= .ph .Dp∨Ez (φ (N0+F.n))):∀k,k<F.n→late (φ (N0+k)):=fun k U=>
 NX (K.MY O (h.elim (fun e=> .inr (.inr (.inr (.inl e)))) fun e=> .inr (.inr (.inr (.inr e)))) k (by rw [K.cj O];exact U))
theorem SC{m:Mark}(K:∀a,m≠ .read a)(O:∀a,m≠ .write a):(MemAct.ofEvent (Fam.D4 m)).touch? =none:=by
 cases m <;> first | rfl | exact absurd rfl (K _) | exact absurd rfl (O _)
theorem QH(p:Ph){es:Array Event}{nx:Nx}(K:F.act p v wt sm=some ((v',wt',sm'),es,nx)):
  (∀e∈es,EvS F (p= .GF∨∃j,p= .Ga j) e)∧deafBehind (DT (.ph p)) es=DT nx∧(∀e∈es,∀B,F.wg<B→(MemAct.ofEvent e).low B):=by
 have al:∀b w,(MemAct.ofEvent ⟨.cell F.sA,w,b⟩).touch? =some ⟨.cell F.sA,w,if b then .atomic else .plain⟩:=by intro b w;cases b <;> cases w <;> rfl
 have Z:∀(a:Addr) w (T:Prop),a.block=F.wg→EvS F T ⟨.cell a,w,true⟩:=by
  intro a w T hb;refine⟨fun x U=>?_,by simp⟩;have:x=⟨.cell a,w,.atomic⟩:=by cases w <;> (simp [MemAct.ofEvent,MemAct.touch?] at U;exact U.symm)
  subst this;exact⟨⟨F.wg,by simp [Dl,hb],.inl rfl⟩,by simp,by simp⟩
 have aa:∀(a:Addr) w B,a.block=F.wg→F.wg<B→(MemAct.ofEvent ⟨.cell a,w,true⟩).low B:=by
  intro a w B hb O;cases w <;> simp [MemAct.ofEvent,MemAct.low,Loc.low,hb,O]
 have Y:∀(m:Mark) (T:Prop),(∀a,m≠ .read a)→(∀a,m≠ .write a)→(∀a,m≠ .release a)→EvS F T (Fam.D4 m):=by
  intro m T ai aj ak;exact⟨fun x U=>(by rw [SC ai aj] at U;cases U),fun e=>ak _ (Loc.mark.inj e)⟩
 have ab:F.mA.block=F.wg:=rfl;have W:F.sA.block=F.wg:=rfl;have Eh:∀(T:Prop),∀e∈semEvents F.mA,EvS F T e:=by
  intro T e he;simp only [semEvents,List.mem_toArray,List.mem_cons,List.not_mem_nil,or_false] at he;rcases he with rfl | rfl | rfl | rfl
  ·exact Y .disable T (by simp) (by simp) (by simp)
  ·exact Z _ _ _ ab
  ·exact Z _ _ _ ab
  ·exact Y .enable T (by simp) (by simp) (by simp)
 have ah:∀e∈semEvents F.mA,∀B,F.wg<B→(MemAct.ofEvent e).low B:=by
  intro e he B O;simp only [semEvents,List.mem_toArray,List.mem_cons,List.not_mem_nil,or_false] at he;rcases he with rfl | rfl | rfl | rfl
  ·trivial
  ·exact aa _ _ _ ab O
  ·exact aa _ _ _ ab O
  ·trivial
 have ae:∀(T:Prop),∀e∈(#[Fam.ED F.sA,Fam.HW F.sA]:Array Event),EvS F T e:=by
  intro T e he;simp only [List.mem_toArray,List.mem_cons,List.not_mem_nil,or_false] at he;rcases he with rfl | rfl <;> exact Z _ _ _ W
 have ag:∀e∈(#[Fam.ED F.sA,Fam.HW F.sA]:Array Event),∀B,F.wg<B→(MemAct.ofEvent e).low B:=by
  intro e he B O;simp only [List.mem_toArray,List.mem_cons,List.not_mem_nil,or_false] at he;rcases he with rfl | rfl <;> exact aa _ _ _ W O
 have one:∀{e:Event} {T:Prop},EvS F T e→∀x∈(#[e]:Array Event),EvS F T x:=by
  intro e T h x U;simp at U;subst U;exact h
 have V:∀{e:Event},(∀B,F.wg<B→(MemAct.ofEvent e).low B)→∀x∈(#[e]:Array Event),∀B,F.wg<B→(MemAct.ofEvent x).low B:=by
  intro e h x U;simp at U;subst U;exact h
 cases p <;> simp only [Fam.act] at K <;> (try (cases K;done))
 ·cases K;exact⟨one (Y _ _ (by simp) (by simp) (by simp)),rfl,V fun B O=>O⟩
 ·cases K;exact⟨one (Y _ _ (by simp) (by simp) (by simp)),rfl,V fun B O=>trivial⟩
 ·split at K
  ·cases K;exact⟨ae _,by split <;> rfl,ag⟩
  ·cases K
 ·split at K
  ·cases K;exact⟨one (Z _ _ _ W),rfl,V fun B O=>aa _ _ _ W O⟩
  ·cases K
 ·split at K
  ·cases K;exact⟨one (Z _ _ _ W),rfl,V fun B O=>aa _ _ _ W O⟩
  ·cases K
 ·split at K
  ·cases K;exact⟨Eh _,rfl,ah⟩
  ·cases K
 ·cases K;exact⟨one (Y _ _ (by simp) (by simp) (by simp)),rfl,V fun B O=>trivial⟩
 ·split at K
  ·cases K;exact⟨one (Z _ _ _ W),by split <;> rfl,V fun B O=>aa _ _ _ W O⟩
  ·cases K
 ·split at K
  ·split at K
   ·cases K;exact⟨ae _,rfl,ag⟩
   ·cases K;exact⟨one (Z _ _ _ W),rfl,V fun B O=>aa _ _ _ W O⟩
  ·cases K
 ·cases K;refine⟨one ⟨fun x U=>?_,by simp [Fam.D4]⟩,rfl,V fun B O=>O⟩;simp [Fam.D4,MemAct.ofEvent,MemAct.touch?] at U;subst U;exact⟨⟨F.wg,rfl,.inl rfl⟩,by simp,fun _=> .inl rfl⟩
 ·split at K
  ·cases K;exact⟨Eh _,rfl,ah⟩
  ·cases K
 ·split at K
  ·cases K;exact⟨one (Z _ _ _ W),rfl,V fun B O=>aa _ _ _ W O⟩
  ·cases K
 ·cases K;exact⟨one (Y _ _ (by simp) (by simp) (by simp)),rfl,V fun B O=>trivial⟩
 ·cases K;exact⟨one (Y _ _ (by simp) (by simp) (by simp)),rfl,V fun B O=>O⟩
 ·cases K;exact⟨one (Y _ _ (by simp) (by simp) (by simp)),rfl,V fun B O=>trivial⟩
 ·split at K
  ·cases K;exact⟨ae _,by split <;> rfl,ag⟩
  ·cases K
 ·cases K;refine⟨one ⟨fun x U=>?_,by simp [Fam.D4]⟩,rfl,V fun B O=>O⟩;simp [Fam.D4,MemAct.ofEvent,MemAct.touch?] at U;subst U;exact⟨⟨F.wg,rfl,.inl rfl⟩,by simp,fun _=> .inr ⟨_,rfl⟩⟩
 ·cases K;exact⟨one (Y _ _ (by simp) (by simp) (by simp)),rfl,V fun B O=>trivial⟩
 all_goals
  cases K;exact⟨by simp,rfl,by simp⟩
theorem Tu(p:Ph){es:Array Event}{nx:Nx}(K:F.act p v wt sm=some ((v',wt',sm'),es,nx)){k:Nat}(hw:Hj F k (.ph p))(O:late (.ph p)):
  ∀m e,es[m]? =some e→(MemAct.ofEvent e).touch? =none∨((∃ad wr,e=⟨.cell ad,wr,true⟩)∧0<deafBehind (DT (.ph p)) (es.extract 0 m)):=by
 have two:∀m e,(#[Fam.ED F.sA,Fam.HW F.sA]:Array Event)[m]? =some e→(∃ad wr,e=⟨.cell ad,wr,true⟩)∧0<deafBehind 1 ((#[Fam.ED F.sA,Fam.HW F.sA]:Array Event).extract 0 m):=by
  intro m e h
  match m with
  | 0=>simp at h;subst h;exact⟨⟨_,_,rfl⟩,by simp [deafBehind]⟩
  | 1=>simp at h;subst h;exact⟨⟨_,_,rfl⟩,by simp [deafBehind,Fam.ED]⟩
  | m+2=>simp at h
 cases p <;> simp only [Hj] at hw <;> (try exact hw.elim) <;> simp only [late] at O <;> (try exact O.elim) <;> simp only [Fam.act] at K <;> (try (cases K;done))
 ·cases K;intro m e h
  match m with
  | 0=>simp at h;subst h;exact .inl rfl
  | m+1=>simp at h
 ·split at K
  ·cases K;exact fun m e h=> .inr (two m e h)
  ·cases K
 ·split at K
  ·cases K;intro m e h
   match m with
   | 0=>simp at h;subst h;exact .inr ⟨⟨_,_,rfl⟩,by simp [deafBehind,DT]⟩
   | m+1=>simp at h
  ·cases K
 ·split at K
  ·cases K;intro m e h
   match m with
   | 0=>simp at h;subst h;exact .inr ⟨⟨_,_,rfl⟩,by simp [deafBehind,DT]⟩
   | m+1=>simp at h
  ·cases K
 ·split at K
  ·cases K;intro m e h
   match m with
   | 0=>simp [semEvents] at h;subst h;exact .inl rfl
   | 1=>simp [semEvents] at h;subst h;exact .inr ⟨⟨_,_,rfl⟩,by simp [deafBehind,DT,semEvents]⟩
   | 2=>simp [semEvents] at h;subst h;exact .inr ⟨⟨_,_,rfl⟩,by simp [deafBehind,DT,semEvents]⟩
   | 3=>simp [semEvents] at h;subst h;exact .inl rfl
   | m+4=>simp [semEvents] at h
  ·cases K
theorem Dx.act(h:Dx F N0 t0 N j c φ t)(O:BY F N0 N j c φ v wt sm cl){i:Nat}(hi:i<N){p:Ph}(U:φ i= .ph p){es:Array Event}{nx:Nx}(K:F.act p v wt sm=some ((v',wt',sm'),es,nx))(fn:FuncId)(pos:String):
  Dx F N0 t0 N j c (upd φ i nx) (t++MemOp.ofEvents i fn pos es)∧(∀e∈es,EvS F (i=if c=true then N0+F.n else 0) e)∧(i=0∨N0≤i):=by
 obtain⟨ag,ak,_⟩:=QH p K;have av:=O.size;have al:=O.jn;have am:(p= .GF∨∃j,p= .Ga j)→i=if c=true then N0+F.n else 0:=by
  rintro(rfl | ⟨aw,rfl⟩)
  ·rcases O.EU hi with rfl | ⟨a,b⟩ | ⟨k,W,rfl⟩ | ⟨V,rfl⟩
   ·obtain⟨q,aa,hm⟩:=O.main;rw [U] at aa;cases aa;exact hm.elim
   ·have:=O.old i a b;rw [U] at this;exact this.elim
   ·have:=O.work k W;rw [U] at this;exact this.elim
   ·rw [if_pos V]
  ·rcases O.EU hi with rfl | ⟨a,b⟩ | ⟨k,W,rfl⟩ | ⟨V,rfl⟩
   ·obtain⟨q,aa,hm⟩:=O.main;rw [U] at aa;cases aa;obtain⟨_,_,rfl⟩:=hm;rfl
   ·have:=O.old i a b;rw [U] at this;exact this.elim
   ·have:=O.work k W;rw [U] at this;exact this.elim
   ·have:=O.cls V;rw [U] at this;exact this.elim
 have ah:∀e∈es,EvS F (i=if c=true then N0+F.n else 0) e:=fun e he=>⟨fun a ab=>let ⟨x,y,z⟩:=(ag e he).1 a ab;⟨x,y,fun q=>am (z q)⟩,(ag e he).2⟩
 have ai:i=0∨N0≤i:=by
  rcases O.EU hi with rfl | ⟨a,b⟩ | ⟨k,W,rfl⟩ | ⟨V,rfl⟩
  ·exact .inl rfl
  ·have:=O.old i a b;rw [U] at this;exact this.elim
  ·exact .inr (by omega)
  ·exact .inr (by omega)
 refine⟨h.app hi al (by rw [U];exact ak) (fun e he=>⟨fun a b ab hb ay=>⟨((ah e he).1 a ab).2.1,((ah e he).1 a ab).2.2⟩,(ag e he).2⟩) (.inl ai) (fun V Y=>O.Lc V Y) (fun k W e ae ρ an=>?_) (fun k W e ae aj=>?_) (fun V e Y=>?_) (fun V e Y=>?_),ah,ai⟩
 ·subst e;rw [U] at ae;refine an.appOwn fn pos es fun m e he=>?_;have Z:k<j∨(c=true∧F.n=k):=by
   rcases O.EU hi with q | ⟨a,b⟩ | ⟨k',az,q⟩ | ⟨V,q⟩
   ·have:=O.pos;omega
   ·omega
   ·left;omega
   ·omega
  rcases Z with Z | ⟨_,q⟩
  ·have hw:=O.work k Z;rw [U] at hw;rw [h.deaf _ hi,U];exact Tu p K hw ae m e he
  ·omega
 ·subst e;rw [U] at aj;have hw:=O.work k W;rw [U] at hw;have ao:p= .FR:=by
   cases p <;> simp only [Hj] at hw <;> (try exact hw.elim) <;> simp [late] at aj
   ·simp [Fam.act] at K
   ·rfl
   ·simp only [Fam.act] at K;cases K;exact ae.elim
  subst ao;simp only [Fam.act] at K;cases K;exact⟨t.size,h.J0,.new (by rw [h.deaf _ hi,U];rfl) fn pos⟩
 ·subst e;left;have hw:=O.cls V;rw [U] at hw;have ap:p= .Gd∧nx= .ph .Dp:=by
   rcases Y with rfl | Y
   ·cases p <;> simp only [GZ] at hw <;> (try exact hw.elim) <;> simp only [Fam.act] at K <;> (try (cases K;done))
    ·split at K
     ·split at K <;> cases K
     ·cases K
    ·split at K
     ·split at K <;> cases K
     ·cases K
    ·split at K <;> cases K
    ·split at K <;> cases K
    ·exact⟨rfl,rfl⟩
   ·cases nx with
    | ph q=>exact Y.elim
    | gone d=>
     exfalso;cases p <;> simp only [GZ] at hw <;> (try exact hw.elim) <;> simp only [Fam.act] at K <;> (try (cases K;done))
     ·split at K
      ·split at K <;> cases K
      ·cases K
     ·split at K
      ·split at K <;> cases K
      ·cases K
     ·split at K <;> cases K
     ·split at K <;> cases K
  obtain⟨rfl,rfl⟩:=ap;simp only [Fam.act] at K;cases K;have aq:MemOp.ofEvents (N0+F.n) fn pos #[Fam.D4 (.acquire F.sA)]= #[{g:=N0+F.n,fn,pos,act:= .mark (.acquire F.sA)}]:=by rw [ofEvents_eq];simp [Fam.D4,MemAct.ofEvent]
  rw [aq];have ar:(t++ #[({g:=N0+F.n,fn,pos,act:= .mark (.acquire F.sA)}:MemOp)])[t.size]? =some {g:=N0+F.n,fn,pos,act:= .mark (.acquire F.sA)}:=by simp
  refine⟨t.size,by rw [act?_of ar],by simp [Trace.g?],⟨N0+F.n,by simp [Trace.g?],by rw [deaf_old (Nat.le_refl _)];have:=h.deaf _ hi;rw [U] at this;exact this⟩,fun k W=>?_⟩;have au:=O.MY V (.inr (.inr (.inl U)));have Z:k<j:=by rw [O.cj V];exact W
  obtain⟨ρ,a,b⟩:=h.rel k Z (NX (au k Z));exact⟨ρ,a,lt_of_act? b.act,b.appOther (g:=N0+F.n) (by simp) (by omega)⟩
 ·subst e;exfalso;have hw:=O.cls V;rw [U] at hw;cases nx with
  | ph q=>exact Y.elim
  | gone d=>
   cases p <;> simp only [GZ] at hw <;> (try exact hw.elim) <;> simp only [Fam.act] at K <;> (try (cases K;done))
   ·split at K
    ·split at K <;> cases K
    ·cases K
   ·split at K
    ·split at K <;> cases K
    ·cases K
   ·split at K <;> cases K
   ·split at K <;> cases K
theorem Dx.CU(h:Dx F N0 t0 N j c φ t)(aq:BY F N0 N j c φ v wt sm cl)(hu:∀op∈u,op.act.touch? =none∧∀m,op.act≠ .mark m):Dx F N0 t0 N j c φ (t++u):=by
 have ag:∀g,Deaf (t++u) g=Deaf t g:=by
  intro g;obtain⟨l⟩:=u;rw [Deaf_append]
  induction l generalizing t with
  | nil=>rfl
  | cons y l ar=>
   have U:=(hu y (by simp)).2;have ai:deafStep g (Deaf t g) y=Deaf t g:=by
    unfold deafStep;split <;> first | (rename_i e;exact absurd e (U _)) | rfl
   rw [List.foldl_cons,ai];have key:∀(l:List MemOp) (d:Nat),(∀op∈l,∀m,op.act≠ .mark m)→l.foldl (deafStep g) d=d:=by
    intro l
    induction l with
    | nil=>intro d _;rfl
    | cons z l aj=>
     intro d Y;have ak:=Y z (by simp);have al:deafStep g d z=d:=by
      unfold deafStep;split <;> first | (rename_i e;exact absurd e (ak _)) | rfl
     rw [List.foldl_cons,al];exact aj d fun op K=>Y op (by simp [K])
   exact key l _ fun op K=>(hu op (by simp at K ⊢;exact .inr K)).2
 have hold:∀{y a},touchAt (t++u) y=some a→touchAt t y=some a:=by
  intro y a O;obtain⟨op,K,Z⟩:=touch_of O;rcases getElem?_append_cases K with⟨au,am⟩ | ⟨_,an⟩
  ·rw [touchAt_of am];exact Z
  ·rw [(hu op an).1] at Z;cases Z
 have ah:∀g x,t.size≤x→(t++u).g? x=some g→¬(t++u).counts x:=fun g=>NR fun op K _=>(hu op K).1;have V:∀g ρ,RelBy F.sA t g ρ→RelBy F.sA (t++u) g ρ:=fun g ρ V=>V.app fun x O ao=>ah g x O ao;refine⟨fun i hi=>by rw [ag];exact h.deaf i hi,fun i hi=>by rw [ag];exact h.above i hi,fun y a b U hb aa W i hi ab=>(h.plain y a b (hold U) hb aa W i hi ab).app _,fun y a b U hb aa W=>(h.said y a b (hold U) hb aa W).app _,
  O8 h.over fun op K=> .inr (.inr (hu op K).1),ON h.norel fun op K=>(hu op K).2 _,by simp;have:=h.J0;omega,fun k W Y=>let ⟨ρ,a,b⟩:=h.rel k W Y;⟨ρ,a,V _ _ b⟩,
  fun ae O=>let ⟨q,ap⟩:=h.acq ae O;⟨q,ap.app fun k ρ _=>V _ ρ⟩,fun ae O=>let ⟨p,ab⟩:=h.I5 ae O;⟨p,ab.app (fun k ρ _=>V _ ρ) (ah _)⟩⟩
theorem Dx.UB(h:Dx F N0 t0 N j c φ t){U:Nat→Nx}(Y:∀i,i<N→DT (U i)=DT (φ i))(Z:∀k,k<j→late (U (N0+k))→late (φ (N0+k)))(V:c=true→U (N0+F.n)=φ (N0+F.n)):Dx F N0 t0 N j c U t:=
 ⟨fun i hi=>by rw [Y i hi];exact h.deaf i hi,h.above,h.plain,h.said,h.over,h.norel,h.J0,fun k W K=>h.rel k W (Z k W K),fun O K=>h.acq O (by rwa [V O] at K),fun O K=>h.I5 O (by rwa [V O] at K)⟩
theorem Dx.spawn(h:Dx F N0 t0 N j c φ t)(Z:BY F N0 N j c φ v wt sm cl)(al:c=false){W:Nat→Nx}{ae:Nat}{ag:Bool}(am:∀i,i<N→DT (W i)=DT (φ i))(an:DT (W N)=0)(ao:DT (φ 0)=0)
  (ap:∀k,k<ae→late (W (N0+k))→k<j∧late (φ (N0+k))) (aa:ag=true→N0+F.n=N∧W (N0+F.n)= .ph .CJ)
  {x y:MemOp} (K:x.g=0∧x.act= .go N) (ah:y.g=N∧y.act= .start):Dx F N0 t0 (N+1) ae ag W (t++ #[x,y]):=by
 have ai:0<N:=by have:=Z.size;have:=Z.pos;omega
 have hu:∀op∈(#[x,y]:Array MemOp),op.act.touch? =none∧∀m,op.act≠ .mark m:=by
  intro op aj;simp only [List.mem_toArray,List.mem_cons,List.not_mem_nil,or_false] at aj;rcases aj with rfl | rfl
  ·rw [K.2];exact⟨rfl,by simp⟩
  ·rw [ah.2];exact⟨rfl,by simp⟩
 have O:=h.CU Z hu;have ak:∀z,Knows t 0 z→Knows (t++ #[x,y]) N z:=fun z U=>fork_knows K ah (by rw [h.deaf 0 ai];exact ao) (h.above N (Nat.le_refl _)) U;have hold:∀{z a},touchAt (t++ #[x,y]) z=some a→touchAt t z=some a:=by
  intro z a U;obtain⟨op,aq,ab⟩:=touch_of U;rcases getElem?_append_cases aq with⟨aA,ar⟩ | ⟨_,au⟩
  ·rw [touchAt_of ar];exact ab
  ·rw [(hu op au).1] at ab;cases ab
 refine⟨fun i hi=>?_,fun i hi=>O.above i (by omega),fun z a b U hb Y V i hi av=>?_,fun z a b U hb Y V=>?_,fun z g aw ay az=>?_,O.norel,O.J0,fun k V K=>?_,fun e K=>?_,fun e K=>?_⟩
 ·rcases Nat.lt_or_ge i N with q | q
  ·rw [am i q];exact O.deaf i q
  ·obtain rfl:i=N:=by omega
   rw [an];exact O.above i (Nat.le_refl _)
 ·rcases Nat.lt_or_ge i N with q | q
  ·exact O.plain z a b U hb Y V i q av
  ·obtain rfl:i=N:=by omega
   exact ak z (h.plain z a b (hold U) hb Y V 0 ai (.inl rfl))
 ·have:=h.said z a b (hold U) hb Y V;rw [al] at this;simp only [Bool.false_eq_true,if_false] at this;split
  ·rename_i e;rw [(aa e).1];exact ak z this
  ·exact this.app _
 ·rcases O.over z g aw ay az with q | q
  ·exact .inl q
  ·exact .inr ⟨q.1,by omega⟩
 ·obtain⟨a,b⟩:=ap k V K;exact O.rel k a b
 ·have:=(aa e).2;rw [this] at K;rcases K with q | q
  ·cases q
  ·exact q.elim
 ·have:=(aa e).2;rw [this] at K;exact K.elim
end
end Pal
namespace Pal
open Go Go.Conc
open Go.ConcN (upd upd_same upd_ne sumTo sumTo_upd sumTo_upd_out sumTo_congr le_sumTo sumTo_le fork_knows RelBy)
def Dn(N:Nat)(K r:Nat→Rk):Prop:=∃i,i<N∧Rk.sub (K i) (r i)∧∀j,j≠i→K j=r j
theorem Dn.wf:∀N,WellFounded (Dn N)
 | 0=>⟨fun _=>⟨_,fun _ ⟨_,h,_⟩=>by omega⟩⟩
 | N+1=>⟨by
  have key:∀x:Rk,∀r:Nat→Rk,r N=x→Acc (Dn (N+1)) r:=by
   intro x
   induction x using Rk.wf.induction with
   | _ x V=>
    intro r
    induction r using (Dn.wf N).induction with
    | _ r W=>
     intro e
     refine⟨_,fun K ⟨i,hi,hs,O⟩=>?_⟩
     by_cases U:i=N
     ·subst U;exact V (K i) (by rw [← e];exact hs) K rfl
     ·exact W K ⟨i,by omega,hs,O⟩ (by rw [O N (Ne.symm U),e])
  exact fun r=>key _ r rfl⟩
def chain:Nat→Rk
 | 0=> .leaf
 | n+1=> .node fun _=>chain n
theorem SA(n:Nat)(w:World):Rk.sub (chain n) (chain (n+1)):=⟨_,w,rfl,rfl⟩
def Mu:=Nat×(Nat×((Nat→Rk)×Nat))
def Mu.lt(a b:Mu):Prop:=a.1<b.1∨(a.1=b.1∧a.2.1=b.2.1∧(Dn b.2.1 a.2.2.1 b.2.2.1∨(a.2.2.1=b.2.2.1∧a.2.2.2<b.2.2.2)))
theorem Mu.wf:WellFounded Mu.lt:=⟨by
 have key:∀(A:Nat) (N:Nat) (r:Nat→Rk) (B:Nat),Acc Mu.lt (A,N,r,B):=by
  intro A
  induction A using Nat.strongRecOn with
  | _ A Y=>
   intro N r
   induction r using (Dn.wf N).induction with
   | _ r Z=>
    intro B
    induction B using Nat.strongRecOn with
    | _ B aa=>
     refine⟨_,fun⟨ab,ae,U,B'⟩ h=>?_⟩
     rcases h with h | ⟨K,O,h | ⟨V,W⟩⟩
     ·exact Y ab h ae U B'
     ·simp only at K O h;subst K O;exact Z U h B'
     ·simp only at K O V W;subst K O V;exact aa B' W
 exact fun⟨A,N,r,B⟩=>key A N r B⟩
def wt(n:Nat):Nx→Nat
 | .gone _=>0
 | .ph p=>match p with
  | .Ch _=>10 | .CH=>9 | .FR=>8 | .Hn=>7 | .GA=>6 | .FQ=>5 | .F5=>4 | .Ec=>3
  | .CJ=>3*n+25 | .Fc m=>3*m+20 | .GB m=>3*m+19 | .G6=>14 | .GF=>13 | .C4=>12 | .F6=>11 | .EW=>10 | .G2=>9 | .Gd=>8 | .Dp=>7
  | .ER j=>5*n+60+20*(n - j) | .G4 j=>5*n+59+20*(n - j) | .GH j=>5*n+58+20*(n - j) | .Ga j=>5*n+57+20*(n - j) | .FE j=>5*n+56+20*(n - j) | .EE j=>5*n+55+20*(n - j)
  | .Fi=>5*n+60 | .BX _ _=>2
theorem Qm{F:Fam}{p:Ph}{v w sm v' w' sm':Nat}{es:Array Event}{nx:Nx}(h:F.act p v w sm=some ((v',w',sm'),es,nx)):wt F.n nx<wt F.n (.ph p):=by
 cases p <;> simp only [Fam.act] at h <;> (try (cases h;done))
 ·cases h;simp [wt]
 ·cases h;simp [wt]
 ·split at h
  ·cases h;split <;> simp [wt]
  ·cases h
 ·split at h
  ·cases h;simp [wt]
  ·cases h
 ·split at h
  ·cases h;simp [wt]
  ·cases h
 ·split at h
  ·cases h;simp [wt]
  ·cases h
 ·cases h;simp [wt]
 ·split at h
  ·cases h;split <;> simp [wt] <;> omega
  ·cases h
 ·split at h
  ·split at h <;> cases h <;> simp [wt] <;> omega
  ·cases h
 ·cases h;simp [wt]
 ·split at h
  ·cases h;simp [wt]
  ·cases h
 ·split at h
  ·cases h;simp [wt]
  ·cases h
 ·cases h;simp [wt]
 ·cases h;simp [wt]
 ·cases h;simp [wt]
 ·split at h
  ·cases h;split <;> simp [wt]
  ·cases h
 ·cases h;simp [wt]
 ·cases h;simp [wt]
 all_goals cases h;simp [wt]
inductive Df (P:Program) (F:Fam) (main:Bool):Nx→Rk→Bool→Gs_
 | walk {p:Ph} {r:Rk} {g:Goroutine} {s:St}:main=Fam.Db p→(Fam.DI p=true→s= .quiet)→Jr P main (JQ (Stop P F p)) r g s→Df P F main (.ph p) r true g s
 | again {K:List Nat} {vs:Lv_} {r:Rk} {g:Goroutine} {s:St} {z:Value}:main=true→Stop P F (.BX K vs) g s→Df P F main (.ph (.BX K vs)) r true {parked g #[rcase F.ch z] (.recv true) with status:= .running} s
 | Ff {K:List Nat} {vs:Lv_} {r:Rk} {g:Goroutine} {s:St} {z:Value}:main=true→Stop P F (.BX K vs) g s→Df P F main (.ph (.BX K vs)) r false (parked g #[rcase F.ch z] (.recv true)) s
 | FA {k:Nat} {r:Rk} {g:Goroutine} {s:St} {v z:Value}:main=false→F.msg k v s.E→s.q=false→Way P false (Stop P F .CH) (served g undef) s→Df P F main (.ph (.Ch k)) r false (parked g #[scase F.ch v z] .send) s
 | blk {r:Rk} {g:Goroutine} {s:St}:main=false→Stop P F .C4 g s→Df P F main (.ph .C4) r false {g with status:= .blocked} s
 | gone {q d:Nat} {g:Goroutine}:main=false→QuitsD P q d g→Df P F main (.gone d) (chain q) true g .quiet
section
variable {P:Program}{F:Fam}{main:Bool}
theorem Jr.running{p:Ph}{r:Rk}{g:Goroutine}{s:St}(h:Jr P main (JQ (Stop P F p)) r g s):g.status= .running:=by
 cases r with
 | leaf=>obtain⟨s₀,_,hs⟩:=h;exact hs.law.run
 | node f=>
  rcases h with⟨s₀,_,hs⟩ | ⟨K,_⟩
  ·exact hs.law.run
  ·exact K
theorem Jr.at_{Q:GP}{r:Rk}{g:Goroutine}{s:St}(h:Q g s):Jr P main Q r g s:=by
 cases r with
 | leaf=>exact h
 | node f=>exact .inl h
theorem Df.awake{x:Nx}{r:Rk}{b:Bool}{g:Goroutine}{s:St}(h:Df P F main x r b g s):Go.Conc.awake g:=by
 cases h with
 | walk _ _ K=>exact awake_of (.inl K.running)
 | again _ _=>exact awake_of (.inl rfl)
 | Ff _ _=>exact awake_of (.inr (.inl rfl))
 | FA _ _ _ _=>exact awake_of (.inr (.inl rfl))
 | blk _ _=>exact awake_of (.inr (.inl rfl))
 | gone _ O=>exact awake_of (O.status.elim .inl fun x=> .inr (.inr x))
theorem Rs{g:Goroutine}(h:g.status= .running):{({g with status:= .blocked}:Goroutine) with status:= .running}=g:=by
 obtain⟨a,b,c,d,e⟩:=g;simp only at h;subst h;rfl
theorem Df.woken{x:Nx}{r:Rk}{b:Bool}{o:Goroutine}{s:St}(h:Df P F main x r b o s){g g':Goroutine}{w':World}{cl:Bool}{k:Nat}(W:F.ChanAt w' cl k)(ai:cl=true→∀k,x≠ .ph (.Ch k)):
  ∃Y,Df P F main x r Y (Go.Conc.woken P g g' w' o) s∧(b=true→Y=true)∧(mayWake P g=true→g'.status= .running→(x= .ph .C4∨cl=true)→Y=true):=by
 have hw:∀(o:Goroutine),mayWake P g=true→g'.status= .running→Go.Conc.woken P g g' w' o=o.again w':=by
  intro o K U;unfold Go.Conc.woken;rw [if_pos (by simp [K,U])]
 have V:∀(o:Goroutine),Go.Conc.woken P g g' w' o=o.again w'∨Go.Conc.woken P g g' w' o=o:=by
  intro o;unfold Go.Conc.woken;split
  ·exact .inl rfl
  ·exact .inr rfl
 cases h with
 | walk K U Z=>exact⟨true,by rw [woken_run Z.running];exact .walk K U Z,fun _=>rfl,fun _ _ _=>rfl⟩
 | again K hs=>exact⟨true,by rw [woken_run rfl];exact .again K hs,fun _=>rfl,fun _ _ _=>rfl⟩
 | @Ff ak vs _ go _ z K hs=>
  cases cl with
  | false=>
   have:=again_recv_open (g:=go) (z:=z) (sh:= .recv true) (w:=w') W;rcases V (parked go #[rcase F.ch z] (.recv true)) with e | e
   ·exact⟨false,by rw [e,this];exact .Ff K hs,fun e=>e,fun _ _ h=>by simp at h⟩
   ·exact⟨false,by rw [e];exact .Ff K hs,fun e=>e,fun _ _ h=>by simp at h⟩
  | true=>
   have:=again_recv_closed (g:=go) (z:=z) (sh:= .recv true) (w:=w') W;by_cases O:mayWake P g=true∧g'.status= .running
   ·exact⟨true,by rw [hw _ O.1 O.2,this];exact .again K hs,fun e=>rfl,fun _ _ _=>rfl⟩
   ·rcases V (parked go #[rcase F.ch z] (.recv true)) with e | e
    ·exact⟨true,by rw [e,this];exact .again K hs,fun _=>rfl,fun a b=>absurd ⟨a,b⟩ O⟩
    ·exact⟨false,by rw [e];exact .Ff K hs,fun e=>e,fun a b=>absurd ⟨a,b⟩ O⟩
 | @FA k' _ go _ v z K U aa ab=>
  cases cl with
  | true=>exact absurd rfl (ai rfl k')
  | false=>
   have:=again_send_open (g:=go) (v:=v) (z:=z) (sh:= .send) (w:=w') W;rcases V (parked go #[scase F.ch v z] .send) with e | e
   ·exact⟨false,by rw [e,this];exact .FA K U aa ab,fun e=>e,fun _ _ h=>by simp at h⟩
   ·exact⟨false,by rw [e];exact .FA K U aa ab,fun e=>e,fun _ _ h=>by simp at h⟩
 | @blk _ go _ K hs=>
  have ae:({go with status:= .blocked}:Goroutine).again w'=go:=by
   have:=hs.law.offers;have aj:({go with status:= .blocked}:Goroutine).again w'={({go with status:= .blocked}:Goroutine) with status:= .running}:=by simp [Goroutine.again,this]
   rw [aj];exact Rs hs.law.run
  have ag:Df P F main (.ph .C4) r true go s:= .walk (p:= .C4) (by rw [K];rfl) (by simp [Fam.DI]) (Jr.at_ ⟨s,.refl _,hs⟩);by_cases O:mayWake P g=true∧g'.status= .running
  ·exact⟨true,by rw [hw _ O.1 O.2,ae];exact ag,fun _=>rfl,fun _ _ _=>rfl⟩
  ·rcases V ({go with status:= .blocked}:Goroutine) with e | e
   ·exact⟨true,by rw [e,ae];exact ag,fun _=>rfl,fun a b=>absurd ⟨a,b⟩ O⟩
   ·exact⟨false,by rw [e];exact .blk K hs,fun e=>e,fun a b=>absurd ⟨a,b⟩ O⟩
 | gone K ah=>exact⟨true,by rw [woken_quitsD ah];exact .gone K ah,fun _=>rfl,fun _ _ _=>rfl⟩
end
structure Base where
 N0:Nat
 t0:Nat
 E0:LH
 w0:World
structure Inv (P:Program) (F:Fam) (B:Base) (gs:Array Goroutine) (w:World) (t:Trace) (φ:Nat→Nx) (r:Nat→Rk) (bt:Nat→Bool) (S:Nat→St) (Sh:Nat→Prop) (j:Nat) (c:Bool) (v wt sm:Nat) (cl:Bool) (k:Nat):Prop where
 Bo:BY F B.N0 gs.size j c φ v wt sm cl
 Ee:Dx F B.N0 B.t0 gs.size j c φ t
 Eg:∀i g,gs[i]? =some g→Df P F (i==0) (φ i) (r i) (bt i) g (S i)
 Cu:BZ t w gs.size S Sh
 Hq:Sh F.wg
 FT:Sh F.ch
 ne:F.wg≠F.ch
 wg:F.WG w v wt sm
 GG:F.ChanAt w cl k
 L5:bt 0=false→cl=false∧∀i k',i<gs.size→φ i= .ph (.Ch k')→bt i=true
 blk:c=true→bt (B.N0+F.n)=false→sm=0
 le:Le B.E0 (S 0).E
 tape:w.tape=B.w0.tape
 os:w.os=B.w0.os
 output:w.output=B.w0.output
def bit(b:Bool):Nat:=if b then 1 else 0
def mu(F:Fam)(N:Nat)(φ:Nat→Nx)(r:Nat→Rk)(bt:Nat→Bool):Mu:=(sumTo N fun i=>wt F.n (φ i),N,r,sumTo N fun i=>bit (bt i))
section
variable {P:Program}{F:Fam}{B:Base}{gs:Array Goroutine}{w w':World}{t:Trace}{φ:Nat→Nx}{r:Nat→Rk}{bt:Nat→Bool}{S:Nat→St}{Sh:Nat→Prop}{j:Nat}{c:Bool}{v wt' sm v₁ wt₁ sm₁:Nat}{cl cl₁:Bool}{k k₁:Nat}
theorem Inv.at_(h:Inv P F B gs w t φ r bt S Sh j c v wt' sm cl k)(d:Nat):Inv P F B gs (w.at d) t φ r bt S Sh j c v wt' sm cl k:=
 have K:BZ t (w.at d) gs.size S Sh:=by
  have:=h.Cu.mute (u:= #[]) (w':=w.at d) (g:=0) (by simp) (by simp) (by simp) rfl;simpa using this
 {h with Cu:=K}
theorem Inv.go(h:Inv P F B gs w t φ r bt S Sh j c v wt' sm cl k){i:Nat}{g g':Goroutine}{es:Array Event}{x:Nx}{ρ:Rk}{s':St}(hi:gs[i]? =some g)
  (ao:BY F B.N0 gs.size j c (upd φ i x) v₁ wt₁ sm₁ cl₁)
  (ap:Dx F B.N0 B.t0 gs.size j c (upd φ i x) (t++MemOp.ofEvents i g.frame.fn g.frame.place es))
  (aq:Df P F (i==0) x ρ true g' s')
  (hC:BZ (t++MemOp.ofEvents i g.frame.fn g.frame.place es) w' gs.size (upd S i s') Sh)
  (ar:F.WG w' v₁ wt₁ sm₁) (ai:F.ChanAt w' cl₁ k₁)
  (au:cl₁=cl∨(mayWake P g=true∧g'.status= .running))
  (av:cl₁=true→∀aj k',aj<gs.size→φ aj≠ .ph (.Ch k'))
  (aw:sm₁=sm∨sm₁=0∨(mayWake P g=true∧g'.status= .running∧φ (B.N0+F.n)= .ph .C4)∨(c=true→bt (B.N0+F.n)=true))
  (ay:i=0→Le (S 0).E s'.E) (az:w'.tape=w.tape) (aA:w'.os=w.os) (aB:w'.output=w.output) (aL:∀k',x= .ph (.Ch k')→φ i= .ph (.Ch k')):
  ∃O,Inv P F B ((gs.map (woken P g g' w')).setIfInBounds i g') w' (t++MemOp.ofEvents i g.frame.fn g.frame.place es) (upd φ i x) (upd r i ρ) O (upd S i s') Sh j c v₁ wt₁ sm₁ cl₁ k₁:=by
 have aC:i<gs.size:=(Array.getElem?_eq_some_iff.1 hi).1;have Z:((gs.map (woken P g g' w')).setIfInBounds i g').size=gs.size:=by simp
 have ak:∀a,∃Y,(a=i→Y=true)∧(a≠i→∀o,gs[a]? =some o→Df P F (a==0) (φ a) (r a) Y (woken P g g' w' o) (S a)∧(bt a=true→Y=true)∧(mayWake P g=true→g'.status= .running→(φ a= .ph .C4∨cl₁=true)→Y=true)):=by
  intro a;by_cases e:a=i
  ·exact⟨true,fun _=>rfl,fun q=>absurd e q⟩
  ·cases K:gs[a]? with
   | none=>exact⟨true,fun _=>rfl,fun _ o q=>by cases q⟩
   | some o=>
    have V:a<gs.size:=(Array.getElem?_eq_some_iff.1 K).1;obtain⟨Y,aD,aE,aF⟩:=(h.Eg a o K).woken (g:=g) (g':=g') ai fun q k'=>av q a k' V;exact⟨Y,fun q=>absurd q e,fun _ o' q=>by cases q;exact⟨aD,aE,aF⟩⟩
 let O:Nat→Bool:=fun a=>Classical.choose (ak a);have hb:∀a,(a=i→O a=true)∧(a≠i→∀o,gs[a]? =some o→Df P F (a==0) (φ a) (r a) (O a) (woken P g g' w' o) (S a)∧(bt a=true→O a=true)∧(mayWake P g=true→g'.status= .running→(φ a= .ph .C4∨cl₁=true)→O a=true)):=fun a=>Classical.choose_spec (ak a);have aa:∀a,a<gs.size→bt a=true→O a=true:=by
  intro a V aG;by_cases e:a=i
  ·exact(hb a).1 e
  ·exact((hb a).2 e _ (Array.getElem?_eq_getElem V)).2.1 aG
 refine⟨O,by rw [Z];exact ao,by rw [Z];exact ap,fun a o K=>?_,by rw [Z];exact hC,h.Hq,h.FT,h.ne,ar,ai,fun U=>⟨?_,fun a k' V al=>?_⟩,fun ab U=>?_,fun b o K=>?_,az.trans h.tape,aA.trans h.os,aB.trans h.output⟩
 ·by_cases e:a=i
  ·subst e;rw [Array.getElem?_setIfInBounds_self_of_lt (by simpa using aC)] at K;obtain rfl:=Option.some.inj K;rw [upd_same,upd_same,upd_same,(hb a).1 rfl];exact aq
  ·rw [Array.getElem?_setIfInBounds_ne (Ne.symm e),Array.getElem?_map] at K;obtain⟨o',aH,rfl⟩:=Option.map_eq_some_iff.1 K;rw [upd_ne _ _ e,upd_ne _ _ e,upd_ne _ _ e];exact((hb a).2 e o' aH).1
 ·have ae:0<gs.size:=by omega
  have aI:0≠i:=fun e=>by have:=(hb 0).1 e;rw [U] at this;cases this
  have W:bt 0=false:=by
   cases q:bt 0 with
   | false=>rfl
   | true=>have:=aa 0 ae q;rw [U] at this;cases this
  cases am:cl₁ with
  | false=>rfl
  | true=>
   rcases au with e | ⟨ag,ah⟩
   ·have:=(h.L5 W).1;rw [← e,am] at this;cases this
   ·have:=((hb 0).2 aI _ (Array.getElem?_eq_getElem ae)).2.2 ag ah (.inr am);rw [U] at this;cases this
 ·rw [Z] at V;have ae:0<gs.size:=by omega
  have W:bt 0=false:=by
   cases q:bt 0 with
   | false=>rfl
   | true=>have:=aa 0 ae q;rw [U] at this;cases this
  by_cases e:a=i
  ·exact(hb a).1 e
  ·rw [upd_ne _ _ e] at al;exact aa a V ((h.L5 W).2 a k' V al)
 ·have an:B.N0+F.n<gs.size:=by have:=h.Bo.size;have:=h.Bo.cj ab;rw [ab] at*;simp at*;omega
  have aJ:B.N0+F.n≠i:=fun e=>by have:=(hb _).1 e;rw [U] at this;cases this
  have W:bt (B.N0+F.n)=false:=by
   cases q:bt (B.N0+F.n) with
   | false=>rfl
   | true=>have:=aa _ an q;rw [U] at this;cases this
  rcases aw with e | e | ⟨ag,ah,aK⟩ | e
  ·rw [e];exact h.blk ab W
  ·exact e
  ·have:=((hb _).2 aJ _ (Array.getElem?_eq_getElem an)).2.2 ag ah (.inl aK);rw [U] at this;cases this
  ·rw [e ab] at W;cases W
 ·by_cases e:i=0
  ·subst e;rw [upd_same];exact ay rfl b o (h.le b o K)
  ·rw [upd_ne _ _ (Ne.symm e)];exact h.le b o K
end
end Pal
namespace Pal
open Go Go.Conc
open Go.ConcN (upd upd_same upd_ne sumTo sumTo_upd sumTo_upd_out sumTo_congr le_sumTo sumTo_le fork_knows RelBy)
def Over(P:Program)(F:Fam)(B:Base)(gs:Array Goroutine)(w:World)(t:Trace):Prop:=
 ∃q Sh g s,FU P gs w t q Sh g s∧F.fin g s∧Le B.E0 s.E∧w.tape=B.w0.tape∧w.os=B.w0.os∧w.output=B.w0.output
def GY(P:Program)(F:Fam)(B:Base)(gs:Array Goroutine)(w:World)(sl:Option (Nat×Nat))(t:Trace)(i:Nat)(K:Mu):Prop:=
 ∃gs' w' O u,runT P (crowd gs w sl) i=(.next (crowd gs' w' O),u)∧
  ((∃φ r bt S Sh j c v wt' sm cl k,Inv P F B gs' w' (t++u) φ r bt S Sh j c v wt' sm cl k∧Mu.lt (mu F gs'.size φ r bt) K)∨Over P F B gs' w' (t++u))
section
variable {P:Program}{F:Fam}{B:Base}{gs:Array Goroutine}{w w':World}{sl:Option (Nat×Nat)}{t:Trace}{φ:Nat→Nx}{r:Nat→Rk}{bt:Nat→Bool}{S:Nat→St}{Sh:Nat→Prop}{j:Nat}{c:Bool}{v wt' sm v₁ wt₁ sm₁:Nat}{cl cl₁:Bool}{k k₁:Nat}
theorem QO{N:Nat}{φ K:Nat→Nx}{r U:Nat→Rk}{b V:Nat→Bool}{O:Nat}(h:(sumTo O fun i=>wt F.n (K i))<sumTo N fun i=>wt F.n (φ i)):Mu.lt (mu F O K U V) (mu F N φ r b):= .inl h
theorem VC{N i:Nat}{x:Nx}{ρ:Rk}{K:Nat→Bool}(hi:i<N)(h:wt F.n x<wt F.n (φ i)∨(wt F.n x=wt F.n (φ i)∧Rk.sub ρ (r i))):Mu.lt (mu F N (upd φ i x) (upd r i ρ) K) (mu F N φ r bt):=by
 have:=sumTo_upd φ x (wt F.n) hi;rcases h with h | ⟨V,O⟩
 ·exact .inl (by show(sumTo N fun a=>wt F.n (upd φ i x a))<sumTo N fun a=>wt F.n (φ a);omega)
 ·exact .inr ⟨by show(sumTo N fun a=>wt F.n (upd φ i x a))=sumTo N fun a=>wt F.n (φ a);omega,rfl,.inl ⟨i,hi,by show Rk.sub (upd r i ρ i) _;rw [upd_same];exact O,fun a U=>upd_ne _ _ U⟩⟩
theorem Inv.go'(h:Inv P F B gs w t φ r bt S Sh j c v wt' sm cl k){i:Nat}{g g':Goroutine}{es:Array Event}{x:Nx}{ρ:Rk}{s':St}(hi:gs[i]? =some g)(O:stepG P (i==0) g w= .go g' w' es)
  (U:BY F B.N0 gs.size j c (upd φ i x) v₁ wt₁ sm₁ cl₁)
  (V:Dx F B.N0 B.t0 gs.size j c (upd φ i x) (t++MemOp.ofEvents i g.frame.fn g.frame.place es))
  (W:Df P F (i==0) x ρ true g' s')
  (hC:BZ (t++MemOp.ofEvents i g.frame.fn g.frame.place es) w' gs.size (upd S i s') Sh)
  (Y:F.WG w' v₁ wt₁ sm₁) (Z:F.ChanAt w' cl₁ k₁)
  (aa:cl₁=cl∨(mayWake P g=true∧g'.status= .running))
  (ab:cl₁=true→∀K k',K<gs.size→φ K≠ .ph (.Ch k'))
  (ae:sm₁=sm∨sm₁=0∨(mayWake P g=true∧g'.status= .running∧φ (B.N0+F.n)= .ph .C4)∨(c=true→bt (B.N0+F.n)=true))
  (ag:i=0→Le (S 0).E s'.E) (ah:w'.tape=w.tape) (ai:w'.os=w.os) (aj:w'.output=w.output) (ak:∀k',x= .ph (.Ch k')→φ i= .ph (.Ch k'))
  (hm:wt F.n x<wt F.n (φ i)∨(wt F.n x=wt F.n (φ i)∧Rk.sub ρ (r i))):GY P F B gs w sl t i (mu F gs.size φ r bt):=by
 obtain⟨an,al⟩:=h.go hi U V W hC Y Z aa ab ae ag ah ai aj ak;refine⟨_,_,_,_,runT_crowd_go hi O,.inl ⟨_,_,_,_,_,_,_,_,_,_,_,_,al,?_⟩⟩;have am:((gs.map (woken P g g' w')).setIfInBounds i g').size=gs.size:=by simp
 rw [am];exact VC (Array.getElem?_eq_some_iff.1 hi).1 hm
theorem Inv.noSend(h:Inv P F B gs w t φ r bt S Sh j c v wt' sm cl k)(W:cl=true):∀K k',K<gs.size→φ K≠ .ph (.Ch k'):=by
 intro K k' U e;have hm:=h.Bo.mode;subst W;have Y:v=0:=by
  split at hm
  ·cases V:φ (B.N0+F.n) with
   | gone d=>rw [V] at hm;exact hm.2.2.2.2.1
   | ph p=>rw [V] at hm;cases p <;> simp [CE] at hm
  ·simp [CE] at hm
 have Z:=h.Bo.cnt;have:=le_sumTo (f:=fun a=>cU (φ a)) U;simp only [e,cU] at this;have aa:(sumTo gs.size fun a=>cU (φ a))=0:=by omega
 have O:cU (φ K)≤sumTo gs.size fun a=>cU (φ a):=le_sumTo (f:=fun a=>cU (φ a)) U;rw [e] at O;simp only [cU] at O;have ab:1≤sumTo gs.size fun a=>cU (φ a):=O;omega
theorem Dx.T7{F:Fam}{N0 t0 N j:Nat}{c:Bool}{φ:Nat→Nx}{t:Trace}(h:Dx F N0 t0 N j c φ t)(K:BY F N0 N j c φ v wt' sm cl){i:Nat}(hi:i<N){fn:FuncId}{pos:String}{es:Array Event}{p:Ph}(V:φ i= .ph p)
  (W:∀e∈es,(∀a b,(MemAct.ofEvent e).touch? =some a→Dl a.loc=some b→b≠F.wg∧b≠F.ch)∧e.loc≠ .mark (.release F.sA)∧e.loc≠ .mark .disable∧e.loc≠ .mark .enable)
  (aa:Fam.DI p=true→es= #[]):Dx F N0 t0 N j c φ (t++MemOp.ofEvents i fn pos es):=by
 have ab:i=0∨N0≤i:=by
  rcases K.EU hi with rfl | ⟨a,b⟩ | ⟨k,Z,rfl⟩ | ⟨U,rfl⟩
  ·exact .inl rfl
  ·have:=K.old i a b;rw [V] at this;exact this.elim
  ·exact .inr (by omega)
  ·exact .inr (by omega)
 have:=h.app (x:=φ i) (fn:=fn) (pos:=pos) (es:=es) hi K.jn (deafBehind_still (fun e he=>⟨(W e he).2.2.1,(W e he).2.2.2⟩) _) (fun e he=>⟨fun a b ae hb ag=>absurd ag (by have:=(W e he).1 a b ae hb;rintro(q | q);exact this.1 q;exact this.2 q),(W e he).2.1⟩) (.inl ab)
  (fun U O=>K.Lc U O) (fun k Z e Y ρ ah=>?_) (fun k Z e Y ai=>absurd Y ai) (fun U e O=> .inr O) (fun U e O=>by rw [V] at O;exact O.elim)
 ·rwa [MO] at this
 ·
  have ak:=K.size;have al:=K.jn;have aj:k<j:=by
   rcases K.EU hi with q | ⟨a,b⟩ | ⟨k',am,q⟩ | ⟨U,q⟩
   ·have:=K.pos;omega
   ·omega
   ·omega
   ·omega
  have hw:=K.work k aj;rw [← e,V] at hw;rw [V] at Y;have:es= #[]:=aa (by cases p <;> simp only [Hj] at hw <;> (try exact hw.elim) <;> first | rfl | exact Y.elim)
  subst this;have:MemOp.ofEvents i fn pos #[]= #[]:=by rw [ofEvents_eq];simp
  rw [this];simpa using ah
theorem Inv.own(h:Inv P F B gs w t φ r bt S Sh j c v wt' sm cl k){i:Nat}{g g':Goroutine}{es:Array Event}{p:Ph}{ρ:Rk}{s':St}(hi:gs[i]? =some g)(O:φ i= .ph p)(ae:(i==0)=Fam.Db p)(Z:Fam.DI p=true→S i= .quiet)
  (ag:stepG P (i==0) g w= .go g' w' es) (ah:Jr P (i==0) (JQ (Stop P F p)) ρ g' s') (ai:Fits s' w') (K:Fr (S i) w s' w') (V:∀e∈es,Ev (S i) w w' e) (aa:S i= .quiet→s'= .quiet∧w'=w∧es= #[]) (aj:Rk.sub ρ (r i)):
  GY P F B gs w sl t i (mu F gs.size φ r bt):=by
 have U:i<gs.size:=(Array.getElem?_eq_some_iff.1 hi).1;have ab:upd φ i (.ph p)=φ:=by rw [← O];exact MO _ _
 have W:=h.Cu.sh i U F.wg h.Hq;have Y:=h.Cu.sh i U F.ch h.FT;have ak:=h.Cu.EP F.wg h.Hq;have al:=h.Cu.EP F.ch h.FT;have am:∀b wr,Fz (S i) w w' b wr→b≠F.wg∧b≠F.ch:=by
  intro b wr ht;constructor
  ·rintro rfl;rcases ht.2 with q | q | ⟨q,_⟩
   ·exact q W.1
   ·omega
   ·exact q W.2
  ·rintro rfl;rcases ht.2 with q | q | ⟨q,_⟩
   ·exact q Y.1
   ·omega
   ·exact q Y.2
 refine h.go' hi ag (k₁:=k) (x:= .ph p) (ρ:=ρ) (s':=s') (by rw [ab];exact h.Bo) (by
   rw [ab]
   refine h.Ee.T7 h.Bo U O (fun e he=>⟨fun a b an hb=>am b a.write (K0 (V e he) an hb),?_,?_,?_⟩) fun q=>(aa (Z q)).2.2
   all_goals
    intro ao
    have:=V e he
    unfold Ev at this
    rw [ao] at this
    exact this)
  (.walk ae (fun q=>(aa (Z q)).1) ah) (h.Cu.own U ai K V) ?_ ?_ (.inl rfl) (fun q=>h.noSend q) (.inl rfl) (fun e=>by subst e;exact fun b o ap=>K.ext b o ap) K.tape K.os K.output (fun k' e=>by rw [O];exact e) (.inr ⟨by rw [O],aj⟩)
 ·show w'.heap[F.wg]? =_;rw [K.keep _ ak W.1];exact h.wg
 ·show w'.heap[F.ch]? =_;rw [K.keep _ al Y.1];exact h.GG
theorem Inv.slip(h:Inv P F B gs w t φ r bt S Sh j c v wt' sm cl k){i:Nat}{g:Goroutine}(hi:gs[i]? =some g)(U:g.status= .running){d q:Nat}(K:φ i= .gone d)(V:r i=chain q)(W:(i==0)=false)(aa:QuitsD P q d g)(ai:S i= .quiet):
  GY P F B gs w sl t i (mu F gs.size φ r bt):=by
 have ab:i<gs.size:=(Array.getElem?_eq_some_iff.1 hi).1;cases q with
 | zero=>rw [aa.1] at U;cases U
 | succ q=>
  rcases aa with⟨aj,_⟩ | ⟨_,g',es,hm,ak,al⟩
  ·rw [aj] at U;cases U
  have am:∀op∈MemOp.ofEvents i g.frame.fn g.frame.place es,op.act.touch? =none:=fun op O=>by obtain⟨e,he,rfl⟩:=mem_ofEvents O;exact touch_mute (hm e he)
  have an:∀e∈es,e.loc≠ .mark (.release F.sA):=by
   intro e he ae;have:=hm e he;obtain⟨loc,wr,ar⟩:=e;simp only at ae;subst ae;simp [Event.mute] at this
  refine h.go' hi (by rw [W];exact ak w) (x:= .gone (deafBehind d es)) (ρ:=chain q) (s':= .quiet) (h.Bo.leave ab K) ?_ (.gone W al) ?_ h.wg h.GG (.inl rfl) (fun q=>h.noSend q) (.inl rfl) (fun e=>by subst e;simp at W) rfl rfl rfl (by simp) (.inr ⟨by rw [K];rfl,by rw [V];exact SA q w⟩)
  ·refine h.Ee.app ab h.Bo.jn (by rw [K];rfl) (fun e he=>⟨fun a b ag=>(by rw [touch_mute (hm e he)] at ag;cases ag),an e he⟩) (.inr fun e he=>touch_mute (hm e he)) (fun Y Z=>h.Bo.Lc Y Z) (fun k ao e ap ρ V=>?_) (fun k ao e ap ah=>by rw [K] at ah;exact absurd trivial ah) (fun Y e Z=> .inr (.inr (by rw [K];trivial))) (fun Y e Z=> .inr ⟨by rw [K];trivial,fun e he=>touch_mute (hm e he)⟩);exact V.appOwn _ _ es fun m e he=> .inl (touch_mute (hm e (Array.mem_of_getElem? he)))
  ·have aq:upd S i .quiet=S:=by rw [← ai];exact MO _ _
   rw [aq];exact h.Cu.mute (g:=i) (fun op O=>by obtain⟨e,_,rfl⟩:=mem_ofEvents O;rfl) am (fun op O=>by obtain⟨e,he,rfl⟩:=mem_ofEvents O;exact low_mute (hm e he) _) rfl
theorem BY.enabled{N0 N:Nat}(h:BY F N0 N j c φ v wt' sm cl){i:Nat}(hi:i<N){p:Ph}(K:φ i= .ph p)(ak:∀k,p≠ .Ch k)(al:∀k,p≠ .EE k)(am:p≠ .Fi)(an:∀ao vs,p≠ .BX ao vs)(ap:p≠ .Dp)(aq:p= .C4→sm=1):
  ∃v' w' sm' es nx,F.act p v wt' sm=some ((v',w',sm'),es,nx):=by
 have hm:=h.mode;have aw:=h.Q1;have ay:=h.HV;have O:=h.cnt;have Y:cU (φ i)≤sumTo N fun a=>cU (φ a):=le_sumTo (f:=fun a=>cU (φ a)) hi;have Z:cL (φ i)≤sumTo N fun a=>cL (φ a):=le_sumTo (f:=fun a=>cL (φ a)) hi;have ag:cS (φ i)≤sumTo N fun a=>cS (φ a):=le_sumTo (f:=fun a=>cS (φ a)) hi;rw [K] at Y Z ag;have ar:wt'≤1:=by
  generalize (if c=true then φ (N0+F.n) else Nx.ph .CJ)=y at hm
  cases y with
  | gone d=>simp only [CE] at hm;omega
  | ph q=>cases q <;> simp only [CE] at hm <;> (try exact hm.elim) <;> omega
 have aa:1≤(sumTo N fun a=>cL (φ a))+(sumTo N fun a=>cS (φ a))→v=0∧sm=0∧wt'=sumTo N fun a=>cL (φ a):=by
  intro hh;generalize (if c=true then φ (N0+F.n) else Nx.ph .CJ)=y at hm
  cases y with
  | gone d=>simp only [CE] at hm;omega
  | ph q=>cases q <;> simp only [CE] at hm <;> (try exact hm.elim) <;> omega
 have ab:∀x,φ i= .ph x→GZ (.ph x)→c=true∧(if c=true then φ (N0+F.n) else Nx.ph .CJ)= .ph x:=by
  intro x V ah;rcases h.EU hi with rfl | ⟨a,b⟩ | ⟨k,ae,rfl⟩ | ⟨O,rfl⟩
  ·obtain⟨q,U,W⟩:=h.main;rw [V] at U;cases U;cases x <;> simp [GW] at W <;> exact ah.elim
  ·have:=h.old i a b;rw [V] at this;exact this.elim
  ·have:=h.work k ae;rw [V] at this;cases x <;> simp [Hj] at this <;> exact ah.elim
  ·exact⟨O,by rw [if_pos O];exact V⟩
 cases p <;> simp only [Fam.act]
 ·exact absurd rfl (ak _)
 ·exact⟨_,_,_,_,_,rfl⟩
 ·exact⟨_,_,_,_,_,rfl⟩
 ·simp only [cU] at Y;have:1≤v:=by
   have az:1≤sumTo N fun a=>cU (φ a):=Y;omega
  rw [if_pos ⟨this,by omega,ar⟩];exact⟨_,_,_,_,_,rfl⟩
 ·have au:1≤sumTo N fun a=>cL (φ a):=Z;have:=aa (by omega);rw [if_pos ⟨this.1,by omega⟩];exact⟨_,_,_,_,_,rfl⟩
 ·have au:1≤sumTo N fun a=>cL (φ a):=Z;have:=aa (by omega);rw [if_pos ⟨this.1,by omega⟩];exact⟨_,_,_,_,_,rfl⟩
 ·have aA:1≤sumTo N fun a=>cS (φ a):=ag;have:=aa (by omega);rw [if_pos this.2.1];exact⟨_,_,_,_,_,rfl⟩
 ·exact⟨_,_,_,_,_,rfl⟩
 ·obtain⟨ai,e⟩:=ab _ K trivial;rw [e] at hm;rw [if_pos ⟨hm.2.2.2.2.2,hm.2.2.2.1⟩];exact⟨_,_,_,_,_,rfl⟩
 ·obtain⟨ai,e⟩:=ab _ K trivial;rw [e] at hm;rw [if_pos ⟨hm.2.2.2.2.2.1,hm.2.2.2.2.2.2,hm.2.2.2.1⟩];split <;> exact⟨_,_,_,_,_,rfl⟩
 ·exact⟨_,_,_,_,_,rfl⟩
 ·rw [if_pos (aq rfl)];exact⟨_,_,_,_,_,rfl⟩
 ·obtain⟨ai,e⟩:=ab _ K trivial;rw [e] at hm;rw [if_pos ⟨hm.2.2.2.2.1,hm.2.2.2.1⟩];exact⟨_,_,_,_,_,rfl⟩
 ·exact⟨_,_,_,_,_,rfl⟩
 ·exact⟨_,_,_,_,_,rfl⟩
 ·exact absurd rfl ap
 ·exact⟨_,_,_,_,_,rfl⟩
 ·have av:c=false∧v≤j∧j<F.n:=by
   rcases h.EU hi with rfl | ⟨a,b⟩ | ⟨k,ae,rfl⟩ | ⟨O,rfl⟩
   ·obtain⟨q,U,W⟩:=h.main;rw [K] at U;cases U;have aj:=h.Hr;rw [K] at aj;exact⟨W.2.2,by simpa [pend] using aj,W.2.1⟩
   ·have:=h.old i a b;rw [K] at this;exact this.elim
   ·have:=h.work k ae;rw [K] at this;exact this.elim
   ·have:=h.cls O;rw [K] at this;exact this.elim
  rw [av.1] at hm;simp only [Bool.false_eq_true,if_false,CE] at hm;rw [if_pos ⟨by omega,hm.2.2.2.1⟩];exact⟨_,_,_,_,_,rfl⟩
 ·exact⟨_,_,_,_,_,rfl⟩
 ·exact⟨_,_,_,_,_,rfl⟩
 ·exact absurd rfl (al _)
 ·exact absurd rfl am
 ·exact absurd rfl (an _ _)
 all_goals exact⟨_,_,_,_,_,rfl⟩
end
end Pal
namespace Pal
open Go Go.Conc
open Go.ConcN (upd upd_same upd_ne sumTo sumTo_upd sumTo_upd_out sumTo_congr le_sumTo sumTo_le fork_knows RelBy)
theorem MX{α:Type}(f:Nat→α)(i:Nat)(x y:α):upd (upd f i x) i y=upd f i y:=by
 funext a;unfold upd;split <;> rfl
section
variable {P:Program}{F:Fam}{B:Base}{gs:Array Goroutine}{w w':World}{sl:Option (Nat×Nat)}{t:Trace}{φ:Nat→Nx}{r:Nat→Rk}{bt:Nat→Bool}{S:Nat→St}{Sh:Nat→Prop}{j:Nat}{c:Bool}{v wt' sm v₁ wt₁ sm₁:Nat}{cl cl₁:Bool}{k k₁:Nat}
theorem VG{p:Ph}{es:Array Event}{nx:Nx}(K:F.act p v wt' sm=some ((v₁,wt₁,sm₁),es,nx)):
  (∀q,nx= .ph q→Fam.Db q=Fam.Db p∧(Fam.DI q=true→p= .FR∨Fam.DI p=true))∧(∀k,nx≠ .ph (.Ch k))∧(sm₁=sm∨sm₁=0∨p= .Ec)∧(∀d,nx= .gone d→Fam.Db p=false):=by
 cases p <;> simp only [Fam.act] at K <;> (try (cases K;done))
 ·cases K;exact⟨fun q e=>by cases e;exact⟨rfl,fun _=> .inl rfl⟩,by simp,.inl rfl,by simp⟩
 ·cases K;exact⟨fun q e=>by cases e;exact⟨rfl,fun _=> .inr rfl⟩,by simp,.inl rfl,by simp⟩
 ·split at K
  ·cases K;refine⟨fun q e=>?_,?_,.inl rfl,fun _ _=>rfl⟩
   ·split at e
    ·cases e;exact⟨rfl,fun _=> .inr rfl⟩
    ·cases e
   ·intro k;split <;> simp
  ·cases K
 ·split at K
  ·cases K;exact⟨fun q e=>by cases e;exact⟨rfl,fun _=> .inr rfl⟩,by simp,.inl rfl,by simp⟩
  ·cases K
 ·split at K
  ·cases K;exact⟨fun q e=>by cases e;exact⟨rfl,fun _=> .inr rfl⟩,by simp,.inl rfl,by simp⟩
  ·cases K
 ·split at K
  ·cases K;exact⟨fun q e=>(by cases e),by simp,.inr (.inr rfl),fun _ _=>rfl⟩
  ·cases K
 ·cases K;exact⟨fun q e=>by cases e;exact⟨rfl,fun h=>by cases h⟩,by simp,.inl rfl,by simp⟩
 ·split at K
  ·cases K;refine⟨fun q e=>?_,?_,.inl rfl,?_⟩
   ·split at e <;> cases e <;> exact⟨rfl,fun h=>by cases h⟩
   ·intro k;split <;> simp
   ·intro d;split <;> simp
  ·cases K
 ·split at K
  ·split at K
   ·cases K;exact⟨fun q e=>by cases e;exact⟨rfl,fun h=>by cases h⟩,by simp,.inl rfl,by simp⟩
   ·cases K;exact⟨fun q e=>by cases e;exact⟨rfl,fun h=>by cases h⟩,by simp,.inl rfl,by simp⟩
  ·cases K
 ·cases K;exact⟨fun q e=>by cases e;exact⟨rfl,fun h=>by cases h⟩,by simp,.inl rfl,by simp⟩
 ·split at K
  ·cases K;exact⟨fun q e=>by cases e;exact⟨rfl,fun h=>by cases h⟩,by simp,.inr (.inl rfl),by simp⟩
  ·cases K
 ·split at K
  ·cases K;exact⟨fun q e=>by cases e;exact⟨rfl,fun h=>by cases h⟩,by simp,.inl rfl,by simp⟩
  ·cases K
 ·cases K;exact⟨fun q e=>by cases e;exact⟨rfl,fun h=>by cases h⟩,by simp,.inl rfl,by simp⟩
 ·cases K;exact⟨fun q e=>by cases e;exact⟨rfl,fun h=>by cases h⟩,by simp,.inl rfl,by simp⟩
 ·cases K;exact⟨fun q e=>by cases e;exact⟨rfl,fun h=>by cases h⟩,by simp,.inl rfl,by simp⟩
 ·split at K
  ·cases K;refine⟨fun q e=>?_,?_,.inl rfl,?_⟩
   ·split at e <;> cases e <;> exact⟨rfl,fun h=>by cases h⟩
   ·intro k;split <;> simp
   ·intro d;split <;> simp
  ·cases K
 ·cases K;exact⟨fun q e=>by cases e;exact⟨rfl,fun h=>by cases h⟩,by simp,.inl rfl,by simp⟩
 all_goals
  cases K;exact⟨fun q e=>by cases e;exact⟨rfl,fun h=>by cases h⟩,by simp,.inl rfl,by simp⟩
theorem SY(w:World)(v wt sm:Nat):(F.put w v wt sm).heap.size=w.heap.size:=by simp [Fam.put]
theorem Qs(w:World)(v wt sm:Nat){b:Nat}(h:b≠F.wg):(F.put w v wt sm).heap[b]? =w.heap[b]? :=by simp [Fam.put,Array.getElem?_setIfInBounds_ne (Ne.symm h)]
theorem Qo(w:World)(v wt sm:Nat)(h:F.wg<w.heap.size):F.WG (F.put w v wt sm) v wt sm:=by simp [Fam.WG,Fam.put,h]
theorem Inv.act(h:Inv P F B gs w t φ r bt S Sh j c v wt' sm cl k){i:Nat}{g:Goroutine}(hi:gs[i]? =some g){p:Ph}(W:φ i= .ph p)(U:(i==0)=Fam.Db p){s₀:St}(aj:CM (S i) s₀)(hs:Stop P F p g s₀)
  {es:Array Event} {nx:Nx} (O:F.act p v wt' sm=some ((v₁,wt₁,sm₁),es,nx)):GY P F B gs w sl t i (mu F gs.size φ r bt):=by
 have Y:i<gs.size:=(Array.getElem?_eq_some_iff.1 hi).1;obtain⟨g',aw,ay,ak⟩:=hs.law.act _ _ _ _ _ _ _ _ O;obtain⟨n1,n2,az,aA⟩:=VG O;have Z:=h.Cu.EP F.wg h.Hq;have al:=h.Bo.act Y W O;obtain⟨am,an,aB⟩:=h.Ee.act h.Bo Y W O g.frame.fn g.frame.place;have aC:BZ t w gs.size (upd S i s₀) Sh:=h.Cu.ghost Y aj;have aa:BZ (t++MemOp.ofEvents i g.frame.fn g.frame.place es) (F.put w v₁ wt₁ sm₁) gs.size (upd S i s₀) Sh:=by
  refine aC.ext (h.Ee.noRace h.Cu.clean Y aB an) (fun op ab a aD b hb=>?_) (fun op ab=>?_) (SY ..) (fun b hb=>Qs _ _ _ _ fun e=>hb (e▸h.Hq))
  ·obtain⟨e,he,rfl⟩:=mem_ofEvents ab;obtain⟨⟨aK,ao,aE⟩,_⟩:=(an e he).1 a aD;rw [hb] at ao;cases ao;rcases aE with rfl | rfl
   ·exact h.Hq
   ·exact h.FT
  ·obtain⟨e,he,rfl⟩:=mem_ofEvents ab;exact(QH p O).2.2 e he _ Z
 have ap:stepG P (i==0) g w= .go g' (F.put w v₁ wt₁ sm₁) es:=by rw [U];exact aw w h.wg
 have aq:F.ChanAt (F.put w v₁ wt₁ sm₁) cl k:=by show(F.put w v₁ wt₁ sm₁).heap[F.ch]? =_;rw [Qs _ _ _ _ (Ne.symm h.ne)];exact h.GG
 have ar:sm₁=sm∨sm₁=0∨(mayWake P g=true∧g'.status= .running∧φ (B.N0+F.n)= .ph .C4)∨(c=true→bt (B.N0+F.n)=true):=by
  rcases az with q | q | q
  ·exact .inl q
  ·exact .inr (.inl q)
  ·subst q;have aF:=hs.law.GC (.inl rfl);by_cases e:φ (B.N0+F.n)= .ph .C4
   ·exact .inr (.inr (.inl ⟨aF,ay,e⟩))
   ·refine .inr (.inr (.inr fun ae=>?_));have aG:B.N0+F.n<gs.size:=by have au:=h.Bo.size;have aL:=h.Bo.cj ae;rw [ae] at au;simp at au;omega
    obtain⟨o,K⟩:∃o,gs[B.N0+F.n]? =some o:=⟨_,Array.getElem?_eq_getElem aG⟩;have V:=h.Eg _ _ K;generalize r (B.N0+F.n)=aM at V;generalize S (B.N0+F.n)=aN at V;have ag:=h.Bo.cls ae;generalize hb:bt (B.N0+F.n)=b at V ⊢;generalize aO:φ (B.N0+F.n)=x at V ag e;cases V with
    | walk _ _ _=>rfl
    | again _ _=>rfl
    | Ff _ _=>exact ag.elim
    | FA _ _ _ _=>exact ag.elim
    | blk _ _=>exact absurd rfl e
    | gone _ _=>rfl
 cases nx with
 | ph q=>
  obtain⟨aH,aI⟩:=n1 q rfl;obtain⟨ρ,aJ⟩:=ak;have ah:BZ (t++MemOp.ofEvents i g.frame.fn g.frame.place es) (F.put w v₁ wt₁ sm₁) gs.size (upd S i (Fam.Gh p s₀)) Sh:=by
   by_cases e:p= .FR
   ·subst e;have:=aa.less (i:=i) (s':= .quiet) (fun b o K=>by cases K) (fun b o K=>by cases K)
    rwa [MX] at this
   ·have:Fam.Gh p s₀=s₀:=by cases p <;> first | rfl | exact absurd rfl e
    rw [this];exact aa
  refine h.go' hi ap al am (x:= .ph q) (ρ:=ρ) (s':=Fam.Gh p s₀) (.walk (by rw [U,aH]) (fun ai=>?_) (by rw [U];exact aJ)) ah (Qo _ _ _ _ Z) aq (.inl rfl) (fun e=>h.noSend e) ar (fun e=>?_) rfl rfl rfl (fun k' e=>absurd e (n2 k')) (.inl (by rw [W];exact Qm O))
  ·rcases aI ai with e | e
   ·subst e;rfl
   ·have:Fam.Gh p s₀=s₀:=by cases p <;> first | rfl | cases e
    rw [this];exact hs.law.quiet e
  ·have:Fam.Gh p s₀=s₀:=by
    cases p <;> first | rfl | (subst e;simp [Fam.Db] at U)
   rw [this];subst e;exact fun b o K=>aj.ext b o K
 | gone d=>
  obtain⟨q,ai⟩:=ak;have av:(i==0)=false:=by rw [U];exact aA d rfl
  have ah:BZ (t++MemOp.ofEvents i g.frame.fn g.frame.place es) (F.put w v₁ wt₁ sm₁) gs.size (upd S i .quiet) Sh:=by
   have:=aa.less (i:=i) (s':= .quiet) (fun b o K=>by cases K) (fun b o K=>by cases K)
   rwa [MX] at this
  exact h.go' hi ap al am (x:= .gone d) (ρ:=chain q) (s':= .quiet) (.gone av ai) ah (Qo _ _ _ _ Z) aq (.inl rfl) (fun e=>h.noSend e) ar (fun e=>by subst e;simp at av) rfl rfl rfl (fun k' e=>absurd e (n2 k')) (.inl (by rw [W];exact Qm O))
theorem Rr{g g' o:Goroutine}(h:g'.status= .blocked):woken P g g' w o=o:=by
 unfold woken;rw [if_neg (by simp [h])]
theorem Inv.rest(h:Inv P F B gs w t φ r bt S Sh j c v wt' sm cl k){i:Nat}{g':Goroutine}{u:Trace}{s₀:St}(aa:i<gs.size)(ak:bt i=true)(ag:CM (S i) s₀)(al:Df P F (i==0) (φ i) (r i) false g' s₀)(hu:u= #[])
  (am:i=0→cl=false∧∀a k',a<gs.size→φ a= .ph (.Ch k')→bt a=true) (hsend:∀k',φ i= .ph (.Ch k')→bt 0=true) (an:c=true→i=B.N0+F.n→sm=0):
  ∃ah,Inv P F B (gs.setIfInBounds i g') w (t++u) φ r ah (upd S i s₀) Sh j c v wt' sm cl k∧Mu.lt (mu F (gs.setIfInBounds i g').size φ r ah) (mu F gs.size φ r bt):=by
 subst hu;have O:(gs.setIfInBounds i g').size=gs.size:=by simp
 have ao:t++(#[]:Trace)=t:=by simp
 have Z:∀{a},a≠i→upd bt i false a=bt a:=fun e=>upd_ne _ _ e;rw [ao];refine⟨upd bt i false,⟨by rw [O];exact h.Bo,by rw [O];exact h.Ee,fun a o U=>?_,by rw [O];exact h.Cu.ghost aa ag,h.Hq,h.FT,h.ne,h.wg,h.GG,fun K=>?_,fun ai K=>?_,?_,h.tape,h.os,h.output⟩,?_⟩
 ·by_cases e:a=i
  ·subst e;rw [Array.getElem?_setIfInBounds_self_of_lt aa] at U;obtain rfl:=Option.some.inj U;rw [upd_same,upd_same];exact al
  ·rw [Array.getElem?_setIfInBounds_ne (Ne.symm e)] at U;rw [upd_ne _ _ e,upd_ne _ _ e];exact h.Eg a o U
 ·by_cases e:0=i
  ·subst e;obtain⟨ab,ae⟩:=am rfl;refine⟨ab,fun a k' V W=>?_⟩;rw [O] at V;by_cases Y:a=0
   ·subst Y;obtain⟨p,aj,hm⟩:=h.Bo.main;rw [W] at aj;cases aj;exact hm.elim
   ·rw [Z Y];exact ae a k' V W
  ·rw [Z e] at K;obtain⟨ab,ae⟩:=h.L5 K;refine⟨ab,fun a k' V W=>?_⟩;rw [O] at V;by_cases Y:a=i
   ·subst Y;rw [hsend k' W] at K;cases K
   ·rw [Z Y];exact ae a k' V W
 ·by_cases e:B.N0+F.n=i
  ·exact an ai e.symm
  ·rw [Z e] at K;exact h.blk ai K
 ·by_cases e:0=i
  ·subst e;rw [upd_same];exact fun b o U=>ag.ext b o (h.le b o U)
  ·rw [upd_ne _ _ e];exact h.le
 ·rw [O];have:=sumTo_upd bt false bit aa;rw [ak] at this;exact .inr ⟨rfl,rfl,.inr ⟨rfl,by show(sumTo gs.size fun a=>bit (upd bt i false a))<sumTo gs.size fun a=>bit (bt a);simp only [bit] at this ⊢;simp only [if_true,Bool.false_eq_true,if_false] at this;omega⟩⟩
theorem Inv.block(h:Inv P F B gs w t φ r bt S Sh j c v wt' sm cl k){i:Nat}{g:Goroutine}(hi:gs[i]? =some g)(O:φ i= .ph .C4)(V:bt i=true)(K:(i==0)=false){s₀:St}(W:CM (S i) s₀)(hs:Stop P F .C4 g s₀)(Y:sm=0):
  GY P F B gs w sl t i (mu F gs.size φ r bt):=by
 have Z:i<gs.size:=(Array.getElem?_eq_some_iff.1 hi).1;subst Y;have aa:=hs.law.Eh rfl w v wt' h.wg;have U:=runT_crowd_go (P:=P) (sl:=sl) (i:=i) hi (by rw [K];exact aa);have ab:(gs.map (woken P g {g with status:= .blocked} w)).setIfInBounds i {g with status:= .blocked}=gs.setIfInBounds i {g with status:= .blocked}:=by
  have:(woken P g {g with status:= .blocked} w)=id:=by funext o;exact Rr rfl
  rw [this,Array.map_id]
 rw [ab] at U;obtain⟨ah,ae,ag⟩:=h.rest (g':={g with status:= .blocked}) (u:=MemOp.ofEvents i g.frame.fn g.frame.place #[]) Z V W (by rw [O];exact .blk K hs) (by rw [ofEvents_eq];simp) (fun e=>by subst e;simp at K) (fun k' e=>by rw [O] at e;cases e) (fun _ _=>rfl);exact⟨_,_,_,_,U,.inl ⟨_,_,_,_,_,_,_,_,_,_,_,_,ae,ag⟩⟩
theorem Inv.close(h:Inv P F B gs w t φ r bt S Sh j c v wt' sm cl k){i:Nat}{g:Goroutine}(hi:gs[i]? =some g)(K:φ i= .ph .Dp)(aa:(i==0)=false){s₀:St}(hs:Stop P F .Dp g s₀):
  GY P F B gs w sl t i (mu F gs.size φ r bt):=by
 have W:i<gs.size:=(Array.getElem?_eq_some_iff.1 hi).1;have ao:c=true∧i=B.N0+F.n:=by
  rcases h.Bo.EU W with rfl | ⟨a,b⟩ | ⟨k',ap,rfl⟩ | q
  ·simp at aa
  ·have:=h.Bo.old i a b;rw [K] at this;exact this.elim
  ·have:=h.Bo.work k' ap;rw [K] at this;exact this.elim
  ·exact q
 obtain⟨O,rfl⟩:=ao;have aq:cl=false:=by
  have hm:=h.Bo.mode;rw [if_pos O,K] at hm;exact hm.2.2.2.2.2
 subst aq;have aH:v=0:=by
  have hm:=h.Bo.mode;rw [if_pos O,K] at hm;exact hm.2.2.2.2.1
 obtain⟨g',ar,au,q,av⟩:=hs.law.close rfl;have ag:=h.Cu.EP F.ch h.FT;have aw:=hs.law.GC (.inr rfl);have ay:MemOp.ofEvents (B.N0+F.n) g.frame.fn g.frame.place (closeEvents F.ch)= #[{g:=B.N0+F.n,fn:=g.frame.fn,pos:=g.frame.place,act:= .access ⟨.obj F.ch,false,true⟩},{g:=B.N0+F.n,fn:=g.frame.fn,pos:=g.frame.place,act:= .close F.ch}]:=by
  simp [MemOp.ofEvents,closeEvents,MemAct.ofEvent]
 have ah:∀b,b≠F.ch→(w.setChan F.ch 0 #[] true k k false).heap[b]? =w.heap[b]? :=fun b hb=>by simp [World.setChan,Array.getElem?_setIfInBounds_ne (Ne.symm hb)]
 have ai:∀e∈closeEvents F.ch,∀a,(MemAct.ofEvent e).touch? =some a→a=⟨.obj F.ch,false,.atomic⟩:=by
  intro e he a U;simp only [closeEvents,List.mem_toArray,List.mem_cons,List.not_mem_nil,or_false] at he;rcases he with rfl | rfl
  ·simp [MemAct.ofEvent,MemAct.touch?] at U;exact U.symm
  ·simp [MemAct.ofEvent,MemAct.touch?] at U
 have Y:∀e∈closeEvents F.ch,EvS F (B.N0+F.n=if c=true then B.N0+F.n else 0) e:=by
  intro e he;refine⟨fun a U=>?_,?_⟩
  ·have:=ai e he a U;subst this;exact⟨⟨F.ch,rfl,.inr rfl⟩,by simp,by simp⟩
  ·simp only [closeEvents,List.mem_toArray,List.mem_cons,List.not_mem_nil,or_false] at he;rcases he with rfl | rfl <;> simp
 have aI:=h.Bo.n1;have aJ:=h.Bo.pos;refine h.go' hi (w':=w.setChan F.ch 0 #[] true k k false) (by rw [aa];exact au w k h.GG) (x:= .gone 0) (ρ:=chain q) (s':= .quiet) (cl₁:=true) (k₁:=k) (h.Bo.close O K) ?_ (.gone aa av) ?_ ?_ ?_ (.inr ⟨aw,ar⟩) (fun _ az k' aA e=>?_) (.inl rfl) (fun e=>absurd e (by omega)) rfl rfl rfl (by simp) (.inl (by rw [K];simp [wt]))
 ·refine h.Ee.app W h.Bo.jn (by rw [K];rfl) (fun e he=>⟨fun a b U hb aK=>⟨((Y e he).1 a U).2.1,((Y e he).1 a U).2.2⟩,(Y e he).2⟩) (.inl (.inr (by omega))) (fun O Z=>h.Bo.Lc O Z) (fun k' aj e aB ρ ak=>by omega) (fun k' aj e aB aL=>by have:=h.Bo.cj O;omega) (fun O e Z=> .inr (.inl K)) (fun aM e Z=> .inl ?_);obtain⟨al,am⟩:=h.Ee.acq O (.inl K);have aN:al<t.size:=lt_of_act? am.1;rw [ay];generalize hu:(#[({g:=B.N0+F.n,fn:=g.frame.fn,pos:=g.frame.place,act:= .access ⟨.obj F.ch,false,true⟩}:MemOp),{g:=B.N0+F.n,fn:=g.frame.fn,pos:=g.frame.place,act:= .close F.ch}]:Trace)=u;have aC:(t++u)[t.size]? =some {g:=B.N0+F.n,fn:=g.frame.fn,pos:=g.frame.place,act:= .access ⟨.obj F.ch,false,true⟩}:=by subst hu;simp
  have ab:(t++u)[t.size+1]? =some {g:=B.N0+F.n,fn:=g.frame.fn,pos:=g.frame.place,act:= .close F.ch}:=by
   subst hu;rw [Array.getElem?_append_right (by omega)];simp
  refine⟨t.size+1,by rw [act?_of ab],by simp [Trace.g?,ab],⟨B.N0+F.n,by simp [Trace.g?,ab],?_⟩,⟨al,by omega,am.app fun k' ρ aj ak=>ak.appOther (g:=B.N0+F.n) (by subst hu;simp) (by omega)⟩,fun x Z aD aE=>?_⟩
  ·rw [deaf_succ aC,deaf_old (Nat.le_refl _)];have:=h.Ee.deaf _ W;rw [K] at this;show deafStep _ (Deaf t _) _=0;rw [this];rfl
  ·obtain⟨op,V,_⟩:=Option.map_eq_some_iff.1 aD;have:=lt_size_of_getElem? V;subst hu;simp at this;omega
 ·have aF:BZ (t++MemOp.ofEvents (B.N0+F.n) g.frame.fn g.frame.place (closeEvents F.ch)) (w.setChan F.ch 0 #[] true k k false) gs.size S Sh:=by
   refine h.Cu.ext (h.Ee.noRace h.Cu.clean W (.inr (by omega)) Y) (fun op ae a aG b hb=>?_) (fun op ae=>?_) (by simp [World.setChan]) (fun b hb=>ah b fun e=>hb (e▸h.FT))
   ·obtain⟨e,he,rfl⟩:=mem_ofEvents ae;have:=ai e he a aG;subst this;simp [Dl] at hb;subst hb;exact h.FT
   ·obtain⟨e,he,rfl⟩:=mem_ofEvents ae;simp only [closeEvents,List.mem_toArray,List.mem_cons,List.not_mem_nil,or_false] at he;rcases he with rfl | rfl <;> simpa [MemAct.ofEvent,MemAct.low,Loc.low] using ag
  exact aF.less (i:=B.N0+F.n) (s':= .quiet) (fun b o V=>by cases V) (fun b o V=>by cases V)
 ·show(w.setChan F.ch 0 #[] true k k false).heap[F.wg]? =_;rw [ah _ h.ne];exact h.wg
 ·show(w.setChan F.ch 0 #[] true k k false).heap[F.ch]? =_;simp [World.setChan,ag]
 ·have aE:=h.Bo.cnt;have an:cU (φ az)≤sumTo gs.size fun a=>cU (φ a):=le_sumTo (f:=fun a=>cU (φ a)) aA;rw [e] at an;have aO:1≤sumTo gs.size fun a=>cU (φ a):=an;omega
end
end Pal
namespace Pal
open Go Go.Conc
open Go.ConcN (upd upd_same upd_ne sumTo sumTo_upd sumTo_upd_out sumTo_congr le_sumTo sumTo_le fork_knows RelBy)
section
variable {P:Program}{F:Fam}{B:Base}{gs gs':Array Goroutine}{w w':World}{sl:Option (Nat×Nat)}{t:Trace}{φ:Nat→Nx}{r:Nat→Rk}{bt:Nat→Bool}{S:Nat→St}{Sh:Nat→Prop}{j:Nat}{c:Bool}{v wt' sm v₁ wt₁ sm₁:Nat}{cl cl₁:Bool}{k k₁:Nat}{main:Bool}
theorem Df.Qb{x:Nx}{r:Rk}{b:Bool}{o:Goroutine}{s:St}(h:Df P F main x r b o s)(hb:main=true→b=true):offersAt o F.ch false= []:=by
 cases h with
 | walk _ _ K=>exact offersAt_of_not_blocked (by rw [K.running];simp) _ _
 | again _ _=>exact offersAt_of_not_blocked (by simp) _ _
 | Ff O _=>cases hb O
 | FA _ _ _ _=>exact offersAt_parked_send' _ _ _ _ _ _
 | blk _ hs=>simp [offersAt,hs.law.offers]
 | gone _ U=>exact offersAt_of_not_blocked (by rcases U.status with e | e <;> rw [e] <;> simp) _ _
theorem Df.M8{k:Nat}{r:Rk}{o:Goroutine}{s:St}(h:Df P F main (.ph (.Ch k)) r false o s):∃g v z,o=parked g #[scase F.ch v z] .send∧F.msg k v s.E∧s.q=false∧Way P false (Stop P F .CH) (served g undef) s:=by
 generalize K:Nx.ph (.Ch k)=x at h;generalize hb:false=b at h;cases h with
 | walk _ _ _=>cases hb
 | again _ _=>cases K
 | Ff _ _=>cases K
 | FA _ O U V=>cases K;exact⟨_,_,_,rfl,O,U,V⟩
 | blk _ _=>cases K
 | gone _ _=>cases K
theorem Df.ME{x:Nx}{r:Rk}{b:Bool}{o:Goroutine}{s:St}(h:Df P F main x r b o s)(K:offersAt o F.ch true≠ []):∃k,x= .ph (.Ch k)∧b=false:=by
 cases h with
 | walk _ _ O=>exact absurd (offersAt_of_not_blocked (by rw [O.running];simp) _ _) K
 | again _ _=>exact absurd (offersAt_of_not_blocked (by simp) _ _) K
 | Ff V _=>exact absurd (offersAt_parked_recv' _ _ _ _ _) K
 | FA _ _ _ _=>exact⟨_,rfl,rfl⟩
 | blk _ hs=>exact absurd (by simp [offersAt,hs.law.offers]) K
 | gone _ U=>exact absurd (offersAt_of_not_blocked (by rcases U.status with e | e <;> rw [e] <;> simp) _ _) K
theorem Df.receiver{p:Ph}{r:Rk}{b:Bool}{o:Goroutine}{s:St}(h:Df P F main (.ph p) r b o s)(hb:b=false)(hm:main=true):∃O vs g z,p= .BX O vs∧o=parked g #[rcase F.ch z] (.recv true)∧Stop P F (.BX O vs) g s:=by
 generalize U:Nx.ph p=x at h;cases h with
 | walk _ _ _=>cases hb
 | again _ _=>cases hb
 | Ff _ V=>cases U;exact⟨_,_,_,_,rfl,rfl,V⟩
 | FA K _ _ _=>rw [K] at hm;cases hm
 | blk K _=>rw [K] at hm;cases hm
 | gone _ _=>cases U
theorem R7{g g':Goroutine}{cs K:Array CommCase}{sh O:CommShape}(h:parked g cs sh=parked g' K O):cs=K∧sh=O∧∀x,served g x=served g' x:=by
 obtain⟨a,b,c,d,e⟩:=g;obtain⟨U,V,W,Y,Z⟩:=g';simp only [parked,Goroutine.mk.injEq,Option.some.injEq,Prod.mk.injEq,true_and] at h;obtain⟨rfl,rfl,rfl,rfl,rfl⟩:=h;exact⟨rfl,rfl,fun _=>rfl⟩
theorem Oe(w:World)(c cap:Nat)(buf:Ay)(cl:Bool)(s r:Nat)(K:Bool){b:Nat}(h:b≠c):(w.setChan c cap buf cl s r K).heap[b]? =w.heap[b]? :=by simp [World.setChan,Array.getElem?_setIfInBounds_ne (Ne.symm h)]
def G0(E E':LH):LH:=fun b=>match E b with | some o=>some o | none=>E' b
def FM(i s:Nat)(c:Nat)(f1 f2:FuncId)(p1 p2:String):Trace:=
 #[{g:=i,fn:=f1,pos:=p1,act:= .send c s},{g:=0,fn:=f2,pos:=p2,act:= .recv c s 0},{g:=i,fn:=f1,pos:=p1,act:= .sendDone c s},{g:=0,fn:=f2,pos:=p2,act:= .recvDone c s}]
theorem RP{i s K:Nat}{f1 f2:FuncId}{p1 p2:String}(hi:i≠0)(V:Deaf t i=0)(W:Deaf t 0=0){x:Nat}(Y:Knows t i x):Knows (t++FM i s K f1 f2 p1 p2) 0 x:=by
 generalize hu:FM i s K f1 f2 p1 p2=u;have O:(t++u)[t.size]? =some {g:=i,fn:=f1,pos:=p1,act:= .send K s}:=by subst hu;rw [Array.getElem?_append_right (by omega)];simp [FM]
 have Z:(t++u)[t.size+1]? =some {g:=0,fn:=f2,pos:=p2,act:= .recv K s 0}:=by subst hu;rw [Array.getElem?_append_right (by omega)];simp [FM]
 have aa:(t++u)[t.size+2]? =some {g:=i,fn:=f1,pos:=p1,act:= .sendDone K s}:=by subst hu;rw [Array.getElem?_append_right (by omega)];simp [FM]
 have U:(t++u)[t.size+3]? =some {g:=0,fn:=f2,pos:=p2,act:= .recvDone K s}:=by subst hu;rw [Array.getElem?_append_right (by omega)];simp [FM]
 have ab:=Y.hb_new (Nat.le_refl _) O rfl;have ae:(t++u).heard t.size:=⟨i,by simp [Trace.g?,O],by rw [deaf_old (Nat.le_refl _)];exact V⟩;have ag:(t++u).heard (t.size+3):=⟨0,by simp [Trace.g?,U],by
  rw [deaf_succ aa,deaf_succ Z,deaf_succ O,deaf_old (Nat.le_refl _)]
  simp only [deafStep];exact W⟩
 exact⟨t.size+3,_,U,rfl,.inr (ab.trans (.single (.inr ⟨.handOver (by rw [act?_of O]) (by rw [act?_of U]),ae,ag⟩)))⟩
theorem Inv.meet(h:Inv P F B gs w t φ r bt S Sh j c v wt' sm cl k)(aL:∀k v E E',Le E E'→F.msg k v E→F.msg k v E'){i k':Nat}(ai:k'<j)(aj:i=B.N0+k')(Y:φ i= .ph (.Ch k')){U:List Nat}{vs:Lv_}(ag:φ 0= .ph (.BX U vs))
  {az aA:Goroutine} {s₀ K:St} (aB:CM (S 0) s₀) (aM:CM (S i) K) (aN:Stop P F (.BX U vs) az s₀) {x:Value} (aO:F.msg k' x K.E) (aP:Way P false (Stop P F .CH) (served aA undef) K)
  (ak:gs'.size=gs.size) (aQ:gs'[0]? =some (served az (.tuple #[x,.bool true]))) (hi:gs'[i]? =some (served aA undef)) (V:∀a,a≠0→a≠i→gs'[a]? =gs[a]?) (aR:cl=false) {f1 f2:FuncId} {p1 p2:String}:
  ∃aC aD aE S',Inv P F B gs' (w.setChan F.ch 0 #[] false (k+1) (k+1) false) (t++FM i k F.ch f1 f2 p1 p2) aC aD aE S' Sh j c v wt' sm false (k+1)∧Mu.lt (mu F gs'.size aC aD aE) (mu F gs.size φ r bt):=by
 subst aR;have bc:=h.Bo.pos;have bd:=h.Bo.size;have Z:i<gs.size:=by omega
 have aa:0<gs.size:=by omega
 have ah:i≠0:=by omega
 have aF:F.has k'=true:=by have:=h.Bo.work k' ai;rw [← aj,Y] at this;exact this.2
 have aS:k' ∉ U:=by have:=(h.Bo.GJ k' ai aF).1 (by rw [← aj];exact Y);rwa [ag] at this
 have aG:=h.Bo.meet (x:=x) ag ai (by rw [← aj];exact Y);rw [← aj] at aG;have hu:∀op∈FM i k F.ch f1 f2 p1 p2,op.act.touch? =none∧∀m,op.act≠ .mark m:=by
  intro op O;simp only [FM,List.mem_toArray,List.mem_cons,List.not_mem_nil,or_false] at O;rcases O with rfl | rfl | rfl | rfl <;> exact⟨rfl,by simp⟩
 have aT:=h.Ee.CU h.Bo hu;have aH:=h.Cu.EP F.ch h.FT;have al:BZ t w gs.size (upd (upd S i K) 0 s₀) Sh:=by
  have:=(h.Cu.ghost Z aM).ghost (i:=0) (s₀:=s₀) aa (by rw [upd_ne _ _ (Ne.symm ah)];exact aB);exact this
 have aq:upd (upd S i K) 0 s₀ 0=s₀:=upd_same _ _ _;have ar:upd (upd S i K) 0 s₀ i=K:=by rw [upd_ne _ _ ah,upd_same]
 have aU:BZ (t++FM i k F.ch f1 f2 p1 p2) (w.setChan F.ch 0 #[] false (k+1) (k+1) false) gs.size (upd (upd S i K) 0 s₀) Sh:=by
  refine al.ext (fun said=>?_) (fun op O a am=>by rw [(hu op O).1] at am;cases am) (fun op O=>?_) (by simp [World.setChan]) (fun b hb=>Oe _ _ _ _ _ _ _ _ fun e=>hb (e▸h.FT))
  ·have key:∀(l:List MemOp) (t:Trace),¬Race said t→(∀op∈l,op.act.touch? =none)→¬Race said (t++l.toArray):=by
    intro l
    induction l with
    | nil=>intro t ht _;simpa using ht
    | cons y l aV=>
     intro t ht ab;have e:t++(y::l).toArray=(t++ #[y])++l.toArray:=by apply Array.ext';simp
     rw [e];exact aV _ (noRace_append (g:=y.g) ht (by simp) fun z a _ op O b hb _=>by simp at O;subst O;rw [ab op (by simp)] at hb;cases hb) fun op O=>ab op (by simp [O])
   exact key _ t (h.Cu.clean said) fun op O=>(hu op (by simpa [FM] using O)).1
  ·simp only [FM,List.mem_toArray,List.mem_cons,List.not_mem_nil,or_false] at O;rcases O with rfl | rfl | rfl | rfl <;> exact aH
 have aW:∀b o o',s₀.E b=some o→K.E b=some o'→o=o':=by
  intro b o o' au av;have aw:=(al.fits 0 aa).e b o (by rw [aq];exact au);have an:=(al.fits i Z).e b o' (by rw [ar];exact av);rw [aw] at an;exact Option.some.inj an
 have aI:Le s₀.E (G0 s₀.E K.E):=fun b o V=>by simp [G0,V]
 have aX:Le K.E (G0 s₀.E K.E):=fun b o V=>by
  unfold G0;cases ao:s₀.E b with
  | none=>exact V
  | some o'=>simp only;rw [aW b o' o ao V]
 have aY:Deaf t 0=0:=by rw [h.Ee.deaf 0 aa,ag];rfl
 have aZ:Deaf t i=0:=by rw [h.Ee.deaf i Z,Y];rfl
 have aJ:BZ (t++FM i k F.ch f1 f2 p1 p2) (w.setChan F.ch 0 #[] false (k+1) (k+1) false) gs.size (upd (upd S i K) 0 ⟨G0 s₀.E K.E,s₀.H,false⟩) Sh:=by
  have:=aU.grow (i:=0) (E':=G0 s₀.E K.E) (q:=false) aa (fun b o hb=>by
   rw [aq]
   unfold G0 at hb
   cases ao:s₀.E b with
   | some o'=>rw [ao] at hb;exact .inl hb
   | none=>
    rw [ao] at hb
    have aK:K.E b=some o:=hb
    refine .inr ⟨i,Z,by rw [ar];exact aK,fun y a a0 a1 a2=>?_⟩
    have hold:touchAt t y=some a:=by
     obtain⟨op,V,ay⟩:=touch_of a0
     rcases getElem?_append_cases V with⟨_,a3⟩ | ⟨_,a4⟩
     ·rw [touchAt_of a3];exact ay
     ·rw [(hu op a4).1] at ay;cases ay
    exact RP ah aZ aY (al.kE i Z b (by rw [ar,aK];simp) y a hold a1 a2))
  rw [aq,MX] at this;exact this
 have a5:∀b,G0 s₀.E K.E b≠none→s₀.H b=none:=by
  intro b hb;have:=(aJ.fits 0 aa).d b (by rw [upd_same];exact hb)
  rwa [upd_same] at this
 have a6:k'<F.n:=Nat.lt_of_lt_of_le ai h.Bo.jn;obtain⟨z,_,a7,_⟩:=aN.law.recv U vs rfl;obtain⟨a8,a9⟩:=a7 k' x (G0 s₀.E K.E) a6 aF aS aI a5 (aL _ _ _ _ aX aO);obtain⟨ba,bb⟩:=aP;have f0:∀a,a≠0→a≠i→upd (upd φ i (.ph .CH)) 0 (.ph (.BX (U++ [k']) (vs++ [x]))) a=φ a:=fun a au av=>by rw [upd_ne _ _ au,upd_ne _ _ av]
 have fi:upd (upd φ i (.ph .CH)) 0 (.ph (.BX (U++ [k']) (vs++ [x]))) i= .ph .CH:=by rw [upd_ne _ _ ah,upd_same]
 refine⟨upd (upd φ i (.ph .CH)) 0 (.ph (.BX (U++ [k']) (vs++ [x]))),upd (upd r i ba) 0 a8,upd (upd bt i true) 0 true,upd (upd S i K) 0 ⟨G0 s₀.E K.E,s₀.H,false⟩,⟨by rw [ak];exact aG,?_,fun a o ae=>?_,by rw [ak];exact aJ,h.Hq,h.FT,h.ne,?_,?_,fun hb=>(by rw [upd_same] at hb;cases hb),fun ap hb=>?_,?_,h.tape,h.os,h.output⟩,?_⟩
 ·rw [ak];refine aT.UB (fun a am=>?_) (fun a am ab=>?_) (fun ap=>?_)
  ·by_cases q:a=0
   ·subst q;rw [upd_same,ag];rfl
   ·by_cases W:a=i
    ·subst W;rw [fi,Y];rfl
    ·rw [f0 a q W]
  ·by_cases q:B.N0+a=i
   ·rw [q,fi] at ab;exact ab.elim
   ·rwa [f0 _ (by omega) q] at ab
  ·have:=h.Bo.cj ap;exact f0 _ (by omega) (by omega)
 ·by_cases q:a=0
  ·subst q;rw [aQ] at ae;obtain rfl:=Option.some.inj ae;rw [upd_same,upd_same,upd_same,upd_same];exact .walk rfl (fun q=>by cases q) a9
  ·by_cases W:a=i
   ·subst W;rw [hi] at ae;obtain rfl:=Option.some.inj ae;rw [fi,upd_ne _ _ q,upd_same,upd_ne _ _ q,upd_same,upd_ne _ _ q,upd_same];have hm:(a==0)=false:=by simp [q]
    exact .walk (by rw [hm];rfl) (fun q=>by cases q) (by rw [hm];exact bb)
   ·rw [V a q W] at ae;rw [f0 a q W,upd_ne _ _ q,upd_ne _ _ W,upd_ne _ _ q,upd_ne _ _ W,upd_ne _ _ q,upd_ne _ _ W];exact h.Eg a o ae
 ·show(w.setChan F.ch 0 #[] false (k+1) (k+1) false).heap[F.wg]? =_;rw [Oe _ _ _ _ _ _ _ _ h.ne];exact h.wg
 ·show(w.setChan F.ch 0 #[] false (k+1) (k+1) false).heap[F.ch]? =_;simp [World.setChan,aH]
 ·have be:=h.Bo.cj ap;rw [upd_ne _ _ (by omega),upd_ne _ _ (by omega)] at hb;exact h.blk ap hb
 ·rw [upd_same];exact(h.le.trans fun b o V=>aB.ext b o V).trans aI
 ·rw [ak];refine QO ?_;have aw:=sumTo_upd (upd φ i (.ph .CH)) (.ph (.BX (U++ [k']) (vs++ [x]))) (wt F.n) aa;have an:=sumTo_upd φ (.ph .CH) (wt F.n) Z;rw [upd_ne _ _ (Ne.symm ah),ag] at aw;rw [Y] at an;have bf:wt F.n (.ph (.BX U vs))=2:=rfl;have bg:wt F.n (.ph (.BX (U++ [k']) (vs++ [x])))=2:=rfl;have bh:wt F.n (.ph (.Ch k'))=10:=rfl;have bi:wt F.n (.ph .CH)=9:=rfl;omega
theorem Inv.send(h:Inv P F B gs w t φ r bt S Sh j c v wt' sm cl k)(aw:∀k v E E',Le E E'→F.msg k v E→F.msg k v E'){i k':Nat}{g:Goroutine}(hi:gs[i]? =some g)(K:φ i= .ph (.Ch k'))(ay:bt i=true)(Z:(i==0)=false){s₀:St}(ak:CM (S i) s₀)(hs:Stop P F (.Ch k') g s₀):
  GY P F B gs w sl t i (mu F gs.size φ r bt):=by
 have V:i<gs.size:=(Array.getElem?_eq_some_iff.1 hi).1;have al:0<gs.size:=by omega
 have O:i≠0:=by simpa using Z
 have az:k'<j∧i=B.N0+k':=by
  rcases h.Bo.EU V with rfl | ⟨a,b⟩ | ⟨aA,W,rfl⟩ | ⟨aa,rfl⟩
  ·exact absurd rfl O
  ·have:=h.Bo.old i a b;rw [K] at this;exact this.elim
  ·have:=h.Bo.work aA W;rw [K] at this;obtain⟨rfl,_⟩:=this;exact⟨W,rfl⟩
  ·have:=h.Bo.cls aa;rw [K] at this;exact this.elim
 obtain⟨W,aB⟩:=az;have aC:cl=false:=by
  cases aD:cl with
  | false=>rfl
  | true=>exact absurd K (h.noSend aD i k' V)
 subst aC;obtain⟨x,z,am,aE,an⟩:=hs.law.send k' rfl;have ao:stepG P (i==0) g w= .comm g #[scase F.ch x z] true .send w #[]:=by rw [Z];exact aE w
 have ap:∀(a:Nat) (fn:FuncId) (pos:String),MemOp.ofEvents a fn pos #[]= #[]:=fun a fn pos=>by rw [ofEvents_eq];simp
 cases ab:bt 0 with
 | true=>
  have aF:partners (gs.setIfInBounds i ph) F.ch false= []:=by
   refine partners_nil fun a o ae=>?_;rcases getElem?_stand gs i a o ae with⟨_,rfl⟩ | ⟨_,ag⟩
   ·exact offersAt_ph _ _
   ·exact(h.Eg a o ag).Qb fun e=>by
     have:a=0:=by simpa using e
     subst this;exact ab
  have Y:=crowd_waits (sl:=sl) hi ao fun aQ aq=>by
   simp at aq;subst aq;exact ways_send_none (v:=x) (z:=z) h.GG (Nat.le_refl _) aF
  obtain⟨ar,ah,ai⟩:=h.rest (g':=parked g #[scase F.ch x z] .send) (u:=MemOp.ofEvents i g.frame.fn g.frame.place #[]) V ay ak (by rw [K];exact .FA Z am (hs.law.live rfl) an) (ap _ _ _) (fun e=>absurd e O) (fun _ _=>ab) (fun aa e=>by have:=h.Bo.cj aa;omega);exact⟨_,_,_,_,Y,.inl ⟨_,_,_,_,_,_,_,_,_,_,_,_,ah,ai⟩⟩
 | false=>
  obtain⟨aG,aj⟩:∃o,gs[0]? =some o:=⟨_,Array.getElem?_eq_getElem al⟩;obtain⟨p0,au,hm⟩:=h.Bo.main;have av:=h.Eg 0 aG aj;rw [ab,au] at av;obtain⟨aR,vs,U,aH,rfl,rfl,aI⟩:=av.receiver rfl rfl;have aJ:partners (gs.setIfInBounds i ph) F.ch false= [(0,0)]:=by
   rw [partners_one (j:=0) (g:=parked U #[rcase F.ch aH] (.recv true)) (stand_get (Ne.symm O) aj) fun a o aK ae=>?_]
   ·rw [offersAt_parked_recv];simp
   ·rcases getElem?_stand gs i a o ae with⟨_,rfl⟩ | ⟨_,ag⟩
    ·exact offersAt_ph _ _
    ·exact(h.Eg a o ag).Qb fun e=>by
      have:a=0:=by simpa using e
      exact absurd this aK
  have Y:=crowd_send_meets (sl:=sl) hi ao h.GG (Ne.symm O) aj aJ;rw [finishComm_recv,finishComm_send,ap] at Y;have aL:((gs.setIfInBounds 0 (served U (recvd true x true))).setIfInBounds i (served g undef)).size=gs.size:=by simp
  obtain⟨aM,aN,ar,S',ah,ai⟩:=h.meet aw W aB K au (.refl _) ak aI am an (gs':=(gs.setIfInBounds 0 (served U (recvd true x true))).setIfInBounds i (served g undef)) aL
   (by rw [Array.getElem?_setIfInBounds_ne O,Array.getElem?_setIfInBounds_self_of_lt al];rfl) (by rw [Array.getElem?_setIfInBounds_self_of_lt (by simpa using V)]) (fun a aO aP=>by rw [Array.getElem?_setIfInBounds_ne (Ne.symm aP),Array.getElem?_setIfInBounds_ne (Ne.symm aO)]) rfl
   (f1:=g.frame.fn) (f2:=U.frame.fn) (p1:=g.frame.place) (p2:=U.frame.place)
  refine⟨_,_,_,_,Y,.inl ⟨aM,aN,ar,S',Sh,j,c,v,wt',sm,false,k+1,?_,ai⟩⟩;rw [Array.empty_append];exact ah
end
end Pal
namespace Pal
open Go Go.Conc
open Go.ConcN (upd upd_same upd_ne sumTo sumTo_upd sumTo_upd_out sumTo_congr le_sumTo sumTo_le fork_knows RelBy)
section
variable {P:Program}{F:Fam}{B:Base}{gs gs':Array Goroutine}{w w':World}{sl:Option (Nat×Nat)}{t:Trace}{φ:Nat→Nx}{r:Nat→Rk}{bt:Nat→Bool}{S:Nat→St}{Sh:Nat→Prop}{j:Nat}{c:Bool}{v wt' sm v₁ wt₁ sm₁:Nat}{cl cl₁:Bool}{k k₁:Nat}{main:Bool}
theorem Inv.PI(h:Inv P F B gs w t φ r bt S Sh j c v wt' sm true k):c=true∧Ez (φ (B.N0+F.n))∧∀i,0<i→i<gs.size→∃d,φ i= .gone d:=by
 have hm:=h.Bo.mode;have K:c=true∧Ez (φ (B.N0+F.n)):=by
  split at hm
  ·rename_i K;refine⟨K,?_⟩;cases O:φ (B.N0+F.n) with
   | gone d=>trivial
   | ph p=>rw [O] at hm;cases p <;> simp [CE] at hm
  ·simp [CE] at hm
 refine⟨K.1,K.2,fun i hi U=>?_⟩;have:Ez (φ i):=by
  rcases h.Bo.EU U with rfl | ⟨a,b⟩ | ⟨k',V,rfl⟩ | ⟨_,rfl⟩
  ·omega
  ·exact h.Bo.old i a b
  ·exact h.Bo.MY K.1 (.inr (.inr (.inr (.inr K.2)))) k' V
  ·exact K.2
 cases O:φ i with
 | gone d=>exact⟨d,rfl⟩
 | ph p=>rw [O] at this;exact this.elim
theorem Inv.over(h:Inv P F B gs w t φ r bt S Sh j c v wt' sm true k){aD:List Nat}{vs:Lv_}(ao:φ 0= .ph (.BX aD vs)){s₀:St}(ap:CM (S 0) s₀){g':Goroutine}(aE:F.fin g' s₀)
  (aq:gs'.size=gs.size) (aF:gs'[0]? =some g') (Z:∀a,a≠0→gs'[a]? =gs[a]?) {f1:FuncId} {p1:String}:
  Over P F B gs' w (t++ #[{g:=0,fn:=f1,pos:=p1,act:= .recvClosed F.ch}]):=by
 obtain⟨ae,ar,aG⟩:=h.PI;have aY:=h.Bo.pos;have au:=h.Bo.size;have ai:0<gs.size:=by omega
 have aH:F.ch<w.heap.size:=h.Cu.EP F.ch h.FT;generalize hu:(#[{g:=0,fn:=f1,pos:=p1,act:= .recvClosed F.ch}]:Trace)=u;have av:∀op∈u,op.act.touch? =none∧∀m,op.act≠ .mark m:=by
  intro op O;subst hu;simp at O;subst O;exact⟨rfl,by simp⟩
 have aa:=h.Ee.CU h.Bo av;have aI:Deaf t 0=0:=by rw [h.Ee.deaf 0 ai,ao];rfl
 have aw:∀i g,0<i→gs[i]? =some g→∃q d,φ i= .gone d∧QuitsD P q d g∧S i= .quiet:=by
  intro i g hi K;obtain⟨d,ay⟩:=aG i hi (Array.getElem?_eq_some_iff.1 K).1;have hs:=h.Eg i g K;rw [ay] at hs;generalize V:Nx.gone d=x at hs;generalize S i=s at hs ⊢;generalize r i=ρ at hs;generalize bt i=aZ at hs;cases hs with
  | gone _ ag=>cases V;exact⟨_,_,ay,ag,rfl⟩
  | _=>cases V
 have ag:∀i,∃q,∀g,0<i→gs[i]? =some g→QuitsD P q (Deaf t i) g:=by
  intro i;by_cases hi:0<i∧i<gs.size
  ·obtain⟨q,d,U,Y,_⟩:=aw i _ hi.1 (Array.getElem?_eq_getElem hi.2);refine⟨q,fun g _ K=>?_⟩;rw [Array.getElem?_eq_getElem hi.2] at K;obtain rfl:=Option.some.inj K;rw [h.Ee.deaf i hi.2,U];exact Y
  ·exact⟨0,fun g U Y=>absurd ⟨U,(Array.getElem?_eq_some_iff.1 Y).1⟩ hi⟩
 have az:∀op∈u,op.g=0:=by intro op O;subst hu;simp at O;subst O;rfl
 have aJ:BZ t w gs.size (lone s₀) Sh:=by
  have U:=h.Cu.ghost ai ap;refine U.congr fun i hi=>?_;by_cases e:i=0
  ·subst e;rw [upd_same];exact⟨rfl,rfl⟩
  ·rw [upd_ne _ _ e];obtain⟨_,_,_,_,aK⟩:=aw i _ (by omega) (Array.getElem?_eq_getElem hi);rw [aK];simp [lone,e]
 have aL:BZ (t++u) w gs.size (lone s₀) Sh:=aJ.mute (g:=0) az (fun op Z=>(av op Z).1) (fun op O=>by subst hu;simp at O;subst O;exact aH) rfl;refine⟨fun i=>Classical.choose (ag i),Sh,g',s₀,⟨aF,⟨fun i g hi K=>?_,fun i hi=>?_⟩,by rw [aq];exact aL,fun x g K aM aj=>?_,?_⟩,aE,h.le.trans fun b o Z=>ap.ext b o Z,h.tape,h.os,h.output⟩
 ·rw [Deaf_other t (by omega) u az];rw [Z i (by omega)] at K;exact Classical.choose_spec (ag i) g hi K
 ·exact aa.above i (by rw [← aq];exact hi)
 ·rcases aa.over x g K aM aj with q | ⟨q1,q2⟩
  ·exact q
  obtain⟨p,W⟩:=aa.I5 ae ar;have a0:p<t.size:=by
   obtain⟨a1,a2⟩:=h.Ee.I5 ae ar;rcases Nat.lt_or_ge p t.size with q | q
   ·exact q
   ·have U:=W.1;obtain⟨op,O,aN⟩:=Option.map_eq_some_iff.1 U;rcases getElem?_append_cases O with⟨aO,_⟩ | ⟨_,hm⟩
    ·exact aO
    ·subst hu;simp at hm;subst hm;cases aN
  have ak:(t++u)[t.size]? =some {g:=0,fn:=f1,pos:=p1,act:= .recvClosed F.ch}:=by subst hu;simp
  have aP:(t++u).heard t.size:=⟨0,by simp [Trace.g?,ak],by rw [deaf_old (Nat.le_refl _)];exact aI⟩;have ah:HappensBefore (t++u) p t.size:= .single (.inr ⟨.closed W.1 (by rw [act?_of ak]),W.2.2.1,aP⟩);have aA:(t++u).g? t.size=some 0:=by simp [Trace.g?,ak]
  have al:∀{a b:Nat} {g:Nat},a<b→(t++u).g? a=some g→(t++u).g? b=some g→HappensBefore (t++u) a b:=fun U Y aQ=> .single (.inl ⟨U,_,Y,aQ⟩);rcases Nat.lt_or_ge g (B.N0+F.n) with aR | aR
  ·
   obtain⟨q,aS,aT,aU,aV,aW⟩:=W.2.2.2.1;obtain⟨ρ,a3,aX,ab⟩:=aW (g - B.N0) (by omega);have am:B.N0+(g - B.N0)=g:=by omega
   rw [am] at ab;have aB:HappensBefore (t++u) ρ q:= .single (.inr ⟨.marked aX (.inr ab.act) aT (fun z U Y=>aa.norel z (by omega)),ab.heard,aV⟩);have aC:HappensBefore (t++u) q p:=al aS aU W.2.1;have hle:x≤ρ:=Nat.le_of_not_lt fun an=>ab.after x an K aj;refine⟨t.size,aA,?_⟩;rcases Nat.lt_or_ge x ρ with V | V
   ·exact((al V K ab.g).trans (aB.trans aC)).trans ah
   ·obtain rfl:x=ρ:=by omega
    exact(aB.trans aC).trans ah
  ·
   have am:g=B.N0+F.n:=by rw [ae] at au;have:=h.Bo.cj ae;simp at au;omega
   subst am;have hle:x≤p:=Nat.le_of_not_lt fun an=>W.2.2.2.2 x an K aj;refine⟨t.size,aA,?_⟩;rcases Nat.lt_or_ge x p with V | V
   ·exact(al V K W.2.1).trans ah
   ·obtain rfl:x=p:=by omega
    exact ah
 ·have:=aa.deaf 0 ai;rw [ao] at this;exact this
theorem Inv.recv(h:Inv P F B gs w t φ r bt S Sh j c v wt' sm cl k)(aK:∀k v E E',Le E E'→F.msg k v E→F.msg k v E'){x:Goroutine}(hi:gs[0]? =some x){ai:List Nat}{vs:Lv_}(Z:φ 0= .ph (.BX ai vs))(aL:bt 0=true)
  {O:Goroutine} {s₀:St} (aj:CM (S 0) s₀) (hs:Stop P F (.BX ai vs) O s₀) (ak:∀w,stepG P true x w=stepG P true O w) (a4:x.frame=O.frame):
  GY P F B gs w sl t 0 (mu F gs.size φ r bt):=by
 have al:0<gs.size:=(Array.getElem?_eq_some_iff.1 hi).1;obtain⟨z,aM,_,aN⟩:=hs.law.recv ai vs rfl;have am:stepG P (0==0) x w= .comm O #[rcase F.ch z] true (.recv true) w #[]:=by rw [show((0:Nat)==0)=true from rfl,ak];exact aM w
 have an:∀(a:Nat) (fn:FuncId) (pos:String),MemOp.ofEvents a fn pos #[]= #[]:=fun a fn pos=>by rw [ofEvents_eq];simp
 by_cases aa:partners (gs.setIfInBounds 0 ph) F.ch true= []
 ·cases ab:cl with
  | false=>
   have W:=h.GG;rw [ab] at W;have Y:=crowd_waits (sl:=sl) hi am fun a5 az=>by
    simp at az;subst az;exact ways_recv_none (z:=z) W aa
   have aO:∀a k',a<gs.size→φ a= .ph (.Ch k')→bt a=true:=by
    intro a k' ag ao;cases hb:bt a with
    | true=>rfl
    | false=>
     have V:=h.Eg a _ (Array.getElem?_eq_getElem ag);rw [ao,hb] at V;obtain⟨g,y,ap,hgo,_⟩:=V.M8;have ah:a≠0:=fun e=>by subst e;rw [Z] at ao;cases ao
     have:(a,0)∈partners (gs.setIfInBounds 0 ph) F.ch true:=mem_partners.2 ⟨gs[a],stand_get ah (Array.getElem?_eq_getElem ag),by rw [hgo,offersAt_parked_send];simp⟩;rw [aa] at this;cases this
   obtain⟨aA,aq,ar⟩:=h.rest (g':=parked O #[rcase F.ch z] (.recv true)) (u:=MemOp.ofEvents 0 x.frame.fn x.frame.place #[]) al aL aj (by rw [Z];exact .Ff rfl hs) (an _ _ _) (fun _=>⟨ab,aO⟩) (fun k' e=>by rw [Z] at e;cases e) (fun W e=>by have:=h.Bo.pos;omega);exact⟨_,_,_,_,Y,.inl ⟨_,_,_,_,_,_,_,_,_,_,_,_,aq,ar⟩⟩
  | true=>
   subst ab;have Y:=crowd_recv_closed (sl:=sl) hi am h.GG aa;rw [finishComm_recv,an] at Y;obtain⟨W,a6,aP⟩:=h.PI;have aQ:=aN fun k' U hh=>by
    have aR:k'<j:=by rw [h.Bo.cj W];exact U
    have aB:=h.Bo.GJ k' aR hh;rw [Z] at aB;have a7:=h.Bo.size;have a8:=h.Bo.pos;obtain⟨d,aC⟩:=aP (B.N0+k') (by omega) (by omega);apply Classical.byContradiction;intro aS;rw [aB.2 aS] at aC;cases aC
   have aT:=h.over (gs':=gs.setIfInBounds 0 (served O (recvd true z false))) Z aj aQ (by simp) (by rw [Array.getElem?_setIfInBounds_self_of_lt al];rfl) (fun a ag=>by rw [Array.getElem?_setIfInBounds_ne (Ne.symm ag)]) (f1:=O.frame.fn) (p1:=O.frame.place);refine⟨_,_,_,_,Y,.inr ?_⟩;rw [Array.empty_append];exact aT
 ·have ab:cl=false:=by
   obtain⟨⟨a,b⟩,au⟩:=List.exists_mem_of_ne_nil _ aa;obtain⟨o,av,K⟩:=mem_partners.1 au;rcases getElem?_stand gs 0 a o av with⟨_,rfl⟩ | ⟨_,ae⟩
   ·rw [offersAt_ph] at K;cases K
   ·obtain⟨k',U,_⟩:=(h.Eg a o ae).ME fun e=>by rw [e] at K;cases K
    cases ak:cl with
    | false=>rfl
    | true=>exact absurd U (h.noSend ak a k' (Array.getElem?_eq_some_iff.1 ae).1)
  subst ab;obtain⟨a,aw,aD,a9,ba,d,ah,aE,Y⟩:=crowd_recv_meets_some (sl:=sl) hi am h.GG aa fun a b au=>by
   obtain⟨o,av,K⟩:=mem_partners.1 au;rcases getElem?_stand gs 0 a o av with⟨_,rfl⟩ | ⟨aU,ae⟩
   ·rw [offersAt_ph] at K;cases K
   ·have V:=h.Eg a o ae;obtain⟨k',U,ay⟩:=V.ME fun e=>by rw [e] at K;cases K
    rw [U,ay] at V;obtain⟨g,y,ap,hgo,_⟩:=V.M8;rw [hgo,offersAt_parked_send] at K;simp at K;exact⟨K,aU,g,y,ap,_,by rw [ae,hgo]⟩
  have aF:a<gs.size:=(Array.getElem?_eq_some_iff.1 aE).1;have V:=h.Eg a _ aE;obtain⟨k',U,ay⟩:=V.ME (by rw [offersAt_parked_send];simp);rw [U,ay] at V;obtain⟨g,y,ap,hgo,aV,bb,aG⟩:=V.M8;obtain⟨aH,aW,aX⟩:=R7 hgo;have aY:aD=y:=by simp [scase] at aH;exact aH.1
  subst aY;subst aW;rw [finishComm_recv,finishComm_send,an] at Y;rw [← aX] at aG;have aI:k'<j∧a=B.N0+k':=by
   rcases h.Bo.EU aF with rfl | ⟨q1,q2⟩ | ⟨aZ,aJ,rfl⟩ | ⟨W,rfl⟩
   ·exact absurd rfl ah
   ·have:=h.Bo.old a q1 q2;rw [U] at this;exact this.elim
   ·have:=h.Bo.work aZ aJ;rw [U] at this;obtain⟨rfl,_⟩:=this;exact⟨aJ,rfl⟩
   ·have:=h.Bo.cls W;rw [U] at this;exact this.elim
  obtain⟨a0,a1,aA,S',aq,ar⟩:=(h.at_ d).meet aK aI.1 aI.2 U Z aj (.refl _) hs aV aG (gs':=(gs.setIfInBounds a (served aw undef)).setIfInBounds 0 (served O (recvd true aD true))) (by simp)
   (by rw [Array.getElem?_setIfInBounds_self_of_lt (by simpa using al)];rfl) (by rw [Array.getElem?_setIfInBounds_ne (Ne.symm ah),Array.getElem?_setIfInBounds_self_of_lt aF]) (fun b a2 a3=>by rw [Array.getElem?_setIfInBounds_ne (Ne.symm a2),Array.getElem?_setIfInBounds_ne (Ne.symm a3)]) rfl
   (f1:=aw.frame.fn) (f2:=O.frame.fn) (p1:=aw.frame.place) (p2:=O.frame.place)
  refine⟨_,_,_,_,Y,.inl ⟨a0,a1,aA,S',Sh,j,c,v,wt',sm,false,k+1,?_,ar⟩⟩;rw [Array.empty_append];exact aq
theorem Inv.spawn(h:Inv P F B gs w t φ r bt S Sh j c v wt' sm cl k){g g' child:Goroutine}(hi:gs[0]? =some g){p U O:Ph}(ah:φ 0= .ph p)(av:c=false){s₀:St}(aq:CM (S 0) s₀)(aw:stepG P true g w= .spawn g' child w #[])
  (ay:Way P true (Stop P F U) g' s₀) (az:Way P false (Stop P F O) child ⟨s₀.E,fun _=>none,false⟩) (aA:Fam.Db U=true) (aB:Fam.Db O=false) (aC:Fam.DI U=false) (aD:Fam.DI O=false) {ai:Nat} {aj:Bool}
  (aE:BY F B.N0 (gs.size+1) ai aj (upd (upd φ gs.size (.ph O)) 0 (.ph U)) v wt' sm cl)
  (Z:DT (.ph p)=0∧DT (.ph U)=0∧DT (.ph O)=0) (aF:∀k,k<ai→late (upd (upd φ gs.size (.ph O)) 0 (.ph U) (B.N0+k))→k<j∧late (φ (B.N0+k))) (an:aj=true→B.N0+F.n=gs.size∧O= .CJ)
  (hm:wt F.n (.ph U)+wt F.n (.ph O)<wt F.n (.ph p)) (aG:sm=0):
  GY P F B gs w sl t 0 (mu F gs.size φ r bt):=by
 have W:0<gs.size:=(Array.getElem?_eq_some_iff.1 hi).1;have ak:=runT_crowd_spawn (P:=P) (sl:=sl) (i:=0) hi (show stepG P (0==0) g w=_ from aw);have aH:∀(a:Nat) (fn:FuncId) (pos:String),MemOp.ofEvents a fn pos #[]= #[]:=fun a fn pos=>by rw [ofEvents_eq];simp
 rw [aH] at ak;generalize aI:({g:=0,fn:=g.frame.fn,pos:=g.frame.place,act:= .go gs.size}:MemOp)=x at ak;generalize aJ:({g:=gs.size,fn:=child.frame.fn,pos:=g.frame.place,act:= .start}:MemOp)=y at ak;have aa:x.g=0∧x.act= .go gs.size:=by subst aI;exact⟨rfl,rfl⟩
 have ab:y.g=gs.size∧y.act= .start:=by subst aJ;exact⟨rfl,rfl⟩
 have aK:((#[]:Trace).push x).push y= #[x,y]:=rfl;have al:((gs.setIfInBounds 0 g').push child).size=gs.size+1:=by simp
 have f0:upd (upd φ gs.size (.ph O)) 0 (.ph U) 0= .ph U:=upd_same _ _ _;have am:upd (upd φ gs.size (.ph O)) 0 (.ph U) gs.size= .ph O:=by rw [upd_ne _ _ (by omega),upd_same]
 have ar:∀a,a≠0→a≠gs.size→upd (upd φ gs.size (.ph O)) 0 (.ph U) a=φ a:=fun a aL aM=>by rw [upd_ne _ _ aL,upd_ne _ _ aM]
 have hu:∀op∈(#[x,y]:Array MemOp),op.act.touch? =none∧∀m,op.act≠ .mark m:=by
  intro op K;simp only [List.mem_toArray,List.mem_cons,List.not_mem_nil,or_false] at K;rcases K with rfl | rfl
  ·rw [aa.2];exact⟨rfl,by simp⟩
  ·rw [ab.2];exact⟨rfl,by simp⟩
 have aN:Dx F B.N0 B.t0 (gs.size+1) ai aj (upd (upd φ gs.size (.ph O)) 0 (.ph U)) (t++ #[x,y]):=by
  refine h.Ee.spawn h.Bo av (fun a ao=>?_) (by rw [am];exact Z.2.2) (by rw [ah];exact Z.1) aF (fun e=>⟨(an e).1,by rw [(an e).1,am,(an e).2]⟩) aa ab;by_cases e:a=0
  ·subst e;rw [f0,ah,Z.1,Z.2.1]
  ·rw [ar a e (by omega)]
 have au:BZ t w gs.size (upd S 0 s₀) Sh:=h.Cu.ghost W aq;have aO:BZ (t++ #[x,y]) w gs.size (upd S 0 s₀) Sh:=by
  refine au.ext (fun said=>?_) (fun op K a ao=>by rw [(hu op K).1] at ao;cases ao) (fun op K=>?_) rfl fun _ _=>rfl
  ·have e:t++ #[x,y]=(t++ #[x])++ #[y]:=by apply Array.ext';simp
   rw [e];exact noRace_append (g:=gs.size) (noRace_append (g:=0) (h.Cu.clean said) (fun op K=>by simp at K;subst K;exact aa.1) fun z a _ op K b hb _=>by rw [(hu op (by simp at K ⊢;exact .inl K)).1] at hb;cases hb)
    (fun op K=>by simp at K;subst K;exact ab.1) fun z a _ op K b hb _=>by rw [(hu op (by simp at K ⊢;exact .inr K)).1] at hb;cases hb
  ·simp only [List.mem_toArray,List.mem_cons,List.not_mem_nil,or_false] at K;rcases K with rfl | rfl
   ·rw [aa.2];trivial
   ·rw [ab.2];trivial
 have aP:BZ (t++ #[x,y]) w (gs.size+1) (upd (upd S 0 s₀) gs.size ⟨s₀.E,fun _=>none,false⟩) Sh:=by
  refine aO.push (i:=0) W (E:=s₀.E) (fun b o ae=>by rw [upd_same];exact ae) fun b hb z a aQ aR aS=>?_;have hold:touchAt t z=some a:=by
   obtain⟨op,ae,ap⟩:=touch_of aQ;rcases getElem?_append_cases ae with⟨_,aT⟩ | ⟨_,aU⟩
   ·rw [touchAt_of aT];exact ap
   ·rw [(hu op aU).1] at ap;cases ap
  exact fork_knows aa ab (by rw [h.Ee.deaf 0 W,ah];exact Z.1) (h.Ee.above _ (Nat.le_refl _)) (au.kE 0 W b (by rw [upd_same];exact hb) z a hold aR aS)
 obtain⟨aV,aW⟩:=ay;obtain⟨aX,aY⟩:=az;have ag:∀{α:Type} (f:Nat→α) (a b:α),upd (upd f 0 a) gs.size b 0=a:=fun f a b=>by rw [upd_ne _ _ (by omega),upd_same]
 refine⟨_,_,_,_,ak,.inl ⟨upd (upd φ gs.size (.ph O)) 0 (.ph U),upd (upd r 0 aV) gs.size aX,upd (upd bt 0 true) gs.size true,upd (upd S 0 s₀) gs.size ⟨s₀.E,fun _=>none,false⟩,Sh,ai,aj,v,wt',sm,cl,k,?_,?_⟩⟩
 ·rw [aK];refine⟨by rw [al];exact aE,by rw [al];exact aN,fun a o V=>?_,by rw [al];exact aP,h.Hq,h.FT,h.ne,h.wg,h.GG,fun hb=>(by rw [ag] at hb;cases hb),fun _ _=>aG,?_,h.tape,h.os,h.output⟩
  ·by_cases e:a=0
   ·subst e;rw [Array.getElem?_push_lt (by simpa using W)] at V;simp at V;subst V;rw [f0,ag,ag,ag];exact .walk aA.symm (fun q=>by rw [aC] at q;cases q) aW
   ·by_cases Y:a=gs.size
    ·subst Y;have:child=o:=by
      rw [show gs.size=(gs.setIfInBounds 0 g').size by simp,Array.getElem?_push_size] at V;exact Option.some.inj V
     subst this;rw [am,upd_same,upd_same,upd_same];have aZ:(gs.size==0)=false:=by rw [beq_eq_false_iff_ne];omega
     rw [aZ];exact .walk aB.symm (fun q=>by rw [aD] at q;cases q) aY
    ·rw [ar a e Y,upd_ne _ _ Y,upd_ne _ _ e,upd_ne _ _ Y,upd_ne _ _ e,upd_ne _ _ Y,upd_ne _ _ e];have:gs[a]? =some o:=by
      rw [Array.getElem?_push] at V;simp [Y] at V;simpa [Array.getElem?_setIfInBounds_ne (Ne.symm e)] using V
     exact h.Eg a o this
  ·rw [ag];exact h.le.trans fun b o ae=>aq.ext b o ae
 ·rw [al];refine QO ?_;simp only [sumTo];rw [am];have a0:=sumTo_upd (upd φ gs.size (.ph O)) (.ph U) (wt F.n) W;rw [upd_ne _ _ (by omega),ah] at a0;have a1:=sumTo_upd_out φ (.ph O) (wt F.n) (i:=gs.size) (j:=gs.size) (Nat.le_refl _);omega
theorem Inv.step(h:Inv P F B gs w t φ r bt S Sh j c v wt' sm cl k)(aB:∀k v E E',Le E E'→F.msg k v E→F.msg k v E'):
  ∃gs' w' aC u,stepT P (crowd gs w sl)=(.next (crowd gs' w' aC),u)∧
  ((∃aO aP aQ S' a0 O a1 v' a2 sm' cl' k',Inv P F B gs' w' (t++u) aO aP aQ S' a0 O a1 v' a2 sm' cl' k'∧Mu.lt (mu F gs'.size aO aP aQ) (mu F gs.size φ r bt))∨Over P F B gs' w' (t++u)):=by
 have bu:=h.Bo.pos;have ah:=h.Bo.size;have aD:0<gs.size:=by omega
 have a3:∀x∈gs,awake x:=by
  intro x K;obtain⟨i,hi,rfl⟩:=Array.mem_iff_getElem.1 K;exact(h.Eg i _ (Array.getElem?_eq_getElem hi)).awake
 have aE:∀i (hi:i<gs.size) p,φ i= .ph p→bt i=true→(gs[i]).status= .running:=by
  intro i hi p a4 hb;have hs:=h.Eg i _ (Array.getElem?_eq_getElem hi);rw [a4,hb] at hs;generalize K:Nx.ph p=x at hs;generalize Y:true=b at hs;generalize gs[i]=o at hs ⊢;generalize r i=ρ at hs;generalize S i=s at hs;cases hs with
  | walk _ _ am=>exact am.running
  | again _ _=>rfl
  | Ff _ _=>cases Y
  | FA _ _ _ _=>cases Y
  | blk _ _=>cases Y
  | gone _ _=>cases K
 have a5:∃(i:Nat) (g:Goroutine),gs[i]? =some g∧g.status= .running:=by
  obtain⟨p0,Z,an⟩:=h.Bo.main;cases aF:bt 0 with
  | true=>exact⟨0,_,Array.getElem?_eq_getElem aD,aE 0 aD p0 Z aF⟩
  | false=>
   obtain⟨a6,a7⟩:=h.L5 aF;have aR:=h.Eg 0 _ (Array.getElem?_eq_getElem aD);rw [Z,aF] at aR;obtain⟨ai,vs,aS,bv,rfl,_,_⟩:=aR.receiver rfl rfl;obtain⟨am,U⟩:=an;have aG:B.N0+F.n<gs.size:=by rw [U] at ah;simp at ah;omega
   have a8:=h.Bo.cls U;have aa:=h.Bo.mode;rw [if_pos U] at aa;cases aq:φ (B.N0+F.n) with
   | gone d=>rw [aq] at aa;have:=aa.2.2.2.2.2;rw [a6] at this;cases this
   | ph aH=>
    cases aI:bt (B.N0+F.n) with
    | true=>exact⟨_,_,Array.getElem?_eq_getElem aG,aE _ aG aH aq aI⟩
    | false=>
     have ar:=h.blk U aI;have ab:=h.Eg _ _ (Array.getElem?_eq_getElem aG);have a9:aH= .C4:=by
      have au:=a8;rw [aq] at ab au;rw [aI] at ab;generalize gs[B.N0+F.n]=o at ab;generalize r (B.N0+F.n)=ρ at ab;generalize S (B.N0+F.n)=s at ab;generalize K:Nx.ph aH=x at ab au;generalize Y:false=b at ab;cases ab with
      | walk _ _ _=>cases Y
      | again _ _=>cases Y
      | Ff _ _=>cases K;exact au.elim
      | FA _ _ _ _=>cases K;exact au.elim
      | blk _ _=>cases K;rfl
      | gone _ _=>cases K
     subst a9;rw [aq] at aa;obtain⟨ba,_,_⟩:=aa;have aT:=h.Bo.cnt;rw [Z] at aT;simp only [pend,Nat.add_zero] at aT;have hex:∃i,i<gs.size∧1≤cU (φ i)+cL (φ i)+cS (φ i):=by
      apply Classical.byContradiction;intro bb;have aJ:∀i,i<gs.size→cU (φ i)=0∧cL (φ i)=0∧cS (φ i)=0:=fun i hi=>by
       have:¬1≤cU (φ i)+cL (φ i)+cS (φ i):=fun q=>bb ⟨i,hi,q⟩;omega
      have zero:∀f:Nat→Nat,(∀i,i<gs.size→f i=0)→sumTo gs.size f=0:=fun f bc=>by
       have:=sumTo_le (f:=f) (c:=0) (j:=gs.size) (fun i hi=>by rw [bc i hi];exact Nat.le_refl _);omega
      have z1:=zero (fun i=>cU (φ i)) fun i hi=>(aJ i hi).1;have bw:=zero (fun i=>cL (φ i)) fun i hi=>(aJ i hi).2.1;have bx:=zero (fun i=>cS (φ i)) fun i hi=>(aJ i hi).2.2;omega
     obtain⟨i,hi,aj⟩:=hex;cases ao:φ i with
     | gone d=>rw [ao] at aj;simp [cU,cL,cS] at aj
     | ph pi=>
      have bd:bt i=true:=by
       cases hb:bt i with
       | true=>rfl
       | false=>
        have hs:=h.Eg i _ (Array.getElem?_eq_getElem hi);rw [ao,hb] at hs;rw [ao] at aj;generalize gs[i]=o at hs;generalize r i=ρ at hs;generalize S i=s at hs;generalize K:Nx.ph pi=x at hs aj;generalize Y:false=b at hs;cases hs with
        | walk _ _ _=>cases Y
        | again _ _=>cases Y
        | Ff _ _=>simp [cU,cL,cS] at aj
        | FA _ _ _ _=>have:=a7 i _ hi (ao.trans K);rw [hb] at this;cases this
        | blk _ _=>simp [cU,cL,cS] at aj
        | gone _ _=>cases K
      exact⟨i,_,Array.getElem?_eq_getElem hi,aE i hi pi ao bd⟩
 obtain⟨i,g,d,aC,hi,av,be⟩:=crowd_pick (P:=P) (w:=w) (sl:=sl) a3 a5
 suffices GY P F B gs (w.at d) aC t i (mu F gs.size φ r bt) by
  obtain⟨gs',w',bf,u,aK,aw⟩:=this;exact⟨gs',w',bf,u,be.trans aK,aw⟩
 have V:=h.at_ d;have aL:i<gs.size:=(Array.getElem?_eq_some_iff.1 hi).1;have hs:=h.Eg i g hi;generalize K:φ i=x at hs;generalize aU:r i=ρ at hs;generalize hb:bt i=b at hs;generalize ay:S i=s at hs;cases hs with
 | Ff _ _=>cases av
 | FA _ _ _ _=>cases av
 | blk _ _=>cases av
 | gone hm ak=>exact V.slip hi av K aU hm ak ay
 | @again ai vs _ aS _ z hm W=>
  have ag:i=0:=by simpa using hm
  subst ag;refine V.recv aB hi K hb (by rw [ay];exact .refl _) W (fun w=>?_) rfl;rw [stepG_tries];congr 1;have:=W.law.run;obtain⟨a,b,c,d,e⟩:=aS;simp only at this;subst this;rfl
 | @walk p _ _ _ hm ak am=>
  have bg:JQ (Stop P F p) g s∨∃f,ρ= .node f∧(∀w,Fits s w→∃g' s' w' es,stepG P (i==0) g w= .go g' w' es∧Jr P (i==0) (JQ (Stop P F p)) (f w) g' s'∧Fits s' w'∧Fr s w s' w'∧(∀e∈es,Ev s w w' e)∧(s= .quiet→s'= .quiet∧w'=w∧es= #[])):=by
   cases ρ with
   | leaf=>exact .inl am
   | node f=>
    rcases am with q | ⟨_,q⟩
    ·exact .inl q
    ·exact .inr ⟨f,rfl,q⟩
  rcases bg with⟨s₀,al,W⟩ | ⟨f,rfl,hgo⟩
  ·subst ay;by_cases aV:∃k',p= .Ch k'
   ·obtain⟨k',rfl⟩:=aV;exact V.send aB hi K hb hm al W
   by_cases c2:∃O,p= .EE O
   ·obtain⟨O,rfl⟩:=c2;have ag:i=0:=by simpa [Fam.Db] using hm
    subst ag;obtain⟨p0,Z,an⟩:=h.Bo.main;have:p0= .EE O:=by rw [K] at Z;exact(Nx.ph.inj Z).symm
    subst this;obtain⟨rfl,bh,U⟩:=an;obtain⟨g',child,_,_,hgo,aM,aN⟩:=W.law.go _ rfl;have ar:sm=0:=by have:=h.Bo.mode;rw [U] at this;exact this.2.2.1
    have bi:=h.Bo.spawn K;have az:F.Dq O= .Fi∨F.Dq O= .ER (O+1):=by unfold Fam.Dq;split;exact .inl rfl;exact .inr rfl
    have ap:F.start O= .Ch O∨F.start O= .CH:=by unfold Fam.start;split;exact .inl rfl;exact .inr rfl
    have bj:gs.size=B.N0+O:=by rw [U] at ah;simpa using ah
    refine V.spawn hi K U al (hgo _) aN aM ?_ ?_ ?_ ?_ bi ⟨rfl,?_,?_⟩ (fun k' aW ae=>?_) (fun e=>by rw [U] at e;cases e) ?_ ar
    ·rcases az with e | e <;> rw [e] <;> rfl
    ·rcases ap with e | e <;> rw [e] <;> rfl
    ·rcases az with e | e <;> rw [e] <;> rfl
    ·rcases ap with e | e <;> rw [e] <;> rfl
    ·rcases az with e | e <;> rw [e] <;> rfl
    ·rcases ap with e | e <;> rw [e] <;> rfl
    ·by_cases e:k'=O
     ·subst e;rw [upd_ne _ _ (by omega),show B.N0+k'=gs.size by omega,upd_same] at ae;rcases ap with e | e <;> rw [e] at ae <;> exact ae.elim
     ·rw [upd_ne _ _ (by omega),upd_ne _ _ (by omega)] at ae;exact⟨by omega,ae⟩
    ·have:wt F.n (.ph (F.start O))≤10:=by rcases ap with e | e <;> rw [e] <;> simp [wt]
     have aw:wt F.n (.ph (F.Dq O))+20≤5*F.n+60+20*(F.n - O):=by
      rcases az with e | e <;> rw [e] <;> simp only [wt] <;> omega
     have aX:wt F.n (.ph (.EE O))=5*F.n+55+20*(F.n - O):=rfl;omega
   by_cases c3:p= .Fi
   ·subst c3;have ag:i=0:=by simpa [Fam.Db] using hm
    subst ag;obtain⟨p0,Z,an⟩:=h.Bo.main;have:p0= .Fi:=by rw [K] at Z;exact(Nx.ph.inj Z).symm
    subst this;obtain⟨bh,U⟩:=an;obtain⟨g',child,_,_,hgo,aM,aN⟩:=W.law.Gg rfl;have ar:sm=0:=by have:=h.Bo.mode;rw [U] at this;exact this.2.2.1
    have bj:gs.size=B.N0+j:=by rw [U] at ah;simpa using ah
    refine V.spawn hi K U al (hgo _) aN aM rfl rfl rfl rfl (h.Bo.VM K) ⟨rfl,rfl,rfl⟩ (fun k' aW ae=>?_) (fun _=>⟨by omega,rfl⟩) (by simp only [wt];omega) ar;rw [upd_ne _ _ (by omega),upd_ne _ _ (by omega)] at ae;exact⟨aW,ae⟩
   by_cases c4:∃ai vs,p= .BX ai vs
   ·obtain⟨ai,vs,rfl⟩:=c4;have ag:i=0:=by simpa [Fam.Db] using hm
    subst ag;exact V.recv aB hi K hb al W (fun _=>rfl) rfl
   by_cases aY:p= .Dp
   ·subst aY;exact V.close hi K hm W
   by_cases aA:p= .C4∧sm=0
   ·obtain⟨rfl,aA⟩:=aA;exact V.block hi K hb hm al W aA
   obtain⟨v',w',sm',es,nx,bl⟩:=h.Bo.enabled aL K (fun k e=>aV ⟨k,e⟩) (fun k e=>c2 ⟨k,e⟩) c3 (fun ai vs e=>c4 ⟨ai,vs,e⟩) aY (fun e=>by
    have aa:=h.Bo.mode
    subst e
    have aZ:c=true∧i=B.N0+F.n:=by
     rcases h.Bo.EU aL with rfl | ⟨a,b⟩ | ⟨k',bm,rfl⟩ | q
     ·obtain⟨q,ak,bn⟩:=h.Bo.main;rw [K] at ak;cases ak;exact bn.elim
     ·have:=h.Bo.old i a b;rw [K] at this;exact this.elim
     ·have:=h.Bo.work k' bm;rw [K] at this;exact this.elim
     ·exact q
    rw [if_pos aZ.1,← aZ.2,K] at aa
    obtain⟨ba,_⟩:=aa
    have:sm≠0:=fun q=>aA ⟨rfl,q⟩
    omega)
   exact V.act hi K hm al W bl
  ·subst ay;have bo:Fits (S i) (w.at d):=V.Cu.fits i aL;obtain⟨g',s',w',es,aK,aw,aX,bp,bq,br⟩:=hgo (w.at d) bo;exact V.own hi K hm ak aK aw aX bp bq br (by rw [aU];exact⟨f,_,rfl,rfl⟩)
theorem Inv.run(W:∀k v E E',Le E E'→F.msg k v E→F.msg k v E'):∀(K:Mu) (gs:Array Goroutine) (w:World) (sl:Option (Nat×Nat)) (t:Trace) (φ:Nat→Nx) (r:Nat→Rk) (bt:Nat→Bool) (S:Nat→St) (Sh:Nat→Prop) (j:Nat) (c:Bool) (v wt' sm:Nat) (cl:Bool) (k:Nat),
  mu F gs.size φ r bt=K→Inv P F B gs w t φ r bt S Sh j c v wt' sm cl k→∃n gs' w' O U,runNT P n (crowd gs w sl) t=(.next (crowd gs' w' O),U)∧Over P F B gs' w' U:=by
 intro K
 induction K using Mu.wf.induction with
 | _ K Y=>
  intro gs w sl t φ r bt S Sh j c v wt' sm cl k Z h;obtain⟨gs',w',O,u,V,hh⟩:=h.step (sl:=sl) W;rcases hh with⟨aa,ab,ae,S',ag,ah,ai,v',aj,sm',cl',k',ak,al⟩ | am
  ·obtain⟨n,an,ao,ap,aq,ar,au⟩:=Y _ (Z▸al) gs' w' O (t++u) aa ab ae S' ag ah ai v' aj sm' cl' k' rfl ak;exact⟨n+1,an,ao,ap,aq,KB V ar,au⟩
  ·exact⟨1,gs',w',O,t++u,KB V rfl,am⟩
end
end Pal
namespace Pal
open Go Go.Conc
open Go.ConcN (upd upd_same upd_ne sumTo sumTo_upd sumTo_upd_out sumTo_congr le_sumTo sumTo_le)
def HG(H:LH)(a b:Nat):LH:=fun x=>if x=b then none else if x=a then none else H x
theorem TK{P:Program}(F:Fam){Q:GP}{g:Goroutine}{s:St}(ab:1≤F.n)(al:F.n<2147483647)(am:∀k v E E',Le E E'→F.msg k v E→F.msg k v E')
  (V:F.wg≠F.ch) (W:s.H F.wg=some (F.Ge 0 0)) (Y:s.H F.ch=some (.chan 0 #[] false 0 0 false))
  (an:Way P true (Stop P F (.ER 0)) g ⟨s.E,HG s.H F.wg F.ch,false⟩) (ao:∀g s,F.fin g s→(Dv P).ok Q g s):(Dv P).ok Q g s:=by
 intro gs w sl t q Sh hC;have O:0<gs.size:=(Array.getElem?_eq_some_iff.1 hC.main).1;let s1:St:={s with H:=fun b=>if b=F.wg then none else s.H b}
 have ae:lone s 0=s:=rfl;have ap:BZ t w gs.size (upd (lone s) 0 s1) (fun b=>Sh b∨b=F.wg):=by
  have:=hC.Cu.share (i:=0) O (b₀:=F.wg) (o₀:=F.Ge 0 0) (by rw [ae];exact W);exact this
 have c2:BZ t w gs.size (upd (upd (lone s) 0 s1) 0 ⟨s.E,HG s.H F.wg F.ch,false⟩) (fun b=>(Sh b∨b=F.wg)∨b=F.ch):=by
  have:=ap.share (i:=0) O (b₀:=F.ch) (o₀:= .chan 0 #[] false 0 0 false) (by rw [upd_same];simp [s1,Ne.symm V,Y]);refine this.congr fun i hi=>?_;by_cases e:i=0
  ·subst e;rw [upd_same,upd_same,upd_same];exact⟨rfl,rfl⟩
  ·have h:∀(f:Nat→St) (x:St),upd f 0 x i=f i:=fun f x=>upd_ne f x e;constructor <;> simp only [h]
 have ag:∀b,s.H b≠none→∀x a,touchAt t x=some a→Dl a.loc=some b→Knows t 0 x:=fun b hb=>hC.Cu.kH 0 O b (by rw [ae];exact hb);have ah:∀b,(b=F.wg∨b=F.ch)→s.H b≠none:=by rintro b (rfl | rfl) <;> simp [W,Y]
 have ai:=hC.Cu.fits 0 O;obtain⟨ρ,aq⟩:=an;let φ:Nat→Nx:=fun i=>if i=0 then .ph (.ER 0) else .gone (Deaf t i)
 have z:∀f:Nx→Nat,(∀d,f (.gone d)=0)→f (.ph (.ER 0))=0→(sumTo gs.size fun i=>f (φ i))=0:=by
  intro f aj ak;have:=sumTo_le (f:=fun i=>f (φ i)) (c:=0) (j:=gs.size) fun i _=>by
   show f (φ i)≤0;by_cases e:i=0
   ·simp [φ,e,ak]
   ·simp [φ,e,aj]
  omega
 have ar:∀i,(upd (upd (lone s) 0 s1) 0 ⟨s.E,HG s.H F.wg F.ch,false⟩) i=if i=0 then⟨s.E,HG s.H F.wg F.ch,false⟩ else .quiet:=by
  intro i;by_cases e:i=0
  ·subst e;rw [upd_same];rfl
  ·rw [upd_ne _ _ e,upd_ne _ _ e];simp [lone,e]
 have au:F.Ge (Fam.word 0 0) (0:Nat)=F.Ge 0 0:=by simp [Fam.word]
 have av:Inv P F ⟨gs.size,t.size,s.E,w⟩ gs w t φ (fun i=>if i=0 then ρ else chain (q i)) (fun _=>true) (upd (upd (lone s) 0 s1) 0 ⟨s.E,HG s.H F.wg F.ch,false⟩) (fun b=>(Sh b∨b=F.wg)∨b=F.ch) 0 false 0 0 0 false 0:=by
  refine⟨⟨O,ab,al,by simp,Nat.zero_le _,by simp,⟨.ER 0,rfl,rfl,ab,rfl⟩,fun i aj ak=>?_,fun k K=>by omega,by simp,?_,by simp [φ,pend],?_,fun k K=>by omega,.nil,fun k K=>by cases K⟩,
   ⟨fun i hi=>?_,fun i hi=>hC.lv.above i hi,fun x a b U hb Z K i hi aw=>?_,fun x a b U hb Z K=>?_,fun x g ay V az=> .inl (hC.over x g ay V az),fun x U e=>?_,Nat.le_refl _,fun k K=>by omega,by simp,by simp⟩,fun i g' aa=>?_,c2,.inl (.inr rfl),.inr rfl,V,?_,?_,by simp,by simp,?_,rfl,rfl,rfl⟩
  ·have:i≠0:=by omega
   simp [φ,this,Ez]
  ·rw [z cU (fun _=>rfl) rfl];simp [φ,pend]
  ·simp only [Bool.false_eq_true,if_false,CE];exact⟨z cL (fun _=>rfl) rfl,z cS (fun _=>rfl) rfl,trivial,trivial,trivial⟩
  ·by_cases e:i=0
   ·subst e;simp [φ,DT];exact hC.hears
   ·simp [φ,e,DT]
  ·have:i=0:=by
    rcases aw with e | e
    ·exact e
    ·exact absurd hi (Nat.not_lt.2 e)
   subst this;exact ag b (ah b Z) x a U hb
  ·exact ag b (ah b Z) x a U hb
  ·have:=lt_of_act? e;have aT:t.size≤x:=U;omega
  ·rw [ar];by_cases e:i=0
   ·subst e;rw [hC.main] at aa;obtain rfl:=Option.some.inj aa;simp only [if_true,φ];exact .walk rfl (fun h=>by cases h) aq
   ·have hm:(i==0)=false:=by rw [beq_eq_false_iff_ne];exact e
    simp only [e,if_false,φ];exact .gone hm (hC.lv.old i g' (by omega) aa)
  ·show w.heap[F.wg]? =_;rw [au];exact ai.h _ _ W
  ·exact ai.h _ _ Y
  ·rw [upd_same];exact Le.refl _
 obtain⟨n,gs',w',aA,aB,aC,aD,aE,g',s',aF,aG,hle,aH,aI,aJ⟩:=Inv.run am _ _ _ sl _ _ _ _ _ _ _ _ _ _ _ _ _ rfl av;obtain⟨n2,aK,w2,aL,t2,q2,aM,g2,s2,k1,aN,aO,aP,aQ,aR,aS⟩:=ao g' s' aG gs' w' aA aB aD aE aF;refine⟨n+n2,aK,w2,aL,t2,q2,aM,g2,s2,?_,aN,aO,fun b o h=>aP b o (hle b o h),aQ.trans aH,aR.trans aI,aS.trans aJ⟩;rw [runNT_add,aC];exact k1
end Pal
namespace Pal
open Go Go.Conc
section
variable {P:Program}{F:Fam}{J:Judge P}{Q:GP}{n:Nat}{L L':Env}{ds:Ld_}{k:Li_}{cs:Lf_}{s s':St}{b:Frame}{main:Bool}
theorem Cz(hb:b.roundOf=none)(T:Ay)(todo:Li_):fr b T ds todo=b.at ⟨T,ds⟩ todo:=by simp [fr,Frame.at,hb]
theorem ID(hb:b.roundOf=none)(T:Ay)(todo:Li_):D1 b T ds todo={b.at ⟨T,ds⟩ todo with mode:= .returning}:=by simp [D1,Frame.at,hb]
theorem Ey(T:Ay)(ds:Ld_)(x:Operand):(⟨T,ds⟩:Act).eval x=By T x:=by cases x <;> rfl
theorem Fy(T:Ay)(ds:Ld_)(d:Option Tmp)(v:Value):(⟨T,ds⟩:Act).put d v=⟨Co T d v,ds⟩:=by cases d <;> rfl
def JO(J:Judge P)(Q:GP)(b:Frame)(n:Nat)(L:Env)(ds:Ld_)(cs:Lf_)(s:St):Prop:=
 ∀T,Has n L T→∀todo,J.ok Q (G (D1 b T ds todo) cs) s
theorem JL.out(K:b.roundOf=none)(h:JO J Q b n L ds cs s):JL J Q b n L ds [] cs s:=fun T O=>
 Judge.CU rfl (fun w=>by simp [G,stepG,stepG.exec,fr,D1,K]) (h T O [])
theorem GO(K:b.roundOf=none)(h:JO J Q b n L ds cs s):JL J Q b n L ds (.code .ret::k) cs s:=fun T O=>
 Judge.CU rfl (fun w=>by simp [G,stepG,stepG.exec,fr,D1,K]) (h T O (.code .ret::k))
theorem JO.leave{c:Frame}{v:Value}(O:b.kind= .normal)(K:BR P b.fn L n s v)(h:J.ok Q (G (c.finish v) cs) s):JO J Q b n L [] (c::cs) s:=fun T U todo=>by
 obtain⟨fn,V,K⟩:=K
 exact Judge.leave O V (K T U) h
theorem JO.leaveD{c:Frame}{fn:Func}(O:b.kind= .deferred)(U:P.funcs[b.fn]? =some fn)(K:fn.results= #[])(V:c.mode= .returning∨c.mode= .panicking [goexitEntry])(h:J.ok Q (G c cs) s):JO J Q b n L [] (c::cs) s:=fun T Z todo=>by
 refine Judge.CU rfl (fun w=>?_) h
 have W:=results_none K T P w
 have Y:=fun(x:Array Event)=>events_results_none (P:=P) (w:=w) K T x
 rcases V with e | e <;> simp [G,stepG,unwind,D1,U,W,Y,doReturn,O,GStep.after,seen_none,e,goexitEntry]
theorem JO.enter{f:FuncId}{fn:Func}{c:Code}{vs:Lv_}(O:b.roundOf=none)(V:P.funcs[f]? =some fn)(W:(fn.name== "runtime.NumGoroutine")=false)(hb:fn.body=some c)(aa:vs.length≤fn.ntmps)
  (h:∀T,Has n L T→∀todo,JL J Q (baseD f) fn.ntmps (Fe 0 vs) [] [.code c] (D1 b T ds todo::cs) s):JO J Q b n L (dcall f vs.toArray::ds) cs s:=fun T Y todo=>by
 refine Judge.CU rfl (fun w=>?_) (h T Y todo (vs.toArray++Array.replicate (fn.ntmps - vs.length) undef) ⟨by simp;omega,fun t v ht=>?_⟩)
 ·rw [ID O,stepG_unwind_enter (a:=⟨T,dcall f vs.toArray::ds⟩) rfl V W hb,ID O]
  rw [Cz (b:=baseD f) rfl];simp
 ·obtain⟨_,K⟩:=Ix ht;have Z:t<vs.length:=by
   rcases Nat.lt_or_ge t vs.length with U | U
   ·exact U
   ·simp at K;have:=(List.getElem?_eq_some_iff.1 K).1;omega
  rw [Array.getD_eq_getD_getElem?,Array.getElem?_append_left (by simpa using Z)];simp at K;simp [K]
theorem JL.defer{ops:Ao_}{i:Nat}{rest:List Nat}{d:Option Tmp}{f:FuncId}{args:Array Operand}{ats:Array TypeId}{ty:TypeId}{p:String}{af:Ae_}{g:On_}{vs:Lv_}
  (U:ops[i]? =some ⟨d,.defer ⟨.value (.func f),args,ats⟩,ty,p,af,g⟩) (V:b.roundOf=none) (hw:A5 L ops ⟨d,.defer ⟨.value (.func f),args,ats⟩,ty,p,af,g⟩=some true) (K:((b.kind != .early)&&Br n d)=true)
  (W:evs L args.toList=some vs) (h:JL J Q b n (AA L d undef) (dcall f vs.toArray::ds) (.inRegion ops rest::k) cs s):
  JL J Q b n L ds (.inRegion ops (i::rest)::k) cs s:=fun T O=>by
 simp only [Bool.and_eq_true] at K
 have Y:args.map (By T)=vs.toArray:=by
  rw [← FZ O.FP W];apply Array.ext';simp
 refine Judge.oper U (CL O hw) (by simpa using K.1) (.inl V) ?_;have Z:execOp (By T) ⟨d,.defer ⟨.value (.func f),args,ats⟩,ty,p,af,g⟩= .pure (.defer (dcall f vs.toArray)):=by
  simp only [execOp,resolve,bind,Sem.bind,Deferred.ofValue,By,pure,dcall];rw [Y];simp
 rw [Z];exact h _ (O.put K.2 undef)
def IN:Ph→Bool
 | .Ch _ | .EE _ | .Fi | .BX _ _ | .Dp | .C4=>false
 | _=>true
theorem GR{p:Ph}{g:Goroutine}(K:IN p=true)(U:g.status= .running)(V:g.offers=none)(O:if Fam.DI p=true then s= .quiet else s.q=false)(W:p= .Ec→mayWake P g=true)
  (h:∀v wt sm v' wt' sm' es nx,F.act p v wt sm=some ((v',wt',sm'),es,nx)→∃g',(∀w,F.WG w v wt sm→stepG P (Fam.Db p) g w= .go g' (F.put w v' wt' sm') es)∧g'.status= .running∧Ka P (Stop P F) (Fam.Db p) nx g' (Fam.Gh p s)):Stop P F p g s:=
 Fj.stop {
  run:=U
  offers:=V
  quiet:=fun e=>by rw [if_pos e] at O;exact O
  live:=fun e=>by rw [if_neg (by rw [e];simp)] at O;exact O
  act:=h
  GC:=fun e=>by rcases e with e | e;exact W e;subst e;cases K
  Eh:=fun e=>by subst e;cases K
  close:=fun e=>by subst e;cases K
  send:=fun k e=>by subst e;cases K
  go:=fun j e=>by subst e;cases K
  Gg:=fun e=>by subst e;cases K
  recv:=fun Y vs e=>by subst e;cases K}
theorem IF{w:World}{v wt sm:Nat}(h:F.WG w v wt sm):F.put w v wt sm=w:=by
 unfold Fam.put;have:w.heap.setIfInBounds F.wg (F.Ge (Fam.word v wt) sm)=w.heap:=by
  apply Array.ext_getElem?;intro i;by_cases e:F.wg=i
  ·subst e;unfold Fam.WG at h;have O:F.wg<w.heap.size:=by
    rcases Nat.lt_or_ge F.wg w.heap.size with K | K
    ·exact K
    ·simp [Array.getElem?_eq_none K] at h
   rw [Array.getElem?_setIfInBounds_self_of_lt O,h]
  ·rw [Array.getElem?_setIfInBounds_ne e]
 rw [this]
theorem GV{w:World}{v wt sm:Nat}(h:F.WG w v wt sm):w.cell? F.sA=some (.int .u64 (Fam.word v wt))∧w.cell? F.mA=some (.int .u32 sm)∧w.frozen? F.sA=false∧w.frozen? F.mA=false:=by
 unfold Fam.WG Fam.Ge at h;refine⟨?_,?_,?_,?_⟩
 ·simp [World.cell?,Fam.sA,h]
 ·simp [World.cell?,Fam.mA,h]
 ·simp [World.frozen?,Fam.sA,h]
 ·simp [World.frozen?,Fam.mA,h]
theorem Kz{w:World}{v wt sm v' wt':Nat}(h:F.WG w v wt sm):w.setCell F.sA (.int .u64 (Fam.word v' wt'))=F.put w v' wt' sm:=by
 unfold Fam.put World.setCell;congr 1;apply Array.ext_getElem?;intro i;unfold Fam.WG Fam.Ge at h;rw [Array.getElem?_modify];have O:F.wg<w.heap.size:=by
  rcases Nat.lt_or_ge F.wg w.heap.size with K | K
  ·exact K
  ·simp [Array.getElem?_eq_none K] at h
 by_cases e:F.wg=i
 ·subst e;rw [Array.getElem?_setIfInBounds_self_of_lt O,h];simp [Fam.sA,Fam.Ge]
 ·rw [Array.getElem?_setIfInBounds_ne e];simp [Fam.sA,e]
theorem Oh{w:World}{v wt sm sm':Nat}(h:F.WG w v wt sm):w.setCell F.mA (.int .u32 sm')=F.put w v wt sm':=by
 unfold Fam.put World.setCell;congr 1;apply Array.ext_getElem?;intro i;unfold Fam.WG Fam.Ge at h;rw [Array.getElem?_modify];have O:F.wg<w.heap.size:=by
  rcases Nat.lt_or_ge F.wg w.heap.size with K | K
  ·exact K
  ·simp [Array.getElem?_eq_none K] at h
 by_cases e:F.wg=i
 ·subst e;rw [Array.getElem?_setIfInBounds_self_of_lt O,h];simp [Fam.mA,Fam.Ge]
 ·rw [Array.getElem?_setIfInBounds_ne e];simp [Fam.mA,e]
structure C5 (P:Program) (f:FuncId) (e:Ay→Sem Value):Prop where
 h:∃fn,P.funcs[f]? =some fn∧(fn.name== "runtime.NumGoroutine")=false∧fn.body.isNone=true∧Extern.findNext fn=none∧Extern.find fn=some e
section
variable {ops:Ao_}{i:Nat}{rest:List Nat}{d:Option Tmp}{f:FuncId}{args:Array Operand}{ats:Array TypeId}{ty:TypeId}{pp:String}{af:Ae_}{g:On_}{vs:Lv_}{p q:Ph}
theorem NC{T:Ay}(K:Has n L T)(O:evs L args.toList=some vs):args.map (⟨T,ds⟩:Act).eval=vs.toArray:=by
 have:(⟨T,ds⟩:Act).eval=By T:=funext fun x=>Ey T ds x;rw [this,← FZ K.FP O];apply Array.ext';simp
theorem Ju{m:Mark}(W:IN p=true)(Y:if Fam.DI p=true then s= .quiet else s.q=false)(Z:p≠ .Ec)(aa:∀v wt sm,F.act p v wt sm=some ((v,wt,sm),#[Fam.D4 m],.ph q))(ab:Fam.Gh p s=s)
  (ae:ops[i]? =some ⟨d,.call ⟨.value (.func f),args,ats⟩,ty,pp,af,g⟩) (O:b.roundOf=none) (hw:A5 L ops ⟨d,.call ⟨.value (.func f),args,ats⟩,ty,pp,af,g⟩=some true) (K:((b.kind != .early)&&Br n d)=true)
  (hm:∀x,m≠ .extern x) (he:C5 P f (fun _=>do mark m;pure Extern.Race.none_))
  (h:JL (Bn P (Fam.Db p)) (Stop P F q) b n (AA L d (.tuple #[])) ds (.inRegion ops rest::k) cs s):
  JL (Bn P (Fam.Db p)) (Stop P F p) b n L ds (.inRegion ops (i::rest)::k) cs s:=fun T U=>by
 simp only [Bool.and_eq_true] at K
 obtain⟨fn,ag,ah,hb,ai,he⟩:=he.h
 refine(Bn P _).stop (GR W rfl rfl Y (fun e=>absurd e Z) fun v wt sm v' wt' sm' es nx V=>?_)
 rw [aa] at V;cases V
 refine⟨_,fun w aj=>?_,rfl,by rw [ab];exact h _ (U.put K.2 _)⟩
 rw [Cz O,Cz O,stepG_mark0 (a:=⟨T,ds⟩) m hm ae (CL U hw) (by simpa using K.1) rfl ag ah hb ai he,IF aj,Fy]
 rfl
theorem Jk{mk:Addr→Mark}{ad:Addr}(W:IN p=true)(Y:if Fam.DI p=true then s= .quiet else s.q=false)(Z:p≠ .Ec)(aa:∀v wt sm,F.act p v wt sm=some ((v,wt,sm),#[Fam.D4 (mk ad)],.ph q))
  (ab:ops[i]? =some ⟨d,.call ⟨.value (.func f),args,ats⟩,ty,pp,af,g⟩) (U:b.roundOf=none) (hw:A5 L ops ⟨d,.call ⟨.value (.func f),args,ats⟩,ty,pp,af,g⟩=some true) (K:((b.kind != .early)&&Br n d)=true)
  (hm:∀ad x,mk ad≠ .extern x) (he:C5 P f (Extern.Race.marked mk)) (ae:evs L args.toList=some vs) (ag:vs[0]? =some (.pointer (some ad)))
  (h:JL (Bn P (Fam.Db p)) (Stop P F q) b n (AA L d (.tuple #[])) ds (.inRegion ops rest::k) cs (Fam.Gh p s)):
  JL (Bn P (Fam.Db p)) (Stop P F p) b n L ds (.inRegion ops (i::rest)::k) cs s:=fun T O=>by
 simp only [Bool.and_eq_true] at K
 obtain⟨fn,ah,ai,hb,aj,he⟩:=he.h
 refine(Bn P _).stop (GR W rfl rfl Y (fun e=>absurd e Z) fun v wt sm v' wt' sm' es nx V=>?_)
 rw [aa] at V;cases V
 refine⟨_,fun w ak=>?_,rfl,h _ (O.put K.2 _)⟩
 rw [Cz U,Cz U,stepG_markAt (a:=⟨T,ds⟩) mk hm ab (CL O hw) (by simpa using K.1) rfl ah ai hb aj he (ad:=ad) (by rw [NC O ae];simpa using ag),IF ak,Fy]
 rfl
end
end
end Pal
namespace Pal
open Go Go.Conc
section
variable {E H:LH}{S:List Seg}{j l:Nat}{o o':Obj}
theorem Lj(ae:As E H S)(V:S[j]? =some [(l,o)])(o':Obj):(Al E H S).upd l o'=Al E H (S.set j [(l,o')])∧As E H (S.set j [(l,o')]):=by
 obtain⟨K,W⟩:=F2 ae V;have U:=Nd.iff.1 W;have Y:E l=none:=(U.2 (l,o) (by simp)).1;have ag:H l=none:=(U.2 (l,o) (by simp)).2;have Z:Nd E H (S.set j []).flatten:=HA.Nd.left W;have ah:∀q∈(S.set j []).flatten,q.1≠l:=fun q O e=>by
  have:=U.1;rw [List.map_append,List.nodup_append] at this;exact this.2.2 q.1 (List.mem_map_of_mem O) l (by simp) e
 have aa:A0 (S.set j []).flatten H l=none:=by
  have key:∀(B:List (Nat×Obj)),(∀q∈B,q.1≠l)→A0 B H l=none:=by
   intro B
   induction B with
   | nil=>intro _;exact ag
   | cons q B ai=>
    intro O;obtain⟨c,aj⟩:=q;have ab:l≠c:=fun e=>O (c,aj) (by simp) e.symm;have K:=ai fun ak al=>O ak (List.mem_cons_of_mem _ al);simp only [A0]
    first
    | rw [if_neg ab];exact K
    | rw [if_neg (Ne.symm ab)];exact K
  exact key _ ah
 have f1:=IE (E:=E) (H:=H) (B:=(S.set j []).flatten) (r:=l) Y aa o Z;have f2:=IE (E:=E) (H:=H) (B:=(S.set j []).flatten) (r:=l) Y aa o' Z;obtain⟨am,g2⟩:=Hg (seg:= [(l,o)]) V f2.1;refine⟨?_,g2⟩;rw [K,← am,← f1.2,← f2.2];unfold St.upd;congr 1;funext x;by_cases an:x=l <;> simp [an]
end
section
variable {P:Program}{J:Judge P}{Q:Gs_}{b:Frame}{n:Nat}{L:Env}{ds:Ld_}{k:Li_}{cs:Lf_}{E H:LH}{S:List Seg}{j l:Nat}
theorem Judge.Eh{α:Type}{g:Goroutine}{g':α→Goroutine}{s:St}(x:Sem α)(Y:s.q=false)(Z:g.status= .running)
  (aa:∀w a w',x.run P w= .ok a w'→∃es,stepG P J.main g w= .go (g' a) w' es∧∀e∈es,e∈x.events P w #[])
  (h:lp P x s (fun a s'=>J.ok Q (g' a) s') (fun _ _=>False)):J.ok Q g s:=by
 refine J.step ⟨Z,fun w f=>?_,fun e=>by subst e;cases Y⟩;obtain⟨s',O,U,V,K⟩:=KS _ h f;cases W:x.run P w with
 | ok a w'=>
  rw [W] at O U V K;simp only [Ip] at O U V;obtain⟨es,he,hm⟩:=aa w a w' W;exact⟨g' a,s',w',es,he,K,O,U,fun e ab=>V e (hm e ab)⟩
 | halt a w'=>rw [W] at K;exact K.elim
theorem Ky{r:Loop}{s:St}{K:Loop→St→Prop}{X:Halt→St→Prop}(h:s.get l=some (.loop r))(k:K r s):lp P (Instr.getLoop l) s K X:=by
 unfold Instr.getLoop getObj;simp only [bind,Sem.bind,lp];exact⟨_,h,rfl,k⟩
theorem N4{r:Loop}{T:Ay}(j:Nat)(K:As E H S)(O:S[j]? =some [(l,.loop r)])(hs:(r.state== .busy)=false)(U:r.pending=none)
  (h:As E H (S.set j [(l,.loop {r with state:= .exhausted})])→J.ok Q (G (fr b T ds k) cs) (Al E H (S.set j [(l,.loop {r with state:= .exhausted})]))):
  J.ok Q (G (fr b T ds (.endRangeFunc l::k)) cs) (Al E H S):=by
 obtain⟨u1,V⟩:=Lj K O (.loop {r with state:= .exhausted});have W:lp P (Instr.endLoop l) (Al E H S) (fun a s'=>a=none∧s'=Al E H (S.set j [(l,.loop {r with state:= .exhausted})])) (fun _ _=>False):=by
  unfold Instr.endLoop;refine AF _ _ (Ky (D3 (i:=0) K O rfl) ?_);rw [if_neg (by rw [hs];simp)];have Y:(Al E H S).H l=some (.loop r):=by
   have:=D3 (i:=0) K O rfl;have Z:E l=none:=LD K O;unfold St.get at this;rw [show(Al E H S).E l=none from Z] at this;exact this
  simp only [bind,Sem.bind,lp,setObj,pure];refine⟨⟨_,Y,rfl⟩,rfl,U,?_⟩;exact u1
 refine Judge.Eh (g':=fun aa=>G (fr b T ds ((aa.map Item.code).toList++k)) cs) (Instr.endLoop l) rfl rfl (fun w a w' ab=>?_) (Da _ W (fun a s' ⟨ae,ag⟩=>by subst ae ag;exact h V) (fun _ _ h=>h));refine⟨seen P b.fn ((Instr.endLoop l).events P w #[])++ #[],?_,fun e he=>?_⟩
 ·simp [G,stepG,stepG.exec,fr,ab,GStep.after]
 ·exact mem_seen (by simpa using he)
def QW(l:Nat)(f:FuncId):Frame:={(default:Frame) with fn:=f,kind:= .normal,roundOf:=some l}
theorem Et.yield{r:Loop}{t:Tmp}{v:Value}{B:Seg}{R:Value→LH→Seg→Prop}{i:Nat}(K:B[i]? =some (l,.loop r))(O:r.params= #[t])
  (h:∀(Q:Gs_) (U:Frame) (cs:Lf_) (H:LH),As E H [B]→(∀w E' S' B',Le E E'→S'.flatten=B'→R w E' B'→As E' H S'→J.ok Q (G (U.finish w) cs) (Al E' H S'))→
   J.ok Q (G (fr (QW l r.fn) (r.tmps.setIfInBounds t v) [] [.code r.assign,.beginRound,.code r.body]) (U::cs)) (Al E H [B])):
  Et J (.func (.yield l) #[] #[]) [v] E B R:=fun H V Q c cs W=>by
 have Y:(mk E H B).get l=some (.loop r):=MC V K
 simp only [Deferred.ofValue,bind,Sem.bind,pure,invoke]
 unfold Instr.yield
 refine AF _ _ (Ky Y ?_)
 have Z:¬((#[]:Ay)++ [v].toArray).size≠r.params.size:=by rw [O];simp
 rw [if_neg Z];have aa:((r.params.zip ((#[]:Ay)++ [v].toArray)).foldl (fun tmps (t,a)=>tmps.setIfInBounds t a) r.tmps)=r.tmps.setIfInBounds t v:=by rw [O];simp [Array.zip,Array.zipWith,Array.zipWithMAux]
 simp only [lp,pure];have ab:mk E H B=Al E H [B]:=by unfold Al;simp
 rw [aa,ab];exact h Q c cs H (by unfold As;simpa using V) fun w E' S' B' hle K ae ag=>by
  subst K;exact W w _ ⟨E',S'.flatten,hle,ae,ag,rfl⟩
theorem JL.beginRound{r:Loop}(j:Nat)(U:b.roundOf=some l)(V:b.kind= .normal)(K:As E H S)(O:S[j]? =some [(l,.loop r)])(hs:r.state= .ready)
  (h:As E H (S.set j [(l,.loop {r with state:= .busy})])→JL J Q b n L ds k cs (Al E H (S.set j [(l,.loop {r with state:= .busy})]))):
  JL J Q b n L ds (.beginRound::k) cs (Al E H S):=fun T W=>by
 obtain⟨u1,Y⟩:=Lj K O (.loop {r with state:= .busy})
 have Z:lp P (Instr.beginRound l) (Al E H S) (fun _ s'=>s'=Al E H (S.set j [(l,.loop {r with state:= .busy})])) (fun _ _=>False):=by
  unfold Instr.beginRound;refine AF _ _ (Ky (D3 (i:=0) K O rfl) ?_);have aa:(Al E H S).H l=some (.loop r):=by
   have:=D3 (i:=0) K O rfl;have ab:E l=none:=LD K O;unfold St.get at this;rw [show(Al E H S).E l=none from ab] at this;exact this
  simp only [bind,Sem.bind,lp,setObj,pure,hs];exact⟨⟨_,aa,rfl⟩,rfl,u1⟩
 refine Judge.Eh (g':=fun _=>G (fr b T ds k) cs) (Instr.beginRound l) rfl rfl (fun w a w' ae=>?_) (Da _ Z (fun a s' ag=>by subst ag;exact h Y T W) (fun _ _ h=>h));refine⟨seen P b.fn ((Instr.beginRound l).events P w #[])++ #[],?_,fun e he=>?_⟩
 ·simp [G,stepG,stepG.exec,fr,stepG.apply,U,V,ae,GStep.after,Frame.finish]
 ·exact mem_seen (by simpa using he)
theorem L8{o:Obj}{seg:Seg}(K:As E H S)(O:S[j]? =some ((l,o)::seg)):(Al E H S).H l=some o:=by
 have:=D3 (i:=0) K O rfl;have U:E l=none:=LD K O;unfold St.get at this;rw [show(Al E H S).E l=none from U] at this;exact this
theorem JL.endRound{r:Loop}{c:Frame}(j:Nat)(U:b.roundOf=some l)(V:b.kind= .normal)(K:As E H S)(O:S[j]? =some [(l,.loop r)])
  (h:As E H (S.set j [(l,.loop {r with state:= .ready,pending:=none})])→J.ok Q (G (c.finish (.bool true)) cs) (Al E H (S.set j [(l,.loop {r with state:= .ready,pending:=none})]))):
  JL J Q b n L [] [] (c::cs) (Al E H S):=fun T ae=>by
 obtain⟨u1,W⟩:=Lj K O (.loop {r with state:= .ready,pending:=none})
 have Y:lp P (Instr.endRound l none) (Al E H S) (fun a s'=>a= .bool true∧s'=Al E H (S.set j [(l,.loop {r with state:= .ready,pending:=none})])) (fun _ _=>False):=by
  unfold Instr.endRound;refine AF _ _ (Ky (D3 (i:=0) K O rfl) ?_);simp only [bind,Sem.bind,lp,setObj,pure];exact⟨⟨_,L8 K O,rfl⟩,rfl,rfl,u1⟩
 refine Judge.Eh (g':=fun v=>G (c.finish v) cs) (Instr.endRound l none) rfl rfl (fun w a w' Z=>?_) (Da _ Y (fun a s' ⟨aa,ab⟩=>by subst aa ab;exact h W) (fun _ _ h=>h));refine⟨seen P b.fn ((Instr.endRound l none).events P w #[])++ #[],?_,fun e he=>?_⟩
 ·simp [G,stepG,stepG.exec,fr,U,V,Z,GStep.after,doReturn]
 ·exact mem_seen (by simpa using he)
theorem JL.rangeFunc{x:Operand}{params:Array Tmp}{as O:Code}{f:FuncId}{caps:Lv_}(ag:b.roundOf=none)(ah:b.kind≠ .early)(Z:ev L x=some (.func (.func f) #[] caps.toArray))(hb:Dk P f=true)(ai:As E H S)
  (h:∀K l T,Has n L T→As E H (S++ [[(K,.deferred (some []))]]++ [[(l,.loop ⟨.ready,none,b.fn,T,params,as,O,K⟩)]])→
   J.ok Q (G (Frame.enter P f (.func (.yield l) #[] #[]::caps).toArray .normal) (fr b T (⟨.collected K,#[]⟩::ds) (.inRangeFunc l::k)::cs)) (Al E H (S++ [[(K,.deferred (some []))]]++ [[(l,.loop ⟨.ready,none,b.fn,T,params,as,O,K⟩)]]))):
  JL J Q b n L ds (.code (.rangeFunc x params as O)::k) cs (Al E H S):=fun T aa=>by
 have aj:lp P (Instr.enterLoop b.fn T params as O b.roundOf) (Al E H S) (fun q s'=>∃K,q.2= [⟨.collected K,#[]⟩]∧As E H (S++ [[(K,.deferred (some []))]]++ [[(q.1,.loop ⟨.ready,none,b.fn,T,params,as,O,K⟩)]])∧s'=Al E H (S++ [[(K,.deferred (some []))]]++ [[(q.1,.loop ⟨.ready,none,b.fn,T,params,as,O,K⟩)]])) (fun _ _=>False):=by
  unfold Instr.enterLoop;rw [ag];simp only [newObj,bind,Sem.bind,lp,pure];refine⟨rfl,fun K V W=>?_⟩;obtain⟨Y,ak⟩:=IE V W (.deferred (some [])) ai;obtain⟨p1,p2⟩:=Em Y;have al:(Al E H S).upd K (.deferred (some []))=Al E H (S++ [[(K,.deferred (some []))]]):=by rw [← p1,← ak];rfl
  rw [al];refine⟨rfl,fun l am an=>?_⟩;obtain⟨ao,ap⟩:=IE am an (.loop ⟨.ready,none,b.fn,T,params,as,O,K⟩) p2;obtain⟨p3,p4⟩:=Em ao;exact⟨K,rfl,p4,by rw [← p3,← ap];rfl⟩
 refine Judge.Eh (g':=fun q=>G (Frame.enter P f (.func (.yield q.1) #[] #[]::caps).toArray .normal) (fr b T (q.2++ds) (.inRangeFunc q.1::k)::cs)) (Instr.enterLoop b.fn T params as O b.roundOf) rfl rfl (fun w a w' aq=>?_) (Da _ aj (fun a s' ⟨K,V,W,Y⟩=>by subst Y;simp only [V];exact h K a.1 T aa W) (fun _ _ h=>h));obtain⟨l,mk⟩:=a;have ar:By T x= .func (.func f) #[] caps.toArray:=aa.ev Z;obtain⟨fn,U,au,ab⟩:∃fn,P.funcs[f]? =some fn∧(fn.name== "runtime.NumGoroutine")=false∧fn.body.isNone=false:=by
  unfold Dk at hb;cases U:P.funcs[f]? with
  | none=>rw [U] at hb;cases hb
  | some fn=>
   rw [U] at hb;simp only [Bool.and_eq_true,Bool.not_eq_true'] at hb;exact⟨fn,rfl,hb.1,by cases Z:fn.body <;> simp_all⟩
 refine⟨seen P b.fn ((Instr.enterLoop b.fn T params as O b.roundOf).events P w #[])++ #[],?_,fun e he=>?_⟩
 ·have ae:=Pd (b:=b) (ds:=mk++ds) T (.inRangeFunc l::k);simp only [fr] at ae;have av:¬fn.name= "runtime.NumGoroutine" :=by simpa using au
  have aw:¬fn.body=none:=by intro e;rw [e] at ab;cases ab
  have ay:By T (.const (.func (.yield l) #[] #[]))= .func (.yield l) #[] #[]:=rfl;simp [G,stepG,stepG.exec,fr,aq,GStep.after,stepG.apply,resolve,ae,ar,Deferred.ofValue,invoke,callFunc,U,av,aw,ah,ay,seen_none]
 ·exact mem_seen (by simpa using he)
theorem JO.collected{K:Nat}(j:Nat)(ae:b.roundOf=none)(O:As E H S)(U:S[j]? =some [(K,.deferred (some []))])
  (h:As E H (S.set j [(K,.deferred none)])→JO J Q b n L ds cs (Al E H (S.set j [(K,.deferred none)]))):JO J Q b n L (⟨.collected K,#[]⟩::ds) cs (Al E H S):=fun T V todo=>by
 obtain⟨u1,W⟩:=Lj O U (.deferred none)
 have Y:lp P (Instr.takeDeferred K) (Al E H S) (fun a s'=>a= []∧s'=Al E H (S.set j [(K,.deferred none)])) (fun _ _=>False):=by
  unfold Instr.takeDeferred getObj;simp only [bind,Sem.bind,lp,setObj,pure];exact⟨_,D3 (i:=0) O U rfl,rfl,⟨_,L8 O U,rfl⟩,rfl,rfl,u1⟩
 refine Judge.Eh (g':=fun l=>G (D1 b T (l++ds) todo) cs) (Instr.takeDeferred K) rfl rfl (fun w a w' Z=>?_) (Da _ Y (fun a s' ⟨aa,ab⟩=>by subst aa ab;exact h W T V todo) (fun _ _ h=>h));refine⟨seen P b.fn ((Instr.takeDeferred K).events P w #[])++ #[],?_,fun e he=>?_⟩
 ·simp [G,stepG,unwind,D1,Z,GStep.after]
 ·exact mem_seen (by simpa using he)
def JZ(f:FuncId)(args caps:Ay):Deferred:={target:= .fn (.func f) caps,args:=args}
theorem JO.P6{f:FuncId}{fn:Func}{c:Code}{vs caps:Lv_}(ab:b.roundOf=none)(O:P.funcs[f]? =some fn)(V:(fn.name== "runtime.NumGoroutine")=false)(hb:fn.body=some c)(W:(vs++caps).length≤fn.ntmps){s:St}
  (h:∀T,Has n L T→∀todo,JL J Q (baseD f) fn.ntmps (Fe 0 (vs++caps)) [] [.code c] (D1 b T ds todo::cs) s):JO J Q b n L (JZ f vs.toArray caps.toArray::ds) cs s:=fun T Y todo=>by
 have Z:¬fn.name= "runtime.NumGoroutine" :=by simpa using V
 refine Judge.CU rfl (fun w=>?_) (h T Y todo ((vs++caps).toArray++Array.replicate (fn.ntmps - (vs++caps).length) undef) ⟨by simp;simp at W;omega,fun t v ht=>?_⟩)
 ·rw [Cz (b:=baseD f) rfl];have:=enter_atD (P:=P) (vs++caps).toArray O hb;simp only [List.size_toArray] at this;rw [← this];simp [G,stepG,unwind,callDeferred,D1,JZ,invoke,callFunc,O,Z,hb,GStep.after,seen_none]
 ·obtain⟨_,K⟩:=Ix ht;have aa:t<(vs++caps).length:=by
   rcases Nat.lt_or_ge t (vs++caps).length with U | U
   ·exact U
   ·simp only [Nat.sub_zero] at K;have:=(List.getElem?_eq_some_iff.1 K).1;omega
  rw [Array.getD_eq_getD_getElem?,Array.getElem?_append_left (by simpa using aa)];simp only [Nat.sub_zero] at K;rw [List.getElem?_toArray,K];rfl
theorem OI{ops:Ao_}{i:Nat}{rest:List Nat}{d:Option Tmp}{x:Operand}{f:FuncId}{caps:Lv_}{args:Array Operand}{ats:Array TypeId}{ty:TypeId}{p:String}{af:Ae_}{g:On_}{vs:Lv_}{s:St}
  (U:ops[i]? =some ⟨d,.defer ⟨.value x,args,ats⟩,ty,p,af,g⟩) (V:b.roundOf=none) (hw:A5 L ops ⟨d,.defer ⟨.value x,args,ats⟩,ty,p,af,g⟩=some true) (O:((b.kind != .early)&&Br n d)=true)
  (W:ev L x=some (.func (.func f) #[] caps.toArray)) (Y:evs L args.toList=some vs) (h:JL J Q b n (AA L d undef) (JZ f vs.toArray caps.toArray::ds) (.inRegion ops rest::k) cs s):
  JL J Q b n L ds (.inRegion ops (i::rest)::k) cs s:=fun T K=>by
 simp only [Bool.and_eq_true] at O
 have Z:args.map (By T)=vs.toArray:=by
  rw [← FZ K.FP Y];apply Array.ext';simp
 refine Judge.oper U (CL K hw) (by simpa using O.1) (.inl V) ?_;have aa:execOp (By T) ⟨d,.defer ⟨.value x,args,ats⟩,ty,p,af,g⟩= .pure (.defer (JZ f vs.toArray caps.toArray)):=by
  simp only [execOp,resolve,bind,Sem.bind,Deferred.ofValue,K.ev W,pure,JZ];rw [Z];simp
 rw [aa];exact h _ (K.put O.2 undef)
end
end Pal
namespace Pal
open Go Go.Conc
section
variable {P:Program}{s:St}{ρ:Operand→Value}{x y z:Operand}{d:Option Tmp}{t u ty e:TypeId}{p:String}{af:Ae_}{g:On_}{a:Option Addr}{l c:Nat}
theorem KD(ht:P.underlying t=some (.slice e))(K:ρ x= .slice a l c)(O:ρ (.const (.slice none 0 0))= .slice none 0 0):Yl P ⟨d,.binOp .eql t x (.const (.slice none 0 0)) u,ty,p,af,g⟩ ρ s (.bool a.isNone):=by
 refine Fw (sm:=do eqGuard .eql t x (.const (.slice none 0 0)) (ρ x) (ρ (.const (.slice none 0 0)));binOp .eql t (ρ x) (ρ (.const (.slice none 0 0)))) rfl ?_
 rw [K,O];have U:lp P (eqGuard .eql t x (.const (.slice none 0 0)) (.slice a l c) (.slice none 0 0)) s (fun _ s'=>s'=s) (fun _ _=>False):=by
  simp [eqGuard,lp,pure]
 refine AF _ _ (Da _ U ?_ (fun _ _ h=>h));rintro _ _ rfl;have hb:binOp .eql t (.slice a l c) (.slice none 0 0)=(do pure (.bool (← Op.equal t (.slice a l c) (.slice none 0 0)))):=rfl
 rw [hb];refine AF (x:=Op.equal t (.slice a l c) (.slice none 0 0)) _ ?_;unfold Op.equal Op.maxDepth Op.equalIn;refine AF _ _ (C8 ht ?_);cases a <;> exact⟨rfl,rfl⟩
end
def EO{α B:Type}(step:B→α→Option B):List α→B→Option B
 | [],b=>some b
 | x::l,b=>(step b x).bind fun K=>EO step l K
section
variable {P:Program}{J:Judge P}{Q:Gs_}{b:Frame}{n:Nat}{L:Env}{ds:Ld_}{k:Li_}{cs:Lf_}{s:St}
theorem Rv{α B:Type}{c:Code}{l:List α}{step:B→α→Option B}{acc acc':B}(ab:EO step l acc=some acc')(I:Env→St→Nat→B→Prop)(ae:I L s 0 acc)
  (round:∀L s i K x O,I L s i K→l[i]? =some x→i<l.length→step K x=some O→(∀L' s',I L' s' (i+1) O→JL J Q b n L' ds (.inLoop c::k) cs s')→JL J Q b n L ds (.code c:: .inLoop c::k) cs s)
  (exit:∀L s,I L s l.length acc'→JL J Q b n L ds (.code c:: .inLoop c::k) cs s):JL J Q b n L ds (.code (.loop c)::k) cs s:=by
 refine Iz ?_;have key:∀(rest:List α) (i:Nat) (K:B),l.drop i=rest→EO step rest K=some acc'→∀L s,I L s i K→i≤l.length→JL J Q b n L ds (.code c:: .inLoop c::k) cs s:=by
  intro rest
  induction rest with
  | nil=>
   intro i K U V L s W hle;have:l.length≤i:=by simpa using U
   obtain rfl:i=l.length:=by omega
   obtain rfl:K=acc':=Option.some.inj V;exact exit L s W
  | cons x rest ag=>
   intro i K U V L s W hle;have Z:l[i]? =some x:=by
    have Y:(l.drop i)[0]? =some x:=by rw [U];rfl
    simpa using Y
   have aa:i<l.length:=(List.getElem?_eq_some_iff.1 Z).1;obtain⟨O,Y,ah⟩:=Option.bind_eq_some_iff.1 V;refine round L s i K x O W Z aa Y fun L' s' ai=>JL.again (ag (i+1) O ?_ ah L' s' ai aa);rw [← List.drop_drop,U];rfl
 exact key l 0 acc rfl ab L s ae (Nat.zero_le _)
end
section
variable {P:Program}{J:Judge P}{Q:Gs_}{b:Frame}{n:Nat}{ds:Ld_}{ops:Ao_}{k:Li_}{cs:Lf_}{m fuel:Nat}{listed:Array Bool}{L:Env}{E H:LH}{S:List Seg}
variable {d:Option Tmp}{x y:Operand}{t u ty e:TypeId}{p:String}{af:Ae_}{g:On_}{v:Value}{i:Nat}
theorem Take.Q4(O:As E H S)(U:ops[i]? =some ⟨d,.box e x,ty,p,af,g⟩)(hw:A5 L ops ⟨d,.box e x,ty,p,af,g⟩=some true)(V:Br n d=true)(W:ev L x=some v)
  (h:∀r,As E H (S++ [[(r,.cells v.cells e (0,0))]])→AO J Q b n ds ops k cs m Ef fuel (A4 listed i) (AA L d (.pointer (some ⟨r,0,none⟩))) (Al E H (S++ [[(r,.cells v.cells e (0,0))]]))):
  Take J Q b n ds ops k cs m Ef fuel listed L (Al E H S) i:=
 Take.Md U (by simp [Dc,V]) hw fun ρ Y=>by
  show lp P (do pure (Next.value (← Instr.box e (ρ x)))) _ _ _
  rw [Y x v W]
  refine AF _ _ ?_
  unfold Instr.box
  refine AF _ _ (GQ O fun r K=>?_)
  rw [(Em K).1]
  exact h r (Em K).2
end
end Pal
namespace Pal
open Go Go.Conc
def GD(P:Program)(d:Nat):GP:=fun g _=>∃q,QuitsD P q d g
def Hl(P:Program):Frame:={(default:Frame) with fn:=P.funcs.size,defers:= [],mode:= .panicking [goexitEntry]}
section
variable {P:Program}{F:Fam}{J:Judge P}{Q:GP}{n:Nat}{L L':Env}{ds:Ld_}{k:Li_}{cs:Lf_}{s s':St}{b:Frame}{main:Bool}
theorem Lv.quits{d:Nat}:∀{m:Nat} {g:Goroutine},Lv P (GD P d) m g→∃q,QuitsD P q d g
 | 0,_,h=>h
 | m+1,_,h=>by
  rcases h with h | ⟨K,g',O,h⟩
  ·exact h
  ·obtain⟨q,U⟩:=h.quits;exact⟨q+1,.ctl K O U⟩
theorem Kw{d:Nat}{g:Goroutine}(h:(F0 P).ok (GD P d) g .quiet):∃q,QuitsD P q d g:=by
 obtain⟨m,hm⟩:=h rfl;exact hm.quits
theorem Jf:(F0 P).ok (GD P 0) (G (Hl P) []) .quiet:=by
 refine Judge.CU (g':={frame:=Hl P,callers:= [],status:= .finished,dying:=none}) rfl (fun w=>?_) ((F0 P).stop ⟨0,rfl,rfl⟩);have K:(default:Frame).todo= []:=rfl;have O:∀(m:FrameMode),Frame.catches P {fn:=P.funcs.size,tmps:=(default:Frame).tmps,todo:= [],defers:= [],mode:=m,kind:=(default:Frame).kind,roundOf:=(default:Frame).roundOf}=false:=fun m=>by simp [Frame.catches]
 simp [G,stepG,unwind,Hl,goexitEntry,K,O]
theorem Te{ops:Ao_}{i:Nat}{rest:List Nat}{d:Option Tmp}{f:FuncId}{args:Array Operand}{ats:Array TypeId}{ty:TypeId}{pp:String}{af:Ae_}{g:On_}{T:Ay}{e:Ay→Sem Value}
  (K:ops[i]? =some ⟨d,.call ⟨.value (.func f),args,ats⟩,ty,pp,af,g⟩) (he:C5 P f e):mayWake P (G (fr b T ds (.inRegion ops (i::rest)::k)) cs)=true:=by
 obtain⟨fn,O,_,hb,_⟩:=he.h;have U:fn.body.isSome=false:=by cases h:fn.body <;> simp_all
 simp [mayWake,G,fr,K,Frame.eval,O,U]
theorem S7{v wt:Nat}(K:1≤v)(O:v<2147483648)(U:wt≤1):IntKind.u64.wrap (Fam.word v wt+18446744069414584320)=Fam.word (v - 1) wt:=by
 simp only [Fam.word,Fam.KK,IntKind.wrap,IntKind.bits,IntKind.signed];simp;omega
theorem TB{v:Nat}(h:v<2147483647):IntKind.u64.wrap (Fam.word v 0+4294967296)=Fam.word (v+1) 0:=by
 simp only [Fam.word,Fam.KK,IntKind.wrap,IntKind.bits,IntKind.signed];simp;omega
theorem word_inj{v v' wt:Nat}(h:Fam.word v wt=Fam.word v' wt):v=v':=by
 simp only [Fam.word,Fam.KK] at h;omega
section
variable {ops:Ao_}{i:Nat}{rest:List Nat}{d:Option Tmp}{f:FuncId}{x y z:Operand}{ats:Array TypeId}{ty:TypeId}{pp:String}{af:Ae_}{g:On_}{p q:Ph}
theorem T0(Z:ops[i]? =some ⟨d,.call ⟨.value (.func f),#[x,y],ats⟩,ty,pp,af,g⟩)(W:b.roundOf=none)(hw:A5 L ops ⟨d,.call ⟨.value (.func f),#[x,y],ats⟩,ty,pp,af,g⟩=some true)(O:((b.kind != .early)&&Br n d)=true)
  (he:C5 P f (Extern.Atomic.update (Op.intArith .add) .u64 true)) (aa:ev L x=some (.pointer (some F.sA))) (ab:ev L y=some (.int .u64 18446744069414584320))
  (ae:JL (Bn P false) (Stop P F .FQ) b n (AA L d (.int .u64 (Fam.word 0 1))) ds (.inRegion ops rest::k) cs .quiet)
  (ag:∀v wt:Nat,v<2147483647→wt≤1→¬(v=0∧wt=1)→JL (F0 P) (GD P 1) b n (AA L d (.int .u64 (Fam.word v wt))) ds (.inRegion ops rest::k) cs .quiet):
  JL (Bn P false) (Stop P F .GA) b n L ds (.inRegion ops (i::rest)::k) cs .quiet:=fun T K=>by
 simp only [Bool.and_eq_true] at O
 obtain⟨fn,ah,ai,hb,aj,he⟩:=he.h
 refine(Bn P _).stop (GR rfl rfl rfl rfl (by simp) fun v wt sm v' wt' sm' es nx U=>?_)
 simp only [Fam.act] at U
 split at U
 ·rename_i V
  cases U;refine⟨G (fr b (Co T d (.int .u64 (Fam.word (v - 1) wt))) ds (.inRegion ops rest::k)) cs,fun w Y=>?_,rfl,?_⟩
  ·obtain⟨ak,_,c3,_⟩:=GV Y;rw [Cz W,Cz W];show stepG P false _ w=_;rw [stepG_add_atomic (a:=⟨T,ds⟩) Z (CL K hw) (by simpa using O.1) rfl ah ai hb aj .u64 he (by rw [Ey];exact K.ev aa) (by rw [Ey];exact K.ev ab) ak c3,S7 V.1 V.2.1 V.2.2,Kz Y,Fy]
   rfl
  ·split
   ·rename_i e;obtain⟨rfl,rfl⟩:=e;exact ae _ (K.put O.2 _)
   ·rename_i e;exact Kw (ag (v - 1) wt (by omega) V.2.2 (by omega) _ (K.put O.2 _))
 ·cases U
theorem T1{j:Nat}(Z:s.q=false)(aa:ops[i]? =some ⟨d,.call ⟨.value (.func f),#[x,y],ats⟩,ty,pp,af,g⟩)(W:b.roundOf=none)(hw:A5 L ops ⟨d,.call ⟨.value (.func f),#[x,y],ats⟩,ty,pp,af,g⟩=some true)(O:((b.kind != .early)&&Br n d)=true)
  (he:C5 P f (Extern.Atomic.update (Op.intArith .add) .u64 true)) (ab:ev L x=some (.pointer (some F.sA))) (ae:ev L y=some (.int .u64 4294967296))
  (ag:JL (Bn P true) (Stop P F (.GH j)) b n (AA L d (.int .u64 (Fam.word 1 0))) ds (.inRegion ops rest::k) cs s)
  (ah:∀v:Nat,1≤v→v<2147483647→JL (Bn P true) (Stop P F (.FE j)) b n (AA L d (.int .u64 (Fam.word (v+1) 0))) ds (.inRegion ops rest::k) cs s):
  JL (Bn P true) (Stop P F (.G4 j)) b n L ds (.inRegion ops (i::rest)::k) cs s:=fun T K=>by
 simp only [Bool.and_eq_true] at O
 obtain⟨fn,ai,aj,hb,ak,he⟩:=he.h
 refine(Bn P _).stop (GR rfl rfl rfl Z (by simp) fun v wt sm v' wt' sm' es nx U=>?_)
 simp only [Fam.act] at U
 split at U
 ·rename_i V
  obtain⟨V,rfl⟩:=V;cases U;refine⟨G (fr b (Co T d (.int .u64 (Fam.word (v+1) 0))) ds (.inRegion ops rest::k)) cs,fun w Y=>?_,rfl,?_⟩
  ·obtain⟨al,_,c3,_⟩:=GV Y;rw [Cz W,Cz W];show stepG P true _ w=_;rw [stepG_add_atomic (a:=⟨T,ds⟩) aa (CL K hw) (by simpa using O.1) rfl ai aj hb ak .u64 he (by rw [Ey];exact K.ev ab) (by rw [Ey];exact K.ev ae) al c3,TB V,Kz Y,Fy]
   rfl
  ·split
   ·rename_i e;subst e;exact ag _ (K.put O.2 _)
   ·rename_i e;exact ah v (by omega) V _ (K.put O.2 _)
 ·cases U
theorem Vl(ab:IN p=true)(ae:if Fam.DI p=true then s= .quiet else s.q=false)(ag:p≠ .Ec)(ah:Fam.Gh p s=s)(ai:∀v wt sm r,F.act p v wt sm=some r→r.1=(v,wt,sm)∧r.2.1= #[Fam.ED F.sA])
  (aj:ops[i]? =some ⟨d,.call ⟨.value (.func f),#[x],ats⟩,ty,pp,af,g⟩) (U:b.roundOf=none) (hw:A5 L ops ⟨d,.call ⟨.value (.func f),#[x],ats⟩,ty,pp,af,g⟩=some true) (K:((b.kind != .early)&&Br n d)=true)
  (he:C5 P f (Extern.Atomic.loadT (.int .u64))) (ak:ev L x=some (.pointer (some F.sA)))
  (h:∀v wt sm r,F.act p v wt sm=some r→∃q,r.2.2= .ph q∧JL (Bn P (Fam.Db p)) (Stop P F q) b n (AA L d (.int .u64 (Fam.word v wt))) ds (.inRegion ops rest::k) cs s):
  JL (Bn P (Fam.Db p)) (Stop P F p) b n L ds (.inRegion ops (i::rest)::k) cs s:=fun T O=>by
 simp only [Bool.and_eq_true] at K
 obtain⟨fn,al,am,hb,an,he⟩:=he.h
 refine(Bn P _).stop (GR ab rfl rfl ae (fun e=>absurd e ag) fun v wt sm v' wt' sm' es nx V=>?_)
 obtain⟨W,Y⟩:=ai _ _ _ _ V
 obtain⟨q,Z,ao⟩:=h _ _ _ _ V
 simp only at W Y Z
 cases W
 subst Y Z
 refine⟨_,fun w aa=>?_,rfl,by rw [ah];exact ao _ (O.put K.2 _)⟩
 obtain⟨ap,_,_,_⟩:=GV aa
 rw [Cz U,Cz U,stepG_load_atomic (a:=⟨T,ds⟩) aj (CL O hw) (by simpa using K.1) rfl al am hb an .u64 he (by rw [Ey];exact O.ev ak) ap,IF aa,Fy]
 rfl
theorem U5(Y:ops[i]? =some ⟨d,.call ⟨.value (.func f),#[x,y],ats⟩,ty,pp,af,g⟩)(V:b.roundOf=none)(hw:A5 L ops ⟨d,.call ⟨.value (.func f),#[x,y],ats⟩,ty,pp,af,g⟩=some true)(U:((b.kind != .early)&&Br n d)=true)
  (he:C5 P f Extern.Atomic.storeT) (Z:ev L x=some (.pointer (some F.sA))) (aa:ev L y=some (.int .u64 0))
  (h:JL (Bn P false) (Stop P F .Ec) b n (AA L d (.tuple #[])) ds (.inRegion ops rest::k) cs .quiet):
  JL (Bn P false) (Stop P F .F5) b n L ds (.inRegion ops (i::rest)::k) cs .quiet:=fun T K=>by
 simp only [Bool.and_eq_true] at U
 obtain⟨fn,ab,ae,hb,ag,he⟩:=he.h
 refine(Bn P _).stop (GR rfl rfl rfl rfl (by simp) fun v wt sm v' wt' sm' es nx O=>?_)
 simp only [Fam.act] at O
 split at O
 ·rename_i ah
  obtain⟨rfl,rfl⟩:=ah;cases O;refine⟨_,fun w W=>?_,rfl,h _ (K.put U.2 _)⟩;obtain⟨ai,_,c3,_⟩:=GV W;have aj:(.int .u64 0:Value)= .int .u64 (Fam.word 0 0):=by simp [Fam.word]
  rw [Cz V,Cz V];show stepG P false _ w=_;rw [stepG_store_atomic (a:=⟨T,ds⟩) Y (CL K hw) (by simpa using U.1) rfl ab ae hb ag he (by rw [Ey];exact K.ev Z) (by rw [Ey];exact K.ev aa) ai c3,aj,Kz W,Fy]
  rfl
 ·cases O
theorem VO{m:Nat}(aj:s.q=false)(Z:ops[i]? =some ⟨d,.call ⟨.value (.func f),#[x,y,z],ats⟩,ty,pp,af,g⟩)(W:b.roundOf=none)(hw:A5 L ops ⟨d,.call ⟨.value (.func f),#[x,y,z],ats⟩,ty,pp,af,g⟩=some true)(U:((b.kind != .early)&&Br n d)=true)
  (he:C5 P f (Extern.Atomic.casT (.int .u64))) (aa:ev L x=some (.pointer (some F.sA))) (ab:ev L y=some (.int .u64 (Fam.word m 0))) (ae:ev L z=some (.int .u64 (Fam.word m 1)))
  (ak:JL (Bn P false) (Stop P F .G6) b n (AA L d (.bool true)) ds (.inRegion ops rest::k) cs s)
  (al:JL (Bn P false) (Stop P F (.Fc (m - 1))) b n (AA L d (.bool false)) ds (.inRegion ops rest::k) cs s):
  JL (Bn P false) (Stop P F (.GB m)) b n L ds (.inRegion ops (i::rest)::k) cs s:=fun T K=>by
 simp only [Bool.and_eq_true] at U
 obtain⟨fn,ag,ah,hb,ai,he⟩:=he.h
 refine(Bn P _).stop (GR rfl rfl rfl aj (by simp) fun v wt sm v' wt' sm' es nx O=>?_)
 simp only [Fam.act] at O
 split at O
 ·rename_i am
  obtain⟨_,_,rfl⟩:=am;split at O
  ·rename_i e;subst e;cases O;refine⟨_,fun w V=>?_,rfl,ak _ (K.put U.2 _)⟩;obtain⟨Y,_,c3,_⟩:=GV V;rw [Cz W,Cz W];show stepG P false _ w=_;rw [stepG_cas_hit (a:=⟨T,ds⟩) Z (CL K hw) (by simpa using U.1) rfl ag ah hb ai .u64 he (by rw [Ey];exact K.ev aa) (by rw [Ey];exact K.ev ab) (by rw [Ey];exact K.ev ae) Y c3,Kz V,Fy]
   rfl
  ·rename_i e;cases O;refine⟨_,fun w V=>?_,rfl,al _ (K.put U.2 _)⟩;obtain⟨Y,_,c3,_⟩:=GV V;rw [Cz W,Cz W];show stepG P false _ w=_;rw [stepG_cas_miss (a:=⟨T,ds⟩) Z (CL K hw) (by simpa using U.1) rfl ag ah hb ai .u64 he (by rw [Ey];exact K.ev aa) (by rw [Ey];exact K.ev ab) (by rw [Ey];exact K.ev ae) Y c3 (fun q=>e (word_inj q)),IF V,Fy]
   rfl
 ·cases O
theorem S5{args:Array Operand}{vs:Lv_}(V:ops[i]? =some ⟨d,.call ⟨.value (.func f),args,ats⟩,ty,pp,af,g⟩)(W:b.roundOf=none)(hw:A5 L ops ⟨d,.call ⟨.value (.func f),args,ats⟩,ty,pp,af,g⟩=some true)(O:((b.kind != .early)&&Br n d)=true)
  (he:C5 P f Extern.Sync.semrelease) (Z:evs L args.toList=some vs) (aa:vs[0]? =some (.pointer (some F.mA)))
  (h:JL (F0 P) (GD P 1) b n (AA L d (.tuple #[])) ds (.inRegion ops rest::k) cs .quiet):
  JL (Bn P false) (Stop P F .Ec) b n L ds (.inRegion ops (i::rest)::k) cs .quiet:=fun T U=>by
 simp only [Bool.and_eq_true] at O
 have ab:=Te (P:=P) (b:=b) (ds:=ds) (k:=k) (cs:=cs) (rest:=rest) (T:=T) V he
 obtain⟨fn,ae,ag,hb,ah,he⟩:=he.h
 refine(Bn P _).stop (GR rfl rfl rfl rfl (fun _=>ab) fun v wt sm v' wt' sm' es nx K=>?_)
 simp only [Fam.act] at K
 split at K
 ·rename_i ai
  subst ai;cases K;refine⟨_,fun w Y=>?_,rfl,Kw (h _ (U.put O.2 _))⟩;obtain⟨_,c2,_,c4⟩:=GV Y;rw [Cz W,Cz W];show stepG P false _ w=_;rw [stepG_semrelease (a:=⟨T,ds⟩) V (CL U hw) (by simpa using O.1) rfl ae ag hb ah he (ad:=F.mA) (by rw [NC U Z];simpa using aa) c2 c4,Fy];have aj:IntKind.u32.wrap (((0:Nat):Int)+1)=((1:Nat):Int):=by decide
  rw [aj,Oh Y]
 ·cases K
theorem R5{args:Array Operand}{vs:Lv_}(ag:s.q=false)(Y:ops[i]? =some ⟨d,.call ⟨.value (.func f),args,ats⟩,ty,pp,af,g⟩)(V:b.roundOf=none)(hw:A5 L ops ⟨d,.call ⟨.value (.func f),args,ats⟩,ty,pp,af,g⟩=some true)(W:((b.kind != .early)&&Br n d)=true)
  (he:C5 P f Extern.Sync.semacquire) (ah:evs L args.toList=some vs) (ai:vs[0]? =some (.pointer (some F.mA)))
  (h:JL (Bn P false) (Stop P F .F6) b n (AA L d (.tuple #[])) ds (.inRegion ops rest::k) cs s):
  JL (Bn P false) (Stop P F .C4) b n L ds (.inRegion ops (i::rest)::k) cs s:=fun T K=>by
 simp only [Bool.and_eq_true] at W
 obtain⟨fn,Z,aa,hb,ab,he⟩:=he.h
 have ae:(args.map (⟨T,ds⟩:Act).eval)[0]? =some (.pointer (some F.mA)):=by rw [NC K ah];simpa using ai
 refine(Bn P _).stop (Fj.stop {
  run:=rfl,offers:=rfl,quiet:=(by simp [Fam.DI]),live:=fun _=>ag,act:=?_,GC:=(by simp),Eh:=?_,close:=(by simp),send:=(by simp),go:=(by simp),Gg:=(by simp),recv:=(by simp)})
 ·intro v wt sm v' wt' sm' es nx O;simp only [Fam.act] at O;split at O
  ·rename_i aj;subst aj;cases O;refine⟨_,fun w U=>?_,rfl,h _ (K.put W.2 _)⟩;obtain⟨_,c2,_,c4⟩:=GV U;rw [Cz V,Cz V];show stepG P false _ w=_;rw [stepG_semacquire (a:=⟨T,ds⟩) Y (CL K hw) (by simpa using W.1) rfl Z aa hb ab he (ad:=F.mA) ae c2 (by decide) c4,Fy];have ak:(((1:Nat):Int) - 1)=((0:Nat):Int):=by decide
   rw [ak,Oh U]
  ·cases O
 ·intro _ w v wt U;obtain⟨_,c2,_,c4⟩:=GV U;rw [Cz V];exact stepG_semacquire_wait (a:=⟨T,ds⟩) Y (CL K hw) rfl Z aa hb ab he (ad:=F.mA) ae c2
theorem Sm(W:s.q=false)(U:ops[i]? =some ⟨d,.call ⟨.builtin .close,#[x],ats⟩,ty,pp,af,g⟩)(V:b.roundOf=none)(hw:A5 L ops ⟨d,.call ⟨.builtin .close,#[x],ats⟩,ty,pp,af,g⟩=some true)(K:((b.kind != .early)&&Br n d)=true)
  (Y:ev L x=some (.chan (some F.ch))) (Z:(P.funcs[b.fn]?).any (·.norace)=false)
  (h:JL (F0 P) (GD P 0) b n (AA L d (.tuple #[])) ds (.inRegion ops rest::k) cs .quiet):
  JL (Bn P false) (Stop P F .Dp) b n L ds (.inRegion ops (i::rest)::k) cs s:=fun T O=>by
 simp only [Bool.and_eq_true] at K
 refine(Bn P _).stop (Fj.stop {
  run:=rfl,offers:=rfl,quiet:=(by simp [Fam.DI]),live:=fun _=>W,act:=(by simp [Fam.act]),GC:=fun _=>(by simp [mayWake,G,fr,U]),Eh:=(by simp),close:=fun _=>?_,send:=(by simp),go:=(by simp),Gg:=(by simp),recv:=(by simp)})
 refine⟨_,?_,fun w k' aa=>?_,Kw (h _ (O.put K.2 _))⟩
 ·rfl
 ·rw [Cz V,Cz V,stepG_close (a:=⟨T,ds⟩) U (CL O hw) (by simpa using K.1) rfl (by rw [Ey];exact O.ev Y) aa Z,Fy]
theorem OP{kk:Nat}{v:Value}(W:s.q=false)(U:ops[i]? =some ⟨d,.send x y,ty,pp,af,g⟩)(Y:b.roundOf=none)(hw:A5 L ops ⟨d,.send x y,ty,pp,af,g⟩=some true)(O:((b.kind != .early)&&Br n d)=true)
  (Z:ev L x=some (.chan (some F.ch))) (aa:ev L y=some v) (hm:F.msg kk v s.E)
  (h:JL (Bn P false) (Stop P F .CH) b n (AA L d undef) ds (.inRegion ops rest::k) cs s):
  JL (Bn P false) (Stop P F (.Ch kk)) b n L ds (.inRegion ops (i::rest)::k) cs s:=fun T K=>by
 simp only [Bool.and_eq_true] at O
 have V:execOp (By T) ⟨d,.send x y,ty,pp,af,g⟩= .pure (.comm #[scase F.ch v (.tuple #[])] true .send):=by
  simp [execOp,K.ev Z,K.ev aa,scase,pure]
 refine(Bn P _).stop (Fj.stop {
  run:=rfl,offers:=rfl,quiet:=(by simp [Fam.DI]),live:=fun _=>W,act:=(by simp [Fam.act]),GC:=(by simp),Eh:=(by simp),close:=(by simp),send:=fun k' e=>?_,go:=(by simp),Gg:=(by simp),recv:=(by simp)})
 cases e;refine⟨v,.tuple #[],hm,fun w=>?_,?_⟩
 ·have he:(⟨T,ds⟩:Act).eval=By T:=funext fun x=>Ey T ds x;rw [Cz Y,stepG_comm (a:=⟨T,ds⟩) (w':=w) U (CL K hw) (by simpa using O.1) (by rw [he,V];rfl),listed_none (by rw [he,V];simp [Sem.events_pure'])]
 ·have:Conc.served (G (fr b T ds (.inRegion ops (i::rest)::k)) cs) undef=G (fr b (Co T d undef) ds (.inRegion ops rest::k)) cs:=by
   have:=FK (b:=b) (ds:=ds) (k:=k) T ops i rest undef _ U;simp only [Conc.served,G,this]
  rw [this];exact h _ (K.put O.2 _)
end
end
end Pal
namespace Pal
open Go Go.Conc
section
variable {P:Program}{F:Fam}{J:Judge P}{Q:GP}{n:Nat}{L L':Env}{ds:Ld_}{k:Li_}{cs:Lf_}{s s':St}{b:Frame}{main:Bool}
variable {ops:Ao_}{i:Nat}{rest:List Nat}{d:Option Tmp}{f:FuncId}{x y z:Operand}{ats:Array TypeId}{ty t e:TypeId}{pp:String}{af:Ae_}{g:On_}{p q:Ph}
theorem OD{T:Ay}{o:Oper}(K:ops[i]? =some o)(v:Value):Conc.served (G (fr b T ds (.inRegion ops (i::rest)::k)) cs) v=G (fr b (Co T o.dst v) ds (.inRegion ops rest::k)) cs:=by
 have:=FK (b:=b) (ds:=ds) (k:=k) T ops i rest v _ K;simp only [Conc.served,G,this]
theorem H5(T:Ay)(ds:Ld_):(⟨T,ds⟩:Act).eval=By T:=funext fun x=>Ey T ds x
theorem Ty{O:List Nat}{vs:Lv_}{K:Value}{dir:ChanDir}(ab:s.q=false)(W:ops[i]? =some ⟨d,.recv t x true,ty,pp,af,g⟩)(ae:b.roundOf=none)(hw:A5 L ops ⟨d,.recv t x true,ty,pp,af,g⟩=some true)(U:((b.kind != .early)&&Br n d)=true)
  (ag:ev L x=some (.chan (some F.ch))) (ht:P.underlying t=some (.chan dir e)) (ah:zeroOf P e=some K)
  (Y:∀kk v E',kk<F.n→F.has kk=true→kk ∉ O→Le s.E E'→(∀b,E' b≠none→s.H b=none)→F.msg kk v E'→JL (Bn P true) (Stop P F (.BX (O++ [kk]) (vs++ [v]))) b n (AA L d (.tuple #[v,.bool true])) ds (.inRegion ops rest::k) cs ⟨E',s.H,false⟩)
  (Z:(∀kk,kk<F.n→F.has kk=true→kk∈O)→∀T,Has n (AA L d (.tuple #[K,.bool false])) T→F.fin (G (fr b T ds (.inRegion ops rest::k)) cs) s):
  JL (Bn P true) (Stop P F (.BX O vs)) b n L ds (.inRegion ops (i::rest)::k) cs s:=fun T V=>by
 simp only [Bool.and_eq_true] at U
 have aa:∀w,(execOp (By T) ⟨d,.recv t x true,ty,pp,af,g⟩).run P w= .ok (.comm #[rcase F.ch K] true (.recv true)) w∧listed P b.fn ⟨T,ds⟩ ⟨d,.recv t x true,ty,pp,af,g⟩ w= #[]:=by
  have ai:∀s,lp P (execOp (By T) ⟨d,.recv t x true,ty,pp,af,g⟩) s (fun nx s'=>nx= .comm #[rcase F.ch K] true (.recv true)∧s'=s) (fun _ _=>False):=by
   intro s;unfold execOp;simp only;refine AF (x:=underlying t) _ (C8 ht ?_);simp only;refine AF (x:=zeroValue e) _ (FJ ah ?_);rw [V.ev ag];exact⟨rfl,rfl⟩
  obtain⟨es,Y,Z,aj⟩:=MN _ (ai .quiet);rcases aj with⟨a,⟨rfl,_⟩,ak⟩ | ⟨_,al,_⟩
  ·intro w;refine⟨ak w,?_⟩;unfold listed;rw [H5,Y];exact Mq Z
  ·exact al.elim
 refine(Bn P _).stop (Fj.stop {
  run:=rfl,offers:=rfl,quiet:=(by simp [Fam.DI]),live:=fun _=>ab,act:=(by simp [Fam.act]),GC:=(by simp),Eh:=(by simp),close:=(by simp),send:=(by simp),go:=(by simp),Gg:=(by simp),recv:=fun aw ay am=>?_})
 cases am;refine⟨K,fun w=>?_,fun kk v E' an ao ap aq ar au=>?_,fun av=>?_⟩
 ·rw [Cz ae,stepG_comm (a:=⟨T,ds⟩) (w':=w) W (CL V hw) (by simpa using U.1) (by rw [H5];exact(aa w).1),(aa w).2]
 ·rw [OD W];exact Y kk v E' an ao ap aq ar au _ (V.put U.2 _)
 ·rw [OD W];exact Z av _ (V.put U.2 _)
theorem Pg{X:GP}{fn:Func}{c:Code}{vs:Lv_}{caps:Ay}{args:Ay}(O:P.funcs[f]? =some fn)(W:(fn.name== "runtime.NumGoroutine")=false)(hb:fn.body=some c)(Y:args++caps=vs.toArray)(ab:vs.length≤fn.ntmps)
  (h:JL (Bn P false) X (baseD f) fn.ntmps (Fe 0 vs) [] [.code c] [Hl P] s):Way P false X (born P {target:= .fn (.func f) caps,args:=args}) s:=by
 have Z:¬fn.name= "runtime.NumGoroutine" :=by simpa using W
 refine Judge.CU (J:=Bn P false) rfl (fun w=>?_) (h (vs.toArray++Array.replicate (fn.ntmps - vs.length) undef) ⟨by simp;omega,fun t v ht=>?_⟩)
 ·show stepG P false _ w=_;have U:=enter_atD (P:=P) vs.toArray O hb;rw [Cz (b:=baseD f) rfl];simp only [List.size_toArray] at U;simp [G,born,stepG,unwind,callDeferred,invoke,callFunc,O,Z,hb,GStep.after,seen_none,Y,Hl,U]
 ·obtain⟨_,K⟩:=Ix ht;have aa:t<vs.length:=by
   rcases Nat.lt_or_ge t vs.length with V | V
   ·exact V
   ·simp at K;have:=(List.getElem?_eq_some_iff.1 K).1;omega
  rw [Array.getD_eq_getD_getElem?,Array.getElem?_append_left (by simpa using aa)];simp at K;simp [K]
theorem Qh{T:Ay}{args:Array Operand}{K:Go.Fn}{fi O:Ay}{as:Lv_}(U:Has n L T)(V:ev L x=some (.func K fi O))(W:evs L args.toList=some as):
  execOp (By T) ⟨d,.go ⟨.value x,args,ats⟩,ty,pp,af,g⟩= .pure (.spawn {target:= .fn K O,args:=fi++as.toArray}):=by
 have Y:args.map (By T)=as.toArray:=by
  rw [← FZ U.FP W];apply Array.ext';simp
 simp only [execOp,resolve,bind,Sem.bind,Deferred.ofValue,U.ev V,pure,Y]
theorem Vf{j:Nat}{args:Array Operand}{fi U:Ay}{as:Lv_}{V:FuncId}(Z:s.q=false)(aa:ops[i]? =some ⟨d,.go ⟨.value x,args,ats⟩,ty,pp,af,g⟩)(W:b.roundOf=none)(hw:A5 L ops ⟨d,.go ⟨.value x,args,ats⟩,ty,pp,af,g⟩=some true)(K:((b.kind != .early)&&Br n d)=true)
  (ab:ev L x=some (.func (.func V) fi U)) (ae:evs L args.toList=some as)
  (ag:Way P false (Stop P F (F.start j)) (born P {target:= .fn (.func V) U,args:=fi++as.toArray}) ⟨s.E,fun _=>none,false⟩)
  (ah:JL (Bn P true) (Stop P F (F.Dq j)) b n (AA L d undef) ds (.inRegion ops rest::k) cs s):
  JL (Bn P true) (Stop P F (.EE j)) b n L ds (.inRegion ops (i::rest)::k) cs s:=fun T O=>by
 simp only [Bool.and_eq_true] at K
 have Y:=Qh (d:=d) (ats:=ats) (ty:=ty) (pp:=pp) (af:=af) (g:=g) O ab ae
 refine(Bn P _).stop (Fj.stop {
  run:=rfl,offers:=rfl,quiet:=(by simp [Fam.DI]),live:=fun _=>Z,act:=(by simp [Fam.act]),GC:=(by simp),Eh:=(by simp),close:=(by simp),send:=(by simp),go:=fun ai e=>?_,Gg:=(by simp),recv:=(by simp)})
 cases e
 refine⟨G (fr b (Co T d undef) ds (.inRegion ops rest::k)) cs,_,rfl,rfl,fun w=>?_,ag,ah _ (O.put K.2 _)⟩
 rw [Cz W,Cz W,stepG_spawn (a:=⟨T,ds⟩) (w':=w) aa (CL O hw) (by simpa using K.1) (by rw [H5,Y];rfl) rfl,listed_none (by rw [H5,Y];simp [Sem.events_pure']),Fy]
theorem JL.Gg{args:Array Operand}{fi U:Ay}{as:Lv_}{V:FuncId}(Z:s.q=false)(aa:ops[i]? =some ⟨d,.go ⟨.value x,args,ats⟩,ty,pp,af,g⟩)(W:b.roundOf=none)(hw:A5 L ops ⟨d,.go ⟨.value x,args,ats⟩,ty,pp,af,g⟩=some true)(K:((b.kind != .early)&&Br n d)=true)
  (ab:ev L x=some (.func (.func V) fi U)) (ae:evs L args.toList=some as)
  (ag:Way P false (Stop P F .CJ) (born P {target:= .fn (.func V) U,args:=fi++as.toArray}) ⟨s.E,fun _=>none,false⟩)
  (ah:JL (Bn P true) (Stop P F (.BX [] [])) b n (AA L d undef) ds (.inRegion ops rest::k) cs s):
  JL (Bn P true) (Stop P F .Fi) b n L ds (.inRegion ops (i::rest)::k) cs s:=fun T O=>by
 simp only [Bool.and_eq_true] at K
 have Y:=Qh (d:=d) (ats:=ats) (ty:=ty) (pp:=pp) (af:=af) (g:=g) O ab ae
 refine(Bn P _).stop (Fj.stop {
  run:=rfl,offers:=rfl,quiet:=(by simp [Fam.DI]),live:=fun _=>Z,act:=(by simp [Fam.act]),GC:=(by simp),Eh:=(by simp),close:=(by simp),send:=(by simp),go:=(by simp),Gg:=fun _=>?_,recv:=(by simp)})
 refine⟨G (fr b (Co T d undef) ds (.inRegion ops rest::k)) cs,_,rfl,rfl,fun w=>?_,ag,ah _ (O.put K.2 _)⟩
 rw [Cz W,Cz W,stepG_spawn (a:=⟨T,ds⟩) (w':=w) aa (CL O hw) (by simpa using K.1) (by rw [H5,Y];rfl) rfl,listed_none (by rw [H5,Y];simp [Sem.events_pure']),Fy]
theorem JO.PW{j:Nat}(V:s.q=false)(K:b.roundOf=none)(he:C5 P f (fun _=>do mark .enable;pure Extern.Race.none_))
  (h:JO (Bn P true) (Stop P F (.EE j)) b n L ds cs s):JO (Bn P true) (Stop P F (.FE j)) b n L (dcall f #[]::ds) cs s:=fun T W todo=>by
 obtain⟨fn,Y,Z,hb,aa,he⟩:=he.h
 refine(Bn P _).stop (GR rfl rfl rfl V (by simp) fun v wt sm v' wt' sm' es nx O=>?_)
 simp only [Fam.act] at O
 cases O
 refine⟨G (D1 b T ds todo) cs,fun w ab=>?_,rfl,h T W todo⟩
 rw [ID K,ID K,IF ab]
 exact stepG_unwind_entry (a:=⟨T,dcall f #[]::ds⟩) (v:= .tuple #[]) (evs:= #[Fam.D4 .enable]) rfl Y Z hb aa he (by simp [Extern.Race.none_]) (by simp;rfl) (by
  intro x U
  simp at U
  subst U
  exact⟨rfl,fun g h=>by cases h⟩)
theorem JO.K7(K:b.roundOf=none)(he:C5 P f (fun _=>do mark .enable;pure Extern.Race.none_))
  (h:JO (F0 P) (GD P 0) b n L ds cs .quiet):JO (F0 P) (GD P 1) b n L (dcall f #[]::ds) cs .quiet:=fun T U todo=>by
 obtain⟨fn,V,W,hb,Y,he⟩:=he.h
 refine(F0 P).stop ?_
 obtain⟨q,O⟩:=Kw (h T U todo)
 rw [ID K] at O
 rw [ID K]
 exact⟨q+1,QuitsD.unwind_mark (a:=⟨T,dcall f #[]::ds⟩) .enable rfl (by simp) rfl V W hb Y he O⟩
end
end Pal
namespace Pal
open Go Go.Conc
def Q3:BinOp→Int→Int→Option Bool
 | .lss,m,m'=>some (decide (m<m'))
 | .leq,m,m'=>some (decide (m≤m'))
 | .gtr,m,m'=>some (decide (m'<m))
 | .geq,m,m'=>some (decide (m'≤m))
 | .eql,m,m'=>some (decide (m=m'))
 | .neq,m,m'=>some (decide (m≠m'))
 | _,_,_=>none
def Im(L:Env):Op→Option Value
 | .move x=>ev L x
 | .assign x=>ev L x
 | .pick z x y=>match ev L z with
  | some (.bool true)=>ev L x
  | some (.bool false)=>ev L y
  | _=>none
 | .extract x i=>match ev L x with
  | some (.tuple vs)=>vs[i]?
  | _=>none
 | .nilCheck x=>match ev L x with
  | some (.pointer (some a))=>some (.pointer (some a))
  | _=>none
 | .binOp op _ x y _=>match ev L x with
  | some (.int kd m)=>match ev L y with
   | some (.int kd' m')=>if kd=kd' then(match Q3 op m m' with | some t=>some (.bool t) | none=>none) else none
   | _=>none
  | _=>none
 | _=>none
theorem Uz{P:Program}{s:St}{ρ:Operand→Value}{d:Option Tmp}{x y:Operand}{t u ty:TypeId}{p:String}{af:Ae_}{g:On_}{kd:IntKind}{m m':Int}(K:ρ x= .int kd m)(O:ρ y= .int kd m'):Yl P ⟨d,.binOp .neq t x y u,ty,p,af,g⟩ ρ s (.bool (decide (m≠m'))):=by
 have h:=Yl.neq (P:=P) (s:=s) (d:=d) (t:=t) (u:=u) (ty:=ty) (p:=p) (af:=af) (g:=g) K O;simpa using h
theorem La{P:Program}{L:Env}{ρ:Operand→Value}{s:St}{o:Oper}{v:Value}(K:D9 L ρ)(h:Im L o.op=some v):Yl P o ρ s v:=by
 obtain⟨d,op,ty,p,af,g⟩:=o;simp only at h;unfold Im at h;split at h
 ·exact Yl.move (K _ _ h)
 ·exact Yl.assign (K _ _ h)
 ·split at h
  ·rename_i e;exact SH (K _ _ e) (K _ _ h)
  ·rename_i e;exact Sw (K _ _ e) (K _ _ h)
  ·cases h
 ·split at h
  ·rename_i e;exact Yl.extract (K _ _ e) h
  ·cases h
 ·split at h
  ·rename_i e;cases h;exact Yl.nilCheck (K _ _ e)
  ·cases h
 ·split at h
  ·rename_i O;split at h
   ·rename_i U;split at h
    ·rename_i e;subst e;split at h
     ·rename_i e;cases h;unfold Q3 at e;split at e
      ·cases e;exact Yl.lss (K _ _ O) (K _ _ U)
      ·cases e;exact Yl.leq (K _ _ O) (K _ _ U)
      ·cases e;exact Yl.gtr (K _ _ O) (K _ _ U)
      ·cases e;exact Yl.geq (K _ _ O) (K _ _ U)
      ·cases e;exact Yl.eql (K _ _ O) (K _ _ U)
      ·cases e;exact Uz (K _ _ O) (K _ _ U)
      ·cases e
     ·cases h
    ·cases h
   ·cases h
  ·cases h
 ·cases h
def Hm:List Oper→Nat→Option Oper
 | [],_=>none
 | o::_,0=>some o
 | _::os,i+1=>Hm os i
theorem IH:∀(os:List Oper) (i:Nat),Hm os i=os[i]?
 | [],i=>by simp [Hm]
 | _::_,0=>rfl
 | _::os,i+1=>by simp [Hm,IH os i]
def Nq(b:Frame)(n:Nat)(L:Env):Li_→Option (Li_×Env)
 | .code (.seq x y)::k=>some (.code x:: .code y::k,L)
 | .code (.block i c)::k=>some (.code c:: .inBlock i::k,L)
 | .code (.scope c)::k=>some (.code c:: .inScope c::k,L)
 | .code .skip::k=>some (k,L)
 | .code (.exit i)::k=>match exitTo i k with
  | some k'=>some (k',L)
  | none=>none
 | .code (.cond c x y)::k=>match ev L c with
  | some (.bool true)=>some (.code x::k,L)
  | some (.bool false)=>some (.code y::k,L)
  | _=>none
 | .code (.region _ ops false)::k=>some (.inRegion ops (List.range ops.size)::k,L)
 | .inBlock _::k=>some (k,L)
 | .inScope _::k=>some (k,L)
 | .inRegion _ []::k=>some (k,L)
 | .inRegion ops (i::rest)::k=>match Hm ops.toList i with
  | some ⟨d,op,ty,p,af,g⟩=>match A5 L ops ⟨d,op,ty,p,af,g⟩ with
   | some true=>match Cw b n ⟨d,op,ty,p,af,g⟩ with
    | true=>match Im L op with
     | some v=>match d with
      | some d=>some (.inRegion ops rest::k,(d,v)::L)
      | none=>some (.inRegion ops rest::k,L)
     | none=>none
    | false=>none
   | some false=>match Br n d with
    | true=>match d with
     | some d=>some (.inRegion ops rest::k,(d,undef)::L)
     | none=>some (.inRegion ops rest::k,L)
    | false=>none
   | none=>none
  | none=>none
 | _=>none
def Ly(b:Frame)(n:Nat):Nat→Li_→Env→Option (Li_×Env)
 | 0,k,L=>some (k,L)
 | m+1,k,L=>match Nq b n L k with
  | some (k',L')=>Ly b n m k' L'
  | none=>none
section
variable {P:Program}{J:Judge P}{Q:Gs_}{b:Frame}{n:Nat}{L L':Env}{ds:Ld_}{k k':Li_}{cs:Lf_}{s:St}
theorem UT(h:Nq b n L k=some (k',L'))(K:JL J Q b n L' ds k' cs s):JL J Q b n L ds k cs s:=by
 unfold Nq at h;split at h
 ·cases h;exact JL.seq K
 ·cases h;exact JL.block K
 ·cases h;exact JL.scope K
 ·cases h;exact JL.skip K
 ·split at h
  ·rename_i e;cases h;exact JL.exit e K
  ·cases h
 ·split at h
  ·rename_i e;cases h;exact Sn e K
  ·rename_i e;cases h;exact Sr e K
  ·cases h
 ·cases h;exact JL.region K
 ·cases h;exact N5 K
 ·cases h;exact RG K
 ·cases h;exact JL.done K
 ·split at h
  ·rename_i d op ty p af g O;rw [IH,Array.getElem?_toList] at O;split at h
   ·rename_i hw;split at h
    ·rename_i U;split at h
     ·rename_i v W;cases d with
      | none=>cases h;exact AW O hw U (fun ρ V=>La V W) K
      | some d=>cases h;exact AW O hw U (fun ρ V=>La V W) K
     ·cases h
    ·cases h
   ·rename_i hw;split at h
    ·rename_i U;cases d with
     | none=>cases h;exact QU O hw U K
     | some d=>cases h;exact QU O hw U K
    ·cases h
   ·cases h
  ·cases h
 ·cases h
theorem JL.go(m:Nat)(h:Ly b n m k L=some (k',L'))(K:JL J Q b n L' ds k' cs s):JL J Q b n L ds k cs s:=by
 induction m generalizing k L with
 | zero=>cases h;exact K
 | succ m O=>
  unfold Ly at h;split at h
  ·rename_i e;exact UT e (O h)
  ·cases h
end
abbrev pV(a o:Nat):Value:= .pointer (some ⟨a,o,none⟩)
abbrev sV{α:Type}(a:Option Addr)(l:List α)(c:Nat):Value:= .slice a l.length c
abbrev fV(n:Nat):Value:= .func (.func n) #[] #[]
abbrev nS:Value:= .slice none 0 0
abbrev Bc(r:Nat):Option Addr:=some ⟨r,0,none⟩
abbrev uV(n:Nat):Value:= .int .u16 ((n:Nat):Int)
end Pal
namespace Pal
open Go Go.Conc Go.Conc.Lib
open Go.ConcR.Gen
theorem EH{P:Program}{t:TypeId}{n:Nat}(h:∀w,Sem.run P (Go.sizeOf t) w= .ok n w):Bq P t=some n:=by
 have K:=h default;unfold Bq;simp only [Go.sizeOf,typeInfo,bind,Sem.bind,program,Sem.run] at K;cases hi:P.info? t with
 | none=>rw [hi] at K;simp [stuck,Sem.run,Sem.bind] at K
 | some i=>
  rw [hi] at K;simp [pure,Sem.bind,Sem.run] at K;simp [K]
section
variable {P:Program}{L:WgLink}(H:WgLib P L)
include H
theorem Mt:C5 P L.disable (fun _=>do mark .disable;pure Extern.Race.none_):=⟨⟨_,H.f_disable,x_disable_n L,x_disable_b L,x_disable_x L,x_disable_f L⟩⟩
theorem Hz:C5 P L.enable (fun _=>do mark .enable;pure Extern.Race.none_):=⟨⟨_,H.f_enable,x_enable_n L,x_enable_b L,x_enable_x L,x_enable_f L⟩⟩
theorem Rt:C5 P L.relMerge (Extern.Race.marked .releaseMerge):=⟨⟨_,H.f_relMerge,x_relMerge_n L,x_relMerge_b L,x_relMerge_x L,x_relMerge_f L⟩⟩
theorem Oa:C5 P L.acquire (Extern.Race.marked .acquire):=⟨⟨_,H.f_acquire,x_acquire_n L,x_acquire_b L,x_acquire_x L,x_acquire_f L⟩⟩
theorem Tp:C5 P L.raceRead (Extern.Race.marked .read):=⟨⟨_,H.f_raceRead,x_raceRead_n L,x_raceRead_b L,x_raceRead_x L,x_raceRead_f L⟩⟩
theorem Sj:C5 P L.raceWrite (Extern.Race.marked .write):=⟨⟨_,H.f_raceWrite,x_raceWrite_n L,x_raceWrite_b L,x_raceWrite_x L,x_raceWrite_f L⟩⟩
theorem PF:C5 P L.addU64 (Extern.Atomic.update (Op.intArith .add) .u64 true):=⟨⟨_,H.f_addU64,x_addU64_n L,x_addU64_b L,x_addU64_x L,x_addU64_f L⟩⟩
theorem Tr:C5 P L.loadU64 (Extern.Atomic.loadT (.int .u64)):=⟨⟨_,H.f_loadU64,x_loadU64_n L,x_loadU64_b L,x_loadU64_x L,x_loadU64_f L⟩⟩
theorem Se:C5 P L.storeU64 Extern.Atomic.storeT:=⟨⟨_,H.f_storeU64,x_storeU64_n L,x_storeU64_b L,x_storeU64_x L,x_storeU64_f L⟩⟩
theorem Ua:C5 P L.casU64 (Extern.Atomic.casT (.int .u64)):=⟨⟨_,H.f_casU64,x_casU64_n L,x_casU64_b L,x_casU64_x L,x_casU64_f L⟩⟩
theorem SM:C5 P L.semrelease Extern.Sync.semrelease:=⟨⟨_,H.f_semrelease,x_semrelease_n L,x_semrelease_b L,x_semrelease_x L,x_semrelease_f L⟩⟩
theorem RD:C5 P L.semacquire Extern.Sync.semacquire:=⟨⟨_,H.f_semacquire,x_semacquire_n L,x_semacquire_b L,x_semacquire_x L,x_semacquire_f L⟩⟩
theorem Ob:C5 P L.inBubble (fun _=>pure (.bool false)):=⟨⟨_,H.f_inBubble,x_inBubble_n L,x_inBubble_b L,x_inBubble_x L,x_inBubble_f L⟩⟩
end
section
variable {P:Program}{F:Fam}{J:Judge P}{Q:GP}{n:Nat}{L L':Env}{ds:Ld_}{k:Li_}{cs:Lf_}{s s':St}{b:Frame}{main:Bool}
variable {ops:Ao_}{i:Nat}{rest:List Nat}{d:Option Tmp}{f:FuncId}{x y z:Operand}{ats:Array TypeId}{ty t u e tw:TypeId}{pp:String}{af:Ae_}{g:On_}{p q:Ph}
theorem Yl.to{o:Oper}{ρ:Operand→Value}{v v':Value}(h:Yl P o ρ s v)(e:v=v'):Yl P o ρ s v':=e▸h
theorem JC{ad:Addr}(ag:IN p=true)(ah:if Fam.DI p=true then s= .quiet else s.q=false)(ai:p≠ .Ec)(aj:∀v wt sm,F.act p v wt sm=some ((v,wt,sm),#[],.ph q))(ak:Fam.Gh p s=s)
  (al:ops[i]? =some ⟨d,.convert t u x,ty,pp,af,g⟩) (U:b.roundOf=none) (hw:A5 L ops ⟨d,.convert t u x,ty,pp,af,g⟩=some true) (K:((b.kind != .early)&&Br n d)=true)
  (ht:P.underlying t=some (.pointer tw)) (hu:P.underlying u=some .unsafePointer) (V:(P.info? tw).map (fun i=>decide (i.size=0))=some false) (am:ev L x=some (.pointer (some ad))) (hb:ad=F.sA∨ad=F.mA)
  (h:JL (Bn P (Fam.Db p)) (Stop P F q) b n (AA L d (.pointer (some ad))) ds (.inRegion ops rest::k) cs s):
  JL (Bn P (Fam.Db p)) (Stop P F p) b n L ds (.inRegion ops (i::rest)::k) cs s:=fun T O=>by
 simp only [Bool.and_eq_true] at K
 refine(Bn P _).stop (GR ag rfl rfl ah (fun e=>absurd e ai) fun v wt sm v' wt' sm' es nx W=>?_)
 rw [aj] at W;cases W
 refine⟨_,fun w Y=>?_,rfl,by rw [ak];exact h _ (O.put K.2 _)⟩
 obtain⟨Z,aa⟩:∃Z,w.cell? ad=some Z:=by
  obtain⟨an,c2,_,_⟩:=GV Y;rcases hb with e | e <;> rw [e]
  ·exact⟨_,an⟩
  ·exact⟨_,c2⟩
 have ab:=run_convert_to_unsafe (P:=P) (w:=w) ht hu V aa;have ao:=events_convert_to_unsafe (P:=P) (w:=w) ht hu V aa;have ae:execOp (⟨T,ds⟩:Act).eval ⟨d,.convert t u x,ty,pp,af,g⟩=(do pure (Next.value (← Go.convert t u (.pointer (some ad))))):=by
  rw [H5];simp only [execOp,O.ev am]
 rw [Cz U,Cz U,stepG_value (a:=⟨T,ds⟩) (v:= .pointer (some ad)) (w':=w) al (CL O hw) (by simpa using K.1) (by rw [ae];simp [ab,Result.andThen]),IF Y,Fy];have ap:listed P b.fn ⟨T,ds⟩ ⟨d,.convert t u x,ty,pp,af,g⟩ w= #[]:=by
  unfold listed;rw [ae];simp [ab,ao,Result.evThen,seen_none]
 rw [ap]
end
end Pal
namespace Pal
open Go Go.Conc Go.Conc.Lib
open Go.ConcR.Gen
section
variable {P:Program}{F:Fam}{J:Judge P}{Q:GP}{n:Nat}{L L':Env}{ds:Ld_}{k:Li_}{cs:Lf_}{s s':St}{b:Frame}{main:Bool}
variable {ops:Ao_}{i:Nat}{rest:List Nat}{d:Option Tmp}{f:FuncId}{x y z:Operand}{args:Array Operand}{ats:Array TypeId}{ty t u e tw:TypeId}{pp:String}{af:Ae_}{g:On_}{p q:Ph}{vs:Lv_}
def Wt(P:Program)(b:Frame)(n:Nat)(L:Env)(d:Option Tmp)(ds:Ld_)(todo:Li_)(cs:Lf_)(U:Frame):Prop:=
 ∀(K:Judge P) (O:GP) (v:Value) (s':St),JL K O b n (AA L d v) ds todo cs s'→K.ok O (G (U.finish v) cs) s'
theorem HF{fn:Func}{c:Code}(V:ops[i]? =some ⟨d,.call ⟨.value (.func f),args,ats⟩,ty,pp,af,g⟩)(hw:A5 L ops ⟨d,.call ⟨.value (.func f),args,ats⟩,ty,pp,af,g⟩=some true)(O:((b.kind != .early)&&Br n d)=true)
  (W:P.funcs[f]? =some fn) (aa:(fn.name== "runtime.NumGoroutine")=false) (hb:fn.body=some c) (ab:evs L args.toList=some vs) (al:vs.length≤fn.ntmps)
  (h:∀Y:Frame,Wt P b n L d ds (.inRegion ops rest::k) cs Y→JL J Q (base f) fn.ntmps (Fe 0 vs) [] [.code c] (Y::cs) s):
  JL J Q b n L ds (.inRegion ops (i::rest)::k) cs s:=fun T U=>by
 simp only [Bool.and_eq_true] at O
 have ae:args.map (By T)=vs.toArray:=by
  rw [← FZ U.FP ab];apply Array.ext';simp
 refine Judge.oper V (CL U hw) (by simpa using O.1) (.inr fun c ag=>by cases ag) ?_;have ah:Dk P f=true:=by unfold Dk;rw [W];simp [aa,hb]
 have ai:lp P (execOp (By T) ⟨d,.call ⟨.value (.func f),args,ats⟩,ty,pp,af,g⟩) s (upon J Q b T ds ops i rest k cs d) (LO J Q b T ds ops i rest k cs):=by
  simp only [execOp,resolve,bind,Sem.bind,Deferred.ofValue,By,pure,invoke];have e: #[]++args.map (By T)++ #[]=vs.toArray:=by rw [ae];simp
  rw [e];refine Iv ah ?_;have he:Frame.enter P f vs.toArray .normal=fr (base f) (vs.toArray++Array.replicate (fn.ntmps - vs.length) undef) [] [.code c]:=by
   simp [Frame.enter,fr,W,hb,base];rfl
  show J.ok Q (G (Frame.enter P f vs.toArray .normal) _) s;rw [he];refine h _ (fun am an v s' aj=>?_) _ ⟨by simp;omega,fun t v ht=>?_⟩
  ·rw [FK (o:=⟨d,.call ⟨.value (.func f),args,ats⟩,ty,pp,af,g⟩) _ _ _ _ _ V];exact aj _ (U.put O.2 v)
  ·obtain⟨_,K⟩:=Ix ht;have ak:t<vs.length:=by
    rcases Nat.lt_or_ge t vs.length with Z | Z
    ·exact Z
    ·simp at K;have:=(List.getElem?_eq_some_iff.1 K).1;omega
   rw [Array.getD_eq_getD_getElem?,Array.getElem?_append_left (by simpa using ak)];simp at K;simp [K]
 exact ai
theorem Yl.ext{e:Ay→Sem Value}{v:Value}{ρ:Operand→Value}(he:C5 P f e)(O:args.map ρ=vs.toArray)(h:e vs.toArray= .pure v):Yl P ⟨d,.call ⟨.value (.func f),args,ats⟩,ty,pp,af,g⟩ ρ s v∨ρ (.func f)≠ .func (.func f) #[] #[]:=by
 by_cases K:ρ (.func f)= .func (.func f) #[] #[]
 ·left;obtain⟨fn,U,V,W,Y,Z⟩:=he.h;unfold Yl;simp only [execOp,resolve,bind,Sem.bind,Deferred.ofValue,K,pure,invoke];have aa: #[]++args.map ρ++ #[]=vs.toArray:=by rw [O];simp
  rw [aa];have ab:fn.body=none:=by simpa using W
  simp only [callFunc,bind,Sem.bind,program,lp,U,V,ab,Option.isNone_none,Bool.false_eq_true,if_false,if_true,mark,Y,Z,h,pure];exact⟨.inr ⟨f,rfl⟩,trivial,trivial⟩
 ·exact .inr K
theorem JL.ext{e:Ay→Sem Value}{v:Value}(O:ops[i]? =some ⟨d,.call ⟨.value (.func f),args,ats⟩,ty,pp,af,g⟩)(hw:A5 L ops ⟨d,.call ⟨.value (.func f),args,ats⟩,ty,pp,af,g⟩=some true)(U:Cw b n ⟨d,.call ⟨.value (.func f),args,ats⟩,ty,pp,af,g⟩=true)
  (he:C5 P f e) (V:evs L args.toList=some vs) (W:e vs.toArray= .pure v) (h:JL J Q b n (AA L d v) ds (.inRegion ops rest::k) cs s):JL J Q b n L ds (.inRegion ops (i::rest)::k) cs s:=
 AW O hw U (fun ρ K=>by
  have Y:args.map ρ=vs.toArray:=by
   rw [← FZ K V]
   apply Array.ext';simp
  rcases Yl.ext (s:=s) (d:=d) (ats:=ats) (ty:=ty) (pp:=pp) (af:=af) (g:=g) he Y W with q | q
  ·exact q
  ·exact absurd (K (.func f) _ rfl) q) h
end
section
variable {P:Program}{L:WgLink}(H:WgLib P L){F:Fam}{n:Nat}{M:Env}{ds:Ld_}{k:Li_}{cs:Lf_}{s:St}{b:Frame}
variable {ops:Ao_}{i:Nat}{rest:List Nat}{d:Option Tmp}{x y z:Operand}{ats:Array TypeId}{ty:TypeId}{pp:String}{af:Ae_}{g:On_}{p q:Ph}
include H
theorem Tx(K:ops[i]? =some ⟨d,.call ⟨.value (.func L.uAdd),#[x,y],ats⟩,ty,pp,af,g⟩)(hw:A5 M ops ⟨d,.call ⟨.value (.func L.uAdd),#[x,y],ats⟩,ty,pp,af,g⟩=some true)(O:((b.kind != .early)&&Br n d)=true)
  (U:ev M x=some (.pointer (some F.sA))) (V:ev M y=some (.int .u64 18446744069414584320))
  (W:JL (Bn P false) (Stop P F .FQ) b n (AA M d (.int .u64 (Fam.word 0 1))) ds (.inRegion ops rest::k) cs .quiet)
  (Y:∀v wt:Nat,v<2147483647→wt≤1→¬(v=0∧wt=1)→JL (F0 P) (GD P 1) b n (AA M d (.int .u64 (Fam.word v wt))) ds (.inRegion ops rest::k) cs .quiet):
  JL (Bn P false) (Stop P F .GA) b n M ds (.inRegion ops (i::rest)::k) cs .quiet:=by
 refine HF (vs:= [.pointer (some F.sA),.int .u64 18446744069414584320]) K hw O H.f_uAdd (nm_uAdd L) rfl (by simp [evs,U,V]) (Nat.le_of_ble_eq_true rfl) fun ae back=>JL.go 8 rfl (AW rfl rfl rfl (fun ρ h=>Yl.fieldAddr H.underlying_tAU rfl (EH H.sizeOf_tU64) (h _ _ rfl)) ?_);refine JL.go 1 rfl (T0 rfl rfl rfl rfl (PF H) rfl rfl ?_ fun v wt Z aa ab=>?_)
 ·refine AW rfl rfl rfl (fun ρ h=>Yl.assign (h _ _ rfl)) (JL.done ?_);exact JL.ret rfl rfl (BR.one H.f_uAdd rfl rfl) (back _ _ _ _ W)
 ·refine AW rfl rfl rfl (fun ρ h=>Yl.assign (h _ _ rfl)) (JL.done ?_);exact JL.ret rfl rfl (BR.one H.f_uAdd rfl rfl) (back _ _ _ _ (Y v wt Z aa ab))
theorem Td{j:Nat}(K:s.q=false)(O:ops[i]? =some ⟨d,.call ⟨.value (.func L.uAdd),#[x,y],ats⟩,ty,pp,af,g⟩)(hw:A5 M ops ⟨d,.call ⟨.value (.func L.uAdd),#[x,y],ats⟩,ty,pp,af,g⟩=some true)(U:((b.kind != .early)&&Br n d)=true)
  (V:ev M x=some (.pointer (some F.sA))) (W:ev M y=some (.int .u64 4294967296))
  (Y:JL (Bn P true) (Stop P F (.GH j)) b n (AA M d (.int .u64 (Fam.word 1 0))) ds (.inRegion ops rest::k) cs s)
  (Z:∀v:Nat,1≤v→v<2147483647→JL (Bn P true) (Stop P F (.FE j)) b n (AA M d (.int .u64 (Fam.word (v+1) 0))) ds (.inRegion ops rest::k) cs s):
  JL (Bn P true) (Stop P F (.G4 j)) b n M ds (.inRegion ops (i::rest)::k) cs s:=by
 refine HF (vs:= [.pointer (some F.sA),.int .u64 4294967296]) O hw U H.f_uAdd (nm_uAdd L) rfl (by simp [evs,V,W]) (Nat.le_of_ble_eq_true rfl) fun ae back=>JL.go 8 rfl (AW rfl rfl rfl (fun ρ h=>Yl.fieldAddr H.underlying_tAU rfl (EH H.sizeOf_tU64) (h _ _ rfl)) ?_);refine JL.go 1 rfl (T1 K rfl rfl rfl rfl (PF H) rfl rfl ?_ fun v aa ab=>?_)
 ·refine AW rfl rfl rfl (fun ρ h=>Yl.assign (h _ _ rfl)) (JL.done ?_);exact JL.ret rfl rfl (BR.one H.f_uAdd rfl rfl) (back _ _ _ _ Y)
 ·refine AW rfl rfl rfl (fun ρ h=>Yl.assign (h _ _ rfl)) (JL.done ?_);exact JL.ret rfl rfl (BR.one H.f_uAdd rfl rfl) (back _ _ _ _ (Z v aa ab))
theorem JL.uLoad(K:IN p=true)(O:if Fam.DI p=true then s= .quiet else s.q=false)(U:p≠ .Ec)(V:Fam.Gh p s=s)(W:∀v wt sm r,F.act p v wt sm=some r→r.1=(v,wt,sm)∧r.2.1= #[Fam.ED F.sA])(Y:ops[i]? =some ⟨d,.call ⟨.value (.func L.uLoad),#[x],ats⟩,ty,pp,af,g⟩)(hw:A5 M ops ⟨d,.call ⟨.value (.func L.uLoad),#[x],ats⟩,ty,pp,af,g⟩=some true)(Z:((b.kind != .early)&&Br n d)=true)
  (aa:ev M x=some (.pointer (some F.sA)))
  (h:∀v wt sm r,F.act p v wt sm=some r→∃q,r.2.2= .ph q∧JL (Bn P (Fam.Db p)) (Stop P F q) b n (AA M d (.int .u64 (Fam.word v wt))) ds (.inRegion ops rest::k) cs s):
  JL (Bn P (Fam.Db p)) (Stop P F p) b n M ds (.inRegion ops (i::rest)::k) cs s:=by
 refine HF (vs:= [.pointer (some F.sA)]) Y hw Z H.f_uLoad (nm_uLoad L) rfl (by simp [evs,aa]) (Nat.le_of_ble_eq_true rfl) fun ah back=>JL.go 8 rfl (AW rfl rfl rfl (fun ρ h=>Yl.fieldAddr H.underlying_tAU rfl (EH H.sizeOf_tU64) (h _ _ rfl)) ?_);refine Vl K O U V W rfl rfl rfl rfl (Tr H) rfl fun v wt sm r ab=>?_;obtain⟨q,ae,ag⟩:=h v wt sm r ab;refine⟨q,ae,?_⟩
 ·refine AW rfl rfl rfl (fun ρ h=>Yl.assign (h _ _ rfl)) (JL.done ?_);exact JL.ret rfl rfl (BR.one H.f_uLoad rfl rfl) (back _ _ _ _ ag)
theorem JL.uStore(K:ops[i]? =some ⟨d,.call ⟨.value (.func L.uStore),#[x,y],ats⟩,ty,pp,af,g⟩)(hw:A5 M ops ⟨d,.call ⟨.value (.func L.uStore),#[x,y],ats⟩,ty,pp,af,g⟩=some true)(O:((b.kind != .early)&&Br n d)=true)
  (U:ev M x=some (.pointer (some F.sA))) (V:ev M y=some (.int .u64 0))
  (h:JL (Bn P false) (Stop P F .Ec) b n (AA M d (.tuple #[])) ds (.inRegion ops rest::k) cs .quiet):
  JL (Bn P false) (Stop P F .F5) b n M ds (.inRegion ops (i::rest)::k) cs .quiet:=by
 refine HF (vs:= [.pointer (some F.sA),.int .u64 0]) K hw O H.f_uStore (nm_uStore L) rfl (by simp [evs,U,V]) (Nat.le_of_ble_eq_true rfl) fun W back=>JL.go 3 rfl (AW rfl rfl rfl (fun ρ h=>Yl.fieldAddr H.underlying_tAU rfl (EH H.sizeOf_tU64) (h _ _ rfl)) ?_);refine JL.go 1 rfl (U5 rfl rfl rfl rfl (Se H) rfl rfl ?_);exact JL.done (JL.fin rfl rfl (BR.none H.f_uStore rfl) (back _ _ _ _ h))
theorem JL.uCas{m:Nat}(K:s.q=false)(O:ops[i]? =some ⟨d,.call ⟨.value (.func L.uCas),#[x,y,z],ats⟩,ty,pp,af,g⟩)(hw:A5 M ops ⟨d,.call ⟨.value (.func L.uCas),#[x,y,z],ats⟩,ty,pp,af,g⟩=some true)(U:((b.kind != .early)&&Br n d)=true)
  (V:ev M x=some (.pointer (some F.sA))) (W:ev M y=some (.int .u64 (Fam.word m 0))) (Y:ev M z=some (.int .u64 (Fam.word m 1)))
  (Z:JL (Bn P false) (Stop P F .G6) b n (AA M d (.bool true)) ds (.inRegion ops rest::k) cs s)
  (aa:JL (Bn P false) (Stop P F (.Fc (m - 1))) b n (AA M d (.bool false)) ds (.inRegion ops rest::k) cs s):
  JL (Bn P false) (Stop P F (.GB m)) b n M ds (.inRegion ops (i::rest)::k) cs s:=by
 refine HF (vs:= [.pointer (some F.sA),.int .u64 (Fam.word m 0),.int .u64 (Fam.word m 1)]) O hw U H.f_uCas (nm_uCas L) rfl (by simp [evs,V,W,Y]) (Nat.le_of_ble_eq_true rfl) fun ab back=>JL.go 8 rfl (AW rfl rfl rfl (fun ρ h=>Yl.fieldAddr H.underlying_tAU rfl (EH H.sizeOf_tU64) (h _ _ rfl)) ?_);refine JL.go 2 rfl (VO (m:=m) K rfl rfl rfl rfl (Ua H) rfl rfl rfl ?_ ?_)
 ·refine AW rfl rfl rfl (fun ρ h=>Yl.assign (h _ _ rfl)) (JL.done ?_);exact JL.ret rfl rfl (BR.one H.f_uCas rfl rfl) (back _ _ _ _ Z)
 ·refine AW rfl rfl rfl (fun ρ h=>Yl.assign (h _ _ rfl)) (JL.done ?_);exact JL.ret rfl rfl (BR.one H.f_uCas rfl rfl) (back _ _ _ _ aa)
end
end Pal
namespace Pal
open Go Go.Conc Go.Conc.Lib
open Go.ConcR.Gen
theorem IS{v wt:Nat}(K:v<2147483648)(O:wt≤1):IntKind.u64.wrap (BitVec.ofInt IntKind.u64.bits (Fam.word v wt)&&& BitVec.ofInt IntKind.u64.bits 2147483648).toNat=0:=by
 have:=Go.ConcN.st_flag v wt K O;simpa [bits,Fam.word,Fam.KK] using this
theorem IY{v wt:Nat}(K:v<2147483648)(O:wt≤1):IntKind.u64.wrap (BitVec.ofInt IntKind.u64.bits (Fam.word v wt)&&& BitVec.ofInt IntKind.u64.bits 2147483647).toNat=(wt:Int):=by
 have:=Go.ConcN.st_waiters v wt K O;simpa [bits,Fam.word,Fam.KK] using this
theorem IC{v wt:Nat}(K:wt≤1):(Fam.word v wt).fdiv (2 ^ (min (32:Int).toNat IntKind.u64.bits))=(v:Int):=by
 have e:(2:Int) ^ (min (32:Int).toNat IntKind.u64.bits)=4294967296:=by decide
 rw [e,Int.fdiv_eq_ediv_of_nonneg _ (by decide)];simp only [Fam.word,Fam.KK];omega
theorem wrap_i32{v:Nat}(K:v<2147483648):IntKind.i32.wrap (v:Int)=v:=by
 simp only [IntKind.wrap,IntKind.bits,IntKind.signed];simp;split <;> omega
theorem wrap_u32{v:Nat}(K:v≤1):IntKind.u32.wrap (v:Int)=v:=by
 simp only [IntKind.wrap,IntKind.bits,IntKind.signed];simp;omega
theorem SF{F:Fam}:∀v wt sm r,F.act .FQ v wt sm=some r→r.1=(v,wt,sm)∧r.2.1= #[Fam.ED F.sA]:=by
 intro v wt sm r h;simp only [Fam.act] at h;split at h
 ·rename_i K;obtain⟨rfl,rfl⟩:=K;cases h;exact⟨rfl,rfl⟩
 ·cases h
theorem Ts{F:Fam}{v wt sm:Nat}{r}(h:F.act .FQ v wt sm=some r):v=0∧wt=1∧r.2.2= .ph .F5:=by
 simp only [Fam.act] at h;split at h
 ·rename_i K;cases h;exact⟨K.1,K.2,rfl⟩
 ·cases h
section
variable {P:Program}{L:WgLink}(H:WgLib P L){F:Fam}{n:Nat}{M:Env}{ds:Ld_}{k:Li_}{cs:Lf_}{s:St}{b:Frame}
variable {ops:Ao_}{i:Nat}{rest:List Nat}{d:Option Tmp}{x y z:Operand}{ats:Array TypeId}{ty:TypeId}{pp:String}{af:Ae_}{g:On_}{p q:Ph}
include H
theorem SQ(U:s.q=false)(V:ops[i]? =some ⟨d,.call ⟨.value (.func L.add),#[x,y],ats⟩,ty,pp,af,g⟩)(hw:A5 M ops ⟨d,.call ⟨.value (.func L.add),#[x,y],ats⟩,ty,pp,af,g⟩=some true)(W:((b.kind != .early)&&Br n d)=true)
  (Y:ev M x=some (.pointer (some F.sA))) (Z:ev M y=some (.int .i64 (-1)))
  (h:JL (F0 P) (GD P 0) b n (AA M d (.tuple #[])) ds (.inRegion ops rest::k) cs .quiet):
  JL (Bn P false) (Stop P F .CH) b n M ds (.inRegion ops (i::rest)::k) cs s:=by
 refine HF (vs:= [.pointer (some F.sA),.int .i64 (-1)]) V hw W H.f_add (nm_add L) rfl (by simp [evs,Y,Z]) (Nat.le_of_ble_eq_true rfl) fun ab back=>JL.go 11 rfl (JC (p:= .CH) (q:= .FR) (ad:=F.sA) rfl U (by simp) (fun _ _ _=>rfl) rfl rfl rfl rfl rfl H.underlying_tWgP H.underlying_tUP H.room_tWg rfl (.inl rfl) ?_)
 refine Jk (p:= .FR) (q:= .Hn) (mk:= .releaseMerge) (ad:=F.sA) (vs:= [.pointer (some F.sA)]) rfl U (by simp) (fun _ _ _=>rfl) rfl rfl rfl rfl (by simp) (Rt H) rfl rfl (JL.go 3 rfl ?_);refine Ju (p:= .Hn) (q:= .GA) rfl rfl (by simp) (fun _ _ _=>rfl) rfl rfl rfl rfl rfl (by simp) (Mt H) (JL.go 2 rfl ?_);refine JL.defer (vs:= []) rfl rfl rfl rfl rfl (JL.go 8 rfl ?_);refine JL.ext (vs:= []) rfl rfl rfl (Ob H) rfl rfl (JL.go 7 rfl ?_);refine AW rfl rfl rfl (fun ρ h=>Yl.fieldAddr H.underlying_tWg rfl (EH H.sizeOf_tAU) (h _ _ rfl)) (JL.go 1 rfl ?_);refine AW rfl rfl rfl (fun ρ h=>DY H.underlying_t3 H.underlying_tU64 (h _ _ rfl)) ?_
 refine AW (v:= .int .u64 18446744069414584320) rfl rfl rfl (fun ρ h=>(Yl.shl (h _ _ rfl) (h _ _ rfl) (by decide)).to (congrArg _ (by decide))) (Tx H rfl rfl rfl rfl rfl ?_ fun v wt ae K ag=>?_)
 ·refine AW rfl rfl rfl (fun ρ h=>Yl.assign (h _ _ rfl)) (JL.go 5 rfl ?_);refine AW (v:= .int .u64 0) rfl rfl rfl (fun ρ h=>(Yl.and (h _ _ rfl) (h _ _ rfl)).to (congrArg _ (IS (v:=0) (wt:=1) (by decide) (by decide)))) (AW rfl rfl rfl (fun ρ h=>Yl.neq (h _ _ rfl) (h _ _ rfl)) ?_);refine JL.go 10 rfl (AW (v:= .int .u64 (0:Nat)) rfl rfl rfl (fun ρ h=>(Yl.shr (h _ _ rfl) (h _ _ rfl) (by decide)).to (congrArg _ (IC (v:=0) (wt:=1) (by decide)))) ?_);refine AW (v:= .int .i32 (0:Nat)) rfl rfl rfl (fun ρ h=>(DY H.underlying_tU64 H.underlying_t21 (h _ _ rfl)).to (congrArg _ (wrap_i32 (by decide)))) ?_
  refine JL.go 5 rfl (AW (v:= .int .u64 (1:Nat)) rfl rfl rfl (fun ρ h=>(Yl.and (h _ _ rfl) (h _ _ rfl)).to (congrArg _ (IY (v:=0) (wt:=1) (by decide) (by decide)))) ?_);refine AW (v:= .int .u32 (1:Nat)) rfl rfl rfl (fun ρ h=>(DY H.underlying_tU64 H.underlying_tU32 (h _ _ rfl)).to (congrArg _ (wrap_u32 (by decide)))) ?_
  refine JL.go 30 rfl (AW rfl rfl rfl (fun ρ h=>Yl.neq (h _ _ rfl) (h _ _ rfl)) ?_);refine JL.go 30 rfl (AW rfl rfl rfl (fun ρ h=>Yl.fieldAddr H.underlying_tWg rfl (EH H.sizeOf_tAU) (h _ _ rfl)) ?_);refine JL.uLoad H (p:= .FQ) rfl rfl (by simp) rfl SF rfl rfl rfl rfl fun v wt sm r aa=>?_;obtain⟨rfl,rfl,e⟩:=Ts aa;refine⟨.F5,e,?_⟩;refine JL.go 1 rfl (AW (v:= .bool false) rfl rfl rfl (fun ρ h=>(Yl.neq (h _ _ rfl) (h _ _ rfl)).to (by simp)) ?_);refine JL.go 7 rfl (AW rfl rfl rfl (fun ρ h=>Yl.fieldAddr H.underlying_tWg rfl (EH H.sizeOf_tAU) (h _ _ rfl)) ?_);refine JL.uStore H rfl rfl rfl rfl rfl (JL.go 9 rfl ?_);refine Iz (JL.go 4 rfl ?_);refine AW rfl rfl rfl (fun ρ h=>Yl.neq (h _ _ rfl) (h _ _ rfl)) (JL.go 8 rfl ?_);refine AW rfl rfl rfl (fun ρ h=>Yl.fieldAddr H.underlying_tWg rfl (EH H.sizeOf_tU32) (h _ _ rfl)) (S5 (vs:= [.pointer (some F.mA),.bool false,.int .i64 0]) rfl rfl rfl rfl (SM H) rfl rfl ?_);refine JL.go 4 rfl (AW (v:= .int .u32 ((0:Nat):Int)) rfl rfl rfl (fun ρ h=>(Yl.sub (h _ _ rfl) (h _ _ rfl)).to (congrArg _ (by decide))) ?_);refine JL.go 2 rfl (JL.again ?_);refine JL.go 4 rfl (AW rfl rfl rfl (fun ρ h=>Yl.neq (h _ _ rfl) (h _ _ rfl)) ?_);refine JL.go 3 rfl (JL.out rfl (JO.K7 rfl (Hz H) (JO.leave rfl (BR.none H.f_add rfl) (back _ _ _ _ h))))
 ·refine AW rfl rfl rfl (fun ρ h=>Yl.assign (h _ _ rfl)) (JL.go 5 rfl ?_);refine AW (v:= .int .u64 0) rfl rfl rfl (fun ρ h=>(Yl.and (h _ _ rfl) (h _ _ rfl)).to (congrArg _ (IS (v:=v) (wt:=wt) (by omega) K))) (AW rfl rfl rfl (fun ρ h=>Yl.neq (h _ _ rfl) (h _ _ rfl)) ?_);refine JL.go 10 rfl (AW (v:= .int .u64 (v:Nat)) rfl rfl rfl (fun ρ h=>(Yl.shr (h _ _ rfl) (h _ _ rfl) (by decide)).to (congrArg _ (IC (v:=v) (wt:=wt) K))) ?_);refine AW (v:= .int .i32 (v:Nat)) rfl rfl rfl (fun ρ h=>(DY H.underlying_tU64 H.underlying_t21 (h _ _ rfl)).to (congrArg _ (wrap_i32 (by omega)))) ?_
  refine JL.go 5 rfl (AW (v:= .int .u64 (wt:Nat)) rfl rfl rfl (fun ρ h=>(Yl.and (h _ _ rfl) (h _ _ rfl)).to (congrArg _ (IY (v:=v) (wt:=wt) (by omega) K))) ?_);refine AW (v:= .int .u32 (wt:Nat)) rfl rfl rfl (fun ρ h=>(DY H.underlying_tU64 H.underlying_tU32 (h _ _ rfl)).to (congrArg _ (wrap_u32 K))) ?_
  refine JL.go 22 rfl (AW (v:= .bool false) rfl rfl rfl (fun ρ h=>(Yl.lss (h _ _ rfl) (h _ _ rfl)).to (by simp)) ?_);refine JL.go 6 rfl ?_;by_cases O:wt=0
  ·refine AW rfl rfl rfl (fun ρ h=>Yl.move (h _ _ rfl)) (AW (v:= .bool false) rfl rfl rfl (fun ρ h=>(Yl.neq (h _ _ rfl) (h _ _ rfl)).to (by simp [O])) ?_);refine JL.go 16 rfl ?_;by_cases ah:0<v
   ·refine AW rfl rfl rfl (fun ρ h=>Yl.move (h _ _ rfl)) (AW (v:= .bool true) rfl rfl rfl (fun ρ h=>(Yl.gtr (h _ _ rfl) (h _ _ rfl)).to (by simp <;> omega)) ?_);refine JL.go 6 rfl (GO rfl (JO.K7 rfl (Hz H) (JO.leave rfl (BR.none H.f_add rfl) (back _ _ _ _ h))))
   ·refine AW rfl rfl rfl (fun ρ h=>Yl.move (h _ _ rfl)) (AW (v:= .bool false) rfl rfl rfl (fun ρ h=>(Yl.gtr (h _ _ rfl) (h _ _ rfl)).to (by simp <;> omega)) ?_);refine JL.go 2 rfl (AW (v:= .bool true) rfl rfl rfl (fun ρ h=>(Yl.eql (h _ _ rfl) (h _ _ rfl)).to (by simp [O])) ?_);refine JL.go 3 rfl (GO rfl (JO.K7 rfl (Hz H) (JO.leave rfl (BR.none H.f_add rfl) (back _ _ _ _ h))))
  ·refine AW rfl rfl rfl (fun ρ h=>Yl.move (h _ _ rfl)) (AW (v:= .bool true) rfl rfl rfl (fun ρ h=>(Yl.neq (h _ _ rfl) (h _ _ rfl)).to (by simp [O])) ?_);refine JL.go 17 rfl (AW (v:= .bool true) rfl rfl rfl (fun ρ h=>(Yl.gtr (h _ _ rfl) (h _ _ rfl)).to (by simp <;> omega)) ?_);refine JL.go 6 rfl (GO rfl (JO.K7 rfl (Hz H) (JO.leave rfl (BR.none H.f_add rfl) (back _ _ _ _ h))))
theorem Sx{j:Nat}(K:s.q=false)(O:ops[i]? =some ⟨d,.call ⟨.value (.func L.add),#[x,y],ats⟩,ty,pp,af,g⟩)(hw:A5 M ops ⟨d,.call ⟨.value (.func L.add),#[x,y],ats⟩,ty,pp,af,g⟩=some true)(U:((b.kind != .early)&&Br n d)=true)
  (V:ev M x=some (.pointer (some F.sA))) (W:ev M y=some (.int .i64 1))
  (h:JL (Bn P true) (Stop P F (.EE j)) b n (AA M d (.tuple #[])) ds (.inRegion ops rest::k) cs s):
  JL (Bn P true) (Stop P F (.ER j)) b n M ds (.inRegion ops (i::rest)::k) cs s:=by
 refine HF (vs:= [.pointer (some F.sA),.int .i64 1]) O hw U H.f_add (nm_add L) rfl (by simp [evs,V,W]) (Nat.le_of_ble_eq_true rfl) fun Y back=>JL.go 12 rfl (Ju (p:= .ER j) (q:= .G4 j) rfl K (by simp) (fun _ _ _=>rfl) rfl rfl rfl rfl rfl (by simp) (Mt H) ?_);refine JL.go 2 rfl (JL.defer (vs:= []) rfl rfl rfl rfl rfl ?_);refine JL.go 8 rfl (JL.ext (vs:= []) rfl rfl rfl (Ob H) rfl rfl ?_);refine JL.go 7 rfl (AW rfl rfl rfl (fun ρ h=>Yl.fieldAddr H.underlying_tWg rfl (EH H.sizeOf_tAU) (h _ _ rfl)) ?_);refine JL.go 1 rfl (AW rfl rfl rfl (fun ρ h=>DY H.underlying_t3 H.underlying_tU64 (h _ _ rfl)) ?_)
 refine AW (v:= .int .u64 4294967296) rfl rfl rfl (fun ρ h=>(Yl.shl (h _ _ rfl) (h _ _ rfl) (by decide)).to (congrArg _ (by decide))) (Td H K rfl rfl rfl rfl rfl ?_ fun v Z aa=>?_)
 ·refine AW rfl rfl rfl (fun ρ h=>Yl.assign (h _ _ rfl)) (JL.go 5 rfl ?_);refine AW (v:= .int .u64 0) rfl rfl rfl (fun ρ h=>(Yl.and (h _ _ rfl) (h _ _ rfl)).to (congrArg _ (IS (v:=1) (wt:=0) (by decide) (by decide)))) (AW rfl rfl rfl (fun ρ h=>Yl.neq (h _ _ rfl) (h _ _ rfl)) ?_);refine JL.go 10 rfl (AW (v:= .int .u64 (1:Nat)) rfl rfl rfl (fun ρ h=>(Yl.shr (h _ _ rfl) (h _ _ rfl) (by decide)).to (congrArg _ (IC (v:=1) (wt:=0) (by decide)))) ?_);refine AW (v:= .int .i32 (1:Nat)) rfl rfl rfl (fun ρ h=>(DY H.underlying_tU64 H.underlying_t21 (h _ _ rfl)).to (congrArg _ (wrap_i32 (by decide)))) ?_
  refine JL.go 5 rfl (AW (v:= .int .u64 (0:Nat)) rfl rfl rfl (fun ρ h=>(Yl.and (h _ _ rfl) (h _ _ rfl)).to (congrArg _ (IY (v:=1) (wt:=0) (by decide) (by decide)))) ?_);refine AW (v:= .int .u32 (0:Nat)) rfl rfl rfl (fun ρ h=>(DY H.underlying_tU64 H.underlying_tU32 (h _ _ rfl)).to (congrArg _ (wrap_u32 (by decide)))) ?_
  refine JL.go 12 rfl (AW (v:= .int .i32 1) rfl rfl rfl (fun ρ h=>(DY H.underlying_t3 H.underlying_t21 (h _ _ rfl)).to (congrArg _ (by decide))) ?_)
  refine AW (v:= .bool true) rfl rfl rfl (fun ρ h=>(Yl.eql (h _ _ rfl) (h _ _ rfl)).to (by simp)) (JL.go 6 rfl ?_);refine AW rfl rfl rfl (fun ρ h=>Yl.fieldAddr H.underlying_tWg rfl (EH H.sizeOf_tU32) (h _ _ rfl)) (JC (p:= .GH j) (q:= .Ga j) (ad:=F.mA) rfl K (by simp) (fun _ _ _=>rfl) rfl rfl rfl rfl rfl H.underlying_tPU32 H.underlying_tUP H.room_tU32 rfl (.inr rfl) ?_)
  refine Jk (p:= .Ga j) (q:= .FE j) (mk:= .read) (ad:=F.mA) (vs:= [.pointer (some F.mA)]) rfl K (by simp) (fun _ _ _=>rfl) rfl rfl rfl rfl (by simp) (Tp H) rfl rfl (JL.go 5 rfl ?_);refine AW (v:= .bool false) rfl rfl rfl (fun ρ h=>(Yl.lss (h _ _ rfl) (h _ _ rfl)).to (by simp)) (JL.go 7 rfl ?_);refine AW (v:= .bool false) rfl rfl rfl (fun ρ h=>(Yl.neq (h _ _ rfl) (h _ _ rfl)).to (by simp)) (JL.go 17 rfl ?_);refine AW (v:= .bool true) rfl rfl rfl (fun ρ h=>(Yl.gtr (h _ _ rfl) (h _ _ rfl)).to (by simp)) (JL.go 6 rfl ?_);exact GO rfl (JO.PW K rfl (Hz H) (JO.leave rfl (BR.none H.f_add rfl) (back _ _ _ _ h)))
 ·refine AW rfl rfl rfl (fun ρ h=>Yl.assign (h _ _ rfl)) (JL.go 5 rfl ?_);refine AW (v:= .int .u64 0) rfl rfl rfl (fun ρ h=>(Yl.and (h _ _ rfl) (h _ _ rfl)).to (congrArg _ (IS (v:=(v+1)) (wt:=0) (by omega) (by decide)))) (AW rfl rfl rfl (fun ρ h=>Yl.neq (h _ _ rfl) (h _ _ rfl)) ?_);refine JL.go 10 rfl (AW (v:= .int .u64 ((v+1):Nat)) rfl rfl rfl (fun ρ h=>(Yl.shr (h _ _ rfl) (h _ _ rfl) (by decide)).to (congrArg _ (IC (v:=(v+1)) (wt:=0) (by decide)))) ?_);refine AW (v:= .int .i32 ((v+1):Nat)) rfl rfl rfl (fun ρ h=>(DY H.underlying_tU64 H.underlying_t21 (h _ _ rfl)).to (congrArg _ (wrap_i32 (by omega)))) ?_
  refine JL.go 5 rfl (AW (v:= .int .u64 (0:Nat)) rfl rfl rfl (fun ρ h=>(Yl.and (h _ _ rfl) (h _ _ rfl)).to (congrArg _ (IY (v:=(v+1)) (wt:=0) (by omega) (by decide)))) ?_);refine AW (v:= .int .u32 (0:Nat)) rfl rfl rfl (fun ρ h=>(DY H.underlying_tU64 H.underlying_tU32 (h _ _ rfl)).to (congrArg _ (wrap_u32 (by decide)))) ?_
  refine JL.go 12 rfl (AW (v:= .int .i32 1) rfl rfl rfl (fun ρ h=>(DY H.underlying_t3 H.underlying_t21 (h _ _ rfl)).to (congrArg _ (by decide))) ?_)
  refine AW (v:= .bool false) rfl rfl rfl (fun ρ h=>(Yl.eql (h _ _ rfl) (h _ _ rfl)).to (by simp <;> omega)) (JL.go 8 rfl ?_);refine AW (v:= .bool false) rfl rfl rfl (fun ρ h=>(Yl.lss (h _ _ rfl) (h _ _ rfl)).to (by simp <;> omega)) (JL.go 7 rfl ?_);refine AW (v:= .bool false) rfl rfl rfl (fun ρ h=>(Yl.neq (h _ _ rfl) (h _ _ rfl)).to (by simp)) (JL.go 17 rfl ?_);refine AW (v:= .bool true) rfl rfl rfl (fun ρ h=>(Yl.gtr (h _ _ rfl) (h _ _ rfl)).to (by simp <;> omega)) (JL.go 6 rfl ?_);exact GO rfl (JO.PW K rfl (Hz H) (JO.leave rfl (BR.none H.f_add rfl) (back _ _ _ _ h)))
omit H in
theorem SN{m:Nat}:∀v wt sm r,F.act (.Fc m) v wt sm=some r→r.1=(v,wt,sm)∧r.2.1= #[Fam.ED F.sA]:=by
 intro v wt sm r h;simp only [Fam.act] at h;split at h
 ·rename_i K;obtain⟨_,rfl⟩:=K;cases h;exact⟨rfl,rfl⟩
 ·cases h
omit H in
theorem TE{m v wt sm:Nat}{r}(h:F.act (.Fc m) v wt sm=some r):v≤m∧wt=0∧r.2.2=if v=0 then .ph .EW else .ph (.GB v):=by
 simp only [Fam.act] at h;split at h
 ·rename_i K;cases h;exact⟨K.1,K.2,rfl⟩
 ·cases h
omit H in
theorem RX:∀v wt sm r,F.act .F6 v wt sm=some r→r.1=(v,wt,sm)∧r.2.1= #[Fam.ED F.sA]:=by
 intro v wt sm r h;simp only [Fam.act] at h;split at h
 ·rename_i K;obtain⟨rfl,rfl⟩:=K;cases h;exact⟨rfl,rfl⟩
 ·cases h
omit H in
theorem Ss{v wt sm:Nat}{r}(h:F.act .F6 v wt sm=some r):v=0∧wt=0∧r.2.2= .ph .EW:=by
 simp only [Fam.act] at h;split at h
 ·rename_i K;cases h;exact⟨K.1,K.2,rfl⟩
 ·cases h
omit H in
theorem So{v:Nat}(K:v<2147483648):IntKind.u64.wrap (Fam.word v 0+1)=Fam.word v 1:=by
 simp only [Fam.word,Fam.KK,IntKind.wrap,IntKind.bits,IntKind.signed];simp;omega
theorem JL.wait(W:F.n<2147483648)(K:s.q=false)(Y:ops[i]? =some ⟨d,.call ⟨.value (.func L.wait),#[x],ats⟩,ty,pp,af,g⟩)(hw:A5 M ops ⟨d,.call ⟨.value (.func L.wait),#[x],ats⟩,ty,pp,af,g⟩=some true)(Z:((b.kind != .early)&&Br n d)=true)
  (aa:ev M x=some (.pointer (some F.sA)))
  (h:JL (Bn P false) (Stop P F .Dp) b n (AA M d (.tuple #[])) ds (.inRegion ops rest::k) cs s):
  JL (Bn P false) (Stop P F .CJ) b n M ds (.inRegion ops (i::rest)::k) cs s:=by
 refine HF (vs:= [.pointer (some F.sA)]) Y hw Z H.f_wait (nm_wait L) rfl (by simp [evs,aa]) (Nat.le_of_ble_eq_true rfl) fun ae back=>JL.go 3 rfl (Ju (p:= .CJ) (q:= .Fc F.n) rfl K (by simp) (fun _ _ _=>rfl) rfl rfl rfl rfl rfl (by simp) (Mt H) ?_);refine JL.go 2 rfl (Iz ?_);refine Hf (L':= [(0,.pointer (some F.sA))]) ⟨rfl,trivial⟩ ?_;generalize F.n=m at W ⊢
 induction m using Nat.strongRecOn with
 | _ m ab=>?_
 refine JL.go 5 rfl (AW rfl rfl rfl (fun ρ h=>Yl.fieldAddr H.underlying_tWg rfl (EH H.sizeOf_tAU) (h _ _ rfl)) ?_);refine JL.uLoad H (p:= .Fc m) rfl K (by simp) rfl SN rfl rfl rfl rfl fun v wt sm r U=>?_;obtain⟨ag,rfl,e⟩:=TE U;have O:v<2147483648:=by omega
 by_cases V:v=0
 ·subst V;refine⟨.EW,e,?_⟩;refine JL.go 5 rfl (AW (v:= .int .u64 (0:Nat)) rfl rfl rfl (fun ρ h=>(Yl.shr (h _ _ rfl) (h _ _ rfl) (by decide)).to (congrArg _ (IC (v:=0) (wt:=0) (by decide)))) ?_);refine AW (v:= .int .i32 (0:Nat)) rfl rfl rfl (fun ρ h=>(DY H.underlying_tU64 H.underlying_t21 (h _ _ rfl)).to (congrArg _ (wrap_i32 (by decide)))) ?_
  refine JL.go 5 rfl (AW (v:= .int .u64 ((0:Nat):Int)) rfl rfl rfl (fun ρ h=>(Yl.and (h _ _ rfl) (h _ _ rfl)).to (congrArg _ (IY (v:=0) (wt:=0) (by decide) (by decide)))) ?_);refine AW (v:= .int .u32 ((0:Nat):Int)) rfl rfl rfl (fun ρ h=>(DY H.underlying_tU64 H.underlying_tU32 (h _ _ rfl)).to (congrArg _ (wrap_u32 (by decide)))) ?_
  refine JL.go 6 rfl (AW (v:= .bool true) rfl rfl rfl (fun ρ h=>(Yl.eql (h _ _ rfl) (h _ _ rfl)).to (by simp)) ?_);refine JL.go 6 rfl (Ju (p:= .EW) (q:= .G2) rfl K (by simp) (fun _ _ _=>rfl) rfl rfl rfl rfl rfl (by simp) (Hz H) ?_);refine JL.go 3 rfl (JC (p:= .G2) (q:= .Gd) (ad:=F.sA) rfl K (by simp) (fun _ _ _=>rfl) rfl rfl rfl rfl rfl H.underlying_tWgP H.underlying_tUP H.room_tWg rfl (.inl rfl) ?_)
  refine Jk (p:= .Gd) (q:= .Dp) (mk:= .acquire) (ad:=F.sA) (vs:= [.pointer (some F.sA)]) rfl K (by simp) (fun _ _ _=>rfl) rfl rfl rfl rfl (by simp) (Oa H) rfl rfl (JL.go 5 rfl ?_);refine AW (v:= .bool true) rfl rfl rfl (fun ρ h=>(Yl.eql (h _ _ rfl) (h _ _ rfl)).to (by simp)) (JL.go 2 rfl ?_);refine AW (v:= .int .u64 0) rfl rfl rfl (fun ρ h=>(Yl.and (h _ _ rfl) (h _ _ rfl)).to (congrArg _ (IS (v:=0) (wt:=0) (by decide) (by decide)))) (AW (v:= .bool false) rfl rfl rfl (fun ρ h=>(Yl.neq (h _ _ rfl) (h _ _ rfl)).to (by simp)) ?_);exact JL.go 8 rfl (JL.ret rfl rfl (BR.none H.f_wait rfl) (back _ _ _ _ h))
 ·refine⟨.GB v,by rw [e,if_neg V],?_⟩;refine JL.go 5 rfl (AW (v:= .int .u64 (v:Nat)) rfl rfl rfl (fun ρ h=>(Yl.shr (h _ _ rfl) (h _ _ rfl) (by decide)).to (congrArg _ (IC (v:=v) (wt:=0) (by decide)))) ?_);refine AW (v:= .int .i32 (v:Nat)) rfl rfl rfl (fun ρ h=>(DY H.underlying_tU64 H.underlying_t21 (h _ _ rfl)).to (congrArg _ (wrap_i32 O))) ?_
  refine JL.go 5 rfl (AW (v:= .int .u64 ((0:Nat):Int)) rfl rfl rfl (fun ρ h=>(Yl.and (h _ _ rfl) (h _ _ rfl)).to (congrArg _ (IY (v:=v) (wt:=0) O (by decide)))) ?_);refine AW (v:= .int .u32 ((0:Nat):Int)) rfl rfl rfl (fun ρ h=>(DY H.underlying_tU64 H.underlying_tU32 (h _ _ rfl)).to (congrArg _ (wrap_u32 (by decide)))) ?_
  refine JL.go 6 rfl (AW (v:= .bool false) rfl rfl rfl (fun ρ h=>(Yl.eql (h _ _ rfl) (h _ _ rfl)).to (by simp <;> omega)) ?_);refine JL.go 7 rfl (AW rfl rfl rfl (fun ρ h=>Yl.fieldAddr H.underlying_tWg rfl (EH H.sizeOf_tAU) (h _ _ rfl)) ?_);refine JL.go 2 rfl (AW (v:= .int .u64 (Fam.word v 1)) rfl rfl rfl (fun ρ h=>(Yl.add (h _ _ rfl) (h _ _ rfl)).to (congrArg _ (So O))) ?_);refine JL.uCas H (m:=v) K rfl rfl rfl rfl rfl rfl ?_ ?_
  ·refine JL.done (JL.go 6 rfl ?_);refine AW (v:= .bool true) rfl rfl rfl (fun ρ h=>(Yl.eql (h _ _ rfl) (h _ _ rfl)).to (by simp)) (JL.go 6 rfl ?_);refine AW rfl rfl rfl (fun ρ h=>Yl.fieldAddr H.underlying_tWg rfl (EH H.sizeOf_tU32) (h _ _ rfl)) (JC (p:= .G6) (q:= .GF) (ad:=F.mA) rfl K (by simp) (fun _ _ _=>rfl) rfl rfl rfl rfl rfl H.underlying_tPU32 H.underlying_tUP H.room_tU32 rfl (.inr rfl) ?_)
   refine Jk (p:= .GF) (q:= .C4) (mk:= .write) (ad:=F.mA) (vs:= [.pointer (some F.mA)]) rfl K (by simp) (fun _ _ _=>rfl) rfl rfl rfl rfl (by simp) (Sj H) rfl rfl (JL.go 9 rfl ?_);refine AW (v:= .int .u64 0) rfl rfl rfl (fun ρ h=>(Yl.and (h _ _ rfl) (h _ _ rfl)).to (congrArg _ (IS (v:=v) (wt:=0) O (by decide)))) (AW (v:= .bool false) rfl rfl rfl (fun ρ h=>(Yl.neq (h _ _ rfl) (h _ _ rfl)).to (by simp)) ?_);refine JL.go 10 rfl (AW rfl rfl rfl (fun ρ h=>Yl.fieldAddr H.underlying_tWg rfl (EH H.sizeOf_tU32) (h _ _ rfl)) ?_);refine JL.go 1 rfl (R5 (vs:= [.pointer (some F.mA),.bool false]) K rfl rfl rfl rfl (RD H) rfl rfl ?_);refine JL.go 5 rfl (AW rfl rfl rfl (fun ρ h=>Yl.fieldAddr H.underlying_tWg rfl (EH H.sizeOf_tAU) (h _ _ rfl)) ?_);refine JL.uLoad H (p:= .F6) rfl K (by simp) rfl RX rfl rfl rfl rfl fun v wt sm r U=>?_;obtain⟨rfl,rfl,e⟩:=Ss U;refine⟨.EW,e,?_⟩;refine AW (v:= .bool false) rfl rfl rfl (fun ρ h=>(Yl.neq (h _ _ rfl) (h _ _ rfl)).to (by simp [Fam.word])) (JL.go 6 rfl ?_);refine Ju (p:= .EW) (q:= .G2) rfl K (by simp) (fun _ _ _=>rfl) rfl rfl rfl rfl rfl (by simp) (Hz H) (JL.go 3 rfl ?_);refine JC (p:= .G2) (q:= .Gd) (ad:=F.sA) rfl K (by simp) (fun _ _ _=>rfl) rfl rfl rfl rfl rfl H.underlying_tWgP H.underlying_tUP H.room_tWg rfl (.inl rfl) ?_
   refine Jk (p:= .Gd) (q:= .Dp) (mk:= .acquire) (ad:=F.sA) (vs:= [.pointer (some F.sA)]) rfl K (by simp) (fun _ _ _=>rfl) rfl rfl rfl rfl (by simp) (Oa H) rfl rfl (JL.go 8 rfl ?_);exact JL.ret rfl rfl (BR.none H.f_wait rfl) (back _ _ _ _ h)
  ·refine JL.done (JL.go 3 rfl ?_);refine JL.again (Hf (L':= [(0,.pointer (some F.sA))]) ⟨rfl,trivial⟩ ?_);exact ab (v - 1) (by omega) (by omega)
theorem JO.L2(K:b.roundOf=none)(O:s.q=false)(h:JO (F0 P) (GD P 0) b n M ds cs .quiet):
  JO (Bn P false) (Stop P F .CH) b n M (dcall L.done #[.pointer (some F.sA)]::ds) cs s:=by
 refine JO.enter (vs:= [.pointer (some F.sA)]) K H.f_done (nm_done L) rfl (Nat.le_of_ble_eq_true rfl) fun T U todo=>JL.go 2 rfl (SQ H O rfl rfl rfl rfl rfl ?_);exact JL.done (JL.out rfl (JO.leaveD rfl H.f_done rfl (.inl rfl) (h T U todo)))
end
end Pal
namespace Pal
open Go Go.Conc
section
variable {P:Program}{J:Judge P}{Q:Gs_}{g:Goroutine}{cs:Lf_}{c:Frame}{E H:LH}{S S':List Seg}
theorem M1(K:S.flatten.Perm S'.flatten)(O:As E H S)(h:As E H S'→J.ok Q g (Al E H S')):J.ok Q g (Al E H S):=by
 have U:Al E H S=Al E H S':=D8 O K;rw [U];exact h (Nd.perm O K)
theorem PR(K:S'.flatten=S.flatten)(O:As E H S)(h:As E H S'→J.ok Q g (Al E H S')):J.ok Q g (Al E H S):=M1 (by rw [K]) O h
theorem OQ{f:FuncId}{vs:Lv_}{seg:Seg}{R:Value→LH→Seg→Prop}(j:Nat)(aa:AP J f vs E seg R)(K:As E H S)(O:S[j]? =some seg)
  (ab:∀v E' seg',Le E E'→R v E' seg'→As E' H (S.set j seg')→J.ok Q (G (c.finish v) cs) (Al E' H (S.set j seg'))):
  J.ok Q (G (Frame.enter P f vs.toArray .normal) (c::cs)) (Al E H S):=by
 have U:S.flatten.Perm (seg++(S.set j []).flatten):=(Du (seg':=seg) O).1.trans List.perm_append_comm;have V:Nd E H (seg++(S.set j []).flatten):=Nd.perm K U;have ae:Al E H S=mk E (A0 (S.set j []).flatten H) seg:=by
  rw [show Al E H S=mk E H S.flatten from rfl,D8 K U];unfold mk;rw [EJ]
 have W:=Dy.Iq (aa (A0 (S.set j []).flatten H) (Nd.front V)) (by rintro v s' ⟨E',B',_,_,_,rfl⟩;rfl);rw [← ae] at W;refine W Q c cs ?_;rintro v aq ⟨⟨E',B',hle,ag,ah,rfl⟩,w,ai⟩;have aj:mk E' (A0 (S.set j []).flatten H) B'=mk E' H (B'++(S.set j []).flatten):=by unfold mk;rw [EJ]
 have ak:Nd E H (S.set j []).flatten:=by
  have:=V;rw [Nd.iff] at this ⊢;rw [List.map_append,List.nodup_append] at this;exact⟨this.1.2.1,fun q al=>this.2 q (List.mem_append_right _ al)⟩
 have am:Nd E' H (S.set j []).flatten:=ak.grow fun x an=>by
  have ao:=ai.d x an;have ap:A0 B' (A0 (S.set j []).flatten H) x=none:=ao;exact(FX ap).1
 have Y:Nd E' H (B'++(S.set j []).flatten):=Nd.glue ah am;rw [aj];have Z:(B'++(S.set j []).flatten).Perm (S.set j B').flatten:=List.perm_append_comm.trans (Du O).2.symm;rw [D8 Y Z];exact ab v E' B' hle ag (Nd.perm Y Z)
theorem Qr{e p d l:Seg}:([e,p]++ [d]++ [l]:List Seg).flatten.Perm ([e++(l++p),d]:List Seg).flatten:=by
 simp only [List.cons_append,List.nil_append,List.flatten_cons,List.flatten_nil,List.append_nil,List.append_assoc];refine List.Perm.append_left e ?_;rw [← List.append_assoc];exact List.perm_append_comm
end
section
variable {P:Program}{J:Judge P}{Q:Gs_}{b:Frame}{n:Nat}{L:Env}{ds:Ld_}{k:Li_}{cs:Lf_}{E H:LH}{S:List Seg}{ops:Ao_}{i:Nat}{rest:List Nat}{d:Option Tmp}{t ty e:TypeId}{p:String}{af:Ae_}{g:On_}
theorem JS.makeChan{dir:ChanDir}{K:Nat}(O:ops[i]? =some ⟨d,.makeChan t (.const (.int .i64 0)),ty,p,af,g⟩)(hw:A5 L ops ⟨d,.makeChan t (.const (.int .i64 0)),ty,p,af,g⟩=some true)(U:Cw b n ⟨d,.makeChan t (.const (.int .i64 0)),ty,p,af,g⟩=true)
  (ht:P.underlying t=some (.chan dir e)) (hb:Ed P e=some K) (V:As E H S)
  (h:∀r,As E H (S++ [[(r,.chan 0 #[] false 0 0 false)]])→JL J Q b n (AA L d (.chan (some r))) ds (.inRegion ops rest::k) cs (Al E H (S++ [[(r,.chan 0 #[] false 0 0 false)]]))):
  JL J Q b n L ds (.inRegion ops (i::rest)::k) cs (Al E H S):=
 JL.op O hw U fun ρ W=>by
  show lp P (do pure (Next.value (← Instr.makeChan t (ρ (.const (.int .i64 0)))))) _ _ _
  rw [W _ _ rfl]
  obtain⟨inf,hi,ah⟩:=KG hb
  refine AF _ _ ?_
  unfold Instr.makeChan
  simp only [asInt,bind,Sem.bind,pure]
  refine AF (x:=underlying t) _ (C8 ht ?_)
  simp only
  refine AF (x:=typeInfo e) _ (Hy hi ?_)
  have Y:¬((0:Int)<0∨(0:Int)>IntKind.i64.max∨(inf.bytes:Int)*0>2 ^ 48 - 112):=by
   simp [IntKind.max,IntKind.signed,IntKind.bits]
  rw [if_neg Y];simp only [newObj,Sem.bind,lp];refine⟨rfl,fun r Z aa=>?_⟩;obtain⟨ab,ae⟩:=IE Z aa (.chan 0 #[] false 0 0 false) V;obtain⟨p1,p2⟩:=Em ab;have ag:(Al E H S).upd r (.chan 0 #[] false 0 0 false)=Al E H (S++ [[(r,.chan 0 #[] false 0 0 false)]]):=by rw [← p1,← ae];rfl
  show JL J Q b n (AA L d (.chan (some r))) ds (.inRegion ops rest::k) cs ((Al E H S).upd r (.chan 0 #[] false 0 0 false));rw [ag];exact h r p2
end
theorem RY{E H:LH}{a b:Nat}{K O:Obj}(W:As E H [[(a,K)],[(b,O)]]):(⟨E,HG (Al E H [[(a,K)],[(b,O)]]).H b a,false⟩:St)=Al E H []:=by
 have h:=Nd.iff.1 W;have Y:H a=none:=(h.2 (a,K) (by simp)).2;have Z:H b=none:=(h.2 (b,O) (by simp)).2;unfold Al mk;congr 1;funext x;simp only [HG,Al,mk,List.flatten_cons,List.flatten_nil,List.append_nil,List.cons_append,List.nil_append,A0];by_cases U:x=a
 ·subst U;simp [Y]
 ·by_cases V:x=b
  ·subst V;simp [U,Z]
  ·simp [U,V]
theorem As.up{E E' H:LH}{S:List Seg}(U:As E H S)(h:∀x,E' x≠none→(Al E H S).H x=none):As E' H S:=by
 have K:=Nd.iff.1 U;refine Nd.iff.2 ⟨K.1,fun q O=>⟨?_,(K.2 q O).2⟩⟩;cases V:E' q.1 with
 | none=>rfl
 | some o=>
  have W:=h q.1 (by rw [V];simp);have Y:A0 S.flatten H q.1=none:=W;exact absurd rfl ((FX Y).2 q O)
end Pal
namespace Pal
open Go Go.Conc
theorem Jp{P:Program}{J:Judge P}{Q:Gs_}{b:Frame}{n:Nat}{L:Env}{ds:Ld_}{cs:Lf_}{E H:LH}{S:List Seg}{todo:Li_}{A B:Seg}(j K:Nat)(O:S[j]? =some A)(W:(S.set j [])[K]? =some B)(Y:As E H S)
  (h:As E H (((S.set j []).set K []).set j (A++B))→JL J Q b n L ds todo cs (Al E H (((S.set j []).set K []).set j (A++B)))):JL J Q b n L ds todo cs (Al E H S):=by
 refine JS.perm ?_ Y h;have U:j<S.length:=(List.getElem?_eq_some_iff.1 O).1;have Z:=(Du (seg':=A) O).1;have aa:=(Du (seg':=B) W).1;have ab:((S.set j []).set K [])[j]? =some []:=by
  by_cases e:K=j
  ·subst e;rw [List.getElem?_set_self (by simpa using U)]
  ·rw [List.getElem?_set_ne e,List.getElem?_set_self U]
 have V:=(Du (seg':=A++B) ab).2;have ae:(((S.set j []).set K []).set j [])=(S.set j []).set K []:=by
  by_cases e:K=j
  ·subst e;simp
  ·rw [List.set_comm _ _ e];simp
 rw [ae] at V;refine Z.trans (List.Perm.trans ?_ V.symm);refine(List.Perm.append_right A aa).trans ?_;rw [List.append_assoc];exact List.Perm.append_left _ List.perm_append_comm
end Pal
namespace Pal
open Go Go.Conc
def WL{α:Type}(e:TypeId)(pp:Rp α)(E:LH)(bk c n:Nat)(f:Ay)(xs:List α):Prop:=
 OL e pp E (some ⟨bk,0,none⟩) c [(bk,.cells f e (0,0))] xs∧xs.length=n
theorem WL.Ag{α:Type}{e:TypeId}{pp:Rp α}{E E':LH}{bk c n:Nat}{f:Ay}{xs:List α}(h:WL e pp E bk c n f xs)(hle:Le E E'):WL e pp E' bk c n f xs:=⟨h.1.Ag hle,h.2⟩
theorem WL.at{α:Type}{e:TypeId}{pp:Rp α}{E:LH}{bk c n:Nat}{f:Ay}{xs:List α}{m:Int}{x:α}(h:WL e pp E bk c n f xs)(hm:ix xs m=some x):
  ∃ws,pp.r E ws x∧(∀j w,ws[j]? =some w→f[m.toNat*pp.n+j]? =some w):=by
 obtain⟨ws,K,O,_,_⟩:=OL.again h.1 hm rfl;exact⟨ws,K,O⟩
theorem WL.put{α:Type}{e:TypeId}{pp:Rp α}{E:LH}{bk c n:Nat}{f:Ay}{xs O:List α}{m:Int}{U x':α}{ws':Lv_}(h:WL e pp E bk c n f xs)(V:O.length=n)(hm:ix O m=some U)(W:pp.r E ws' x'):
  WL e pp E bk c n (Ba f (m.toNat*pp.n) ws') (xs.set m.toNat x')∧m.toNat*pp.n+pp.n≤f.size:=by
 obtain⟨K,rfl,Y⟩:=Hi hm;have Z:K<xs.length:=by rw [h.2,← V];exact(List.getElem?_eq_some_iff.1 Y).1
 have aa:ix xs (K:Int)=some xs[K]:=by simp [ix,Z]
 obtain⟨ws,ag,ah,ab,ae⟩:=OL.again h.1 aa rfl;exact⟨⟨ae x' ws' W,by rw [List.length_set];exact h.2⟩,ab⟩
theorem OL.cases{α:Type}{e:TypeId}{pp:Rp α}{E:LH}{a:Option Addr}{c:Nat}{seg:Seg}{xs:List α}(h:OL e pp E a c seg xs):
  (a=none∧c=0∧seg= []∧xs= [])∨∃bk f,a=some ⟨bk,0,none⟩∧seg= [(bk,.cells f e (0,0))]∧WL e pp E bk c xs.length f xs:=by
 have V:=h;obtain⟨wss,W,Z,aa⟩:=h;rcases W with⟨K,O,U,Y,ab⟩ | ⟨bk,f,K,O,U⟩
 ·exact .inl ⟨K,U,Y,List.length_eq_zero_iff.1 O⟩
 ·subst K O;exact .inr ⟨bk,f,rfl,rfl,V,rfl⟩
theorem F3{P:Program}{s:St}{ρ:Operand→Value}{x y:Operand}{d:Option Tmp}{t ty e:TypeId}{p:String}{af:Ae_}{g:On_}{kd:IntKind}{α:Type}{xs:List α}{xv:α}{m:Int}{bk c K n:Nat}(O:xs.length=n)(hm:ix xs m=some xv)(ht:P.underlying t=some (.slice e))(U:Bq P e=some K)(V:ρ x= .slice (some ⟨bk,0,none⟩) n c)(W:ρ y= .int kd m):
  Yl P ⟨d,.indexAddr t x y,ty,p,af,g⟩ ρ s (.pointer (some ⟨bk,m.toNat*K,none⟩)):=by
 subst O;exact Tc hm ht U V W
theorem Py{P:Program}{s:St}{ρ:Operand→Value}{x:Operand}{d:Option Tmp}{t ty e:TypeId}{p:String}{af:Ae_}{g:On_}{α:Type}{xs:List α}{a:Option Addr}{n c:Nat}{ats:Array TypeId}(K:xs.length=n)(O:ats[0]? =some t)(ht:P.underlying t=some (.slice e))(U:ρ x= .slice a n c):
  Yl P ⟨d,.call ⟨.builtin .len,#[x],ats⟩,ty,p,af,g⟩ ρ s (.int .i64 (xs.length:Int)):=by
 subst K;exact Yl.len O ht U
section
variable {P:Program}{J:Judge P}{Q:Gs_}{b:Frame}{n:Nat}{ds:Ld_}{ops:Ao_}{k:Li_}{cs:Lf_}{m fuel:Nat}{D:Nat→Bool}{listed:Array Bool}{L:Env}{s:St}{E E' H:LH}{S:List Seg}
variable {d:Option Tmp}{x y:Operand}{t u ty e:TypeId}{p:String}{af:Ae_}{g:On_}{v:Value}{i:Nat}{kd:IntKind}
theorem Sq{f:FuncId}{args:Array Operand}{ats:Array TypeId}{vs:Lv_}{R:Value→St→Prop}(U:s.q=false)(V:Region.ready .any ops listed= [i])
  (W:ops[i]? =some ⟨d,.call ⟨.value x,args,ats⟩,ty,p,af,g⟩) (Y:ev L x=some (.func (.func f) #[] #[])) (Z:Br n d=true) (hw:A5 L ops ⟨d,.call ⟨.value x,args,ats⟩,ty,p,af,g⟩=some true) (hb:Dk P f=true) (aa:evs L args.toList=some vs)
  (ab:Dy J f vs.toArray s R) (h:∀v K,R v K→K.q=false∧(∀x o,(Bv D s).E x=some o→(Bv D K).E x=some o)∧AO J Q b n ds ops k cs m D fuel (A4 listed i) (AA L d v) K):
  AO J Q b n ds ops k cs m D (fuel+1) listed L s:=by
 refine AO.one U V W (by simp [Dc,Z]) hw fun ρ O=>?_;have ae:args.map ρ=vs.toArray:=by
  rw [← FZ O aa];apply Array.ext';simp
 have ag:ρ x= .func (.func f) #[] #[]:=O _ _ Y;simp only [execOp,resolve,bind,Sem.bind,Deferred.ofValue,ag,pure,invoke];have e: #[]++args.map ρ++ #[]=vs.toArray:=by rw [ae];simp
 rw [e];refine Iv hb ?_;rw [Ji];exact⟨R,ab,h⟩
theorem Hb{bks:List Nat}{f:FuncId}{args:Array Operand}{ats:Array TypeId}{vs:Lv_}{R:Value→LH→Seg→Prop}(ae:FO S bks)(ag:AP J f vs E [] R)(ah:Region.ready .any ops listed= [i])
  (ai:ops[i]? =some ⟨d,.call ⟨.value x,args,ats⟩,ty,p,af,g⟩) (K:ev L x=some (.func (.func f) #[] #[])) (aj:Br n d=true) (hw:A5 L ops ⟨d,.call ⟨.value x,args,ats⟩,ty,p,af,g⟩=some true) (hb:Dk P f=true) (ak:evs L args.toList=some vs) (Y:As E H S)
  (al:∀v E' seg',Le E E'→R v E' seg'→As E' H (S++ [seg'])→AO J Q b n ds ops k cs m (AV bks) fuel (A4 listed i) (AA L d v) (Al E' H (S++ [seg']))):
  AO J Q b n ds ops k cs m (AV bks) (fuel+1) listed L (Al E H S):=by
 have am:=Dy.Iq (ag (A0 S.flatten H) trivial) (by rintro v s' ⟨E',B',_,_,_,rfl⟩;rfl);refine Sq rfl ah ai K aj hw hb ak am ?_;rintro v ay ⟨⟨E',B',hle,an,ao,rfl⟩,w,ap⟩;have aq:mk E' (A0 S.flatten H) B'=mk E' H (B'++S.flatten):=by unfold mk;rw [EJ]
 have ar:Nd E' H S.flatten:=Nd.grow Y fun x K=>by
  have au:=ap.d x K;have U:A0 B' (A0 S.flatten H) x=none:=au;exact(FX U).1
 have Z:Nd E' H (B'++S.flatten):=Nd.glue ao ar;have aa:(B'++S.flatten).Perm (S++ [B']).flatten:=by rw [F1];exact List.perm_append_comm
 have ab:As E' H (S++ [B']):=Nd.perm Z aa;rw [aq,D8 Z aa];refine⟨rfl,fun x o K=>?_,al v E' B' hle an ab⟩;by_cases V:AV bks x=true
 ·obtain⟨j,o',W⟩:=ae.mem x (by simpa [AV] using V);have U:(Al E H S).get x=some o':=D3 (i:=0) Y W rfl;have av:j<S.length:=(List.getElem?_eq_some_iff.1 W).1;have aw:(Al E' H (S++ [B'])).get x=some o':=D3 (i:=0) ab (by rw [List.getElem?_append_left av];exact W) rfl;have O:(if AV bks x then(Al E H S).get x else E x)=some o:=K
  show(if AV bks x then(Al E' H (S++ [B'])).get x else E' x)=some o
  rw [if_pos V] at O ⊢;rw [aw,← U];exact O
 ·have O:(if AV bks x then(Al E H S).get x else E x)=some o:=K
  show(if AV bks x then(Al E' H (S++ [B'])).get x else E' x)=some o
  rw [if_neg V] at O ⊢;exact hle _ _ O
end
section
variable {P:Program}{J:Judge P}{Q:Gs_}{b:Frame}{n:Nat}{ds:Ld_}{ops:Ao_}{k:Li_}{cs:Lf_}{L:Env}{s:St}{E E' H:LH}{S:List Seg}
variable {d:Option Tmp}{x y:Operand}{t u ty e:TypeId}{p:String}{af:Ae_}{g:On_}{v:Value}{i:Nat}{rest:List Nat}{kd:IntKind}
theorem Jq{f:FuncId}{args:Array Operand}{ats:Array TypeId}{vs:Lv_}{R:Value→LH→Seg→Prop}
  (O:AP J f vs E [] R) (U:ops[i]? =some ⟨d,.call ⟨.value x,args,ats⟩,ty,p,af,g⟩) (V:ev L x=some (.func (.func f) #[] ([]:Lv_).toArray)) (hw:A5 L ops ⟨d,.call ⟨.value x,args,ats⟩,ty,p,af,g⟩=some true) (W:((b.kind != .early)&&Br n d)=true) (hb:Dk P f=true)
  (Y:evs L args.toList=some vs) (Z:As E H S) (aa:∀v E' seg',Le E E'→R v E' seg'→As E' H (S++ [seg'])→JL J Q b n (AA L d v) ds (.inRegion ops rest::k) cs (Al E' H (S++ [seg']))):
  JL J Q b n L ds (.inRegion ops (i::rest)::k) cs (Al E H S):=by
 have ab:Et J (.func (.func f) #[] ([]:Lv_).toArray) vs E [] R:=Et.ofFn hb (by rw [List.append_nil];exact O);have ae:As E H (S++ [[]]):=by unfold As at*;rw [F1,List.append_nil];exact Z
 have ag:Al E H S=Al E H (S++ [[]]):=by unfold Al;rw [F1,List.append_nil]
 rw [ag];refine IG (seg:= []) S.length ab U hw W V Y ae (by simp) fun v E' seg' hle ah K=>?_;have ai:(S++ [([]:Seg)]).set S.length seg'=S++ [seg']:=HI _ _ _ _;rw [ai] at K ⊢;exact aa v E' seg' hle ah K
end
def G1(a b:Int):Option Int:=if b=0 then none else Av (a.tdiv b)
def J3(l:List Nat)(i:Int):Option Nat:=if 0≤i then l[i.toNat]? else none
section
variable {P:Program}{s:St}{ρ:Operand→Value}{x y z:Operand}{d:Option Tmp}{t u ty e:TypeId}{p:String}{af:Ae_}{g:On_}{v:Value}{kd kd':IntKind}{m m':Int}{a b:Nat}
theorem Jv{r:Int}(K:ρ x=iV m)(O:ρ y=iV m')(h:G1 m m'=some r):Yl P ⟨d,.binOp .quo t x y u,ty,p,af,g⟩ ρ s (iV r):=by
 unfold G1 at h;split at h
 ·cases h
 ·rename_i U;obtain⟨rfl,hb⟩:=Jg h;have:=Yl.quo (P:=P) (s:=s) (d:=d) (t:=t) (u:=u) (ty:=ty) (p:=p) (af:=af) (g:=g) K O U
  rwa [H4 hb] at this
theorem Q9{a:Nat}:IntKind.u8.wrap (a:Int)=((a % 256:Nat):Int):=by
 simp only [IntKind.wrap,IntKind.bits,IntKind.signed];simp
theorem S6(K:ρ x= .int .u8 (a:Int))(O:ρ y= .int .u8 (b:Int)):Yl P ⟨d,.binOp .add t x y u,ty,p,af,g⟩ ρ s (.int .u8 (((a+b) % 256:Nat):Int)):=by
 have h:=Yl.add (P:=P) (s:=s) (d:=d) (t:=t) (u:=u) (ty:=ty) (p:=p) (af:=af) (g:=g) K O;rw [← Int.natCast_add,Q9] at h;exact h
theorem UN(ht:P.underlying t=some (.int .u64))(hu:P.underlying u=some (.int .u8))(K:ρ x= .int .u64 (a:Int)):Yl P ⟨d,.convert t u x,ty,p,af,g⟩ ρ s (.int .u8 ((a % 256:Nat):Int)):=by
 have h:=DY (P:=P) (s:=s) (d:=d) (ty:=ty) (p:=p) (af:=af) (g:=g) ht hu K
 rw [Q9] at h;exact h
theorem PN{r:Int}(ht:P.underlying t=some (.int .u8))(hu:P.underlying u=some (.int .i64))(K:ρ x= .int .u8 (a:Int))(h:Av ((a:Nat):Int)=some r):Yl P ⟨d,.convert t u x,ty,p,af,g⟩ ρ s (iV r):=by
 obtain⟨rfl,hb⟩:=Jg h;have h:=DY (P:=P) (s:=s) (d:=d) (ty:=ty) (p:=p) (af:=af) (g:=g) ht hu K
 rwa [H4 hb] at h
theorem To(c:Nat)(K:ρ x= .int .u16 (a:Int))(O:ρ y= .int .u64 (c:Int))(V:c≤16):Yl P ⟨d,.binOp .shr t x y u,ty,p,af,g⟩ ρ s (.int .u16 ((a>>>c:Nat):Int)):=by
 have h:=Yl.shr (P:=P) (s:=s) (d:=d) (t:=t) (u:=u) (ty:=ty) (p:=p) (af:=af) (g:=g) K O (by omega);have e:min (c:Int).toNat IntKind.u16.bits=c:=by simp [IntKind.bits];omega
 rw [e,Int.fdiv_eq_ediv_of_nonneg _ (Int.pow_nonneg (by decide))] at h;have U:(a:Int) / 2 ^ c=((a>>>c:Nat):Int):=by rw [Nat.shiftRight_eq_div_pow,Int.natCast_ediv];rfl
 rw [U] at h;exact h
theorem MF{l:List Nat}{bs:ByteArray}{r:Nat}(O:(bs.data.toList.map UInt8.toNat==l)=true)(ht:P.underlying t=some .string)(U:ρ y= .int kd m)(V:ρ (.const (.string bs))= .string bs)(h:J3 l m=some r):Yl P ⟨d,.index t (.const (.string bs)) y,ty,p,af,g⟩ ρ s (.int .u8 (r:Int)):=by
 unfold J3 at h;split at h
 ·rename_i W;have Y:=eq_of_beq O;rw [← Y,List.getElem?_map] at h;obtain⟨K,hb,rfl⟩:=Option.map_eq_some_iff.1 h;have Z:bs[m.toNat]? =some K:=by
   have aa:bs.data[m.toNat]? =some K:=by rw [← Array.getElem?_toList];exact hb
   obtain⟨ab,ae⟩:=Array.getElem?_eq_some_iff.1 aa;rw [getElem?_pos bs m.toNat ab];exact congrArg some ae
  simp [Yl,execOp,lp,pure,bind,Sem.bind,V,U,Instr.index,underlying,program,ht,W,Z,asIntOf]
 ·cases h
end
end Pal
