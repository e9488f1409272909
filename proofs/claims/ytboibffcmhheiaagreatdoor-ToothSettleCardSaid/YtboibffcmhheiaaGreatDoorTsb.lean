/- ToothSettle. Part 2 of 8. -/
import Derived.Test.YtboibffcmhheiaaGreatDoorTsa
import Derived.Conc.Beside
import Derived.Conc.CrowdComm
import Derived.Conc.TokenWalk
import Derived.Conc.MarkLaws
import Derived.Conc.AtomicLaws2
import Derived.Conc.WgLib
import Derived.Conc.WgArith
import Derived.Conc.WgGenW
set_option linter.all false
set_option maxRecDepth 100000
namespace Pal
open Go Go.Conc
open Go.ConcN (upd upd_same upd_ne)
def DO:Loc→Option Nat | .cell a=>some a.block | .obj r=>some r | _=>none
structure Cf (t:Trace) (w:World) (N:Nat) (S:Nat→St) (Sh:Nat→Prop):Prop where
 fits:∀i,i<N→Fits (S i) w
 hh:∀i j,i<N→j<N→i≠j→∀b,(S i).H b≠none→(S j).H b=none∧(S j).E b=none
 sh:∀i,i<N→∀b,Sh b→(S i).H b=none∧(S i).E b=none
 Fp:∀b,Sh b→b<w.heap.size
 clean:∀said,¬Race said t
 low:∀op∈t,op.act.low w.heap.size
 kH:∀i,i<N→∀b,(S i).H b≠none→∀x a,touchAt t x=some a→DO a.loc=some b→Knows t i x
 kE:∀i,i<N→∀b,(S i).E b≠none→∀x a,touchAt t x=some a→DO a.loc=some b→a.write=true→Knows t i x
theorem Of{t:Trace}{x:Nat}{a:Touch}{b n:Nat}(W:∀op∈t,op.act.low n)(h:touchAt t x=some a)(hb:DO a.loc=some b):b<n:=by
 obtain⟨op,Z,K⟩:=touch_of h;have O:=W op (mem_of_getElem? Z);cases U:op.act with
 | access e=>
  rw [U] at K O;simp only [MemAct.touch?,Option.some.injEq] at K;subst K;simp only [MemAct.low] at O;cases V:e.loc with
  | cell ad=>rw [V] at O hb;simp only [DO,Option.some.injEq] at hb;subst hb;exact O
  | obj r=>rw [V] at O hb;simp only [DO,Option.some.injEq] at hb;subst hb;exact O
  | _=>rw [V] at hb;simp [DO] at hb
 | mark m=>
  rw [U] at K O;cases m <;> simp only [MemAct.touch?] at K <;> first
   | (simp at K;done)
   | (simp only [Option.some.injEq] at K;subst K;simp only [DO,Option.some.injEq] at hb;subst hb;exact O)
 | _=>rw [U] at K;simp [MemAct.touch?] at K
theorem LW{s:St}{w w':World}{e:Event}{a:Touch}{b:Nat}(h:Ev s w w' e)(K:(MemAct.ofEvent e).touch? =some a)(hb:DO a.loc=some b):
  FY s w w' b a.write:=by
 obtain⟨loc,wr,V⟩:=e;cases loc with
 | cell ad=>
  obtain⟨O,U⟩:=h;simp only at O;subst O;simp only [MemAct.ofEvent,MemAct.touch?,Option.some.injEq] at K;subst K;simp only [DO,Option.some.injEq] at hb;subst hb;exact U
 | obj r=>
  obtain⟨O,U⟩:=h;simp only at O;subst O;simp only [MemAct.ofEvent,MemAct.touch?,Option.some.injEq] at K;subst K;simp only [DO,Option.some.injEq] at hb;subst hb;exact U
 | mark m=>
  cases m <;> simp only [Ev] at h <;> first | exact h.elim | simp [MemAct.ofEvent,MemAct.touch?] at K
 | _=>exact h.elim
theorem XH{s:St}{w w':World}{e:Event}(h:Ev s w w' e):(MemAct.ofEvent e).low w'.heap.size:=by
 obtain⟨loc,wr,U⟩:=e;cases loc with
 | cell ad=>obtain⟨K,O⟩:=h;simp only at K;subst K;exact O.1
 | obj r=>obtain⟨K,O⟩:=h;simp only at K;subst K;cases wr <;> exact O.1
 | mark m=>cases m <;> simp only [Ev] at h <;> first | exact h.elim | exact trivial
 | _=>exact h.elim
theorem Tm{l:Loc}(h:l.isMemory=true):∃b,DO l=some b:=by
 cases l <;> simp [Loc.isMemory] at h <;> exact⟨_,rfl⟩
theorem Cf.own{t:Trace}{w w':World}{N:Nat}{S:Nat→St}{Sh:Nat→Prop}(h:Cf t w N S Sh){i:Nat}(hi:i<N){s':St}{fn:FuncId}{pos:String}{es:Array Event}
  (az:Fits s' w') (V:Fr (S i) w s' w') (ak:∀e∈es,Ev (S i) w w' e):Cf (t++MemOp.ofEvents i fn pos es) w' N (upd S i s') Sh:=by
 have ar:∀j,j<N→j≠i→∀b o,((S j).H b=some o∨(S j).E b=some o)→w'.heap[b]? =some o∧(S i).H b=none:=by
  intro j U W b o K;have hw:w.heap[b]? =some o:=K.elim ((h.fits j U).h b o) ((h.fits j U).e b o);have ab:b<w.heap.size:=by
   rcases Nat.lt_or_ge b w.heap.size with an | an
   ·exact an
   ·simp [Array.getElem?_eq_none an] at hw
  have au:(S i).H b=none:=by
   cases aA:(S i).H b with
   | none=>rfl
   | some u=>
    have:=h.hh i j hi U (Ne.symm W) b (by rw [aA];simp);rcases K with K | K
    ·rw [this.1] at K;cases K
    ·rw [this.2] at K;cases K
  exact⟨by rw [V.keep b ab au,hw],au⟩
 have al:∀j,j<N→∀b,w.heap.size≤b→(S j).H b=none∧(S j).E b=none:=by
  intro j U b hb;constructor
  ·cases O:(S j).H b with
   | none=>rfl
   | some o=>have:=(h.fits j U).h b o O;simp [Array.getElem?_eq_none hb] at this
  ·cases O:(S j).E b with
   | none=>rfl
   | some o=>have:=(h.fits j U).e b o O;simp [Array.getElem?_eq_none hb] at this
 have ae:∀op∈MemOp.ofEvents i fn pos es,op.g=i∧∃e∈es,op.act=MemAct.ofEvent e:=by
  intro op ae;obtain⟨e,he,rfl⟩:=mem_ofEvents ae;exact⟨rfl,e,he,rfl⟩
 have hold:∀x a,touchAt t x=some a→touchAt (t++MemOp.ofEvents i fn pos es) x=some a:=by
  intro x a O;obtain⟨op,K,_⟩:=touch_of O;rw [touchAt_old (lt_size_of_getElem? K)];exact O
 have am:∀x a,touchAt (t++MemOp.ofEvents i fn pos es) x=some a→touchAt t x=some a∨(Knows (t++MemOp.ofEvents i fn pos es) i x∧∃e∈es,(MemAct.ofEvent e).touch? =some a):=by
  intro x a O;obtain⟨op,K,av⟩:=touch_of O;rcases getElem?_append_cases K with⟨ab,aB⟩ | ⟨_,aC⟩
  ·left;rw [touchAt_of aB];exact av
  ·right;obtain⟨aD,e,he,ah⟩:=ae op aC;exact⟨by have:=knows_own K;rwa [aD] at this,e,he,by rw [← ah];exact av⟩
 have aE:∀j,j<N→j≠i→∀b,s'.H b≠none→(S j).H b=none∧(S j).E b=none:=by
  intro j U W b hb;rcases V.own b hb with O | O
  ·exact h.hh i j hi U (Ne.symm W) b O
  ·exact al j U b O
 have aF:∀j,j<N→j≠i→∀b,(S j).H b≠none→s'.H b=none∧s'.E b=none:=by
  intro j U W b hb;have Z:=h.hh j i U hi W b hb;have ab:¬w.heap.size≤b:=fun O=>hb (al j U b O).1;constructor
  ·cases O:s'.H b with
   | none=>rfl
   | some o=>
    rcases V.own b (by rw [O];simp) with y | y
    ·exact absurd Z.1 y
    ·exact absurd y ab
  ·cases O:s'.E b with
   | none=>rfl
   | some o=>
    rcases V.D7 b (by rw [O];simp) with y | y | y
    ·exact absurd Z.2 y
    ·exact absurd Z.1 y
    ·exact absurd y ab
 constructor
 ·intro j U;by_cases e:j=i
  ·subst e;rw [upd_same];exact az
  ·rw [upd_ne _ _ e];exact⟨fun b o K=>(ar j U e b o (.inr K)).1,fun b o K=>(ar j U e b o (.inl K)).1,(h.fits j U).d⟩
 ·intro a c aw ai W b hb;by_cases e:a=i
  ·subst e;rw [upd_same] at hb;rw [upd_ne _ _ (Ne.symm W)];exact aE c ai (Ne.symm W) b hb
  ·rw [upd_ne _ _ e] at hb;by_cases ay:c=i
   ·subst ay;rw [upd_same];exact aF a aw W b hb
   ·rw [upd_ne _ _ ay];exact h.hh a c aw ai W b hb
 ·intro j U b hb;by_cases e:j=i
  ·subst e;rw [upd_same];have Z:=h.sh j U b hb;have ab:=h.Fp b hb;constructor
   ·cases O:s'.H b with
    | none=>rfl
    | some o=>
     rcases V.own b (by rw [O];simp) with y | y
     ·exact absurd Z.1 y
     ·omega
   ·cases O:s'.E b with
    | none=>rfl
    | some o=>
     rcases V.D7 b (by rw [O];simp) with y | y | y
     ·exact absurd Z.2 y
     ·exact absurd Z.1 y
     ·omega
  ·rw [upd_ne _ _ e];exact h.sh j U b hb
 ·exact fun b hb=>Nat.lt_of_lt_of_le (h.Fp b hb) V.size
 ·intro said;refine noRace_append (g:=i) (h.clean said) (fun op K=>(ae op K).1) fun x a O op K c ai aG=>?_;obtain⟨_,e,he,ah⟩:=ae op K;rw [ah] at ai;obtain⟨aH,hm,ag,_⟩:=aG;obtain⟨b,hb⟩:=Tm hm;have aI:DO c.loc=some b:=by rw [← aH];exact hb
  have aj:=LW (ak e he) ai aI;rcases aj.2 with y | y | ⟨y,ao⟩
  ·exact h.kH i hi b y x a O hb
  ·have:=Of h.low O hb;omega
  ·rcases ag with z | z
   ·exact h.kE i hi b y x a O hb z
   ·rw [ao] at z;cases z
 ·intro op K;rcases Array.mem_append.1 K with K | K
  ·exact MemAct.low_mono V.size (h.low op K)
  ·obtain⟨_,e,he,ah⟩:=ae op K;rw [ah];exact XH (ak e he)
 ·intro j U b hb x a O aa;by_cases e:j=i
  ·subst e;rw [upd_same] at hb;rcases am x a O with K | ⟨ap,_⟩
   ·rcases V.own b hb with y | y
    ·exact(h.kH j U b y x a K aa).app _
    ·have:=Of h.low K aa;omega
   ·exact ap
  ·rw [upd_ne _ _ e] at hb;rcases am x a O with K | ⟨_,ev,he,aq⟩
   ·exact(h.kH j U b hb x a K aa).app _
   ·have aj:=LW (ak ev he) aq aa;have Z:=h.hh j i U hi e b hb;rcases aj.2 with y | y | ⟨y,_⟩
    ·exact absurd Z.1 y
    ·exact absurd (al j U b y).1 hb
    ·exact absurd Z.2 y
 ·intro j U b hb x a O aa ag;by_cases e:j=i
  ·subst e;rw [upd_same] at hb;rcases am x a O with K | ⟨ap,_⟩
   ·rcases V.D7 b hb with y | y | y
    ·exact(h.kE j U b y x a K aa ag).app _
    ·exact(h.kH j U b y x a K aa).app _
    ·have:=Of h.low K aa;omega
   ·exact ap
  ·rw [upd_ne _ _ e] at hb;rcases am x a O with K | ⟨_,ev,he,aq⟩
   ·exact(h.kE j U b hb x a K aa ag).app _
   ·have aj:=LW (ak ev he) aq aa;rcases aj.2 with y | y | ⟨_,ao⟩
    ·exact absurd ((h.hh i j hi U (Ne.symm e) b y).2) hb
    ·exact absurd (al j U b y).2 hb
    ·rw [ao] at ag;cases ag
theorem Cf.mute{t u:Trace}{w w':World}{N:Nat}{S:Nat→St}{Sh:Nat→Prop}(h:Cf t w N S Sh){g:Nat}(hu:∀op∈u,op.g=g)(W:∀op∈u,op.act.touch? =none)(ab:∀op∈u,op.act.low w'.heap.size)(hw:w'.heap=w.heap):Cf (t++u) w' N S Sh:=by
 have Z:∀x a,touchAt (t++u) x=some a→touchAt t x=some a:=by
  intro x a O;obtain⟨op,K,U⟩:=touch_of O;rcases getElem?_append_cases K with⟨ai,ae⟩ | ⟨_,ag⟩
  ·rw [touchAt_of ae];exact U
  ·rw [W op ag] at U;cases U
 exact⟨fun i hi=>⟨fun b o K=>by rw [hw];exact(h.fits i hi).e b o K,fun b o K=>by rw [hw];exact(h.fits i hi).h b o K,(h.fits i hi).d⟩,h.hh,h.sh,fun b hb=>by rw [hw];exact h.Fp b hb,
  fun said=>noRace_append (g:=g) (h.clean said) hu (fun x a _ op K c aa _=>by rw [W op K] at aa;cases aa),
  fun op K=>(Array.mem_append.1 K).elim (fun K=>by rw [hw];exact h.low op K) (ab op),
  fun i hi b hb x a O V=>(h.kH i hi b hb x a (Z x a O) V).app _,fun i hi b hb x a O V ah=>(h.kE i hi b hb x a (Z x a O) V ah).app _⟩
theorem Cf.ghost{t:Trace}{w:World}{N:Nat}{S:Nat→St}{Sh:Nat→Prop}(h:Cf t w N S Sh){i:Nat}(hi:i<N){s₀:St}(aa:Cp (S i) s₀):Cf t w N (upd S i s₀) Sh:=by
 have W:∀b,s₀.H b≠none→(S i).H b≠none:=fun b hb=>by obtain⟨o,ab⟩:=Ha hb;rw [aa.own b o ab];simp
 have ae:∀b,s₀.E b≠none→(S i).E b≠none∨(S i).H b≠none:=fun b hb=>by
  obtain⟨o,ab⟩:=Ha hb;rcases aa.D7 b o ab with x | x
  ·exact .inl (by rw [x];simp)
  ·exact .inr (by rw [x.1];simp)
 have Gv:∀{x:Option Obj},¬x≠none→x=none:=fun h=>Classical.not_not.1 h;constructor
 ·intro j K;by_cases e:j=i
  ·subst e;rw [upd_same];exact aa.fits (h.fits j K)
  ·rw [upd_ne _ _ e];exact h.fits j K
 ·intro a c ag ah Z b hb;by_cases e:a=i
  ·subst e;rw [upd_same] at hb;rw [upd_ne _ _ (Ne.symm Z)];exact h.hh a c ag ah Z b (W b hb)
  ·rw [upd_ne _ _ e] at hb;by_cases ai:c=i
   ·subst ai;rw [upd_same];have O:=h.hh a c ag ah Z b hb;exact⟨Gv fun x=>W b x O.1,Gv fun x=>(ae b x).elim (fun y=>y O.2) fun y=>y O.1⟩
   ·rw [upd_ne _ _ ai];exact h.hh a c ag ah Z b hb
 ·intro j K b hb;by_cases e:j=i
  ·subst e;rw [upd_same];have O:=h.sh j K b hb;exact⟨Gv fun x=>W b x O.1,Gv fun x=>(ae b x).elim (fun y=>y O.2) fun y=>y O.1⟩
  ·rw [upd_ne _ _ e];exact h.sh j K b hb
 ·exact h.Fp
 ·exact h.clean
 ·exact h.low
 ·intro j K b hb x a U V;by_cases e:j=i
  ·subst e;rw [upd_same] at hb;exact h.kH j K b (W b hb) x a U V
  ·rw [upd_ne _ _ e] at hb;exact h.kH j K b hb x a U V
 ·intro j K b hb x a U V aj;by_cases e:j=i
  ·subst e;rw [upd_same] at hb;rcases ae b hb with y | y
   ·exact h.kE j K b y x a U V aj
   ·exact h.kH j K b y x a U V
  ·rw [upd_ne _ _ e] at hb;exact h.kE j K b hb x a U V aj
end Pal
namespace Pal
open Go Go.Conc
open Go.ConcN (sumTo upd sumTo_upd upd_ne upd_same)
abbrev St.none:St:=St.quiet
def lone(s:St):Nat→St:=fun i=>if i=0 then s else St.none
structure Gm (P:Program) (gs:Array Goroutine) (w:World) (t:Trace) (q:Nat→Nat) (Sh:Nat→Prop) (g:Goroutine) (s:St):Prop where
 main:gs[0]? =some g
 lv:Leavers P t gs q
 CQ:Cf t w gs.size (lone s) Sh
 over:t.HandedOver
 hears:Deaf t 0=0
def Reaches(P:Program)(gs:Array Goroutine)(w:World)(sl:Option (Nat×Nat))(t:Trace)(s:St)(K:Gs_):Prop:=
 ∃(n:Nat) (gs':Array Goroutine) (w':World) (U:Option (Nat×Nat)) (O:Trace) (V:Nat→Nat) (W:Nat→Prop) (g':Goroutine) (s':St),
  runNT P n (crowd gs w sl) t=(.next (crowd gs' w' U),O)∧Gm P gs' w' O V W g' s'∧K g' s'∧Le' s s'∧w'.tape=w.tape∧w'.os=w.os∧w'.output=w.output
 where
  Le' (s s' : St) : Prop := ∀ b o, s.E b = some o → s'.E b = some o
theorem Qt{s s':St}:upd (lone s) 0 s'=lone s':=by
 funext i;unfold upd lone;split <;> rfl
theorem LN{P:Program}{m m':Machine}{t ops:Trace}{k:Nat}{r:Stepped×Trace}(h:stepT P m=(.next m',ops))(K:runNT P k m' (t++ops)=r):runNT P (k+1) m t=r:=by
 simp only [runNT,h];exact K
theorem Gm.at_{P:Program}{gs:Array Goroutine}{w:World}{t:Trace}{q:Nat→Nat}{Sh:Nat→Prop}{g:Goroutine}{s:St}(h:Gm P gs w t q Sh g s)(d:Nat):Gm P gs (w.at d) t q Sh g s:=
 ⟨h.main,h.lv,by
  have:=h.CQ.mute (u:= #[]) (w':=w.at d) (g:=0) (by simp) (by simp) (by simp) rfl
  simpa using this,h.over,h.hears⟩
theorem Um{P:Program}{g:Goroutine}{s:St}{K:Gs_}(aw:R2 P true g s K):
  ∀(M:Nat) (gs:Array Goroutine) (w:World) (sl:Option (Nat×Nat)) (t:Trace) (q:Nat→Nat) (Sh:Nat→Prop),sumTo gs.size q≤M→Gm P gs w t q Sh g s→Reaches P gs w sl t s K:=by
 intro M
 induction M with
 | zero=>?_
 | succ M aC=>?_
 all_goals
  intro gs w sl t q Sh aS hC;have aj:=aw.1;have aD:∀x∈gs,awake x:=by
   intro x ab;obtain⟨i,hi,rfl⟩:=Array.mem_iff_getElem.1 ab;rcases Nat.eq_zero_or_pos i with rfl | ak
   ·have:gs[0]=g:=by simpa [Array.getElem?_eq_getElem hi] using hC.main
    rw [this];exact awake_of (.inl aj)
   ·exact awake_of ((hC.lv.old i _ ak (Array.getElem?_eq_getElem hi)).status.elim .inl fun x=> .inr (.inr x))
  obtain⟨i,x,d,ae,hi,ab,ay⟩:=crowd_pick (P:=P) (w:=w) (sl:=sl) aD ⟨0,g,hC.main,aj⟩;have al:=hC.at_ d;have am:0<gs.size:=(Array.getElem?_eq_some_iff.1 hC.main).1;rcases Nat.eq_zero_or_pos i with rfl | ak
  ·obtain rfl:x=g:=by rw [hC.main] at hi;exact(Option.some.inj hi).symm
   have aE:Fits s (w.at d):=al.CQ.fits 0 am;obtain⟨g',s',w',es,an,ao,ap,W,ag⟩:=aw.2.1 (w.at d) aE;have aq:=runT_crowd_go (P:=P) (sl:=ae) (i:=0) hi (show stepG P (0==0) x (w.at d)=_ from an);have ah:((gs.map (woken P x g' w')).setIfInBounds 0 g').size=gs.size:=by simp
   have V:∀op∈MemOp.ofEvents 0 x.frame.fn x.frame.place es,op.g=0:=fun op O=>by obtain⟨e,_,rfl⟩:=mem_ofEvents O;rfl
   have aF:deafBehind (Deaf t 0) es=Deaf t 0:=deafBehind_still (fun e he=>by
    have:=ag e he
    unfold Ev at this
    constructor <;> intro aG <;> rw [aG] at this <;> exact this) _
   refine⟨1,_,w',ae,t++MemOp.ofEvents 0 x.frame.fn x.frame.place es,q,Sh,g',s',LN (ay.trans aq) rfl,⟨by simp [am],⟨fun j y U Z=>?_,fun j U=>?_⟩,?_,?_,?_⟩,ao,W.ext,W.tape,W.os,W.output⟩
   ·have ar:0≠j:=by omega
    rw [Array.getElem?_setIfInBounds_ne ar,Array.getElem?_map] at Z;obtain⟨z,au,rfl⟩:=Option.map_eq_some_iff.1 Z;have aa:=hC.lv.old j z U au;rw [woken_quitsD aa,Deaf_other t (by omega) _ V];exact aa
   ·rw [Deaf_other t (g':=0) (by simp at U;omega) _ V];exact hC.lv.above j (by simpa using U)
   ·rw [ah,← Qt (s:=s)];exact al.CQ.own am ap (by simpa [lone] using W) (by simpa [lone] using ag)
   ·exact handedOver_app hC.over fun op O=> .inl (V op O)
   ·rw [Deaf_own,aF];exact hC.hears
  ·
   have aa:=hC.lv.old i x ak hi;have aH:(i==0)=false:=by simp;omega
   have az:i<gs.size:=(Array.getElem?_eq_some_iff.1 hi).1;cases av:q i with
   | zero=>rw [av] at aa;rw [aa.1] at ab;cases ab
   | succ k=>
    rw [av] at aa;rcases aa with⟨aI,_⟩ | ⟨_,x',es,hm,aJ,aK⟩
    ·rw [aI] at ab;cases ab
    have aT:sumTo gs.size (upd q i k)+(k+1)=sumTo gs.size q+k:=by
     have:=sumTo_upd q k id az;simpa [av] using this
    first
     | (exfalso;omega)
     | (
      have aq:=runT_crowd_go (P:=P) (sl:=ae) (i:=i) hi (by rw [aH];exact aJ (w.at d))
      have ah:((gs.map (woken P x x' (w.at d))).setIfInBounds i x').size=gs.size:=by simp
      have V:∀op∈MemOp.ofEvents i x.frame.fn x.frame.place es,op.g=i:=fun op O=>by obtain⟨e,_,rfl⟩:=mem_ofEvents O;rfl
      have aA:∀op∈MemOp.ofEvents i x.frame.fn x.frame.place es,op.act.touch? =none:=fun op O=>by obtain⟨e,he,rfl⟩:=mem_ofEvents O;exact touch_mute (hm e he)
      have aL:Gm P ((gs.map (woken P x x' (w.at d))).setIfInBounds i x') (w.at d) (t++MemOp.ofEvents i x.frame.fn x.frame.place es) (upd q i k) Sh g s:=by
       refine⟨?_,⟨fun j y U Z=>?_,fun j U=>?_⟩,?_,?_,?_⟩
       ·have ar:i≠0:=by omega
        rw [Array.getElem?_setIfInBounds_ne ar,Array.getElem?_map,hC.main]
        simp [woken_run aj]
       ·by_cases ai:i=j
        ·subst ai
         rw [Array.getElem?_setIfInBounds_self_of_lt (by simpa using az)] at Z
         obtain rfl:=Option.some.inj Z
         rw [upd_same,Deaf_own]
         exact aK
        ·rw [Array.getElem?_setIfInBounds_ne ai,Array.getElem?_map] at Z
         obtain⟨z,au,rfl⟩:=Option.map_eq_some_iff.1 Z
         have aB:=hC.lv.old j z U au
         rw [woken_quitsD aB,upd_ne q k (Ne.symm ai),Deaf_other t ai _ V]
         exact aB
       ·rw [Deaf_other t (g':=i) (by simp at U;omega) _ V]
        exact hC.lv.above j (by simpa using U)
       ·rw [ah]
        exact al.CQ.mute V aA (fun op O=>by obtain⟨e,he,rfl⟩:=mem_ofEvents O;exact low_mute (hm e he) _) rfl
       ·exact handedOver_app hC.over fun op O=> .inr (aA op O)
       ·rw [Deaf_other t (by omega) _ V];exact hC.hears
      obtain⟨n,gs',w',aM,aN,aO,aP,g',s',an,ao,ap,W,ag,aQ,aR⟩:=aC _ (w.at d) ae _ _ Sh (by rw [ah];omega) aL
      exact⟨n+1,gs',w',aM,aN,aO,aP,g',s',LN (ay.trans aq) an,ao,ap,W,ag,aQ,aR⟩)
def DN(P:Program):Judge P where
 main:=true
 ok Q g s:=∀gs w sl t q Sh,Gm P gs w t q Sh g s→Reaches P gs w sl t s Q
 stop {Q g s} h:=fun gs w sl t q Sh hC=>⟨0,gs,w,sl,t,q,Sh,g,s,rfl,hC,h,fun _ _ h=>h,rfl,rfl,rfl⟩
 step {Q g s} h:=fun gs w sl t q Sh hC=>by
  obtain⟨n,gs',w',K,O,U,V,g',s',W,Z,aa,ab,ae,ag,ah⟩:=Um h _ gs w sl t q Sh (Nat.le_refl _) hC
  obtain⟨ai,aj,ak,al,am,an,ao,ap,aq,k1,ar,au,av,aw,ay,az⟩:=aa gs' w' K O U V Z
  refine⟨n+ai,aj,ak,al,am,an,ao,ap,aq,?_,ar,au,fun b o h=>av b o (ab b o h),aw.trans ae,ay.trans ag,az.trans ah⟩
  rw [runNT_add,W];exact k1
 trans {Q R g s} h k:=fun gs w sl t q Sh hC=>by
  obtain⟨n,gs',w',K,O,U,V,g',s',W,Z,aa,ab,ae,ag,ah⟩:=h gs w sl t q Sh hC
  obtain⟨ai,aj,ak,al,am,an,ao,ap,aq,k1,ar,au,av,aw,ay,az⟩:=k g' s' aa gs' w' K O U V Z
  refine⟨n+ai,aj,ak,al,am,an,ao,ap,aq,?_,ar,au,fun b o h=>av b o (ab b o h),aw.trans ae,ay.trans ag,az.trans ah⟩
  rw [runNT_add,W];exact k1
 ghost {Q g s s₀} aA h:=fun gs w sl t q Sh hC=>by
  have aB:0<gs.size:=(Array.getElem?_eq_some_iff.1 hC.main).1
  have aC:Gm P gs w t q Sh g s₀:=⟨hC.main,hC.lv,by
   rw [← Qt (s:=s)];exact hC.CQ.ghost aB (by simpa [lone] using aA),hC.over,hC.hears⟩
  obtain⟨n,gs',w',K,O,U,V,g',s',W,Z,aa,ab,ae,ag,ah⟩:=h gs w sl t q Sh aC
  exact⟨n,gs',w',K,O,U,V,g',s',W,Z,aa,fun b o h=>ab b o (aA.ext b o h),ae,ag,ah⟩
end Pal
namespace Pal
open Go Go.Conc
open Go.ConcN (upd upd_same upd_ne)
section
variable {t u:Trace}{w w':World}{N:Nat}{S:Nat→St}{Sh:Nat→Prop}
theorem Cf.ext(h:Cf t w N S Sh)(Z:∀said,¬Race said (t++u))(hu:∀op∈u,∀a,op.act.touch? =some a→∀b,DO a.loc=some b→Sh b)
  (aa:∀op∈u,op.act.low w.heap.size) (hs:w'.heap.size=w.heap.size) (hw:∀b,¬Sh b→w'.heap[b]? =w.heap[b]?):Cf (t++u) w' N S Sh:=by
 have hold:∀x a b,touchAt (t++u) x=some a→DO a.loc=some b→¬Sh b→touchAt t x=some a:=by
  intro x a b U hb O;obtain⟨op,K,W⟩:=touch_of U;rcases getElem?_append_cases K with⟨ai,ab⟩ | ⟨_,ae⟩
  ·rw [touchAt_of ab];exact W
  ·exact absurd (hu op ae a W b hb) O
 have O:∀i,i<N→∀b,((S i).H b≠none∨(S i).E b≠none)→¬Sh b:=by
  intro i hi b hb ag;have:=h.sh i hi b ag;exact hb.elim (fun x=>x this.1) (fun x=>x this.2)
 refine⟨fun i hi=>⟨fun b o K=>?_,fun b o K=>?_,(h.fits i hi).d⟩,h.hh,h.sh,fun b hb=>by rw [hs];exact h.Fp b hb,Z,fun op K=>?_,fun i hi b hb x a U V=>?_,fun i hi b hb x a U V ah=>?_⟩
 ·rw [hw b (O i hi b (.inr (by rw [K];simp)))];exact(h.fits i hi).e b o K
 ·rw [hw b (O i hi b (.inl (by rw [K];simp)))];exact(h.fits i hi).h b o K
 ·rcases Array.mem_append.1 K with K | K
  ·rw [hs];exact h.low op K
  ·rw [hs];exact aa op K
 ·exact(h.kH i hi b hb x a (hold x a b U V (O i hi b (.inl hb))) V).app _
 ·exact(h.kE i hi b hb x a (hold x a b U V (O i hi b (.inr hb))) V ah).app _
theorem Cf.congr{S':Nat→St}(h:Cf t w N S Sh)(K:∀i,i<N→(S' i).E=(S i).E∧(S' i).H=(S i).H):Cf t w N S' Sh:=by
 refine⟨fun i hi=>⟨by rw [(K i hi).1];exact(h.fits i hi).e,by rw [(K i hi).2];exact(h.fits i hi).h,by rw [(K i hi).1,(K i hi).2];exact(h.fits i hi).d⟩,fun i j hi O U b=>?_,fun i hi b=>?_,h.Fp,h.clean,h.low,fun i hi b=>?_,fun i hi b=>?_⟩
 ·rw [(K i hi).2,(K j O).1,(K j O).2];exact h.hh i j hi O U b
 ·rw [(K i hi).1,(K i hi).2];exact h.sh i hi b
 ·rw [(K i hi).2];exact h.kH i hi b
 ·rw [(K i hi).1];exact h.kE i hi b
theorem Cf.less(h:Cf t w N S Sh){i:Nat}{s':St}(ab:∀b o,s'.E b=some o→(S i).E b=some o)(ae:∀b o,s'.H b=some o→(S i).H b=some o):Cf t w N (upd S i s') Sh:=by
 have V:∀j b o,(upd S i s' j).E b=some o→(S j).E b=some o:=by
  intro j b o K;by_cases e:j=i
  ·subst e;rw [upd_same] at K;exact ab b o K
  ·rwa [upd_ne _ _ e] at K
 have e2:∀j b o,(upd S i s' j).H b=some o→(S j).H b=some o:=by
  intro j b o K;by_cases e:j=i
  ·subst e;rw [upd_same] at K;exact ae b o K
  ·rwa [upd_ne _ _ e] at K
 have n1:∀j b,(S j).E b=none→(upd S i s' j).E b=none:=by
  intro j b hb;cases U:(upd S i s' j).E b with
  | none=>rfl
  | some o=>rw [V j b o U] at hb;cases hb
 have n2:∀j b,(S j).H b=none→(upd S i s' j).H b=none:=by
  intro j b hb;cases U:(upd S i s' j).H b with
  | none=>rfl
  | some o=>rw [e2 j b o U] at hb;cases hb
 have p1:∀j b,(upd S i s' j).E b≠none→(S j).E b≠none:=fun j b hb x=>hb (n1 j b x);have p2:∀j b,(upd S i s' j).H b≠none→(S j).H b≠none:=fun j b hb x=>hb (n2 j b x);exact⟨fun j O=>⟨fun b o K=>(h.fits j O).e b o (V j b o K),fun b o K=>(h.fits j O).h b o (e2 j b o K),fun b hb=>n2 j b ((h.fits j O).d b (p1 j b hb))⟩,
  fun a c W Z aa b hb=>⟨n2 c b (h.hh a c W Z aa b (p2 a b hb)).1,n1 c b (h.hh a c W Z aa b (p2 a b hb)).2⟩,
  fun j O b hb=>⟨n2 j b (h.sh j O b hb).1,n1 j b (h.sh j O b hb).2⟩,h.Fp,h.clean,h.low,
  fun j O b hb=>h.kH j O b (p2 j b hb),fun j O b hb=>h.kE j O b (p1 j b hb)⟩
theorem Cf.grow(h:Cf t w N S Sh){i:Nat}(hi:i<N){E':LH}{q:Bool}
  (aa:∀b o,E' b=some o→(S i).E b=some o∨∃j,j<N∧(S j).E b=some o∧∀x a,touchAt t x=some a→DO a.loc=some b→a.write=true→Knows t i x):
  Cf t w N (upd S i ⟨E',(S i).H,q⟩) Sh:=by
 have ah:∀{b},E' b≠none→∃j,j<N∧∃o,(S j).E b=some o:=by
  intro b hb;obtain⟨o,V⟩:=Ha hb;rcases aa b o V with x | ⟨j,K,x,_⟩
  ·exact⟨i,hi,o,x⟩
  ·exact⟨j,K,o,x⟩
 have ai:∀a,a<N→∀b,(S a).H b≠none→E' b=none:=by
  intro a U b hb;cases O:E' b with
  | none=>rfl
  | some o=>
   obtain⟨j,K,o',W⟩:=ah (b:=b) (by rw [O];simp);by_cases e:a=j
   ·subst e;have:=(h.fits a U).d b (by rw [W];simp);exact absurd this hb
   ·have:=(h.hh a j U K e b hb).2;rw [W] at this;cases this
 constructor
 ·intro j K;by_cases e:j=i
  ·subst e;rw [upd_same];refine⟨fun b o V=>?_,(h.fits j K).h,fun b hb=>?_⟩
   ·rcases aa b o V with x | ⟨k,Z,x,_⟩
    ·exact(h.fits j K).e b o x
    ·exact(h.fits k Z).e b o x
   ·cases O:(S j).H b with
    | none=>rfl
    | some o=>exact absurd (ai j K b (by rw [O];simp)) hb
  ·rw [upd_ne _ _ e];exact h.fits j K
 ·intro a c U aj ak b hb;have ab:(S a).H b≠none:=by
   by_cases e:a=i
   ·subst e;rwa [upd_same] at hb
   ·rwa [upd_ne _ _ e] at hb
  by_cases e:c=i
  ·subst e;rw [upd_same];exact⟨(h.hh a c U aj ak b ab).1,ai a U b ab⟩
  ·rw [upd_ne _ _ e];exact h.hh a c U aj ak b ab
 ·intro j K b hb;by_cases e:j=i
  ·subst e;rw [upd_same];refine⟨(h.sh j K b hb).1,?_⟩;cases O:E' b with
   | none=>exact O
   | some o=>
    obtain⟨k,Z,o',W⟩:=ah (b:=b) (by rw [O];simp);rw [(h.sh k Z b hb).2] at W;cases W
  ·rw [upd_ne _ _ e];exact h.sh j K b hb
 ·exact h.Fp
 ·exact h.clean
 ·exact h.low
 ·intro j K b hb;by_cases e:j=i
  ·subst e;rw [upd_same] at hb;exact h.kH j K b hb
  ·rw [upd_ne _ _ e] at hb;exact h.kH j K b hb
 ·intro j K b hb x a O ae ag;by_cases e:j=i
  ·subst e;rw [upd_same] at hb;obtain⟨o,V⟩:=Ha hb;rcases aa b o V with y | ⟨k,Z,y,al⟩
   ·exact h.kE j K b (by rw [y];simp) x a O ae ag
   ·exact al x a O ae ag
  ·rw [upd_ne _ _ e] at hb;exact h.kE j K b hb x a O ae ag
theorem Cf.push(h:Cf t w N S Sh){i:Nat}(hi:i<N){E:LH}(Z:∀b o,E b=some o→(S i).E b=some o)
  (ae:∀b,E b≠none→∀x a,touchAt t x=some a→DO a.loc=some b→a.write=true→Knows t N x):Cf t w (N+1) (upd S N ⟨E,fun _=>none,false⟩) Sh:=by
 have O:∀j,j<N→upd S N ⟨E,fun _=>none,false⟩ j=S j:=fun j K=>upd_ne _ _ (by omega);have ah:∀b,E b≠none→(S i).E b≠none:=fun b hb=>by obtain⟨o,V⟩:=Ha hb;rw [Z b o V];simp
 have ab:∀b,(S i).E b=none→E b=none:=fun b hb=>by
  cases aa:E b with
  | none=>rfl
  | some o=>rw [Z b o aa] at hb;cases hb
 have cs:∀j,j<N+1→j<N∨j=N:=fun j K=>by omega
 constructor
 ·intro j K;rcases cs j K with K | rfl
  ·rw [O j K];exact h.fits j K
  ·rw [upd_same];exact⟨fun b o V=>(h.fits i hi).e b o (Z b o V),fun b o V=>(by cases V),fun b _=>rfl⟩
 ·intro a c U W ag b hb;rcases cs a U with U | rfl
  ·rw [O a U] at hb;rcases cs c W with W | rfl
   ·rw [O c W];exact h.hh a c U W ag b hb
   ·rw [upd_same];refine⟨rfl,ab b ?_⟩;by_cases e:a=i
    ·subst e;cases aa:(S a).E b with
     | none=>rfl
     | some o=>exact absurd ((h.fits a U).d b (by rw [aa];simp)) hb
    ·exact(h.hh a i U hi e b hb).2
  ·rw [upd_same] at hb;exact absurd rfl hb
 ·intro j K b hb;rcases cs j K with K | rfl
  ·rw [O j K];exact h.sh j K b hb
  ·rw [upd_same];exact⟨rfl,ab b (h.sh i hi b hb).2⟩
 ·exact h.Fp
 ·exact h.clean
 ·exact h.low
 ·intro j K b hb;rcases cs j K with K | rfl
  ·rw [O j K] at hb;exact h.kH j K b hb
  ·rw [upd_same] at hb;exact absurd rfl hb
 ·intro j K b hb;rcases cs j K with K | rfl
  ·rw [O j K] at hb;exact h.kE j K b hb
  ·rw [upd_same] at hb;exact ae b hb
theorem Cf.share(h:Cf t w N S Sh){i:Nat}(hi:i<N){b₀:Nat}{o₀:Obj}(U:(S i).H b₀=some o₀):
  Cf t w N (upd S i {S i with H:=fun b=>if b=b₀ then none else(S i).H b}) (fun b=>Sh b∨b=b₀):=by
 have K:Cf t w N (upd S i {S i with H:=fun b=>if b=b₀ then none else(S i).H b}) Sh:=
  h.less (fun b o O=>O) (fun b o O=>by simp only at O;split at O <;> first | (cases O;done) | exact O)
 have Z:b₀<w.heap.size:=by
  have:=(h.fits i hi).h b₀ o₀ U;rcases Nat.lt_or_ge b₀ w.heap.size with V | V
  ·exact V
  ·simp [Array.getElem?_eq_none V] at this
 refine⟨K.fits,K.hh,fun j W b hb=>?_,fun b hb=>hb.elim (K.Fp b) (fun e=>e▸Z),K.clean,K.low,K.kH,K.kE⟩;rcases hb with hb | rfl
 ·exact K.sh j W b hb
 ·by_cases e:j=i
  ·subst e;rw [upd_same];refine⟨by simp,?_⟩;cases aa:(S j).E b with
   | none=>rfl
   | some o=>have:=(h.fits j W).d b (by rw [aa];simp);rw [U] at this;cases this
  ·rw [upd_ne _ _ e];exact h.hh i j hi W (Ne.symm e) b (by rw [U];simp)
end
end Pal
namespace Pal
open Go Go.Conc
open Go.ConcN (upd upd_same upd_ne sumTo sumTo_upd)
abbrev GP:=Gs_
inductive Ph where
 | Cx (k:Nat) | Gk | HN | G3 | Gj | Gx | Ex
 | C5 | FE (m:Nat) | G1 (v:Nat) | G5 | Dw | Gw | Fs | GB | DR
 | Fi (j:Nat) | Hr (j:Nat) | Gy (j:Nat) | F5 (j:Nat) | EZ (j:Nat) | FI | Cd (K:List Nat) (vs:Lv_)
 | CZ | Ht | Hq | G6 (j:Nat)
inductive Nx where
 | ph (p:Ph) | gone (d:Nat)
structure Fam where
 wg:Nat
 ch:Nat
 ty:TypeId
 n:Nat
 has:Nat→Bool
 msg:Nat→Value→LH→Prop
 fin:GP
namespace Fam
variable (F:Fam)
def KK:Int:=4294967296
def GD(st sm:Int):Obj:= .cells #[.int .u64 st,.int .u32 sm] F.ty (0,0)
def word(v wt:Nat):Int:=(v:Int)*KK+wt
def WG(w:World)(v wt sm:Nat):Prop:=w.heap[F.wg]? =some (F.GD (word v wt) sm)
def put(w:World)(v wt sm:Nat):World:={w with heap:=w.heap.setIfInBounds F.wg (F.GD (word v wt) sm)}
def sA:Addr:=⟨F.wg,0,none⟩
def mA:Addr:=⟨F.wg,1,none⟩
def Fa(a:Addr):Event:=⟨.cell a,false,true⟩
def Im(a:Addr):Event:=⟨.cell a,true,true⟩
def Et(m:Mark):Event:=⟨.mark m,false,true⟩
def ChanAt(w:World)(closed:Bool)(k:Nat):Prop:=w.heap[F.ch]? =some (.chan 0 #[] closed k k false)
def act:Ph→Nat→Nat→Nat→Option ((Nat×Nat×Nat)×Array Event×Nx)
 | .Gk,v,wt,sm=>some ((v,wt,sm),#[Et (.releaseMerge F.sA)],.ph .HN)
 | .HN,v,wt,sm=>some ((v,wt,sm),#[Et .disable],.ph .G3)
 | .G3,v,wt,sm=>if 1≤v∧v<2147483648∧wt≤1 then some ((v - 1,wt,sm),#[Fa F.sA,Im F.sA],if v=1∧wt=1 then .ph .Gj else .gone 1) else none
 | .Gj,v,wt,sm=>if v=0∧wt=1 then some ((0,1,sm),#[Fa F.sA],.ph .Gx) else none
 | .Gx,v,wt,sm=>if v=0∧wt=1 then some ((0,0,sm),#[Im F.sA],.ph .Ex) else none
 | .Ex,v,wt,sm=>if sm=0 then some ((v,wt,1),semEvents F.mA,.gone 1) else none
 | .C5,v,wt,sm=>some ((v,wt,sm),#[Et .disable],.ph (.FE F.n))
 | .FE m,v,wt,sm=>if v≤m∧wt=0 then some ((v,0,sm),#[Fa F.sA],if v=0 then .ph .Fs else .ph (.G1 v)) else none
 | .G1 m,v,wt,sm=>if v≤m∧1≤m∧wt=0 then some (if v=m then((v,1,sm),#[Fa F.sA,Im F.sA],.ph .Ht) else((v,0,sm),#[Fa F.sA],.ph (.FE (m - 1)))) else none
 | .G5,v,wt,sm=>some ((v,wt,sm),#[Et (.write F.mA)],.ph .Dw)
 | .Dw,v,wt,sm=>if sm=1 then some ((v,wt,0),semEvents F.mA,.ph .Gw) else none
 | .Gw,v,wt,sm=>if v=0∧wt=0 then some ((0,0,sm),#[Fa F.sA],.ph .Fs) else none
 | .Fs,v,wt,sm=>some ((v,wt,sm),#[Et .enable],.ph .Hq)
 | .CZ,v,wt,sm=>some ((v,wt,sm),#[],.ph .Gk)
 | .Ht,v,wt,sm=>some ((v,wt,sm),#[],.ph .G5)
 | .Hq,v,wt,sm=>some ((v,wt,sm),#[],.ph .GB)
 | .G6 j,v,wt,sm=>some ((v,wt,sm),#[],.ph (.Gy j))
 | .GB,v,wt,sm=>some ((v,wt,sm),#[Et (.acquire F.sA)],.ph .DR)
 | .Fi j,v,wt,sm=>some ((v,wt,sm),#[Et .disable],.ph (.Hr j))
 | .Hr j,v,wt,sm=>if v<2147483647∧wt=0 then some ((v+1,0,sm),#[Fa F.sA,Im F.sA],if v=0 then .ph (.G6 j) else .ph (.F5 j)) else none
 | .Gy j,v,wt,sm=>some ((v,wt,sm),#[Et (.read F.mA)],.ph (.F5 j))
 | .F5 j,v,wt,sm=>some ((v,wt,sm),#[Et .enable],.ph (.EZ j))
 | _,_,_,_=>none
def DF:Ph→Bool
 | .Fi _ | .Hr _ | .Gy _ | .F5 _ | .EZ _ | .FI | .Cd _ _ | .G6 _=>true
 | _=>false
def Ee:Ph→Bool
 | .HN | .G3 | .Gj | .Gx | .Ex=>true
 | _=>false
def GF:Ph→St→St
 | .Gk,_=> .quiet
 | _,s=>s
def start(k:Nat):Ph:=if F.has k then .Cx k else .CZ
def DT(j:Nat):Ph:=if j+1=F.n then .FI else .Fi (j+1)
end Fam
def Way(P:Program)(main:Bool)(X:GP):GP:=(Bv P main).ok X
theorem Jr.Ai{P:Program}{main:Bool}{Q K:GP}(h:∀g s,Q g s→K g s):∀{r:Rk} {g:Goroutine} {s:St},Jr P main Q r g s→Jr P main K r g s
 | .leaf,_,_,x=>h _ _ x
 | .node _,_,_,.inl x=> .inl (h _ _ x)
 | .node _,_,_,.inr ⟨O,x⟩=> .inr ⟨O,fun w f=>let ⟨g',s',w',es,U,V,W⟩:=x w f;⟨g',s',w',es,U,Jr.Ai h V,W⟩⟩
theorem Way.Ai{P:Program}{main:Bool}{Q K:GP}(h:∀g s,Q g s→K g s){g:Goroutine}{s:St}(x:Way P main Q g s):Way P main K g s:=
 let ⟨r,O⟩:=x;⟨r,Jr.Ai (fun g s ⟨s₀,a,b⟩=>⟨s₀,a,h g s₀ b⟩) O⟩
section
variable (P:Program)(F:Fam)
def Lj(X:Ph→GP)(main:Bool):Nx→GP
 | .ph p,g,s=>Way P main (X p) g s
 | .gone d,g,_=>∃q,QuitsD P q d g
structure FJ (X:Ph→GP) (p:Ph) (g:Goroutine) (s:St):Prop where
 run:g.status= .running
 offers:g.offers=none
 quiet:Fam.Ee p=true→s= .quiet
 live:Fam.Ee p=false→s.q=false
 act:∀v wt sm v' wt' sm' es nx,F.act p v wt sm=some ((v',wt',sm'),es,nx)→
  ∃g',(∀w,F.WG w v wt sm→stepG P (Fam.DF p) g w= .go g' (F.put w v' wt' sm') es)∧g'.status= .running∧Lj P X (Fam.DF p) nx g' (Fam.GF p s)
 G2:p= .Ex∨p= .DR→mayWake P g=true
 EC:p= .Dw→∀w v wt,F.WG w v wt 0→stepG P false g w= .go {g with status:= .blocked} w #[]
 close:p= .DR→∃g',g'.status= .running∧(∀w k,F.ChanAt w false k→stepG P false g w= .go g' (w.setChan F.ch 0 #[] true k k false) (closeEvents F.ch))∧∃q,QuitsD P q 0 g'
 send:∀k,p= .Cx k→∃v z,F.msg k v s.E∧(∀w,stepG P false g w= .comm g #[scase F.ch v z] true .send w #[])∧Way P false (X .CZ) (served g undef) s
 go:∀j,p= .EZ j→∃g' child,g'.status= .running∧child.status= .running∧(∀w,stepG P true g w= .spawn g' child w #[])∧Way P false (X (F.start j)) child ⟨s.E,fun _=>none,false⟩∧Way P true (X (F.DT j)) g' s
 GG:p= .FI→∃g' child,g'.status= .running∧child.status= .running∧(∀w,stepG P true g w= .spawn g' child w #[])∧Way P false (X .C5) child ⟨s.E,fun _=>none,false⟩∧Way P true (X (.Cd [] [])) g' s
 recv:∀K vs,p= .Cd K vs→∃z,(∀w,stepG P true g w= .comm g #[rcase F.ch z] true (.recv true) w #[])∧
  (∀k v E',k<F.n→F.has k=true→k ∉ K→Le s.E E'→(∀b,E' b≠none→s.H b=none)→F.msg k v E'→Way P true (X (.Cd (K++ [k]) (vs++ [v]))) (served g (.tuple #[v,.bool true])) ⟨E',s.H,false⟩)∧
  ((∀k,k<F.n→F.has k=true→k∈K)→F.fin (served g (.tuple #[z,.bool false])) s)
theorem Lj.Ai{X K:Ph→GP}(h:∀p g s,X p g s→K p g s){main:Bool}{nx:Nx}{g:Goroutine}{s:St}(x:Lj P X main nx g s):Lj P K main nx g s:=by
 cases nx with
 | ph p=>exact Way.Ai (h p) x
 | gone d=>exact x
theorem FJ.Ai{X Z:Ph→GP}(h:∀p g s,X p g s→Z p g s){p:Ph}{g:Goroutine}{s:St}(x:FJ P F X p g s):FJ P F Z p g s where
 run:=x.run
 offers:=x.offers
 quiet:=x.quiet
 live:=x.live
 act v wt sm v' wt' sm' es nx e:=let ⟨g',K,O,U⟩:=x.act v wt sm v' wt' sm' es nx e;⟨g',K,O,U.Ai P h⟩
 G2:=x.G2
 EC:=x.EC
 close:=x.close
 send k e:=let ⟨v,z,K,O,U⟩:=x.send k e;⟨v,z,K,O,U.Ai (h _)⟩
 go j e:=let ⟨g',c,K,O,U,V,W⟩:=x.go j e;⟨g',c,K,O,U,V.Ai (h _),W.Ai (h _)⟩
 GG e:=let ⟨g',c,K,O,U,V,W⟩:=x.GG e;⟨g',c,K,O,U,V.Ai (h _),W.Ai (h _)⟩
 recv aa vs e:=let ⟨z,K,O,U⟩:=x.recv aa vs e;⟨z,K,fun k v E' a b c d e f=>(O k v E' a b c d e f).Ai (h _),U⟩
def Stop(p:Ph)(g:Goroutine)(s:St):Prop:=∃X:Ph→GP,(∀p g s,X p g s→FJ P F X p g s)∧X p g s
variable {P F}
theorem Stop.law{p:Ph}{g:Goroutine}{s:St}(h:Stop P F p g s):FJ P F (Stop P F) p g s:=by
 obtain⟨X,O,K⟩:=h;exact(O p g s K).Ai P F fun p g s K=>⟨X,O,K⟩
theorem FJ.stop{p:Ph}{g:Goroutine}{s:St}(h:FJ P F (Stop P F) p g s):Stop P F p g s:=
 ⟨fun p g s=>FJ P F (Stop P F) p g s,fun _ _ _ x=>x.Ai P F fun _ _ _ y=>y.law,h⟩
end
end Pal
namespace Pal
open Go Go.Conc
open Go.ConcN (upd upd_same upd_ne sumTo sumTo_upd sumTo_upd_out sumTo_congr le_sumTo sumTo_le)
def cU:Nx→Nat
 | .ph (.Cx _) | .ph .CZ | .ph .Gk | .ph .HN | .ph .G3=>1
 | _=>0
def cL:Nx→Nat
 | .ph .Gj | .ph .Gx=>1
 | _=>0
def cS:Nx→Nat
 | .ph .Ex=>1
 | _=>0
def pend:Nx→Nat
 | .ph (.G6 _) | .ph (.Gy _) | .ph (.F5 _) | .ph (.EZ _)=>1
 | _=>0
def got:Nx→List Nat
 | .ph (.Cd K _)=>K
 | _=> []
def EW:Nx→Prop
 | .gone _=>True
 | _=>False
def Hj(n j:Nat)(c:Bool):Ph→Prop
 | .Fi K | .Hr K | .G6 K | .Gy K | .F5 K | .EZ K=>K=j∧j<n∧c=false
 | .FI=>j=n∧c=false
 | .Cd _ _=>j=n∧c=true
 | _=>False
def HG(F:Fam)(k:Nat):Nx→Prop
 | .gone _=>True
 | .ph (.Cx k')=>k'=k∧F.has k=true
 | .ph .CZ | .ph .Gk | .ph .HN | .ph .G3 | .ph .Gj | .ph .Gx | .ph .Ex=>True
 | _=>False
def Hk:Nx→Prop
 | .gone _=>True
 | .ph .C5 | .ph (.FE _) | .ph (.G1 _) | .ph .Ht | .ph .G5 | .ph .Dw | .ph .Gw | .ph .Fs | .ph .Hq | .ph .GB | .ph .DR=>True
 | _=>False
def CY(x:Nx)(v wt sm L S:Nat)(cl:Bool):Prop:=
 match x with
 | .ph .C5=>L=0∧S=0∧sm=0∧wt=0∧cl=false
 | .ph (.FE m)=>L=0∧S=0∧sm=0∧wt=0∧cl=false∧v≤m
 | .ph (.G1 m)=>L=0∧S=0∧sm=0∧wt=0∧cl=false∧v≤m∧1≤m
 | .ph .Ht | .ph .G5 | .ph .Dw=>L+S+sm+min v 1=1∧wt=L+min v 1∧cl=false
 | .ph .Gw | .ph .Fs | .ph .Hq | .ph .GB | .ph .DR=>L=0∧S=0∧sm=0∧wt=0∧v=0∧cl=false
 | .gone _=>L=0∧S=0∧sm=0∧wt=0∧v=0∧cl=true
 | _=>False
structure Ce (F:Fam) (N0 N j:Nat) (c:Bool) (φ:Nat→Nx) (v wt sm:Nat) (cl:Bool):Prop where
 pos:0<N0
 n1:1≤F.n
 Il:F.n<2147483647
 size:N=N0+j+c.toNat
 jn:j≤F.n
 cj:c=true→j=F.n
 main:∃p,φ 0= .ph p∧Hj F.n j c p
 old:∀i,0<i→i<N0→EW (φ i)
 work:∀k,k<j→HG F k (φ (N0+k))
 cls:c=true→Hk (φ (N0+F.n))
 cnt:v=sumTo N (fun i=>cU (φ i))+pend (φ 0)
 HQ:v≤j+pend (φ 0)
 mode:CY (if c=true then φ (N0+F.n) else .ph .C5) v wt sm (sumTo N fun i=>cL (φ i)) (sumTo N fun i=>cS (φ i)) cl
 G4:∀k,k<j→F.has k=true→(φ (N0+k)= .ph (.Cx k)↔k ∉ got (φ 0))
 nd:(got (φ 0)).Nodup
 sub:∀k∈got (φ 0),k<j∧F.has k=true
section
variable {F:Fam}{N0 N j:Nat}{c:Bool}{φ:Nat→Nx}{v wt sm v' wt' sm':Nat}{cl cl':Bool}
theorem Ce.Fv(h:Ce F N0 N j c φ v wt sm cl){i:Nat}(hi:i<N):i=0∨(0<i∧i<N0)∨(∃k,k<j∧i=N0+k)∨(c=true∧i=N0+F.n):=by
 have:=h.size;rcases Nat.eq_zero_or_pos i with K | K
 ·exact .inl K
 rcases Nat.lt_or_ge i N0 with U | U
 ·exact .inr (.inl ⟨K,U⟩)
 rcases Nat.lt_or_ge i (N0+j) with V | V
 ·exact .inr (.inr (.inl ⟨i - N0,by omega,by omega⟩))
 ·cases O:c with
  | false=>rw [O] at this;simp at this;omega
  | true=>have e:=h.cj O;rw [O] at this;simp at this;exact .inr (.inr (.inr ⟨rfl,by omega⟩))
theorem Ce.SL(h:Ce F N0 N j c φ v wt sm cl):v≤F.n:=by
 have K:=h.HQ;obtain⟨p,O,hm⟩:=h.main;have:=h.jn;rw [O] at K;cases p <;> simp [Hj] at hm <;> simp [pend] at K <;> omega
theorem Ce.HO(h:Ce F N0 N j c φ v wt sm cl){k:Nat}(ab:k<j){x:Nx}(ae:HG F k x)(hs:∀k',φ (N0+k)≠ .ph (.Cx k'))(ag:∀k',x≠ .ph (.Cx k'))
  (ap:v'+cU (φ (N0+k))=v+cU x)
  (hm:∀L S,L+cL (φ (N0+k))=(sumTo N fun i=>cL (φ i))+cL x→S+cS (φ (N0+k))=(sumTo N fun i=>cS (φ i))+cS x→CY (if c=true then φ (N0+F.n) else .ph .C5) v' wt' sm' L S cl'):
  Ce F N0 N j c (upd φ (N0+k) x) v' wt' sm' cl':=by
 have aq:=h.size;have ar:=h.jn;have au:=h.pos;have V:N0+k<N:=by omega
 have K:upd φ (N0+k) x 0=φ 0:=upd_ne _ _ (by omega);have ah:(if c=true then upd φ (N0+k) x (N0+F.n) else .ph .C5)=(if c=true then φ (N0+F.n) else .ph .C5):=by
  cases O:c with
  | false=>rfl
  | true=>have:=h.cj O;simp only [if_true];exact upd_ne _ _ (by omega)
 have s1:=sumTo_upd φ x cU V;have s2:=sumTo_upd φ x cL V;have ai:=sumTo_upd φ x cS V;have av:=h.cnt;have aw:=h.HQ;refine⟨h.pos,h.n1,h.Il,h.size,h.jn,h.cj,by rw [K];exact h.main,fun i aj ak=>by rw [upd_ne _ _ (by omega)];exact h.old i aj ak,fun k' U=>?_,fun O=>?_,by rw [K];omega,?_,?_,fun k' U hh=>?_,by rw [K];exact h.nd,by rw [K];exact h.sub⟩
 ·by_cases e:k'=k
  ·subst e;rw [upd_same];exact ae
  ·rw [upd_ne _ _ (by omega)];exact h.work k' U
 ·have:=h.cj O;rw [upd_ne _ _ (by omega)];exact h.cls O
 ·rw [K];have:cU x≤1:=by cases x with
   | gone d=>simp [cU]
   | ph p=>cases p <;> simp [cU]
  have hw:=h.work k ab;have key:cU x≤cU (φ (N0+k))∨cU (φ (N0+k))<cU x:=by omega
  rcases key with hle | ay
  ·omega
  ·
   have:(sumTo N fun a=>cU (upd φ (N0+k) x a))≤j:=by
    have hb:∀M,M≤N→(sumTo M fun a=>cU (upd φ (N0+k) x a))≤min (M - N0) j:=by
     intro M
     induction M with
     | zero=>intro _;simp [sumTo]
     | succ M al=>
      intro az;have:=al (by omega);simp only [sumTo];have aA:cU (upd φ (N0+k) x M)≤1:=by
       generalize upd φ (N0+k) x M=y;cases y with
       | gone d=>simp [cU]
       | ph p=>cases p <;> simp [cU]
      have Z:(M<N0∨N0+j≤M)→cU (upd φ (N0+k) x M)=0:=by
       intro aB;rw [upd_ne _ _ (by omega)];rcases h.Fv (i:=M) (by omega) with rfl | ⟨a,b⟩ | ⟨k',a,rfl⟩ | ⟨a,rfl⟩
       ·obtain⟨p,am,hm⟩:=h.main;rw [am];cases p <;> simp [Hj] at hm <;> rfl
       ·have:=h.old M a b;cases W:φ M with
        | gone d=>rfl
        | ph p=>rw [W] at this;exact this.elim
       ·omega
       ·have:=h.cls a;cases W:φ (N0+F.n) with
        | gone d=>rfl
        | ph p=>rw [W] at this;cases p <;> simp [Hk] at this <;> rfl
      rcases Nat.lt_or_ge M N0 with q | q
      ·rw [Z (.inl q)];omega
      ·rcases Nat.lt_or_ge M (N0+j) with aa | aa
       ·omega
       ·rw [Z (.inr aa)];omega
    have:=hb N (Nat.le_refl _);omega
   omega
 ·rw [ah];exact hm _ _ s2 ai
 ·rw [K];by_cases e:k'=k
  ·subst e;rw [upd_same];have:=h.G4 k' U hh;constructor
   ·intro an;exact absurd an (ag k')
   ·intro ao;exact absurd (this.2 ao) (hs k')
  ·rw [upd_ne _ _ (by omega)];exact h.G4 k' U hh
theorem Ce.F2(h:Ce F N0 N j c φ v wt sm cl)(O:c=true){x:Nx}(W:Hk x)
  (hm:CY x v wt' sm' (sumTo N fun i=>cL (φ i)) (sumTo N fun i=>cS (φ i)) cl'):
  Ce F N0 N j c (upd φ (N0+F.n) x) v wt' sm' cl':=by
 have Z:=h.size;have ah:=h.pos;have ai:=h.cj O;have U:N0+F.n<N:=by rw [O] at Z;simp at Z;omega
 have K:upd φ (N0+F.n) x 0=φ 0:=upd_ne _ _ (by omega);have z:∀y,Hk y→cU y=0∧cL y=0∧cS y=0:=by
  intro y aa;cases y with
  | gone d=>exact⟨rfl,rfl,rfl⟩
  | ph p=>cases p <;> simp [Hk] at aa <;> exact⟨rfl,rfl,rfl⟩
 have z1:=z _ (h.cls O);have aj:=z x W;have s1:=sumTo_upd φ x cU U;have s2:=sumTo_upd φ x cL U;have ak:=sumTo_upd φ x cS U;have al:=h.cnt;refine⟨h.pos,h.n1,h.Il,h.size,h.jn,h.cj,by rw [K];exact h.main,fun i ab ae=>by rw [upd_ne _ _ (by omega)];exact h.old i ab ae,fun k' V=>?_,fun O=>?_,by rw [K];omega,by rw [K];exact h.HQ,?_,fun k' V hh=>?_,by rw [K];exact h.nd,by rw [K];exact h.sub⟩
 ·rw [upd_ne _ _ (by omega)];exact h.work k' V
 ·rw [upd_same];exact W
 ·rw [if_pos O,upd_same];have e2:(sumTo N fun i=>cL (upd φ (N0+F.n) x i))=sumTo N fun i=>cL (φ i):=by omega
  have ag:(sumTo N fun i=>cS (upd φ (N0+F.n) x i))=sumTo N fun i=>cS (φ i):=by omega
  rw [e2,ag];exact hm
 ·rw [K,upd_ne _ _ (by omega)];exact h.G4 k' V hh
theorem Qj{n j:Nat}{c:Bool}{p:Ph}(h:Hj n j c p):cU (.ph p)=0∧cL (.ph p)=0∧cS (.ph p)=0:=by
 cases p <;> simp [Hj] at h <;> exact⟨rfl,rfl,rfl⟩
theorem Ce.JH(h:Ce F N0 N j c φ v wt sm cl){p:Ph}(V:Hj F.n j c p)(K:got (.ph p)=got (φ 0))(aj:v'+pend (φ 0)=v+pend (.ph p))(W:v'≤j+pend (.ph p))
  (hm:CY (if c=true then φ (N0+F.n) else .ph .C5) v' wt' sm' (sumTo N fun i=>cL (φ i)) (sumTo N fun i=>cS (φ i)) cl'):
  Ce F N0 N j c (upd φ 0 (.ph p)) v' wt' sm' cl':=by
 have ak:=h.size;have al:=h.pos;have O:0<N:=by omega
 obtain⟨am,Z,aa⟩:=h.main;have z1:=Qj aa;have an:=Qj V;rw [← Z] at z1;have s1:=sumTo_upd φ (.ph p) cU O;have s2:=sumTo_upd φ (.ph p) cL O;have ao:=sumTo_upd φ (.ph p) cS O;have ap:=h.cnt;have ab:(if c=true then upd φ 0 (.ph p) (N0+F.n) else .ph .C5)=(if c=true then φ (N0+F.n) else .ph .C5):=by rw [upd_ne _ _ (by omega)]
 refine⟨h.pos,h.n1,h.Il,h.size,h.jn,h.cj,⟨p,upd_same _ _ _,V⟩,fun i ae ag=>by rw [upd_ne _ _ (by omega)];exact h.old i ae ag,fun k' U=>by rw [upd_ne _ _ (by omega)];exact h.work k' U,fun ah=>by rw [upd_ne _ _ (by omega)];exact h.cls ah,by rw [upd_same];omega,by rw [upd_same];exact W,?_,fun k' U hh=>?_,by rw [upd_same,K];exact h.nd,by rw [upd_same,K];exact h.sub⟩
 ·rw [ab];have e2:(sumTo N fun i=>cL (upd φ 0 (.ph p) i))=sumTo N fun i=>cL (φ i):=by omega
  have ai:(sumTo N fun i=>cS (upd φ 0 (.ph p) i))=sumTo N fun i=>cS (φ i):=by omega
  rw [e2,ai];exact hm
 ·rw [upd_same,K,upd_ne _ _ (by omega)];exact h.G4 k' U hh
theorem Ce.act(h:Ce F N0 N j c φ v wt sm cl){i:Nat}(hi:i<N){p:Ph}(U:φ i= .ph p){es:Array Event}{nx:Nx}(K:F.act p v wt sm=some ((v',wt',sm'),es,nx)):
  Ce F N0 N j c (upd φ i nx) v' wt' sm' cl:=by
 have O:=h.mode;have ar:=h.SL;rcases h.Fv hi with rfl | ⟨a,b⟩ | ⟨k,ai,rfl⟩ | ⟨Z,rfl⟩
 ·
  obtain⟨am,aq,aj⟩:=h.main;have:am=p:=by rw [aq] at U;exact Nx.ph.inj U
  subst this;have av:∀q,Hj F.n j c q→(∀au vs,q≠ .Cd au vs)→c=false:=by
   intro q an ao;cases q <;> simp [Hj] at an <;> first | exact an.2.2 | exact an.2 | exact absurd rfl (ao _ _)
  have ag:=h.HQ;cases am <;> simp only [Hj] at aj <;> (try exact aj.elim) <;> simp only [Fam.act] at K <;> (try (cases K;done))
  ·cases K;obtain⟨rfl,ah,rfl⟩:=aj;exact h.JH (p:= .Hr _) ⟨rfl,ah,rfl⟩ (by rw [U];rfl) (by rw [U];rfl) (by rw [U] at ag;exact ag) (by simpa [CY] using O)
  ·split at K
   ·rename_i aa;cases K;obtain⟨rfl,ah,rfl⟩:=aj;rw [U] at ag;simp only [pend,Nat.add_zero] at ag;simp only [Bool.false_eq_true,if_false,CY] at O;split
    ·exact h.JH (p:= .G6 _) ⟨rfl,ah,rfl⟩ (by rw [U];rfl) (by rw [U];simp [pend]) (by simp [pend];omega) ⟨O.1,O.2.1,O.2.2.1,rfl,O.2.2.2.2⟩
    ·exact h.JH (p:= .F5 _) ⟨rfl,ah,rfl⟩ (by rw [U];rfl) (by rw [U];simp [pend]) (by simp [pend];omega) ⟨O.1,O.2.1,O.2.2.1,rfl,O.2.2.2.2⟩
   ·cases K
  ·cases K;obtain⟨rfl,ah,rfl⟩:=aj;exact h.JH (p:= .F5 _) ⟨rfl,ah,rfl⟩ (by rw [U];rfl) (by rw [U];rfl) (by rw [U] at ag;exact ag) (by simpa [CY] using O)
  ·cases K;obtain⟨rfl,ah,rfl⟩:=aj;exact h.JH (p:= .EZ _) ⟨rfl,ah,rfl⟩ (by rw [U];rfl) (by rw [U];rfl) (by rw [U] at ag;exact ag) (by simpa [CY] using O)
  ·cases K;obtain⟨rfl,ah,rfl⟩:=aj;exact h.JH (p:= .Gy _) ⟨rfl,ah,rfl⟩ (by rw [U];rfl) (by rw [U];rfl) (by rw [U] at ag;exact ag) (by simpa [CY] using O)
 ·have:=h.old i a b;rw [U] at this;exact this.elim
 ·
  have hw:=h.work k ai;rw [U] at hw;have aw:∀q k',q=Nx.ph p→(∀k',p≠ .Cx k')→q≠ .ph (.Cx k'):=by
   rintro q k' rfl ao e;exact ao k' (Nx.ph.inj e)
  cases p <;> simp only [HG] at hw <;> (try exact hw.elim) <;> simp only [Fam.act] at K <;> (try (cases K;done))
  ·cases K;refine h.HO ai (x:= .ph .HN) trivial (fun k'=>by rw [U];simp) (by simp) (by rw [U];rfl) fun L S V W=>?_;rw [U] at V W;simp only [cL,cS,Nat.add_zero] at V W;subst V W;exact O
  ·cases K;refine h.HO ai (x:= .ph .G3) trivial (fun k'=>by rw [U];simp) (by simp) (by rw [U];rfl) fun L S V W=>?_;rw [U] at V W;simp only [cL,cS,Nat.add_zero] at V W;subst V W;exact O
  ·split at K
   ·rename_i aa;cases K;have al:∀y ab ae L S,y=(if c=true then φ (N0+F.n) else .ph .C5)→CY y v wt sm ab ae cl→(if v=1∧wt=1 then L=ab+1 else L=ab)→S=ae→CY y (v - 1) wt sm L S cl:=by
     intro y ab ae L S ay hm V W;cases y with
     | gone d=>simp only [CY] at hm ⊢;split at V <;> omega
     | ph q=>
      cases q <;> simp only [CY] at hm ⊢ <;> (try exact hm) <;> (try (split at V <;> omega))
      ·split at V
       ·exfalso;omega
       ·exact⟨by omega,by omega,by omega,by omega,hm.2.2.2.2⟩
      ·split at V
       ·exfalso;omega
       ·exact⟨by omega,by omega,by omega,by omega,hm.2.2.2.2.1,by omega⟩
      ·split at V
       ·exfalso;omega
       ·exact⟨by omega,by omega,by omega,by omega,hm.2.2.2.2.1,by omega,by omega⟩
      ·split at V
       ·exact⟨by omega,by omega,hm.2.2⟩
       ·exact⟨by omega,by omega,hm.2.2⟩
      ·split at V
       ·exact⟨by omega,by omega,hm.2.2⟩
       ·exact⟨by omega,by omega,hm.2.2⟩
      ·split at V
       ·exact⟨by omega,by omega,hm.2.2⟩
       ·exact⟨by omega,by omega,hm.2.2⟩
    split
    ·rename_i ak;refine h.HO ai (x:= .ph .Gj) trivial (fun k'=>by rw [U];simp) (by simp) (by rw [U];simp [cU];omega) fun L S V W=>?_;rw [U] at V W;simp only [cL,cS,Nat.add_zero] at V W;exact al _ _ _ L S rfl O (by rw [if_pos ak];exact V) W
    ·rename_i ak;refine h.HO ai (x:= .gone 1) trivial (fun k'=>by rw [U];simp) (by simp) (by rw [U];simp [cU];omega) fun L S V W=>?_;rw [U] at V W;simp only [cL,cS,Nat.add_zero] at V W;exact al _ _ _ L S rfl O (by rw [if_neg ak];exact V) W
   ·cases K
  ·split at K
   ·rename_i aa;cases K;refine h.HO ai (x:= .ph .Gx) trivial (fun k'=>by rw [U];simp) (by simp) (by rw [U];simp [cU];omega) fun L S V W=>?_;rw [U] at V W;simp only [cL,cS,Nat.add_zero] at V W;have e:L=sumTo N fun i=>cL (φ i):=by
     have az:L+1=(sumTo N fun i=>cL (φ i))+1:=V;omega
    obtain⟨ak,ap⟩:=aa;subst e W ak ap;exact O
   ·cases K
  ·split at K
   ·rename_i aa;cases K;obtain⟨ak,ap⟩:=aa;subst ak ap;refine h.HO ai (x:= .ph .Ex) trivial (fun k'=>by rw [U];simp) (by simp) (by rw [U];simp [cU]) fun L S V W=>?_;rw [U] at V W;simp only [cL,cS,Nat.add_zero] at V W;have al:∀y ab ae,CY y 0 1 sm ab ae cl→L+1=ab→S=ae+1→CY y 0 0 sm L S cl:=by
     intro y ab ae hm V W;cases y with
     | gone d=>simp only [CY] at hm ⊢;omega
     | ph q=>
      cases q <;> simp only [CY] at hm ⊢ <;> (try exact hm) <;> (try (exfalso;omega))
      ·exact⟨by omega,by omega,hm.2.2⟩
      ·exact⟨by omega,by omega,hm.2.2⟩
      ·exact⟨by omega,by omega,hm.2.2⟩
    exact al _ _ _ O V W
   ·cases K
  ·split at K
   ·rename_i aa;cases K;subst aa;refine h.HO ai (x:= .gone 1) trivial (fun k'=>by rw [U];simp) (by simp) (by rw [U];simp [cU]) fun L S V W=>?_;rw [U] at V W;simp only [cL,cS,Nat.add_zero] at V W;have al:∀y ab ae,CY y v wt 0 ab ae cl→L=ab→S+1=ae→CY y v wt 1 L S cl:=by
     intro y ab ae hm V W;cases y with
     | gone d=>simp only [CY] at hm ⊢;omega
     | ph q=>
      cases q <;> simp only [CY] at hm ⊢ <;> (try exact hm) <;> (try (exfalso;omega))
      ·exact⟨by omega,by omega,hm.2.2⟩
      ·exact⟨by omega,by omega,hm.2.2⟩
      ·exact⟨by omega,by omega,hm.2.2⟩
    exact al _ _ _ O V W
   ·cases K
  ·cases K;refine h.HO ai (x:= .ph .Gk) trivial (fun k'=>by rw [U];simp) (by simp) (by rw [U];rfl) fun L S V W=>?_;rw [U] at V W;simp only [cL,cS,Nat.add_zero] at V W;subst V W;exact O
 ·
  have hw:=h.cls Z;rw [if_pos Z,U] at O;rw [U] at hw;obtain⟨am,aq,aj⟩:=h.main;cases p <;> simp only [Hk] at hw <;> (try exact hw.elim) <;> simp only [Fam.act] at K <;> (try (cases K;done)) <;> simp only [CY] at O
  ·cases K;exact h.F2 Z (x:= .ph (.FE F.n)) trivial ⟨O.1,O.2.1,O.2.2.1,O.2.2.2.1,O.2.2.2.2,ar⟩
  ·split at K
   ·rename_i m aa;cases K;split
    ·exact h.F2 Z (x:= .ph .Fs) trivial ⟨O.1,O.2.1,O.2.2.1,rfl,by assumption,O.2.2.2.2.1⟩
    ·exact h.F2 Z (x:= .ph (.G1 _)) trivial ⟨O.1,O.2.1,O.2.2.1,rfl,O.2.2.2.2.1,Nat.le_refl _,by omega⟩
   ·cases K
  ·split at K
   ·rename_i m aa;split at K
    ·cases K;exact h.F2 Z (x:= .ph .Ht) trivial ⟨by omega,by omega,O.2.2.2.2.1⟩
    ·cases K;exact h.F2 Z (x:= .ph (.FE _)) trivial ⟨O.1,O.2.1,O.2.2.1,rfl,O.2.2.2.2.1,by omega⟩
   ·cases K
  ·cases K;exact h.F2 Z (x:= .ph .Dw) trivial O
  ·split at K
   ·rename_i aa;cases K;exact h.F2 Z (x:= .ph .Gw) trivial ⟨by omega,by omega,rfl,by omega,by omega,O.2.2⟩
   ·cases K
  ·split at K
   ·rename_i aa;obtain⟨rfl,rfl⟩:=aa;cases K;exact h.F2 Z (x:= .ph .Fs) trivial O
   ·cases K
  ·cases K;exact h.F2 Z (x:= .ph .Hq) trivial O
  ·cases K;exact h.F2 Z (x:= .ph .DR) trivial O
  ·cases K;exact h.F2 Z (x:= .ph .G5) trivial O
  ·cases K;exact h.F2 Z (x:= .ph .GB) trivial O
end
end Pal
namespace Pal
open Go Go.Conc
open Go.ConcN (upd upd_same upd_ne sumTo sumTo_upd sumTo_upd_out sumTo_congr le_sumTo sumTo_le fork_knows)
section
variable {F:Fam}{N0 N j:Nat}{c:Bool}{φ:Nat→Nx}{v wt sm:Nat}{cl:Bool}
theorem Ce.spawn(h:Ce F N0 N j c φ v wt sm cl)(U:φ 0= .ph (.EZ j)):
  Ce F N0 (N+1) (j+1) c (upd (upd φ N (.ph (F.start j))) 0 (.ph (F.DT j))) v wt sm cl:=by
 obtain⟨aj,ak,al⟩:=h.main;obtain rfl:aj= .EZ j:=by rw [ak] at U;exact Nx.ph.inj U
 obtain⟨_,aq,rfl⟩:=al;have am:=h.size;have ar:=h.pos;simp only [Bool.toNat_false,Nat.add_zero] at am;have W:cU (.ph (F.start j))=1∧cL (.ph (F.start j))=0∧cS (.ph (F.start j))=0:=by
  unfold Fam.start;split <;> exact⟨rfl,rfl,rfl⟩
 have K:cU (.ph (F.DT j))=0∧cL (.ph (F.DT j))=0∧cS (.ph (F.DT j))=0∧pend (.ph (F.DT j))=0∧got (.ph (F.DT j))= []:=by
  unfold Fam.DT;split <;> exact⟨rfl,rfl,rfl,rfl,rfl⟩
 have Z:cU (φ 0)=0∧cL (φ 0)=0∧cS (φ 0)=0:=by rw [U];exact⟨rfl,rfl,rfl⟩
 let V:Nat→Nx:=upd (upd φ N (.ph (F.start j))) 0 (.ph (F.DT j));have O:V 0= .ph (F.DT j):=upd_same _ _ _;have aa:V N= .ph (F.start j):=by show upd _ _ _ _=_;rw [upd_ne _ _ (by omega),upd_same]
 have ab:∀i,0<i→i≠N→V i=φ i:=fun i ae ag=>by show upd _ _ _ _=_;rw [upd_ne _ _ (by omega),upd_ne _ _ ag]
 have sum:∀f:Nx→Nat,f (φ 0)=0→f (.ph (F.DT j))=0→(sumTo (N+1) fun i=>f (V i))=(sumTo N fun i=>f (φ i))+f (.ph (F.start j)):=by
  intro f f0 f1;simp only [sumTo,aa];congr 1;have an:0<N:=by omega
  have:=sumTo_upd (upd φ N (.ph (F.start j))) (.ph (F.DT j)) f an;have e2:upd φ N (.ph (F.start j)) 0=φ 0:=upd_ne _ _ (by omega);rw [e2,f0,f1] at this;have au:=sumTo_upd_out φ (.ph (F.start j)) f (i:=N) (j:=N) (Nat.le_refl _);show sumTo N (fun i=>f (upd (upd φ N (.ph (F.start j))) 0 (.ph (F.DT j)) i))=_;omega
 have ah:=h.cnt;have ai:=h.HQ;rw [U] at ah ai;simp only [pend] at ah ai;show Ce F N0 (N+1) (j+1) false V v wt sm cl;have ao:got (φ 0)= []:=by rw [U];rfl
 refine⟨h.pos,h.n1,h.Il,by simp;omega,by omega,by simp,⟨F.DT j,O,?_⟩,fun i ae ag=>by rw [ab i ae (by omega)];exact h.old i ae ag,fun k ap=>?_,by simp,?_,?_,?_,fun k ap hh=>?_,by rw [O,K.2.2.2.2];exact .nil,by rw [O,K.2.2.2.2];simp⟩
 ·unfold Fam.DT;split
  ·exact⟨by assumption,rfl⟩
  ·exact⟨rfl,by omega,rfl⟩
 ·by_cases e:k=j
  ·subst e;rw [show N0+k=N by omega,aa];unfold Fam.start;split
   ·exact⟨rfl,by assumption⟩
   ·trivial
  ·rw [ab _ (by omega) (by omega)];exact h.work k (by omega)
 ·rw [O,K.2.2.2.1,sum cU Z.1 K.1,W.1];exact ah
 ·rw [O,K.2.2.2.1];exact ai
 ·have hm:=h.mode;simp only [Bool.false_eq_true,if_false] at hm ⊢;rw [sum cL Z.2.1 K.2.1,sum cS Z.2.2 K.2.2.1,W.2.1,W.2.2];exact hm
 ·rw [O,K.2.2.2.2];by_cases e:k=j
  ·subst e;rw [show N0+k=N by omega,aa];unfold Fam.start;simp [hh]
  ·rw [ab _ (by omega) (by omega)];have:=h.G4 k (by omega) hh
   rwa [ao] at this
theorem Ce.X6(h:Ce F N0 N j c φ v wt sm cl)(O:φ 0= .ph .FI):
  Ce F N0 (N+1) j true (upd (upd φ N (.ph .C5)) 0 (.ph (.Cd [] []))) v wt sm cl:=by
 obtain⟨aj,ak,al⟩:=h.main;obtain rfl:aj= .FI:=by rw [ak] at O;exact Nx.ph.inj O
 obtain⟨ai,rfl⟩:=al;have am:=h.size;have ap:=h.pos;simp only [Bool.toNat_false,Nat.add_zero] at am;have V:cU (φ 0)=0∧cL (φ 0)=0∧cS (φ 0)=0:=by rw [O];exact⟨rfl,rfl,rfl⟩
 let U:Nat→Nx:=upd (upd φ N (.ph .C5)) 0 (.ph (.Cd [] []));have K:U 0= .ph (.Cd [] []):=upd_same _ _ _;have W:U N= .ph .C5:=by show upd _ _ _ _=_;rw [upd_ne _ _ (by omega),upd_same]
 have Z:∀i,0<i→i≠N→U i=φ i:=fun i aa ab=>by show upd _ _ _ _=_;rw [upd_ne _ _ (by omega),upd_ne _ _ ab]
 have sum:∀f:Nx→Nat,f (φ 0)=0→f (.ph (.Cd [] []))=0→f (.ph .C5)=0→(sumTo (N+1) fun i=>f (U i))=(sumTo N fun i=>f (φ i)):=by
  intro f f0 f1 f2;simp only [sumTo,W,f2];have an:0<N:=by omega
  have:=sumTo_upd (upd φ N (.ph .C5)) (.ph (.Cd [] [])) f an;have e2:upd φ N (.ph .C5) 0=φ 0:=upd_ne _ _ (by omega);rw [e2,f0,f1] at this;have aq:=sumTo_upd_out φ (.ph .C5) f (i:=N) (j:=N) (Nat.le_refl _);show sumTo N (fun i=>f (upd (upd φ N (.ph .C5)) 0 (.ph (.Cd [] [])) i))+0=_;omega
 have ae:=h.cnt;have ag:=h.HQ;rw [O] at ae ag;simp only [pend] at ae ag;show Ce F N0 (N+1) j true U v wt sm cl;have ao:got (φ 0)= []:=by rw [O];rfl
 refine⟨h.pos,h.n1,h.Il,by simp;omega,h.jn,fun _=>ai,⟨.Cd [] [],K,ai,rfl⟩,fun i aa ab=>by rw [Z i aa (by omega)];exact h.old i aa ab,fun k ah=>?_,fun _=>by rw [show N0+F.n=N by omega,W];trivial,?_,?_,?_,fun k ah hh=>?_,by rw [K];exact .nil,by rw [K];simp [got]⟩
 ·rw [Z _ (by omega) (by omega)];exact h.work k ah
 ·rw [K,sum cU V.1 rfl rfl];exact ae
 ·rw [K];exact ag
 ·have hm:=h.mode;simp only [Bool.false_eq_true,if_false,if_true] at hm ⊢;rw [show N0+F.n=N by omega,W,sum cL V.2.1 rfl rfl,sum cS V.2.2 rfl rfl];exact hm
 ·rw [K];rw [Z _ (by omega) (by omega)];have:=h.G4 k ah hh
  rwa [ao] at this
theorem Ce.meet(h:Ce F N0 N j c φ v wt sm cl){K:List Nat}{vs:Lv_}{k:Nat}{x:Value}(O:φ 0= .ph (.Cd K vs))(ae:k<j)(hw:φ (N0+k)= .ph (.Cx k)):
  Ce F N0 N j c (upd (upd φ (N0+k) (.ph .CZ)) 0 (.ph (.Cd (K++ [k]) (vs++ [x])))) v wt sm cl:=by
 obtain⟨ak,al,am⟩:=h.main;obtain rfl:ak= .Cd K vs:=by rw [al] at O;exact Nx.ph.inj O
 obtain⟨an,rfl⟩:=am;have ao:=h.size;have av:=h.pos;have ag:F.has k=true:=by have:=h.work k ae;rw [hw] at this;exact this.2
 have ap:k ∉ K:=by have:=(h.G4 k ae ag).1 hw;rwa [O] at this
 let V:Nat→Nx:=upd (upd φ (N0+k) (.ph .CZ)) 0 (.ph (.Cd (K++ [k]) (vs++ [x])));have U:V 0= .ph (.Cd (K++ [k]) (vs++ [x])):=upd_same _ _ _;have ah:V (N0+k)= .ph .CZ:=by show upd _ _ _ _=_;rw [upd_ne _ _ (by omega),upd_same]
 have W:∀i,0<i→i≠N0+k→V i=φ i:=fun i Z aa=>by show upd _ _ _ _=_;rw [upd_ne _ _ (by omega),upd_ne _ _ aa]
 have sum:∀f:Nx→Nat,f (φ 0)=f (.ph (.Cd (K++ [k]) (vs++ [x])))→f (.ph (.Cx k))=f (.ph .CZ)→(sumTo N fun i=>f (V i))=(sumTo N fun i=>f (φ i)):=by
  intro f f0 f1;have aq:0<N:=by omega
  have Z:=sumTo_upd (upd φ (N0+k) (.ph .CZ)) (.ph (.Cd (K++ [k]) (vs++ [x]))) f aq;have e2:upd φ (N0+k) (.ph .CZ) 0=φ 0:=upd_ne _ _ (by omega);have aa:=sumTo_upd φ (.ph .CZ) f (show N0+k<N by omega);rw [e2] at Z;rw [hw] at aa;show sumTo N (fun i=>f (upd (upd φ (N0+k) (.ph .CZ)) 0 (.ph (.Cd (K++ [k]) (vs++ [x]))) i))=_;omega
 have ai:=h.cnt;have aj:=h.HQ;rw [O] at ai aj;show Ce F N0 N j true V v wt sm cl;refine⟨h.pos,h.n1,h.Il,ao,h.jn,h.cj,⟨_,U,an,rfl⟩,fun i Z aa=>by rw [W i Z (by omega)];exact h.old i Z aa,fun k' ab=>?_,fun ar=>?_,?_,?_,?_,fun k' ab hh=>?_,?_,?_⟩
 ·by_cases e:k'=k
  ·subst e;rw [ah];trivial
  ·rw [W _ (by omega) (by omega)];exact h.work k' ab
 ·rw [W _ (by omega) (by omega)];exact h.cls ar
 ·rw [U,sum cU (by rw [O];rfl) rfl];exact ai
 ·rw [U];exact aj
 ·have hm:=h.mode;simp only [if_true] at hm ⊢;rw [W _ (by omega) (by omega),sum cL (by rw [O];rfl) rfl,sum cS (by rw [O];rfl) rfl];exact hm
 ·rw [U];show _↔k' ∉ K++ [k];by_cases e:k'=k
  ·subst e;rw [ah];simp
  ·rw [W _ (by omega) (by omega)];have:=h.G4 k' ab hh;rw [O] at this;rw [this];show k' ∉ K↔_;simp [e]
 ·rw [U];have:=h.nd;rw [O] at this;show(K++ [k]).Nodup;rw [List.nodup_append];exact⟨this,by simp,fun a au b hb=>by simp at hb;subst hb;exact fun e=>ap (e▸au)⟩
 ·rw [U];intro k' ab;have hs:=h.sub;rw [O] at hs;rcases List.mem_append.1 ab with q | q
  ·exact hs k' q
  ·simp at q;subst q;exact⟨ae,ag⟩
theorem Ce.close(h:Ce F N0 N j c φ v wt sm cl)(K:c=true)(O:φ (N0+F.n)= .ph .DR):Ce F N0 N j c (upd φ (N0+F.n) (.gone 0)) v wt sm true:=by
 have hm:=h.mode;rw [if_pos K,O] at hm;exact h.F2 K (x:= .gone 0) trivial ⟨hm.1,hm.2.1,hm.2.2.1,hm.2.2.2.1,hm.2.2.2.2.1,rfl⟩
theorem Ce.leave(h:Ce F N0 N j c φ v wt sm cl){i d K:Nat}(hi:i<N)(O:φ i= .gone d):Ce F N0 N j c (upd φ i (.gone K)) v wt sm cl:=by
 rcases h.Fv hi with rfl | ⟨a,b⟩ | ⟨k,V,rfl⟩ | ⟨W,rfl⟩
 ·obtain⟨p,Z,_⟩:=h.main;rw [O] at Z;cases Z
 ·have ag:=hi;have z:∀f:Nx→Nat,f (.gone d)=0→f (.gone K)=0→(sumTo N fun a=>f (upd φ i (.gone K) a))=sumTo N fun a=>f (φ a):=by
   intro f f0 f1;have:=sumTo_upd φ (.gone K) f ag;rw [O] at this;omega
  have ak:=h.size;have U:upd φ i (.gone K) 0=φ 0:=upd_ne _ _ (by omega);refine⟨h.pos,h.n1,h.Il,h.size,h.jn,h.cj,by rw [U];exact h.main,fun aa ah ai=>?_,fun k V=>by rw [upd_ne _ _ (by omega)];exact h.work k V,fun W=>by rw [upd_ne _ _ (by omega)];exact h.cls W,by rw [U,z cU rfl rfl];exact h.cnt,by rw [U];exact h.HQ,?_,fun k V hh=>by rw [U,upd_ne _ _ (by omega)];exact h.G4 k V hh,by rw [U];exact h.nd,by rw [U];exact h.sub⟩
  ·by_cases e:aa=i
   ·subst e;rw [upd_same];trivial
   ·rw [upd_ne _ _ e];exact h.old aa ah ai
  ·rw [z cL rfl rfl,z cS rfl rfl,upd_ne _ _ (by omega)];exact h.mode
 ·refine h.HO V (x:= .gone K) trivial (by rw [O];simp) (by simp) (by rw [O];rfl) fun L S ab ae=>?_;rw [O] at ab ae;have aj:L=sumTo N fun i=>cL (φ i):=ab;have e2:S=sumTo N fun i=>cS (φ i):=ae;subst aj e2;exact h.mode
 ·have hm:=h.mode;rw [if_pos W,O] at hm;exact h.F2 W (x:= .gone K) trivial hm
theorem Ce.Ou(h:Ce F N0 N j c φ v wt sm cl)(O:c=true)(U:φ (N0+F.n)= .ph .Gw∨φ (N0+F.n)= .ph .Fs∨φ (N0+F.n)= .ph .GB∨φ (N0+F.n)= .ph .DR∨EW (φ (N0+F.n))):∀k,k<j→EW (φ (N0+k)):=by
 intro k V;have hm:=h.mode;rw [if_pos O] at hm;have W:=h.size;have Z:=h.cnt;have aa:cU (φ (N0+k))≤sumTo N fun i=>cU (φ i):=le_sumTo (f:=fun i=>cU (φ i)) (show N0+k<N by omega);have ab:cL (φ (N0+k))≤sumTo N fun i=>cL (φ i):=le_sumTo (f:=fun i=>cL (φ i)) (show N0+k<N by omega);have ae:cS (φ (N0+k))≤sumTo N fun i=>cS (φ i):=le_sumTo (f:=fun i=>cS (φ i)) (show N0+k<N by omega);have ag:v=0∧(sumTo N fun i=>cL (φ i))=0∧(sumTo N fun i=>cS (φ i))=0:=by
  rcases U with e | e | e | e | e
  ·rw [e] at hm;exact⟨hm.2.2.2.2.1,hm.1,hm.2.1⟩
  ·rw [e] at hm;exact⟨hm.2.2.2.2.1,hm.1,hm.2.1⟩
  ·rw [e] at hm;exact⟨hm.2.2.2.2.1,hm.1,hm.2.1⟩
  ·rw [e] at hm;exact⟨hm.2.2.2.2.1,hm.1,hm.2.1⟩
  ·cases K:φ (N0+F.n) with
   | gone d=>rw [K] at hm;exact⟨hm.2.2.2.2.1,hm.1,hm.2.1⟩
   | ph p=>rw [K] at e;exact e.elim
 have hw:=h.work k V;cases K:φ (N0+k) with
 | gone d=>trivial
 | ph p=>
  have ah:1≤cU (φ (N0+k))+cL (φ (N0+k))+cS (φ (N0+k)):=by
   rw [K] at hw ⊢;cases p <;> simp only [HG] at hw <;> simp [cU,cL,cS]
  exfalso;omega
end
open Go.ConcN (RelBy)
def En:Nx→Nat
 | .gone d=>d
 | .ph .G3 | .ph .Gj | .ph .Gx | .ph .Ex=>1
 | .ph (.FE _) | .ph (.G1 _) | .ph .Ht | .ph .G5 | .ph .Dw | .ph .Gw | .ph .Fs=>1
 | .ph (.Hr _) | .ph (.G6 _) | .ph (.Gy _) | .ph (.F5 _)=>1
 | _=>0
def late:Nx→Prop
 | .ph (.Cx _) | .ph .CZ | .ph .Gk=>False
 | _=>True
def IQ(F:Fam)(N0 t0:Nat)(t:Trace)(q:Nat):Prop:=
 t.act? q=some (.mark (.acquire F.sA))∧t.g? q=some (N0+F.n)∧t.heard q∧∀k,k<F.n→∃ρ,t0≤ρ∧ρ<q∧RelBy F.sA t (N0+k) ρ
def K9(F:Fam)(N0 t0:Nat)(t:Trace)(p:Nat):Prop:=
 t.act? p=some (.close F.ch)∧t.g? p=some (N0+F.n)∧t.heard p∧(∃q,q<p∧IQ F N0 t0 t q)∧∀x,p<x→t.g? x=some (N0+F.n)→¬t.counts x
structure D3 (F:Fam) (N0 t0 N j:Nat) (c:Bool) (φ:Nat→Nx) (t:Trace):Prop where
 deaf:∀i,i<N→Deaf t i=En (φ i)
 above:∀i,N≤i→Deaf t i=0
 plain:∀x a b,touchAt t x=some a→DO a.loc=some b→(b=F.wg∨b=F.ch)→a.kind= .plain→∀i,i<N→(i=0∨N0≤i)→Knows t i x
 said:∀x a b,touchAt t x=some a→DO a.loc=some b→(b=F.wg∨b=F.ch)→a.kind= .said→Knows t (if c=true then N0+F.n else 0) x
 over:∀x g,t.g? x=some g→g≠0→t.counts x→(∃y,t.g? y=some 0∧HappensBefore t x y)∨(N0≤g∧g<N)
 norel:∀x,t0≤x→t.act? x≠some (.mark (.release F.sA))
 Lg:t0≤t.size
 rel:∀k,k<j→late (φ (N0+k))→∃ρ,t0≤ρ∧RelBy F.sA t (N0+k) ρ
 acq:c=true→(φ (N0+F.n)= .ph .DR∨EW (φ (N0+F.n)))→∃q,IQ F N0 t0 t q
 JU:c=true→EW (φ (N0+F.n))→∃p,K9 F N0 t0 t p
section
variable {F:Fam}{N0 t0 N j:Nat}{c:Bool}{φ:Nat→Nx}{t u:Trace}
def EvS(F:Fam)(K:Prop)(e:Event):Prop:=
 (∀a,(MemAct.ofEvent e).touch? =some a→(∃b,DO a.loc=some b∧(b=F.wg∨b=F.ch))∧a.kind≠ .plain∧(a.kind= .said→K))∧e.loc≠ .mark (.release F.sA)
theorem D3.noRace(h:D3 F N0 t0 N j c φ t)(W:∀said,¬Race said t){i:Nat}(hi:i<N)(Z:i=0∨N0≤i){fn:FuncId}{pos:String}{es:Array Event}
  (aa:∀e∈es,EvS F (i=if c=true then N0+F.n else 0) e):∀said,¬Race said (t++MemOp.ofEvents i fn pos es):=by
 intro said;refine noRace_append (g:=i) (W said) (fun op K=>by obtain⟨e,_,rfl⟩:=mem_ofEvents K;rfl) fun x a O op K d hd ab=>?_;obtain⟨e,he,rfl⟩:=mem_ofEvents K;obtain⟨⟨b,hb,U⟩,ae,hs⟩:=(aa e he).1 d hd;obtain⟨ag,hm,aj,ah⟩:=ab;have V:DO a.loc=some b:=by rw [ag];exact hb
 rcases ah with q | q | ⟨_,q,ai⟩
 ·exact h.plain x a b O V U q i hi Z
 ·exact absurd q ae
 ·have:=h.said x a b O V U q
  rwa [← hs ai] at this
theorem IQ.app{q:Nat}(h:IQ F N0 t0 t q)(V:∀k ρ,k<F.n→RelBy F.sA t (N0+k) ρ→RelBy F.sA (t++u) (N0+k) ρ):IQ F N0 t0 (t++u) q:=by
 obtain⟨O,W,Z,aa⟩:=h;have K:=lt_of_act? O;exact⟨by rw [act?_old K];exact O,by rw [g?_old K];exact W,(heard_old K).2 Z,fun k U=>let ⟨ρ,a,b,d⟩:=aa k U;⟨ρ,a,b,V k ρ U d⟩⟩
theorem K9.app{p:Nat}(h:K9 F N0 t0 t p)(W:∀k ρ,k<F.n→RelBy F.sA t (N0+k) ρ→RelBy F.sA (t++u) (N0+k) ρ)(Z:∀x,t.size≤x→(t++u).g? x=some (N0+F.n)→¬(t++u).counts x):K9 F N0 t0 (t++u) p:=by
 obtain⟨O,aa,ab,⟨q,ae,ag⟩,ah⟩:=h;have K:=lt_of_act? O;refine⟨by rw [act?_old K];exact O,by rw [g?_old K];exact aa,(heard_old K).2 ab,⟨q,ae,ag.app W⟩,fun x ai U V=>?_⟩;rcases Nat.lt_or_ge x t.size with q | q
 ·exact ah x ai (by rw [← g?_old (u:=u) q];exact U) ((counts_old q).1 V)
 ·exact Z x q U V
theorem QL(h:∀x g,t.g? x=some g→g≠0→t.counts x→(∃y,t.g? y=some 0∧HappensBefore t x y)∨(N0≤g∧g<N))(hu:∀op∈u,op.g=0∨(N0≤op.g∧op.g<N)∨op.act.touch? =none):
  ∀x g,(t++u).g? x=some g→g≠0→(t++u).counts x→(∃y,(t++u).g? y=some 0∧HappensBefore (t++u) x y)∨(N0≤g∧g<N):=by
 intro x g O U V;rcases Nat.lt_or_ge x t.size with q | q
 ·rcases h x g (by rw [← g?_old (u:=u) q];exact O) U ((counts_old q).1 V) with⟨y,K,hb⟩ | hh
  ·have ab:y<t.size:=by
    unfold Trace.g? at K;obtain⟨z,ae,_⟩:=Option.map_eq_some_iff.1 K;exact lt_size_of_getElem? ae
   exact .inl ⟨y,by rw [g?_old ab];exact K,hb_app u hb⟩
  ·exact .inr hh
 ·obtain⟨a,ag,_⟩:=V;obtain⟨op,W,Z⟩:=touch_of ag;have aa:op.g=g:=by simpa [Trace.g?,W] using O
  rcases getElem?_append_cases W with⟨ai,_⟩ | ⟨_,ah⟩
  ·omega
  ·rcases hu op ah with z | z | z
   ·exact absurd (aa▸z) U
   ·exact .inr (aa▸z)
   ·rw [z] at Z;cases Z
theorem PZ(h:∀x,t0≤x→t.act? x≠some (.mark (.release F.sA)))(hu:∀op∈u,op.act≠ .mark (.release F.sA)):∀x,t0≤x→(t++u).act? x≠some (.mark (.release F.sA)):=by
 intro x O e;obtain⟨op,U,K⟩:=Option.map_eq_some_iff.1 e;rcases getElem?_append_cases U with⟨_,V⟩ | ⟨_,W⟩
 ·exact h x O (by rw [act?_of V,K])
 ·exact hu op W K
theorem SS{i g:Nat}(hu:∀op∈u,op.g=i)(K:i≠g):∀x,t.size≤x→(t++u).g? x=some g→¬(t++u).counts x:=by
 intro x Z O;obtain⟨op,U,V⟩:=Option.map_eq_some_iff.1 O;rcases getElem?_append_cases U with⟨aa,_⟩ | ⟨_,W⟩
 ·omega
 ·exact absurd ((hu op W).symm.trans V) K
theorem Pl{g:Nat}(hu:∀op∈u,op.g=g→op.act.touch? =none):∀x,t.size≤x→(t++u).g? x=some g→¬(t++u).counts x:=by
 intro x aa U V;obtain⟨a,W,_⟩:=V;obtain⟨op,K,O⟩:=touch_of W;rcases getElem?_append_cases K with⟨ab,_⟩ | ⟨_,Z⟩
 ·omega
 ·rw [hu op Z (by simpa [Trace.g?,K] using U)] at O;cases O
theorem D3.app(h:D3 F N0 t0 N j c φ t){i:Nat}(hi:i<N){x:Nx}{fn:FuncId}{pos:String}{es:Array Event}(aF:j≤F.n)
  (hd:deafBehind (En (φ i)) es=En x)
  (al:∀e∈es,(∀a b,(MemAct.ofEvent e).touch? =some a→DO a.loc=some b→(b=F.wg∨b=F.ch)→a.kind≠ .plain∧(a.kind= .said→i=if c=true then N0+F.n else 0))∧e.loc≠ .mark (.release F.sA))
  (av:(i=0∨N0≤i)∨∀e∈es,(MemAct.ofEvent e).touch? =none)
  (am:c=true→(φ (N0+F.n)= .ph .DR∨EW (φ (N0+F.n)))→∀k,k<F.n→late (φ (N0+k)))
  (aw:∀k,k<F.n→i=N0+k→late (φ i)→∀ρ,RelBy F.sA t i ρ→RelBy F.sA (t++MemOp.ofEvents i fn pos es) i ρ)
  (ay:∀k,k<j→i=N0+k→late x→¬late (φ i)→∃ρ,t0≤ρ∧RelBy F.sA (t++MemOp.ofEvents i fn pos es) i ρ)
  (az:c=true→i=N0+F.n→(x= .ph .DR∨EW x)→(∃q,IQ F N0 t0 (t++MemOp.ofEvents i fn pos es) q)∨(φ i= .ph .DR∨EW (φ i)))
  (aA:c=true→i=N0+F.n→EW x→(∃p,K9 F N0 t0 (t++MemOp.ofEvents i fn pos es) p)∨(EW (φ i)∧∀e∈es,(MemAct.ofEvent e).touch? =none)):
  D3 F N0 t0 N j c (upd φ i x) (t++MemOp.ofEvents i fn pos es):=by
 generalize hu:MemOp.ofEvents i fn pos es=u at*;have Z:∀op∈u,op.g=i:=fun op O=>by rw [← hu] at O;obtain⟨e,_,rfl⟩:=mem_ofEvents O;rfl
 have aj:∀op∈u,∃e∈es,op.act=MemAct.ofEvent e:=fun op O=>by rw [← hu] at O;obtain⟨e,he,rfl⟩:=mem_ofEvents O;exact⟨e,he,rfl⟩
 have hold:∀{y a},touchAt (t++u) y=some a→touchAt t y=some a∨(Knows (t++u) i y∧∃e∈es,(MemAct.ofEvent e).touch? =some a):=by
  intro y a U;obtain⟨op,O,ar⟩:=touch_of U;rcases getElem?_append_cases O with⟨aG,aB⟩ | ⟨_,au⟩
  ·left;rw [touchAt_of aB];exact ar
  ·right;obtain⟨e,he,aa⟩:=aj op au;exact⟨by have:=knows_own O;rwa [Z op au] at this,e,he,by rw [← aa];exact ar⟩
 have ak:∀k ρ,k<F.n→late (φ (N0+k))→RelBy F.sA t (N0+k) ρ→RelBy F.sA (t++u) (N0+k) ρ:=by
  intro k ρ K ae W;by_cases e:i=N0+k
  ·have:=aw k K e (e▸ae) ρ (e▸W)
   rwa [e] at this
  ·exact W.appOther Z e
 refine⟨fun ab ag=>?_,fun ab ag=>?_,fun y a b an hb ah K ab ag ai=>?_,fun y a b an hb ah K=>?_,QL h.over fun op O=>?_,PZ h.norel fun op O e=>?_,by simp;have:=h.Lg;omega,fun k K ae=>?_,fun V U=>?_,fun V U=>?_⟩
 ·by_cases e:ab=i
  ·subst e;rw [upd_same,← hu,Deaf_own,h.deaf ab hi,hd]
  ·rw [upd_ne _ _ e,Deaf_other t (Ne.symm e) u Z];exact h.deaf ab ag
 ·rw [Deaf_other t (by omega) u Z];exact h.above ab ag
 ·rcases hold an with q | ⟨_,e,he,ao⟩
  ·exact(h.plain y a b q hb ah K ab ag ai).app _
  ·exact absurd K ((al e he).1 a b ao hb ah).1
 ·rcases hold an with q | ⟨aC,e,he,ao⟩
  ·exact(h.said y a b q hb ah K).app _
  ·rw [← ((al e he).1 a b ao hb ah).2 K];exact aC
 ·rw [Z op O];rcases av with(q | q) | q
  ·exact .inl q
  ·exact .inr (.inl ⟨q,hi⟩)
  ·obtain⟨e,he,aa⟩:=aj op O;rw [aa];exact .inr (.inr (q e he))
 ·obtain⟨ev,ap,aa⟩:=aj op O;rw [aa] at e;exact(al ev ap).2 (by
   obtain⟨loc,wr,aD⟩:=ev
   cases loc with
   | mark m=>simp only [MemAct.ofEvent,MemAct.mark.injEq] at e;rw [e]
   | obj r=>cases wr <;> cases aD <;> simp [MemAct.ofEvent] at e
   | _=>simp [MemAct.ofEvent] at e)
 ·by_cases e:i=N0+k
  ·subst e;rw [upd_same] at ae;by_cases aq:late (φ (N0+k))
   ·obtain⟨ρ,a,b⟩:=h.rel k K aq;exact⟨ρ,a,ak k ρ (by omega) aq b⟩
   ·exact ay k K rfl ae aq
  ·rw [upd_ne _ _ (Ne.symm e)] at ae;obtain⟨ρ,a,b⟩:=h.rel k K ae;exact⟨ρ,a,b.appOther Z e⟩
 ·have old:(φ (N0+F.n)= .ph .DR∨EW (φ (N0+F.n)))→∃q,IQ F N0 t0 (t++u) q:=by
   intro U;obtain⟨q,aE⟩:=h.acq V U;exact⟨q,aE.app fun k ρ K W=>ak k ρ K (am V U k K) W⟩
  by_cases e:i=N0+F.n
  ·subst e;rw [upd_same] at U;rcases az V rfl U with q | q
   ·exact q
   ·exact old q
  ·rw [upd_ne _ _ (Ne.symm e)] at U;exact old U
 ·by_cases e:i=N0+F.n
  ·subst e;rw [upd_same] at U;rcases aA V rfl U with q | ⟨q,hm⟩
   ·exact q
   ·obtain⟨p,ai⟩:=h.JU V q;exact⟨p,ai.app (fun k ρ K W=>ak k ρ K (am V (.inr q) k K) W) (Pl fun op O _=>by obtain⟨ev,ap,aa⟩:=aj op O;rw [aa];exact hm ev ap)⟩
  ·rw [upd_ne _ _ (Ne.symm e)] at U;obtain⟨p,ai⟩:=h.JU V U;exact⟨p,ai.app (fun k ρ K W=>ak k ρ K (am V (.inr U) k K) W) (SS Z e)⟩
end
end Pal
namespace Pal
open Go Go.Conc
open Go.ConcN (upd upd_same upd_ne sumTo sumTo_upd sumTo_upd_out sumTo_congr le_sumTo sumTo_le fork_knows RelBy)
section
variable {F:Fam}{N0 t0 N j:Nat}{c:Bool}{φ:Nat→Nx}{t u:Trace}{v wt sm v' wt' sm':Nat}{cl:Bool}
theorem Pt{x:Nx}(h:EW x):late x:=by
 cases x with
 | gone d=>trivial
 | ph p=>exact h.elim
theorem Oe{α:Type}(f:Nat→α)(i:Nat):upd f i (f i)=f:=by
 funext a;unfold upd;split
 ·rename_i e;rw [e]
 ·rfl
theorem Ce.Mn(K:Ce F N0 N j c φ v wt sm cl)(O:c=true)(h:φ (N0+F.n)= .ph .DR∨EW (φ (N0+F.n))):∀k,k<F.n→late (φ (N0+k)):=fun k U=>
 Pt (K.Ou O (h.elim (fun e=> .inr (.inr (.inr (.inl e)))) fun e=> .inr (.inr (.inr (.inr e)))) k (by rw [K.cj O];exact U))
theorem Uw{m:Mark}(K:∀a,m≠ .read a)(O:∀a,m≠ .write a):(MemAct.ofEvent (Fam.Et m)).touch? =none:=by
 cases m <;> first | rfl | exact absurd rfl (K _) | exact absurd rfl (O _)
theorem Sd(p:Ph){es:Array Event}{nx:Nx}(K:F.act p v wt sm=some ((v',wt',sm'),es,nx)):
  (∀e∈es,EvS F (p= .G5∨∃j,p= .Gy j) e)∧deafBehind (En (.ph p)) es=En nx∧(∀e∈es,∀B,F.wg<B→(MemAct.ofEvent e).low B):=by
 have am:∀b w,(MemAct.ofEvent ⟨.cell F.sA,w,b⟩).touch? =some ⟨.cell F.sA,w,if b then .atomic else .plain⟩:=by intro b w;cases b <;> cases w <;> rfl
 have aa:∀(a:Addr) w (T:Prop),a.block=F.wg→EvS F T ⟨.cell a,w,true⟩:=by
  intro a w T hb;refine⟨fun x U=>?_,by simp⟩;have:x=⟨.cell a,w,.atomic⟩:=by cases w <;> (simp [MemAct.ofEvent,MemAct.touch?] at U;exact U.symm)
  subst this;exact⟨⟨F.wg,by simp [DO,hb],.inl rfl⟩,by simp,by simp⟩
 have ab:∀(a:Addr) w B,a.block=F.wg→F.wg<B→(MemAct.ofEvent ⟨.cell a,w,true⟩).low B:=by
  intro a w B hb O;cases w <;> simp [MemAct.ofEvent,MemAct.low,Loc.low,hb,O]
 have Z:∀(m:Mark) (T:Prop),(∀a,m≠ .read a)→(∀a,m≠ .write a)→(∀a,m≠ .release a)→EvS F T (Fam.Et m):=by
  intro m T aj ak al;exact⟨fun x U=>(by rw [Uw aj ak] at U;cases U),fun e=>al _ (Loc.mark.inj e)⟩
 have ae:F.mA.block=F.wg:=rfl;have W:F.sA.block=F.wg:=rfl;have EC:∀(T:Prop),∀e∈semEvents F.mA,EvS F T e:=by
  intro T e he;simp only [semEvents,List.mem_toArray,List.mem_cons,List.not_mem_nil,or_false] at he;rcases he with rfl | rfl | rfl | rfl
  ·exact Z .disable T (by simp) (by simp) (by simp)
  ·exact aa _ _ _ ae
  ·exact aa _ _ _ ae
  ·exact Z .enable T (by simp) (by simp) (by simp)
 have ai:∀e∈semEvents F.mA,∀B,F.wg<B→(MemAct.ofEvent e).low B:=by
  intro e he B O;simp only [semEvents,List.mem_toArray,List.mem_cons,List.not_mem_nil,or_false] at he;rcases he with rfl | rfl | rfl | rfl
  ·trivial
  ·exact ab _ _ _ ae O
  ·exact ab _ _ _ ae O
  ·trivial
 have ag:∀(T:Prop),∀e∈(#[Fam.Fa F.sA,Fam.Im F.sA]:Array Event),EvS F T e:=by
  intro T e he;simp only [List.mem_toArray,List.mem_cons,List.not_mem_nil,or_false] at he;rcases he with rfl | rfl <;> exact aa _ _ _ W
 have ah:∀e∈(#[Fam.Fa F.sA,Fam.Im F.sA]:Array Event),∀B,F.wg<B→(MemAct.ofEvent e).low B:=by
  intro e he B O;simp only [List.mem_toArray,List.mem_cons,List.not_mem_nil,or_false] at he;rcases he with rfl | rfl <;> exact ab _ _ _ W O
 have one:∀{e:Event} {T:Prop},EvS F T e→∀x∈(#[e]:Array Event),EvS F T x:=by
  intro e T h x U;simp at U;subst U;exact h
 have V:∀{e:Event},(∀B,F.wg<B→(MemAct.ofEvent e).low B)→∀x∈(#[e]:Array Event),∀B,F.wg<B→(MemAct.ofEvent x).low B:=by
  intro e h x U;simp at U;subst U;exact h
 cases p <;> simp only [Fam.act] at K <;> (try (cases K;done))
 ·cases K;exact⟨one (Z _ _ (by simp) (by simp) (by simp)),rfl,V fun B O=>O⟩
 ·cases K;exact⟨one (Z _ _ (by simp) (by simp) (by simp)),rfl,V fun B O=>trivial⟩
 ·split at K
  ·cases K;exact⟨ag _,by split <;> rfl,ah⟩
  ·cases K
 ·split at K
  ·cases K;exact⟨one (aa _ _ _ W),rfl,V fun B O=>ab _ _ _ W O⟩
  ·cases K
 ·split at K
  ·cases K;exact⟨one (aa _ _ _ W),rfl,V fun B O=>ab _ _ _ W O⟩
  ·cases K
 ·split at K
  ·cases K;exact⟨EC _,rfl,ai⟩
  ·cases K
 ·cases K;exact⟨one (Z _ _ (by simp) (by simp) (by simp)),rfl,V fun B O=>trivial⟩
 ·split at K
  ·cases K;exact⟨one (aa _ _ _ W),by split <;> rfl,V fun B O=>ab _ _ _ W O⟩
  ·cases K
 ·split at K
  ·split at K
   ·cases K;exact⟨ag _,rfl,ah⟩
   ·cases K;exact⟨one (aa _ _ _ W),rfl,V fun B O=>ab _ _ _ W O⟩
  ·cases K
 ·cases K;refine⟨one ⟨fun x U=>?_,by simp [Fam.Et]⟩,rfl,V fun B O=>O⟩;simp [Fam.Et,MemAct.ofEvent,MemAct.touch?] at U;subst U;exact⟨⟨F.wg,rfl,.inl rfl⟩,by simp,fun _=> .inl rfl⟩
 ·split at K
  ·cases K;exact⟨EC _,rfl,ai⟩
  ·cases K
 ·split at K
  ·cases K;exact⟨one (aa _ _ _ W),rfl,V fun B O=>ab _ _ _ W O⟩
  ·cases K
 ·cases K;exact⟨one (Z _ _ (by simp) (by simp) (by simp)),rfl,V fun B O=>trivial⟩
 ·cases K;exact⟨one (Z _ _ (by simp) (by simp) (by simp)),rfl,V fun B O=>O⟩
 ·cases K;exact⟨one (Z _ _ (by simp) (by simp) (by simp)),rfl,V fun B O=>trivial⟩
 ·split at K
  ·cases K;exact⟨ag _,by split <;> rfl,ah⟩
  ·cases K
 ·cases K;refine⟨one ⟨fun x U=>?_,by simp [Fam.Et]⟩,rfl,V fun B O=>O⟩;simp [Fam.Et,MemAct.ofEvent,MemAct.touch?] at U;subst U;exact⟨⟨F.wg,rfl,.inl rfl⟩,by simp,fun _=> .inr ⟨_,rfl⟩⟩
 ·cases K;exact⟨one (Z _ _ (by simp) (by simp) (by simp)),rfl,V fun B O=>trivial⟩
 all_goals
  cases K;exact⟨by simp,rfl,by simp⟩
theorem U4(p:Ph){es:Array Event}{nx:Nx}(K:F.act p v wt sm=some ((v',wt',sm'),es,nx)){k:Nat}(hw:HG F k (.ph p))(O:late (.ph p)):
  ∀m e,es[m]? =some e→(MemAct.ofEvent e).touch? =none∨((∃ad wr,e=⟨.cell ad,wr,true⟩)∧0<deafBehind (En (.ph p)) (es.extract 0 m)):=by
 have two:∀m e,(#[Fam.Fa F.sA,Fam.Im F.sA]:Array Event)[m]? =some e→(∃ad wr,e=⟨.cell ad,wr,true⟩)∧0<deafBehind 1 ((#[Fam.Fa F.sA,Fam.Im F.sA]:Array Event).extract 0 m):=by
  intro m e h
  match m with
  | 0=>simp at h;subst h;exact⟨⟨_,_,rfl⟩,by simp [deafBehind]⟩
  | 1=>simp at h;subst h;exact⟨⟨_,_,rfl⟩,by simp [deafBehind,Fam.Fa]⟩
  | m+2=>simp at h
 cases p <;> simp only [HG] at hw <;> (try exact hw.elim) <;> simp only [late] at O <;> (try exact O.elim) <;> simp only [Fam.act] at K <;> (try (cases K;done))
 ·cases K;intro m e h
  match m with
  | 0=>simp at h;subst h;exact .inl rfl
  | m+1=>simp at h
 ·split at K
  ·cases K;exact fun m e h=> .inr (two m e h)
  ·cases K
 ·split at K
  ·cases K;intro m e h
   match m with
   | 0=>simp at h;subst h;exact .inr ⟨⟨_,_,rfl⟩,by simp [deafBehind,En]⟩
   | m+1=>simp at h
  ·cases K
 ·split at K
  ·cases K;intro m e h
   match m with
   | 0=>simp at h;subst h;exact .inr ⟨⟨_,_,rfl⟩,by simp [deafBehind,En]⟩
   | m+1=>simp at h
  ·cases K
 ·split at K
  ·cases K;intro m e h
   match m with
   | 0=>simp [semEvents] at h;subst h;exact .inl rfl
   | 1=>simp [semEvents] at h;subst h;exact .inr ⟨⟨_,_,rfl⟩,by simp [deafBehind,En,semEvents]⟩
   | 2=>simp [semEvents] at h;subst h;exact .inr ⟨⟨_,_,rfl⟩,by simp [deafBehind,En,semEvents]⟩
   | 3=>simp [semEvents] at h;subst h;exact .inl rfl
   | m+4=>simp [semEvents] at h
  ·cases K
theorem D3.act(h:D3 F N0 t0 N j c φ t)(O:Ce F N0 N j c φ v wt sm cl){i:Nat}(hi:i<N){p:Ph}(U:φ i= .ph p){es:Array Event}{nx:Nx}(K:F.act p v wt sm=some ((v',wt',sm'),es,nx))(fn:FuncId)(pos:String):
  D3 F N0 t0 N j c (upd φ i nx) (t++MemOp.ofEvents i fn pos es)∧(∀e∈es,EvS F (i=if c=true then N0+F.n else 0) e)∧(i=0∨N0≤i):=by
 obtain⟨ah,al,_⟩:=Sd p K;have aw:=O.size;have am:=O.jn;have an:(p= .G5∨∃j,p= .Gy j)→i=if c=true then N0+F.n else 0:=by
  rintro(rfl | ⟨ay,rfl⟩)
  ·rcases O.Fv hi with rfl | ⟨a,b⟩ | ⟨k,W,rfl⟩ | ⟨V,rfl⟩
   ·obtain⟨q,ab,hm⟩:=O.main;rw [U] at ab;cases ab;exact hm.elim
   ·have:=O.old i a b;rw [U] at this;exact this.elim
   ·have:=O.work k W;rw [U] at this;exact this.elim
   ·rw [if_pos V]
  ·rcases O.Fv hi with rfl | ⟨a,b⟩ | ⟨k,W,rfl⟩ | ⟨V,rfl⟩
   ·obtain⟨q,ab,hm⟩:=O.main;rw [U] at ab;cases ab;obtain⟨_,_,rfl⟩:=hm;rfl
   ·have:=O.old i a b;rw [U] at this;exact this.elim
   ·have:=O.work k W;rw [U] at this;exact this.elim
   ·have:=O.cls V;rw [U] at this;exact this.elim
 have ai:∀e∈es,EvS F (i=if c=true then N0+F.n else 0) e:=fun e he=>⟨fun a ae=>let ⟨x,y,z⟩:=(ah e he).1 a ae;⟨x,y,fun q=>an (z q)⟩,(ah e he).2⟩
 have aj:i=0∨N0≤i:=by
  rcases O.Fv hi with rfl | ⟨a,b⟩ | ⟨k,W,rfl⟩ | ⟨V,rfl⟩
  ·exact .inl rfl
  ·have:=O.old i a b;rw [U] at this;exact this.elim
  ·exact .inr (by omega)
  ·exact .inr (by omega)
 refine⟨h.app hi am (by rw [U];exact al) (fun e he=>⟨fun a b ae hb az=>⟨((ai e he).1 a ae).2.1,((ai e he).1 a ae).2.2⟩,(ah e he).2⟩) (.inl aj) (fun V Z=>O.Mn V Z) (fun k W e ag ρ ao=>?_) (fun k W e ag ak=>?_) (fun V e Z=>?_) (fun V e Z=>?_),ai,aj⟩
 ·subst e;rw [U] at ag;refine ao.appOwn fn pos es fun m e he=>?_;have aa:k<j∨(c=true∧F.n=k):=by
   rcases O.Fv hi with q | ⟨a,b⟩ | ⟨k',aA,q⟩ | ⟨V,q⟩
   ·have:=O.pos;omega
   ·omega
   ·left;omega
   ·omega
  rcases aa with aa | ⟨_,q⟩
  ·have hw:=O.work k aa;rw [U] at hw;rw [h.deaf _ hi,U];exact U4 p K hw ag m e he
  ·omega
 ·subst e;rw [U] at ak;have hw:=O.work k W;rw [U] at hw;have ap:p= .Gk:=by
   cases p <;> simp only [HG] at hw <;> (try exact hw.elim) <;> simp [late] at ak
   ·simp [Fam.act] at K
   ·rfl
   ·simp only [Fam.act] at K;cases K;exact ag.elim
  subst ap;simp only [Fam.act] at K;cases K;exact⟨t.size,h.Lg,.new (by rw [h.deaf _ hi,U];rfl) fn pos⟩
 ·subst e;left;have hw:=O.cls V;rw [U] at hw;have aq:p= .GB∧nx= .ph .DR:=by
   rcases Z with rfl | Z
   ·cases p <;> simp only [Hk] at hw <;> (try exact hw.elim) <;> simp only [Fam.act] at K <;> (try (cases K;done))
    ·split at K
     ·split at K <;> cases K
     ·cases K
    ·split at K
     ·split at K <;> cases K
     ·cases K
    ·split at K <;> cases K
    ·split at K <;> cases K
    ·exact⟨rfl,rfl⟩
   ·cases nx with
    | ph q=>exact Z.elim
    | gone d=>
     exfalso;cases p <;> simp only [Hk] at hw <;> (try exact hw.elim) <;> simp only [Fam.act] at K <;> (try (cases K;done))
     ·split at K
      ·split at K <;> cases K
      ·cases K
     ·split at K
      ·split at K <;> cases K
      ·cases K
     ·split at K <;> cases K
     ·split at K <;> cases K
  obtain⟨rfl,rfl⟩:=aq;simp only [Fam.act] at K;cases K;have ar:MemOp.ofEvents (N0+F.n) fn pos #[Fam.Et (.acquire F.sA)]= #[{g:=N0+F.n,fn,pos,act:= .mark (.acquire F.sA)}]:=by rw [ofEvents_eq];simp [Fam.Et,MemAct.ofEvent]
  rw [ar];have au:(t++ #[({g:=N0+F.n,fn,pos,act:= .mark (.acquire F.sA)}:MemOp)])[t.size]? =some {g:=N0+F.n,fn,pos,act:= .mark (.acquire F.sA)}:=by simp
  refine⟨t.size,by rw [act?_of au],by simp [Trace.g?],⟨N0+F.n,by simp [Trace.g?],by rw [deaf_old (Nat.le_refl _)];have:=h.deaf _ hi;rw [U] at this;exact this⟩,fun k W=>?_⟩;have av:=O.Ou V (.inr (.inr (.inl U)));have aa:k<j:=by rw [O.cj V];exact W
  obtain⟨ρ,a,b⟩:=h.rel k aa (Pt (av k aa));exact⟨ρ,a,lt_of_act? b.act,b.appOther (g:=N0+F.n) (by simp) (by omega)⟩
 ·subst e;exfalso;have hw:=O.cls V;rw [U] at hw;cases nx with
  | ph q=>exact Z.elim
  | gone d=>
   cases p <;> simp only [Hk] at hw <;> (try exact hw.elim) <;> simp only [Fam.act] at K <;> (try (cases K;done))
   ·split at K
    ·split at K <;> cases K
    ·cases K
   ·split at K
    ·split at K <;> cases K
    ·cases K
   ·split at K <;> cases K
   ·split at K <;> cases K
theorem D3.Di(h:D3 F N0 t0 N j c φ t)(aq:Ce F N0 N j c φ v wt sm cl)(hu:∀op∈u,op.act.touch? =none∧∀m,op.act≠ .mark m):D3 F N0 t0 N j c φ (t++u):=by
 have ah:∀g,Deaf (t++u) g=Deaf t g:=by
  intro g;obtain⟨l⟩:=u;rw [Deaf_append]
  induction l generalizing t with
  | nil=>rfl
  | cons y l ar=>
   have U:=(hu y (by simp)).2;have aj:deafStep g (Deaf t g) y=Deaf t g:=by
    unfold deafStep;split <;> first | (rename_i e;exact absurd e (U _)) | rfl
   rw [List.foldl_cons,aj];have key:∀(l:List MemOp) (d:Nat),(∀op∈l,∀m,op.act≠ .mark m)→l.foldl (deafStep g) d=d:=by
    intro l
    induction l with
    | nil=>intro d _;rfl
    | cons z l ak=>
     intro d Z;have al:=Z z (by simp);have e2:deafStep g d z=d:=by
      unfold deafStep;split <;> first | (rename_i e;exact absurd e (al _)) | rfl
     rw [List.foldl_cons,e2];exact ak d fun op K=>Z op (by simp [K])
   exact key l _ fun op K=>(hu op (by simp at K ⊢;exact .inr K)).2
 have hold:∀{y a},touchAt (t++u) y=some a→touchAt t y=some a:=by
  intro y a O;obtain⟨op,K,aa⟩:=touch_of O;rcases getElem?_append_cases K with⟨au,am⟩ | ⟨_,an⟩
  ·rw [touchAt_of am];exact aa
  ·rw [(hu op an).1] at aa;cases aa
 have ai:∀g x,t.size≤x→(t++u).g? x=some g→¬(t++u).counts x:=fun g=>Pl fun op K _=>(hu op K).1;have V:∀g ρ,RelBy F.sA t g ρ→RelBy F.sA (t++u) g ρ:=fun g ρ V=>V.app fun x O ao=>ai g x O ao;refine⟨fun i hi=>by rw [ah];exact h.deaf i hi,fun i hi=>by rw [ah];exact h.above i hi,fun y a b U hb ab W i hi ae=>(h.plain y a b (hold U) hb ab W i hi ae).app _,fun y a b U hb ab W=>(h.said y a b (hold U) hb ab W).app _,
  QL h.over fun op K=> .inr (.inr (hu op K).1),PZ h.norel fun op K=>(hu op K).2 _,by simp;have:=h.Lg;omega,fun k W Z=>let ⟨ρ,a,b⟩:=h.rel k W Z;⟨ρ,a,V _ _ b⟩,
  fun ag O=>let ⟨q,ap⟩:=h.acq ag O;⟨q,ap.app fun k ρ _=>V _ ρ⟩,fun ag O=>let ⟨p,ae⟩:=h.JU ag O;⟨p,ae.app (fun k ρ _=>V _ ρ) (ai _)⟩⟩
theorem D3.VC(h:D3 F N0 t0 N j c φ t){U:Nat→Nx}(hd:∀i,i<N→En (U i)=En (φ i))(Z:∀k,k<j→late (U (N0+k))→late (φ (N0+k)))(V:c=true→U (N0+F.n)=φ (N0+F.n)):D3 F N0 t0 N j c U t:=
 ⟨fun i hi=>by rw [hd i hi];exact h.deaf i hi,h.above,h.plain,h.said,h.over,h.norel,h.Lg,fun k W K=>h.rel k W (Z k W K),fun O K=>h.acq O (by rwa [V O] at K),fun O K=>h.JU O (by rwa [V O] at K)⟩
theorem D3.spawn(h:D3 F N0 t0 N j c φ t)(aa:Ce F N0 N j c φ v wt sm cl)(am:c=false){W:Nat→Nx}{ag:Nat}{ah:Bool}(hd:∀i,i<N→En (W i)=En (φ i))(an:En (W N)=0)(ao:En (φ 0)=0)
  (ap:∀k,k<ag→late (W (N0+k))→k<j∧late (φ (N0+k))) (ab:ah=true→N0+F.n=N∧W (N0+F.n)= .ph .C5)
  {x y:MemOp} (K:x.g=0∧x.act= .go N) (ai:y.g=N∧y.act= .start):D3 F N0 t0 (N+1) ag ah W (t++ #[x,y]):=by
 have aj:0<N:=by have:=aa.size;have:=aa.pos;omega
 have hu:∀op∈(#[x,y]:Array MemOp),op.act.touch? =none∧∀m,op.act≠ .mark m:=by
  intro op ak;simp only [List.mem_toArray,List.mem_cons,List.not_mem_nil,or_false] at ak;rcases ak with rfl | rfl
  ·rw [K.2];exact⟨rfl,by simp⟩
  ·rw [ai.2];exact⟨rfl,by simp⟩
 have O:=h.Di aa hu;have al:∀z,Knows t 0 z→Knows (t++ #[x,y]) N z:=fun z U=>fork_knows K ai (by rw [h.deaf 0 aj];exact ao) (h.above N (Nat.le_refl _)) U;have hold:∀{z a},touchAt (t++ #[x,y]) z=some a→touchAt t z=some a:=by
  intro z a U;obtain⟨op,aq,ae⟩:=touch_of U;rcases getElem?_append_cases aq with⟨aA,ar⟩ | ⟨_,au⟩
  ·rw [touchAt_of ar];exact ae
  ·rw [(hu op au).1] at ae;cases ae
 refine⟨fun i hi=>?_,fun i hi=>O.above i (by omega),fun z a b U hb Z V i hi av=>?_,fun z a b U hb Z V=>?_,fun z g aw ay az=>?_,O.norel,O.Lg,fun k V K=>?_,fun e K=>?_,fun e K=>?_⟩
 ·rcases Nat.lt_or_ge i N with q | q
  ·rw [hd i q];exact O.deaf i q
  ·obtain rfl:i=N:=by omega
   rw [an];exact O.above i (Nat.le_refl _)
 ·rcases Nat.lt_or_ge i N with q | q
  ·exact O.plain z a b U hb Z V i q av
  ·obtain rfl:i=N:=by omega
   exact al z (h.plain z a b (hold U) hb Z V 0 aj (.inl rfl))
 ·have:=h.said z a b (hold U) hb Z V;rw [am] at this;simp only [Bool.false_eq_true,if_false] at this;split
  ·rename_i e;rw [(ab e).1];exact al z this
  ·exact this.app _
 ·rcases O.over z g aw ay az with q | q
  ·exact .inl q
  ·exact .inr ⟨q.1,by omega⟩
 ·obtain⟨a,b⟩:=ap k V K;exact O.rel k a b
 ·have:=(ab e).2;rw [this] at K;rcases K with q | q
  ·cases q
  ·exact q.elim
 ·have:=(ab e).2;rw [this] at K;exact K.elim
end
end Pal
namespace Pal
open Go Go.Conc
open Go.ConcN (upd upd_same upd_ne sumTo sumTo_upd sumTo_upd_out sumTo_congr le_sumTo sumTo_le fork_knows RelBy)
def Dn(N:Nat)(K r:Nat→Rk):Prop:=∃i,i<N∧Rk.sub (K i) (r i)∧∀j,j≠i→K j=r j
theorem Dn.wf:∀N,WellFounded (Dn N)
 | 0=>⟨fun _=>⟨_,fun _ ⟨_,h,_⟩=>by omega⟩⟩
 | N+1=>⟨by
  have key:∀x:Rk,∀r:Nat→Rk,r N=x→Acc (Dn (N+1)) r:=by
   intro x
   induction x using Rk.wf.induction with
   | _ x V=>
    intro r
    induction r using (Dn.wf N).induction with
    | _ r W=>
     intro e
     refine⟨_,fun K ⟨i,hi,hs,O⟩=>?_⟩
     by_cases U:i=N
     ·subst U;exact V (K i) (by rw [← e];exact hs) K rfl
     ·exact W K ⟨i,by omega,hs,O⟩ (by rw [O N (Ne.symm U),e])
  exact fun r=>key _ r rfl⟩
def chain:Nat→Rk
 | 0=> .leaf
 | n+1=> .node fun _=>chain n
theorem Ur(n:Nat)(w:World):Rk.sub (chain n) (chain (n+1)):=⟨_,w,rfl,rfl⟩
def Mu:=Nat×(Nat×((Nat→Rk)×Nat))
def Mu.lt(a b:Mu):Prop:=a.1<b.1∨(a.1=b.1∧a.2.1=b.2.1∧(Dn b.2.1 a.2.2.1 b.2.2.1∨(a.2.2.1=b.2.2.1∧a.2.2.2<b.2.2.2)))
theorem Mu.wf:WellFounded Mu.lt:=⟨by
 have key:∀(A:Nat) (N:Nat) (r:Nat→Rk) (B:Nat),Acc Mu.lt (A,N,r,B):=by
  intro A
  induction A using Nat.strongRecOn with
  | _ A Z=>
   intro N r
   induction r using (Dn.wf N).induction with
   | _ r aa=>
    intro B
    induction B using Nat.strongRecOn with
    | _ B ab=>
     refine⟨_,fun⟨ae,ag,U,B'⟩ h=>?_⟩
     rcases h with h | ⟨K,O,h | ⟨V,W⟩⟩
     ·exact Z ae h ag U B'
     ·simp only at K O h;subst K O;exact aa U h B'
     ·simp only at K O V W;subst K O V;exact ab B' W
 exact fun⟨A,N,r,B⟩=>key A N r B⟩
def wt(n:Nat):Nx→Nat
 | .gone _=>0
 | .ph p=>match p with
  | .Cx _=>10 | .CZ=>9 | .Gk=>8 | .HN=>7 | .G3=>6 | .Gj=>5 | .Gx=>4 | .Ex=>3
  | .C5=>3*n+25 | .FE m=>3*m+20 | .G1 m=>3*m+19 | .Ht=>14 | .G5=>13 | .Dw=>12 | .Gw=>11 | .Fs=>10 | .Hq=>9 | .GB=>8 | .DR=>7
  | .Fi j=>5*n+60+20*(n - j) | .Hr j=>5*n+59+20*(n - j) | .G6 j=>5*n+58+20*(n - j) | .Gy j=>5*n+57+20*(n - j) | .F5 j=>5*n+56+20*(n - j) | .EZ j=>5*n+55+20*(n - j)
  | .FI=>5*n+60 | .Cd _ _=>2
theorem RU{F:Fam}{p:Ph}{v w sm v' w' sm':Nat}{es:Array Event}{nx:Nx}(h:F.act p v w sm=some ((v',w',sm'),es,nx)):wt F.n nx<wt F.n (.ph p):=by
 cases p <;> simp only [Fam.act] at h <;> (try (cases h;done))
 ·cases h;simp [wt]
 ·cases h;simp [wt]
 ·split at h
  ·cases h;split <;> simp [wt]
  ·cases h
 ·split at h
  ·cases h;simp [wt]
  ·cases h
 ·split at h
  ·cases h;simp [wt]
  ·cases h
 ·split at h
  ·cases h;simp [wt]
  ·cases h
 ·cases h;simp [wt]
 ·split at h
  ·cases h;split <;> simp [wt] <;> omega
  ·cases h
 ·split at h
  ·split at h <;> cases h <;> simp [wt] <;> omega
  ·cases h
 ·cases h;simp [wt]
 ·split at h
  ·cases h;simp [wt]
  ·cases h
 ·split at h
  ·cases h;simp [wt]
  ·cases h
 ·cases h;simp [wt]
 ·cases h;simp [wt]
 ·cases h;simp [wt]
 ·split at h
  ·cases h;split <;> simp [wt]
  ·cases h
 ·cases h;simp [wt]
 ·cases h;simp [wt]
 all_goals cases h;simp [wt]
inductive DK (P:Program) (F:Fam) (main:Bool):Nx→Rk→Bool→Gs_
 | walk {p:Ph} {r:Rk} {g:Goroutine} {s:St}:main=Fam.DF p→(Fam.Ee p=true→s= .quiet)→Jr P main (JQ (Stop P F p)) r g s→DK P F main (.ph p) r true g s
 | again {K:List Nat} {vs:Lv_} {r:Rk} {g:Goroutine} {s:St} {z:Value}:main=true→Stop P F (.Cd K vs) g s→DK P F main (.ph (.Cd K vs)) r true {parked g #[rcase F.ch z] (.recv true) with status:= .running} s
 | FG {K:List Nat} {vs:Lv_} {r:Rk} {g:Goroutine} {s:St} {z:Value}:main=true→Stop P F (.Cd K vs) g s→DK P F main (.ph (.Cd K vs)) r false (parked g #[rcase F.ch z] (.recv true)) s
 | F1 {k:Nat} {r:Rk} {g:Goroutine} {s:St} {v z:Value}:main=false→F.msg k v s.E→s.q=false→Way P false (Stop P F .CZ) (served g undef) s→DK P F main (.ph (.Cx k)) r false (parked g #[scase F.ch v z] .send) s
 | blk {r:Rk} {g:Goroutine} {s:St}:main=false→Stop P F .Dw g s→DK P F main (.ph .Dw) r false {g with status:= .blocked} s
 | gone {q d:Nat} {g:Goroutine}:main=false→QuitsD P q d g→DK P F main (.gone d) (chain q) true g .quiet
section
variable {P:Program}{F:Fam}{main:Bool}
theorem Jr.running{p:Ph}{r:Rk}{g:Goroutine}{s:St}(h:Jr P main (JQ (Stop P F p)) r g s):g.status= .running:=by
 cases r with
 | leaf=>obtain⟨s₀,_,hs⟩:=h;exact hs.law.run
 | node f=>
  rcases h with⟨s₀,_,hs⟩ | ⟨K,_⟩
  ·exact hs.law.run
  ·exact K
theorem Jr.at_{Q:GP}{r:Rk}{g:Goroutine}{s:St}(h:Q g s):Jr P main Q r g s:=by
 cases r with
 | leaf=>exact h
 | node f=>exact .inl h
theorem DK.awake{x:Nx}{r:Rk}{b:Bool}{g:Goroutine}{s:St}(h:DK P F main x r b g s):Go.Conc.awake g:=by
 cases h with
 | walk _ _ K=>exact awake_of (.inl K.running)
 | again _ _=>exact awake_of (.inl rfl)
 | FG _ _=>exact awake_of (.inr (.inl rfl))
 | F1 _ _ _ _=>exact awake_of (.inr (.inl rfl))
 | blk _ _=>exact awake_of (.inr (.inl rfl))
 | gone _ O=>exact awake_of (O.status.elim .inl fun x=> .inr (.inr x))
theorem S5{g:Goroutine}(h:g.status= .running):{({g with status:= .blocked}:Goroutine) with status:= .running}=g:=by
 obtain⟨a,b,c,d,e⟩:=g;simp only at h;subst h;rfl
theorem DK.woken{x:Nx}{r:Rk}{b:Bool}{o:Goroutine}{s:St}(h:DK P F main x r b o s){g g':Goroutine}{w':World}{cl:Bool}{k:Nat}(W:F.ChanAt w' cl k)(aj:cl=true→∀k,x≠ .ph (.Cx k)):
  ∃Z,DK P F main x r Z (Go.Conc.woken P g g' w' o) s∧(b=true→Z=true)∧(mayWake P g=true→g'.status= .running→(x= .ph .Dw∨cl=true)→Z=true):=by
 have hw:∀(o:Goroutine),mayWake P g=true→g'.status= .running→Go.Conc.woken P g g' w' o=o.again w':=by
  intro o K U;unfold Go.Conc.woken;rw [if_pos (by simp [K,U])]
 have V:∀(o:Goroutine),Go.Conc.woken P g g' w' o=o.again w'∨Go.Conc.woken P g g' w' o=o:=by
  intro o;unfold Go.Conc.woken;split
  ·exact .inl rfl
  ·exact .inr rfl
 cases h with
 | walk K U aa=>exact⟨true,by rw [woken_run aa.running];exact .walk K U aa,fun _=>rfl,fun _ _ _=>rfl⟩
 | again K hs=>exact⟨true,by rw [woken_run rfl];exact .again K hs,fun _=>rfl,fun _ _ _=>rfl⟩
 | @FG al vs _ go _ z K hs=>
  cases cl with
  | false=>
   have:=again_recv_open (g:=go) (z:=z) (sh:= .recv true) (w:=w') W;rcases V (parked go #[rcase F.ch z] (.recv true)) with e | e
   ·exact⟨false,by rw [e,this];exact .FG K hs,fun e=>e,fun _ _ h=>by simp at h⟩
   ·exact⟨false,by rw [e];exact .FG K hs,fun e=>e,fun _ _ h=>by simp at h⟩
  | true=>
   have:=again_recv_closed (g:=go) (z:=z) (sh:= .recv true) (w:=w') W;by_cases O:mayWake P g=true∧g'.status= .running
   ·exact⟨true,by rw [hw _ O.1 O.2,this];exact .again K hs,fun e=>rfl,fun _ _ _=>rfl⟩
   ·rcases V (parked go #[rcase F.ch z] (.recv true)) with e | e
    ·exact⟨true,by rw [e,this];exact .again K hs,fun _=>rfl,fun a b=>absurd ⟨a,b⟩ O⟩
    ·exact⟨false,by rw [e];exact .FG K hs,fun e=>e,fun a b=>absurd ⟨a,b⟩ O⟩
 | @F1 k' _ go _ v z K U ab ae=>
  cases cl with
  | true=>exact absurd rfl (aj rfl k')
  | false=>
   have:=again_send_open (g:=go) (v:=v) (z:=z) (sh:= .send) (w:=w') W;rcases V (parked go #[scase F.ch v z] .send) with e | e
   ·exact⟨false,by rw [e,this];exact .F1 K U ab ae,fun e=>e,fun _ _ h=>by simp at h⟩
   ·exact⟨false,by rw [e];exact .F1 K U ab ae,fun e=>e,fun _ _ h=>by simp at h⟩
 | @blk _ go _ K hs=>
  have ag:({go with status:= .blocked}:Goroutine).again w'=go:=by
   have:=hs.law.offers;have ak:({go with status:= .blocked}:Goroutine).again w'={({go with status:= .blocked}:Goroutine) with status:= .running}:=by simp [Goroutine.again,this]
   rw [ak];exact S5 hs.law.run
  have ah:DK P F main (.ph .Dw) r true go s:= .walk (p:= .Dw) (by rw [K];rfl) (by simp [Fam.Ee]) (Jr.at_ ⟨s,.refl _,hs⟩);by_cases O:mayWake P g=true∧g'.status= .running
  ·exact⟨true,by rw [hw _ O.1 O.2,ag];exact ah,fun _=>rfl,fun _ _ _=>rfl⟩
  ·rcases V ({go with status:= .blocked}:Goroutine) with e | e
   ·exact⟨true,by rw [e,ag];exact ah,fun _=>rfl,fun a b=>absurd ⟨a,b⟩ O⟩
   ·exact⟨false,by rw [e];exact .blk K hs,fun e=>e,fun a b=>absurd ⟨a,b⟩ O⟩
 | gone K ai=>exact⟨true,by rw [woken_quitsD ai];exact .gone K ai,fun _=>rfl,fun _ _ _=>rfl⟩
end
structure Base where
 N0:Nat
 t0:Nat
 E0:LH
 w0:World
structure Inv (P:Program) (F:Fam) (B:Base) (gs:Array Goroutine) (w:World) (t:Trace) (φ:Nat→Nx) (r:Nat→Rk) (bt:Nat→Bool) (S:Nat→St) (Sh:Nat→Prop) (j:Nat) (c:Bool) (v wt sm:Nat) (cl:Bool) (k:Nat):Prop where
 Bw:Ce F B.N0 gs.size j c φ v wt sm cl
 EA:D3 F B.N0 B.t0 gs.size j c φ t
 EB:∀i g,gs[i]? =some g→DK P F (i==0) (φ i) (r i) (bt i) g (S i)
 CQ:Cf t w gs.size S Sh
 HR:Sh F.wg
 Gn:Sh F.ch
 ne:F.wg≠F.ch
 wg:F.WG w v wt sm
 G7:F.ChanAt w cl k
 Nm:bt 0=false→cl=false∧∀i k',i<gs.size→φ i= .ph (.Cx k')→bt i=true
 blk:c=true→bt (B.N0+F.n)=false→sm=0
 le:Le B.E0 (S 0).E
 tape:w.tape=B.w0.tape
 os:w.os=B.w0.os
 output:w.output=B.w0.output
def bit(b:Bool):Nat:=if b then 1 else 0
def mu(F:Fam)(N:Nat)(φ:Nat→Nx)(r:Nat→Rk)(bt:Nat→Bool):Mu:=(sumTo N fun i=>wt F.n (φ i),N,r,sumTo N fun i=>bit (bt i))
section
variable {P:Program}{F:Fam}{B:Base}{gs:Array Goroutine}{w w':World}{t:Trace}{φ:Nat→Nx}{r:Nat→Rk}{bt:Nat→Bool}{S:Nat→St}{Sh:Nat→Prop}{j:Nat}{c:Bool}{v wt' sm v₁ wt₁ sm₁:Nat}{cl cl₁:Bool}{k k₁:Nat}
theorem Inv.at_(h:Inv P F B gs w t φ r bt S Sh j c v wt' sm cl k)(d:Nat):Inv P F B gs (w.at d) t φ r bt S Sh j c v wt' sm cl k:=
 have K:Cf t (w.at d) gs.size S Sh:=by
  have:=h.CQ.mute (u:= #[]) (w':=w.at d) (g:=0) (by simp) (by simp) (by simp) rfl;simpa using this
 {h with CQ:=K}
theorem Inv.go(h:Inv P F B gs w t φ r bt S Sh j c v wt' sm cl k){i:Nat}{g g':Goroutine}{es:Array Event}{x:Nx}{ρ:Rk}{s':St}(hi:gs[i]? =some g)
  (ao:Ce F B.N0 gs.size j c (upd φ i x) v₁ wt₁ sm₁ cl₁)
  (ap:D3 F B.N0 B.t0 gs.size j c (upd φ i x) (t++MemOp.ofEvents i g.frame.fn g.frame.place es))
  (aq:DK P F (i==0) x ρ true g' s')
  (hC:Cf (t++MemOp.ofEvents i g.frame.fn g.frame.place es) w' gs.size (upd S i s') Sh)
  (ar:F.WG w' v₁ wt₁ sm₁) (ai:F.ChanAt w' cl₁ k₁)
  (au:cl₁=cl∨(mayWake P g=true∧g'.status= .running))
  (av:cl₁=true→∀aj k',aj<gs.size→φ aj≠ .ph (.Cx k'))
  (aw:sm₁=sm∨sm₁=0∨(mayWake P g=true∧g'.status= .running∧φ (B.N0+F.n)= .ph .Dw)∨(c=true→bt (B.N0+F.n)=true))
  (ay:i=0→Le (S 0).E s'.E) (az:w'.tape=w.tape) (aA:w'.os=w.os) (aB:w'.output=w.output) (aL:∀k',x= .ph (.Cx k')→φ i= .ph (.Cx k')):
  ∃O,Inv P F B ((gs.map (woken P g g' w')).setIfInBounds i g') w' (t++MemOp.ofEvents i g.frame.fn g.frame.place es) (upd φ i x) (upd r i ρ) O (upd S i s') Sh j c v₁ wt₁ sm₁ cl₁ k₁:=by
 have aC:i<gs.size:=(Array.getElem?_eq_some_iff.1 hi).1;have aa:((gs.map (woken P g g' w')).setIfInBounds i g').size=gs.size:=by simp
 have ak:∀a,∃Z,(a=i→Z=true)∧(a≠i→∀o,gs[a]? =some o→DK P F (a==0) (φ a) (r a) Z (woken P g g' w' o) (S a)∧(bt a=true→Z=true)∧(mayWake P g=true→g'.status= .running→(φ a= .ph .Dw∨cl₁=true)→Z=true)):=by
  intro a;by_cases e:a=i
  ·exact⟨true,fun _=>rfl,fun q=>absurd e q⟩
  ·cases K:gs[a]? with
   | none=>exact⟨true,fun _=>rfl,fun _ o q=>by cases q⟩
   | some o=>
    have V:a<gs.size:=(Array.getElem?_eq_some_iff.1 K).1;obtain⟨Z,aD,aE,aF⟩:=(h.EB a o K).woken (g:=g) (g':=g') ai fun q k'=>av q a k' V;exact⟨Z,fun q=>absurd q e,fun _ o' q=>by cases q;exact⟨aD,aE,aF⟩⟩
 let O:Nat→Bool:=fun a=>Classical.choose (ak a);have hb:∀a,(a=i→O a=true)∧(a≠i→∀o,gs[a]? =some o→DK P F (a==0) (φ a) (r a) (O a) (woken P g g' w' o) (S a)∧(bt a=true→O a=true)∧(mayWake P g=true→g'.status= .running→(φ a= .ph .Dw∨cl₁=true)→O a=true)):=fun a=>Classical.choose_spec (ak a);have ab:∀a,a<gs.size→bt a=true→O a=true:=by
  intro a V aG;by_cases e:a=i
  ·exact(hb a).1 e
  ·exact((hb a).2 e _ (Array.getElem?_eq_getElem V)).2.1 aG
 refine⟨O,by rw [aa];exact ao,by rw [aa];exact ap,fun a o K=>?_,by rw [aa];exact hC,h.HR,h.Gn,h.ne,ar,ai,fun U=>⟨?_,fun a k' V al=>?_⟩,fun ae U=>?_,fun b o K=>?_,az.trans h.tape,aA.trans h.os,aB.trans h.output⟩
 ·by_cases e:a=i
  ·subst e;rw [Array.getElem?_setIfInBounds_self_of_lt (by simpa using aC)] at K;obtain rfl:=Option.some.inj K;rw [upd_same,upd_same,upd_same,(hb a).1 rfl];exact aq
  ·rw [Array.getElem?_setIfInBounds_ne (Ne.symm e),Array.getElem?_map] at K;obtain⟨o',aH,rfl⟩:=Option.map_eq_some_iff.1 K;rw [upd_ne _ _ e,upd_ne _ _ e,upd_ne _ _ e];exact((hb a).2 e o' aH).1
 ·have ag:0<gs.size:=by omega
  have aI:0≠i:=fun e=>by have:=(hb 0).1 e;rw [U] at this;cases this
  have W:bt 0=false:=by
   cases q:bt 0 with
   | false=>rfl
   | true=>have:=ab 0 ag q;rw [U] at this;cases this
  cases am:cl₁ with
  | false=>rfl
  | true=>
   rcases au with e | ⟨ah,e2⟩
   ·have:=(h.Nm W).1;rw [← e,am] at this;cases this
   ·have:=((hb 0).2 aI _ (Array.getElem?_eq_getElem ag)).2.2 ah e2 (.inr am);rw [U] at this;cases this
 ·rw [aa] at V;have ag:0<gs.size:=by omega
  have W:bt 0=false:=by
   cases q:bt 0 with
   | false=>rfl
   | true=>have:=ab 0 ag q;rw [U] at this;cases this
  by_cases e:a=i
  ·exact(hb a).1 e
  ·rw [upd_ne _ _ e] at al;exact ab a V ((h.Nm W).2 a k' V al)
 ·have an:B.N0+F.n<gs.size:=by have:=h.Bw.size;have:=h.Bw.cj ae;rw [ae] at*;simp at*;omega
  have aJ:B.N0+F.n≠i:=fun e=>by have:=(hb _).1 e;rw [U] at this;cases this
  have W:bt (B.N0+F.n)=false:=by
   cases q:bt (B.N0+F.n) with
   | false=>rfl
   | true=>have:=ab _ an q;rw [U] at this;cases this
  rcases aw with e | e | ⟨ah,e2,aK⟩ | e
  ·rw [e];exact h.blk ae W
  ·exact e
  ·have:=((hb _).2 aJ _ (Array.getElem?_eq_getElem an)).2.2 ah e2 (.inl aK);rw [U] at this;cases this
  ·rw [e ae] at W;cases W
 ·by_cases e:i=0
  ·subst e;rw [upd_same];exact ay rfl b o (h.le b o K)
  ·rw [upd_ne _ _ (Ne.symm e)];exact h.le b o K
end
end Pal
namespace Pal
open Go Go.Conc
open Go.ConcN (upd upd_same upd_ne sumTo sumTo_upd sumTo_upd_out sumTo_congr le_sumTo sumTo_le fork_knows RelBy)
def Over(P:Program)(F:Fam)(B:Base)(gs:Array Goroutine)(w:World)(t:Trace):Prop:=
 ∃q Sh g s,Gm P gs w t q Sh g s∧F.fin g s∧Le B.E0 s.E∧w.tape=B.w0.tape∧w.os=B.w0.os∧w.output=B.w0.output
def Hm(P:Program)(F:Fam)(B:Base)(gs:Array Goroutine)(w:World)(sl:Option (Nat×Nat))(t:Trace)(i:Nat)(K:Mu):Prop:=
 ∃gs' w' O u,runT P (crowd gs w sl) i=(.next (crowd gs' w' O),u)∧
  ((∃φ r bt S Sh j c v wt' sm cl k,Inv P F B gs' w' (t++u) φ r bt S Sh j c v wt' sm cl k∧Mu.lt (mu F gs'.size φ r bt) K)∨Over P F B gs' w' (t++u))
section
variable {P:Program}{F:Fam}{B:Base}{gs:Array Goroutine}{w w':World}{sl:Option (Nat×Nat)}{t:Trace}{φ:Nat→Nx}{r:Nat→Rk}{bt:Nat→Bool}{S:Nat→St}{Sh:Nat→Prop}{j:Nat}{c:Bool}{v wt' sm v₁ wt₁ sm₁:Nat}{cl cl₁:Bool}{k k₁:Nat}
theorem Ss{N:Nat}{φ K:Nat→Nx}{r U:Nat→Rk}{b V:Nat→Bool}{O:Nat}(h:(sumTo O fun i=>wt F.n (K i))<sumTo N fun i=>wt F.n (φ i)):Mu.lt (mu F O K U V) (mu F N φ r b):= .inl h
theorem Yd{N i:Nat}{x:Nx}{ρ:Rk}{K:Nat→Bool}(hi:i<N)(h:wt F.n x<wt F.n (φ i)∨(wt F.n x=wt F.n (φ i)∧Rk.sub ρ (r i))):Mu.lt (mu F N (upd φ i x) (upd r i ρ) K) (mu F N φ r bt):=by
 have:=sumTo_upd φ x (wt F.n) hi;rcases h with h | ⟨V,O⟩
 ·exact .inl (by show(sumTo N fun a=>wt F.n (upd φ i x a))<sumTo N fun a=>wt F.n (φ a);omega)
 ·exact .inr ⟨by show(sumTo N fun a=>wt F.n (upd φ i x a))=sumTo N fun a=>wt F.n (φ a);omega,rfl,.inl ⟨i,hi,by show Rk.sub (upd r i ρ i) _;rw [upd_same];exact O,fun a U=>upd_ne _ _ U⟩⟩
theorem Inv.go'(h:Inv P F B gs w t φ r bt S Sh j c v wt' sm cl k){i:Nat}{g g':Goroutine}{es:Array Event}{x:Nx}{ρ:Rk}{s':St}(hi:gs[i]? =some g)(O:stepG P (i==0) g w= .go g' w' es)
  (U:Ce F B.N0 gs.size j c (upd φ i x) v₁ wt₁ sm₁ cl₁)
  (V:D3 F B.N0 B.t0 gs.size j c (upd φ i x) (t++MemOp.ofEvents i g.frame.fn g.frame.place es))
  (W:DK P F (i==0) x ρ true g' s')
  (hC:Cf (t++MemOp.ofEvents i g.frame.fn g.frame.place es) w' gs.size (upd S i s') Sh)
  (Z:F.WG w' v₁ wt₁ sm₁) (aa:F.ChanAt w' cl₁ k₁)
  (ab:cl₁=cl∨(mayWake P g=true∧g'.status= .running))
  (ae:cl₁=true→∀K k',K<gs.size→φ K≠ .ph (.Cx k'))
  (ag:sm₁=sm∨sm₁=0∨(mayWake P g=true∧g'.status= .running∧φ (B.N0+F.n)= .ph .Dw)∨(c=true→bt (B.N0+F.n)=true))
  (ah:i=0→Le (S 0).E s'.E) (ai:w'.tape=w.tape) (aj:w'.os=w.os) (ak:w'.output=w.output) (al:∀k',x= .ph (.Cx k')→φ i= .ph (.Cx k'))
  (hm:wt F.n x<wt F.n (φ i)∨(wt F.n x=wt F.n (φ i)∧Rk.sub ρ (r i))):Hm P F B gs w sl t i (mu F gs.size φ r bt):=by
 obtain⟨ao,am⟩:=h.go hi U V W hC Z aa ab ae ag ah ai aj ak al;refine⟨_,_,_,_,runT_crowd_go hi O,.inl ⟨_,_,_,_,_,_,_,_,_,_,_,_,am,?_⟩⟩;have an:((gs.map (woken P g g' w')).setIfInBounds i g').size=gs.size:=by simp
 rw [an];exact Yd (Array.getElem?_eq_some_iff.1 hi).1 hm
theorem Inv.noSend(h:Inv P F B gs w t φ r bt S Sh j c v wt' sm cl k)(W:cl=true):∀K k',K<gs.size→φ K≠ .ph (.Cx k'):=by
 intro K k' U e;have hm:=h.Bw.mode;subst W;have Z:v=0:=by
  split at hm
  ·cases V:φ (B.N0+F.n) with
   | gone d=>rw [V] at hm;exact hm.2.2.2.2.1
   | ph p=>rw [V] at hm;cases p <;> simp [CY] at hm
  ·simp [CY] at hm
 have aa:=h.Bw.cnt;have:=le_sumTo (f:=fun a=>cU (φ a)) U;simp only [e,cU] at this;have ab:(sumTo gs.size fun a=>cU (φ a))=0:=by omega
 have O:cU (φ K)≤sumTo gs.size fun a=>cU (φ a):=le_sumTo (f:=fun a=>cU (φ a)) U;rw [e] at O;simp only [cU] at O;have ae:1≤sumTo gs.size fun a=>cU (φ a):=O;omega
theorem D3.WM{F:Fam}{N0 t0 N j:Nat}{c:Bool}{φ:Nat→Nx}{t:Trace}(h:D3 F N0 t0 N j c φ t)(K:Ce F N0 N j c φ v wt' sm cl){i:Nat}(hi:i<N){fn:FuncId}{pos:String}{es:Array Event}{p:Ph}(V:φ i= .ph p)
  (W:∀e∈es,(∀a b,(MemAct.ofEvent e).touch? =some a→DO a.loc=some b→b≠F.wg∧b≠F.ch)∧e.loc≠ .mark (.release F.sA)∧e.loc≠ .mark .disable∧e.loc≠ .mark .enable)
  (ab:Fam.Ee p=true→es= #[]):D3 F N0 t0 N j c φ (t++MemOp.ofEvents i fn pos es):=by
 have ae:i=0∨N0≤i:=by
  rcases K.Fv hi with rfl | ⟨a,b⟩ | ⟨k,aa,rfl⟩ | ⟨U,rfl⟩
  ·exact .inl rfl
  ·have:=K.old i a b;rw [V] at this;exact this.elim
  ·exact .inr (by omega)
  ·exact .inr (by omega)
 have:=h.app (x:=φ i) (fn:=fn) (pos:=pos) (es:=es) hi K.jn (deafBehind_still (fun e he=>⟨(W e he).2.2.1,(W e he).2.2.2⟩) _) (fun e he=>⟨fun a b ag hb ah=>absurd ah (by have:=(W e he).1 a b ag hb;rintro(q | q);exact this.1 q;exact this.2 q),(W e he).2.1⟩) (.inl ae)
  (fun U O=>K.Mn U O) (fun k aa e Z ρ ai=>?_) (fun k aa e Z aj=>absurd Z aj) (fun U e O=> .inr O) (fun U e O=>by rw [V] at O;exact O.elim)
 ·rwa [Oe] at this
 ·
  have al:=K.size;have am:=K.jn;have ak:k<j:=by
   rcases K.Fv hi with q | ⟨a,b⟩ | ⟨k',an,q⟩ | ⟨U,q⟩
   ·have:=K.pos;omega
   ·omega
   ·omega
   ·omega
  have hw:=K.work k ak;rw [← e,V] at hw;rw [V] at Z;have:es= #[]:=ab (by cases p <;> simp only [HG] at hw <;> (try exact hw.elim) <;> first | rfl | exact Z.elim)
  subst this;have:MemOp.ofEvents i fn pos #[]= #[]:=by rw [ofEvents_eq];simp
  rw [this];simpa using ai
theorem Inv.own(h:Inv P F B gs w t φ r bt S Sh j c v wt' sm cl k){i:Nat}{g g':Goroutine}{es:Array Event}{p:Ph}{ρ:Rk}{s':St}(hi:gs[i]? =some g)(O:φ i= .ph p)(ag:(i==0)=Fam.DF p)(aa:Fam.Ee p=true→S i= .quiet)
  (ah:stepG P (i==0) g w= .go g' w' es) (ai:Jr P (i==0) (JQ (Stop P F p)) ρ g' s') (aj:Fits s' w') (K:Fr (S i) w s' w') (V:∀e∈es,Ev (S i) w w' e) (ab:S i= .quiet→s'= .quiet∧w'=w∧es= #[]) (ak:Rk.sub ρ (r i)):
  Hm P F B gs w sl t i (mu F gs.size φ r bt):=by
 have U:i<gs.size:=(Array.getElem?_eq_some_iff.1 hi).1;have ae:upd φ i (.ph p)=φ:=by rw [← O];exact Oe _ _
 have W:=h.CQ.sh i U F.wg h.HR;have Z:=h.CQ.sh i U F.ch h.Gn;have al:=h.CQ.Fp F.wg h.HR;have am:=h.CQ.Fp F.ch h.Gn;have an:∀b wr,FY (S i) w w' b wr→b≠F.wg∧b≠F.ch:=by
  intro b wr ht;constructor
  ·rintro rfl;rcases ht.2 with q | q | ⟨q,_⟩
   ·exact q W.1
   ·omega
   ·exact q W.2
  ·rintro rfl;rcases ht.2 with q | q | ⟨q,_⟩
   ·exact q Z.1
   ·omega
   ·exact q Z.2
 refine h.go' hi ah (k₁:=k) (x:= .ph p) (ρ:=ρ) (s':=s') (by rw [ae];exact h.Bw) (by
   rw [ae]
   refine h.EA.WM h.Bw U O (fun e he=>⟨fun a b ao hb=>an b a.write (LW (V e he) ao hb),?_,?_,?_⟩) fun q=>(ab (aa q)).2.2
   all_goals
    intro ap
    have:=V e he
    unfold Ev at this
    rw [ap] at this
    exact this)
  (.walk ag (fun q=>(ab (aa q)).1) ai) (h.CQ.own U aj K V) ?_ ?_ (.inl rfl) (fun q=>h.noSend q) (.inl rfl) (fun e=>by subst e;exact fun b o aq=>K.ext b o aq) K.tape K.os K.output (fun k' e=>by rw [O];exact e) (.inr ⟨by rw [O],ak⟩)
 ·show w'.heap[F.wg]? =_;rw [K.keep _ al W.1];exact h.wg
 ·show w'.heap[F.ch]? =_;rw [K.keep _ am Z.1];exact h.G7
theorem Inv.slip(h:Inv P F B gs w t φ r bt S Sh j c v wt' sm cl k){i:Nat}{g:Goroutine}(hi:gs[i]? =some g)(U:g.status= .running){d q:Nat}(K:φ i= .gone d)(V:r i=chain q)(W:(i==0)=false)(ab:QuitsD P q d g)(aj:S i= .quiet):
  Hm P F B gs w sl t i (mu F gs.size φ r bt):=by
 have ae:i<gs.size:=(Array.getElem?_eq_some_iff.1 hi).1;cases q with
 | zero=>rw [ab.1] at U;cases U
 | succ q=>
  rcases ab with⟨ak,_⟩ | ⟨_,g',es,hm,al,am⟩
  ·rw [ak] at U;cases U
  have an:∀op∈MemOp.ofEvents i g.frame.fn g.frame.place es,op.act.touch? =none:=fun op O=>by obtain⟨e,he,rfl⟩:=mem_ofEvents O;exact touch_mute (hm e he)
  have ao:∀e∈es,e.loc≠ .mark (.release F.sA):=by
   intro e he ag;have:=hm e he;obtain⟨loc,wr,au⟩:=e;simp only at ag;subst ag;simp [Event.mute] at this
  refine h.go' hi (by rw [W];exact al w) (x:= .gone (deafBehind d es)) (ρ:=chain q) (s':= .quiet) (h.Bw.leave ae K) ?_ (.gone W am) ?_ h.wg h.G7 (.inl rfl) (fun q=>h.noSend q) (.inl rfl) (fun e=>by subst e;simp at W) rfl rfl rfl (by simp) (.inr ⟨by rw [K];rfl,by rw [V];exact Ur q w⟩)
  ·refine h.EA.app ae h.Bw.jn (by rw [K];rfl) (fun e he=>⟨fun a b ah=>(by rw [touch_mute (hm e he)] at ah;cases ah),ao e he⟩) (.inr fun e he=>touch_mute (hm e he)) (fun Z aa=>h.Bw.Mn Z aa) (fun k ap e aq ρ V=>?_) (fun k ap e aq ai=>by rw [K] at ai;exact absurd trivial ai) (fun Z e aa=> .inr (.inr (by rw [K];trivial))) (fun Z e aa=> .inr ⟨by rw [K];trivial,fun e he=>touch_mute (hm e he)⟩);exact V.appOwn _ _ es fun m e he=> .inl (touch_mute (hm e (Array.mem_of_getElem? he)))
  ·have ar:upd S i .quiet=S:=by rw [← aj];exact Oe _ _
   rw [ar];exact h.CQ.mute (g:=i) (fun op O=>by obtain⟨e,_,rfl⟩:=mem_ofEvents O;rfl) an (fun op O=>by obtain⟨e,he,rfl⟩:=mem_ofEvents O;exact low_mute (hm e he) _) rfl
theorem Ce.enabled{N0 N:Nat}(h:Ce F N0 N j c φ v wt' sm cl){i:Nat}(hi:i<N){p:Ph}(K:φ i= .ph p)(al:∀k,p≠ .Cx k)(am:∀k,p≠ .EZ k)(an:p≠ .FI)(ao:∀ap vs,p≠ .Cd ap vs)(aq:p≠ .DR)(ar:p= .Dw→sm=1):
  ∃v' w' sm' es nx,F.act p v wt' sm=some ((v',w',sm'),es,nx):=by
 have hm:=h.mode;have ay:=h.SL;have az:=h.Il;have O:=h.cnt;have Z:cU (φ i)≤sumTo N fun a=>cU (φ a):=le_sumTo (f:=fun a=>cU (φ a)) hi;have aa:cL (φ i)≤sumTo N fun a=>cL (φ a):=le_sumTo (f:=fun a=>cL (φ a)) hi;have ah:cS (φ i)≤sumTo N fun a=>cS (φ a):=le_sumTo (f:=fun a=>cS (φ a)) hi;rw [K] at Z aa ah;have au:wt'≤1:=by
  generalize (if c=true then φ (N0+F.n) else Nx.ph .C5)=y at hm
  cases y with
  | gone d=>simp only [CY] at hm;omega
  | ph q=>cases q <;> simp only [CY] at hm <;> (try exact hm.elim) <;> omega
 have ab:1≤(sumTo N fun a=>cL (φ a))+(sumTo N fun a=>cS (φ a))→v=0∧sm=0∧wt'=sumTo N fun a=>cL (φ a):=by
  intro hh;generalize (if c=true then φ (N0+F.n) else Nx.ph .C5)=y at hm
  cases y with
  | gone d=>simp only [CY] at hm;omega
  | ph q=>cases q <;> simp only [CY] at hm <;> (try exact hm.elim) <;> omega
 have ae:∀x,φ i= .ph x→Hk (.ph x)→c=true∧(if c=true then φ (N0+F.n) else Nx.ph .C5)= .ph x:=by
  intro x V ai;rcases h.Fv hi with rfl | ⟨a,b⟩ | ⟨k,ag,rfl⟩ | ⟨O,rfl⟩
  ·obtain⟨q,U,W⟩:=h.main;rw [V] at U;cases U;cases x <;> simp [Hj] at W <;> exact ai.elim
  ·have:=h.old i a b;rw [V] at this;exact this.elim
  ·have:=h.work k ag;rw [V] at this;cases x <;> simp [HG] at this <;> exact ai.elim
  ·exact⟨O,by rw [if_pos O];exact V⟩
 cases p <;> simp only [Fam.act]
 ·exact absurd rfl (al _)
 ·exact⟨_,_,_,_,_,rfl⟩
 ·exact⟨_,_,_,_,_,rfl⟩
 ·simp only [cU] at Z;have:1≤v:=by
   have aA:1≤sumTo N fun a=>cU (φ a):=Z;omega
  rw [if_pos ⟨this,by omega,au⟩];exact⟨_,_,_,_,_,rfl⟩
 ·have av:1≤sumTo N fun a=>cL (φ a):=aa;have:=ab (by omega);rw [if_pos ⟨this.1,by omega⟩];exact⟨_,_,_,_,_,rfl⟩
 ·have av:1≤sumTo N fun a=>cL (φ a):=aa;have:=ab (by omega);rw [if_pos ⟨this.1,by omega⟩];exact⟨_,_,_,_,_,rfl⟩
 ·have aB:1≤sumTo N fun a=>cS (φ a):=ah;have:=ab (by omega);rw [if_pos this.2.1];exact⟨_,_,_,_,_,rfl⟩
 ·exact⟨_,_,_,_,_,rfl⟩
 ·obtain⟨aj,e⟩:=ae _ K trivial;rw [e] at hm;rw [if_pos ⟨hm.2.2.2.2.2,hm.2.2.2.1⟩];exact⟨_,_,_,_,_,rfl⟩
 ·obtain⟨aj,e⟩:=ae _ K trivial;rw [e] at hm;rw [if_pos ⟨hm.2.2.2.2.2.1,hm.2.2.2.2.2.2,hm.2.2.2.1⟩];split <;> exact⟨_,_,_,_,_,rfl⟩
 ·exact⟨_,_,_,_,_,rfl⟩
 ·rw [if_pos (ar rfl)];exact⟨_,_,_,_,_,rfl⟩
 ·obtain⟨aj,e⟩:=ae _ K trivial;rw [e] at hm;rw [if_pos ⟨hm.2.2.2.2.1,hm.2.2.2.1⟩];exact⟨_,_,_,_,_,rfl⟩
 ·exact⟨_,_,_,_,_,rfl⟩
 ·exact⟨_,_,_,_,_,rfl⟩
 ·exact absurd rfl aq
 ·exact⟨_,_,_,_,_,rfl⟩
 ·have aw:c=false∧v≤j∧j<F.n:=by
   rcases h.Fv hi with rfl | ⟨a,b⟩ | ⟨k,ag,rfl⟩ | ⟨O,rfl⟩
   ·obtain⟨q,U,W⟩:=h.main;rw [K] at U;cases U;have ak:=h.HQ;rw [K] at ak;exact⟨W.2.2,by simpa [pend] using ak,W.2.1⟩
   ·have:=h.old i a b;rw [K] at this;exact this.elim
   ·have:=h.work k ag;rw [K] at this;exact this.elim
   ·have:=h.cls O;rw [K] at this;exact this.elim
  rw [aw.1] at hm;simp only [Bool.false_eq_true,if_false,CY] at hm;rw [if_pos ⟨by omega,hm.2.2.2.1⟩];exact⟨_,_,_,_,_,rfl⟩
 ·exact⟨_,_,_,_,_,rfl⟩
 ·exact⟨_,_,_,_,_,rfl⟩
 ·exact absurd rfl (am _)
 ·exact absurd rfl an
 ·exact absurd rfl (ao _ _)
 all_goals exact⟨_,_,_,_,_,rfl⟩
end
end Pal
namespace Pal
open Go Go.Conc
open Go.ConcN (upd upd_same upd_ne sumTo sumTo_upd sumTo_upd_out sumTo_congr le_sumTo sumTo_le fork_knows RelBy)
theorem On{α:Type}(f:Nat→α)(i:Nat)(x y:α):upd (upd f i x) i y=upd f i y:=by
 funext a;unfold upd;split <;> rfl
section
variable {P:Program}{F:Fam}{B:Base}{gs:Array Goroutine}{w w':World}{sl:Option (Nat×Nat)}{t:Trace}{φ:Nat→Nx}{r:Nat→Rk}{bt:Nat→Bool}{S:Nat→St}{Sh:Nat→Prop}{j:Nat}{c:Bool}{v wt' sm v₁ wt₁ sm₁:Nat}{cl cl₁:Bool}{k k₁:Nat}
theorem XM{p:Ph}{es:Array Event}{nx:Nx}(K:F.act p v wt' sm=some ((v₁,wt₁,sm₁),es,nx)):
  (∀q,nx= .ph q→Fam.DF q=Fam.DF p∧(Fam.Ee q=true→p= .Gk∨Fam.Ee p=true))∧(∀k,nx≠ .ph (.Cx k))∧(sm₁=sm∨sm₁=0∨p= .Ex)∧(∀d,nx= .gone d→Fam.DF p=false):=by
 cases p <;> simp only [Fam.act] at K <;> (try (cases K;done))
 ·cases K;exact⟨fun q e=>by cases e;exact⟨rfl,fun _=> .inl rfl⟩,by simp,.inl rfl,by simp⟩
 ·cases K;exact⟨fun q e=>by cases e;exact⟨rfl,fun _=> .inr rfl⟩,by simp,.inl rfl,by simp⟩
 ·split at K
  ·cases K;refine⟨fun q e=>?_,?_,.inl rfl,fun _ _=>rfl⟩
   ·split at e
    ·cases e;exact⟨rfl,fun _=> .inr rfl⟩
    ·cases e
   ·intro k;split <;> simp
  ·cases K
 ·split at K
  ·cases K;exact⟨fun q e=>by cases e;exact⟨rfl,fun _=> .inr rfl⟩,by simp,.inl rfl,by simp⟩
  ·cases K
 ·split at K
  ·cases K;exact⟨fun q e=>by cases e;exact⟨rfl,fun _=> .inr rfl⟩,by simp,.inl rfl,by simp⟩
  ·cases K
 ·split at K
  ·cases K;exact⟨fun q e=>(by cases e),by simp,.inr (.inr rfl),fun _ _=>rfl⟩
  ·cases K
 ·cases K;exact⟨fun q e=>by cases e;exact⟨rfl,fun h=>by cases h⟩,by simp,.inl rfl,by simp⟩
 ·split at K
  ·cases K;refine⟨fun q e=>?_,?_,.inl rfl,?_⟩
   ·split at e <;> cases e <;> exact⟨rfl,fun h=>by cases h⟩
   ·intro k;split <;> simp
   ·intro d;split <;> simp
  ·cases K
 ·split at K
  ·split at K
   ·cases K;exact⟨fun q e=>by cases e;exact⟨rfl,fun h=>by cases h⟩,by simp,.inl rfl,by simp⟩
   ·cases K;exact⟨fun q e=>by cases e;exact⟨rfl,fun h=>by cases h⟩,by simp,.inl rfl,by simp⟩
  ·cases K
 ·cases K;exact⟨fun q e=>by cases e;exact⟨rfl,fun h=>by cases h⟩,by simp,.inl rfl,by simp⟩
 ·split at K
  ·cases K;exact⟨fun q e=>by cases e;exact⟨rfl,fun h=>by cases h⟩,by simp,.inr (.inl rfl),by simp⟩
  ·cases K
 ·split at K
  ·cases K;exact⟨fun q e=>by cases e;exact⟨rfl,fun h=>by cases h⟩,by simp,.inl rfl,by simp⟩
  ·cases K
 ·cases K;exact⟨fun q e=>by cases e;exact⟨rfl,fun h=>by cases h⟩,by simp,.inl rfl,by simp⟩
 ·cases K;exact⟨fun q e=>by cases e;exact⟨rfl,fun h=>by cases h⟩,by simp,.inl rfl,by simp⟩
 ·cases K;exact⟨fun q e=>by cases e;exact⟨rfl,fun h=>by cases h⟩,by simp,.inl rfl,by simp⟩
 ·split at K
  ·cases K;refine⟨fun q e=>?_,?_,.inl rfl,?_⟩
   ·split at e <;> cases e <;> exact⟨rfl,fun h=>by cases h⟩
   ·intro k;split <;> simp
   ·intro d;split <;> simp
  ·cases K
 ·cases K;exact⟨fun q e=>by cases e;exact⟨rfl,fun h=>by cases h⟩,by simp,.inl rfl,by simp⟩
 all_goals
  cases K;exact⟨fun q e=>by cases e;exact⟨rfl,fun h=>by cases h⟩,by simp,.inl rfl,by simp⟩
theorem UT(w:World)(v wt sm:Nat):(F.put w v wt sm).heap.size=w.heap.size:=by simp [Fam.put]
theorem R4(w:World)(v wt sm:Nat){b:Nat}(h:b≠F.wg):(F.put w v wt sm).heap[b]? =w.heap[b]? :=by simp [Fam.put,Array.getElem?_setIfInBounds_ne (Ne.symm h)]
theorem RS(w:World)(v wt sm:Nat)(h:F.wg<w.heap.size):F.WG (F.put w v wt sm) v wt sm:=by simp [Fam.WG,Fam.put,h]
theorem Inv.act(h:Inv P F B gs w t φ r bt S Sh j c v wt' sm cl k){i:Nat}{g:Goroutine}(hi:gs[i]? =some g){p:Ph}(W:φ i= .ph p)(U:(i==0)=Fam.DF p){s₀:St}(ak:Cp (S i) s₀)(hs:Stop P F p g s₀)
  {es:Array Event} {nx:Nx} (O:F.act p v wt' sm=some ((v₁,wt₁,sm₁),es,nx)):Hm P F B gs w sl t i (mu F gs.size φ r bt):=by
 have Z:i<gs.size:=(Array.getElem?_eq_some_iff.1 hi).1;obtain⟨g',ay,az,al⟩:=hs.law.act _ _ _ _ _ _ _ _ O;obtain⟨n1,n2,aA,aB⟩:=XM O;have aa:=h.CQ.Fp F.wg h.HR;have am:=h.Bw.act Z W O;obtain⟨an,ao,aC⟩:=h.EA.act h.Bw Z W O g.frame.fn g.frame.place;have aD:Cf t w gs.size (upd S i s₀) Sh:=h.CQ.ghost Z ak;have ab:Cf (t++MemOp.ofEvents i g.frame.fn g.frame.place es) (F.put w v₁ wt₁ sm₁) gs.size (upd S i s₀) Sh:=by
  refine aD.ext (h.EA.noRace h.CQ.clean Z aC ao) (fun op ae a aE b hb=>?_) (fun op ae=>?_) (UT ..) (fun b hb=>R4 _ _ _ _ fun e=>hb (e▸h.HR))
  ·obtain⟨e,he,rfl⟩:=mem_ofEvents ae;obtain⟨⟨aL,ap,aF⟩,_⟩:=(ao e he).1 a aE;rw [hb] at ap;cases ap;rcases aF with rfl | rfl
   ·exact h.HR
   ·exact h.Gn
  ·obtain⟨e,he,rfl⟩:=mem_ofEvents ae;exact(Sd p O).2.2 e he _ aa
 have aq:stepG P (i==0) g w= .go g' (F.put w v₁ wt₁ sm₁) es:=by rw [U];exact ay w h.wg
 have ar:F.ChanAt (F.put w v₁ wt₁ sm₁) cl k:=by show(F.put w v₁ wt₁ sm₁).heap[F.ch]? =_;rw [R4 _ _ _ _ (Ne.symm h.ne)];exact h.G7
 have au:sm₁=sm∨sm₁=0∨(mayWake P g=true∧g'.status= .running∧φ (B.N0+F.n)= .ph .Dw)∨(c=true→bt (B.N0+F.n)=true):=by
  rcases aA with q | q | q
  ·exact .inl q
  ·exact .inr (.inl q)
  ·subst q;have aG:=hs.law.G2 (.inl rfl);by_cases e:φ (B.N0+F.n)= .ph .Dw
   ·exact .inr (.inr (.inl ⟨aG,az,e⟩))
   ·refine .inr (.inr (.inr fun ag=>?_));have aH:B.N0+F.n<gs.size:=by have av:=h.Bw.size;have aM:=h.Bw.cj ag;rw [ag] at av;simp at av;omega
    obtain⟨o,K⟩:∃o,gs[B.N0+F.n]? =some o:=⟨_,Array.getElem?_eq_getElem aH⟩;have V:=h.EB _ _ K;generalize r (B.N0+F.n)=aN at V;generalize S (B.N0+F.n)=aO at V;have ah:=h.Bw.cls ag;generalize hb:bt (B.N0+F.n)=b at V ⊢;generalize aP:φ (B.N0+F.n)=x at V ah e;cases V with
    | walk _ _ _=>rfl
    | again _ _=>rfl
    | FG _ _=>exact ah.elim
    | F1 _ _ _ _=>exact ah.elim
    | blk _ _=>exact absurd rfl e
    | gone _ _=>rfl
 cases nx with
 | ph q=>
  obtain⟨aI,aJ⟩:=n1 q rfl;obtain⟨ρ,aK⟩:=al;have ai:Cf (t++MemOp.ofEvents i g.frame.fn g.frame.place es) (F.put w v₁ wt₁ sm₁) gs.size (upd S i (Fam.GF p s₀)) Sh:=by
   by_cases e:p= .Gk
   ·subst e;have:=ab.less (i:=i) (s':= .quiet) (fun b o K=>by cases K) (fun b o K=>by cases K)
    rwa [On] at this
   ·have:Fam.GF p s₀=s₀:=by cases p <;> first | rfl | exact absurd rfl e
    rw [this];exact ab
  refine h.go' hi aq am an (x:= .ph q) (ρ:=ρ) (s':=Fam.GF p s₀) (.walk (by rw [U,aI]) (fun aj=>?_) (by rw [U];exact aK)) ai (RS _ _ _ _ aa) ar (.inl rfl) (fun e=>h.noSend e) au (fun e=>?_) rfl rfl rfl (fun k' e=>absurd e (n2 k')) (.inl (by rw [W];exact RU O))
  ·rcases aJ aj with e | e
   ·subst e;rfl
   ·have:Fam.GF p s₀=s₀:=by cases p <;> first | rfl | cases e
    rw [this];exact hs.law.quiet e
  ·have:Fam.GF p s₀=s₀:=by
    cases p <;> first | rfl | (subst e;simp [Fam.DF] at U)
   rw [this];subst e;exact fun b o K=>ak.ext b o K
 | gone d=>
  obtain⟨q,aj⟩:=al;have aw:(i==0)=false:=by rw [U];exact aB d rfl
  have ai:Cf (t++MemOp.ofEvents i g.frame.fn g.frame.place es) (F.put w v₁ wt₁ sm₁) gs.size (upd S i .quiet) Sh:=by
   have:=ab.less (i:=i) (s':= .quiet) (fun b o K=>by cases K) (fun b o K=>by cases K)
   rwa [On] at this
  exact h.go' hi aq am an (x:= .gone d) (ρ:=chain q) (s':= .quiet) (.gone aw aj) ai (RS _ _ _ _ aa) ar (.inl rfl) (fun e=>h.noSend e) au (fun e=>by subst e;simp at aw) rfl rfl rfl (fun k' e=>absurd e (n2 k')) (.inl (by rw [W];exact RU O))
theorem S9{g g' o:Goroutine}(h:g'.status= .blocked):woken P g g' w o=o:=by
 unfold woken;rw [if_neg (by simp [h])]
theorem Inv.rest(h:Inv P F B gs w t φ r bt S Sh j c v wt' sm cl k){i:Nat}{g':Goroutine}{u:Trace}{s₀:St}(ab:i<gs.size)(al:bt i=true)(ah:Cp (S i) s₀)(am:DK P F (i==0) (φ i) (r i) false g' s₀)(hu:u= #[])
  (an:i=0→cl=false∧∀a k',a<gs.size→φ a= .ph (.Cx k')→bt a=true) (hsend:∀k',φ i= .ph (.Cx k')→bt 0=true) (ao:c=true→i=B.N0+F.n→sm=0):
  ∃ai,Inv P F B (gs.setIfInBounds i g') w (t++u) φ r ai (upd S i s₀) Sh j c v wt' sm cl k∧Mu.lt (mu F (gs.setIfInBounds i g').size φ r ai) (mu F gs.size φ r bt):=by
 subst hu;have O:(gs.setIfInBounds i g').size=gs.size:=by simp
 have ap:t++(#[]:Trace)=t:=by simp
 have aa:∀{a},a≠i→upd bt i false a=bt a:=fun e=>upd_ne _ _ e;rw [ap];refine⟨upd bt i false,⟨by rw [O];exact h.Bw,by rw [O];exact h.EA,fun a o U=>?_,by rw [O];exact h.CQ.ghost ab ah,h.HR,h.Gn,h.ne,h.wg,h.G7,fun K=>?_,fun aj K=>?_,?_,h.tape,h.os,h.output⟩,?_⟩
 ·by_cases e:a=i
  ·subst e;rw [Array.getElem?_setIfInBounds_self_of_lt ab] at U;obtain rfl:=Option.some.inj U;rw [upd_same,upd_same];exact am
  ·rw [Array.getElem?_setIfInBounds_ne (Ne.symm e)] at U;rw [upd_ne _ _ e,upd_ne _ _ e];exact h.EB a o U
 ·by_cases e:0=i
  ·subst e;obtain⟨ae,ag⟩:=an rfl;refine⟨ae,fun a k' V W=>?_⟩;rw [O] at V;by_cases Z:a=0
   ·subst Z;obtain⟨p,ak,hm⟩:=h.Bw.main;rw [W] at ak;cases ak;exact hm.elim
   ·rw [aa Z];exact ag a k' V W
  ·rw [aa e] at K;obtain⟨ae,ag⟩:=h.Nm K;refine⟨ae,fun a k' V W=>?_⟩;rw [O] at V;by_cases Z:a=i
   ·subst Z;rw [hsend k' W] at K;cases K
   ·rw [aa Z];exact ag a k' V W
 ·by_cases e:B.N0+F.n=i
  ·exact ao aj e.symm
  ·rw [aa e] at K;exact h.blk aj K
 ·by_cases e:0=i
  ·subst e;rw [upd_same];exact fun b o U=>ah.ext b o (h.le b o U)
  ·rw [upd_ne _ _ e];exact h.le
 ·rw [O];have:=sumTo_upd bt false bit ab;rw [al] at this;exact .inr ⟨rfl,rfl,.inr ⟨rfl,by show(sumTo gs.size fun a=>bit (upd bt i false a))<sumTo gs.size fun a=>bit (bt a);simp only [bit] at this ⊢;simp only [if_true,Bool.false_eq_true,if_false] at this;omega⟩⟩
theorem Inv.block(h:Inv P F B gs w t φ r bt S Sh j c v wt' sm cl k){i:Nat}{g:Goroutine}(hi:gs[i]? =some g)(O:φ i= .ph .Dw)(V:bt i=true)(K:(i==0)=false){s₀:St}(W:Cp (S i) s₀)(hs:Stop P F .Dw g s₀)(Z:sm=0):
  Hm P F B gs w sl t i (mu F gs.size φ r bt):=by
 have aa:i<gs.size:=(Array.getElem?_eq_some_iff.1 hi).1;subst Z;have ab:=hs.law.EC rfl w v wt' h.wg;have U:=runT_crowd_go (P:=P) (sl:=sl) (i:=i) hi (by rw [K];exact ab);have ae:(gs.map (woken P g {g with status:= .blocked} w)).setIfInBounds i {g with status:= .blocked}=gs.setIfInBounds i {g with status:= .blocked}:=by
  have:(woken P g {g with status:= .blocked} w)=id:=by funext o;exact S9 rfl
  rw [this,Array.map_id]
 rw [ae] at U;obtain⟨ai,ag,ah⟩:=h.rest (g':={g with status:= .blocked}) (u:=MemOp.ofEvents i g.frame.fn g.frame.place #[]) aa V W (by rw [O];exact .blk K hs) (by rw [ofEvents_eq];simp) (fun e=>by subst e;simp at K) (fun k' e=>by rw [O] at e;cases e) (fun _ _=>rfl);exact⟨_,_,_,_,U,.inl ⟨_,_,_,_,_,_,_,_,_,_,_,_,ag,ah⟩⟩
theorem Inv.close(h:Inv P F B gs w t φ r bt S Sh j c v wt' sm cl k){i:Nat}{g:Goroutine}(hi:gs[i]? =some g)(K:φ i= .ph .DR)(ab:(i==0)=false){s₀:St}(hs:Stop P F .DR g s₀):
  Hm P F B gs w sl t i (mu F gs.size φ r bt):=by
 have W:i<gs.size:=(Array.getElem?_eq_some_iff.1 hi).1;have ap:c=true∧i=B.N0+F.n:=by
  rcases h.Bw.Fv W with rfl | ⟨a,b⟩ | ⟨k',aq,rfl⟩ | q
  ·simp at ab
  ·have:=h.Bw.old i a b;rw [K] at this;exact this.elim
  ·have:=h.Bw.work k' aq;rw [K] at this;exact this.elim
  ·exact q
 obtain⟨O,rfl⟩:=ap;have ar:cl=false:=by
  have hm:=h.Bw.mode;rw [if_pos O,K] at hm;exact hm.2.2.2.2.2
 subst ar;have aI:v=0:=by
  have hm:=h.Bw.mode;rw [if_pos O,K] at hm;exact hm.2.2.2.2.1
 obtain⟨g',au,av,q,aw⟩:=hs.law.close rfl;have ah:=h.CQ.Fp F.ch h.Gn;have ay:=hs.law.G2 (.inr rfl);have az:MemOp.ofEvents (B.N0+F.n) g.frame.fn g.frame.place (closeEvents F.ch)= #[{g:=B.N0+F.n,fn:=g.frame.fn,pos:=g.frame.place,act:= .access ⟨.obj F.ch,false,true⟩},{g:=B.N0+F.n,fn:=g.frame.fn,pos:=g.frame.place,act:= .close F.ch}]:=by
  simp [MemOp.ofEvents,closeEvents,MemAct.ofEvent]
 have ai:∀b,b≠F.ch→(w.setChan F.ch 0 #[] true k k false).heap[b]? =w.heap[b]? :=fun b hb=>by simp [World.setChan,Array.getElem?_setIfInBounds_ne (Ne.symm hb)]
 have aj:∀e∈closeEvents F.ch,∀a,(MemAct.ofEvent e).touch? =some a→a=⟨.obj F.ch,false,.atomic⟩:=by
  intro e he a U;simp only [closeEvents,List.mem_toArray,List.mem_cons,List.not_mem_nil,or_false] at he;rcases he with rfl | rfl
  ·simp [MemAct.ofEvent,MemAct.touch?] at U;exact U.symm
  ·simp [MemAct.ofEvent,MemAct.touch?] at U
 have Z:∀e∈closeEvents F.ch,EvS F (B.N0+F.n=if c=true then B.N0+F.n else 0) e:=by
  intro e he;refine⟨fun a U=>?_,?_⟩
  ·have:=aj e he a U;subst this;exact⟨⟨F.ch,rfl,.inr rfl⟩,by simp,by simp⟩
  ·simp only [closeEvents,List.mem_toArray,List.mem_cons,List.not_mem_nil,or_false] at he;rcases he with rfl | rfl <;> simp
 have aJ:=h.Bw.n1;have aK:=h.Bw.pos;refine h.go' hi (w':=w.setChan F.ch 0 #[] true k k false) (by rw [ab];exact av w k h.G7) (x:= .gone 0) (ρ:=chain q) (s':= .quiet) (cl₁:=true) (k₁:=k) (h.Bw.close O K) ?_ (.gone ab aw) ?_ ?_ ?_ (.inr ⟨ay,au⟩) (fun _ aA k' aB e=>?_) (.inl rfl) (fun e=>absurd e (by omega)) rfl rfl rfl (by simp) (.inl (by rw [K];simp [wt]))
 ·refine h.EA.app W h.Bw.jn (by rw [K];rfl) (fun e he=>⟨fun a b U hb aL=>⟨((Z e he).1 a U).2.1,((Z e he).1 a U).2.2⟩,(Z e he).2⟩) (.inl (.inr (by omega))) (fun O aa=>h.Bw.Mn O aa) (fun k' ak e aC ρ al=>by omega) (fun k' ak e aC aM=>by have:=h.Bw.cj O;omega) (fun O e aa=> .inr (.inl K)) (fun aN e aa=> .inl ?_);obtain⟨am,an⟩:=h.EA.acq O (.inl K);have aO:am<t.size:=lt_of_act? an.1;rw [az];generalize hu:(#[({g:=B.N0+F.n,fn:=g.frame.fn,pos:=g.frame.place,act:= .access ⟨.obj F.ch,false,true⟩}:MemOp),{g:=B.N0+F.n,fn:=g.frame.fn,pos:=g.frame.place,act:= .close F.ch}]:Trace)=u;have aD:(t++u)[t.size]? =some {g:=B.N0+F.n,fn:=g.frame.fn,pos:=g.frame.place,act:= .access ⟨.obj F.ch,false,true⟩}:=by subst hu;simp
  have ae:(t++u)[t.size+1]? =some {g:=B.N0+F.n,fn:=g.frame.fn,pos:=g.frame.place,act:= .close F.ch}:=by
   subst hu;rw [Array.getElem?_append_right (by omega)];simp
  refine⟨t.size+1,by rw [act?_of ae],by simp [Trace.g?,ae],⟨B.N0+F.n,by simp [Trace.g?,ae],?_⟩,⟨am,by omega,an.app fun k' ρ ak al=>al.appOther (g:=B.N0+F.n) (by subst hu;simp) (by omega)⟩,fun x aa aE aF=>?_⟩
  ·rw [deaf_succ aD,deaf_old (Nat.le_refl _)];have:=h.EA.deaf _ W;rw [K] at this;show deafStep _ (Deaf t _) _=0;rw [this];rfl
  ·obtain⟨op,V,_⟩:=Option.map_eq_some_iff.1 aE;have:=lt_size_of_getElem? V;subst hu;simp at this;omega
 ·have aG:Cf (t++MemOp.ofEvents (B.N0+F.n) g.frame.fn g.frame.place (closeEvents F.ch)) (w.setChan F.ch 0 #[] true k k false) gs.size S Sh:=by
   refine h.CQ.ext (h.EA.noRace h.CQ.clean W (.inr (by omega)) Z) (fun op ag a aH b hb=>?_) (fun op ag=>?_) (by simp [World.setChan]) (fun b hb=>ai b fun e=>hb (e▸h.Gn))
   ·obtain⟨e,he,rfl⟩:=mem_ofEvents ag;have:=aj e he a aH;subst this;simp [DO] at hb;subst hb;exact h.Gn
   ·obtain⟨e,he,rfl⟩:=mem_ofEvents ag;simp only [closeEvents,List.mem_toArray,List.mem_cons,List.not_mem_nil,or_false] at he;rcases he with rfl | rfl <;> simpa [MemAct.ofEvent,MemAct.low,Loc.low] using ah
  exact aG.less (i:=B.N0+F.n) (s':= .quiet) (fun b o V=>by cases V) (fun b o V=>by cases V)
 ·show(w.setChan F.ch 0 #[] true k k false).heap[F.wg]? =_;rw [ai _ h.ne];exact h.wg
 ·show(w.setChan F.ch 0 #[] true k k false).heap[F.ch]? =_;simp [World.setChan,ah]
 ·have aF:=h.Bw.cnt;have ao:cU (φ aA)≤sumTo gs.size fun a=>cU (φ a):=le_sumTo (f:=fun a=>cU (φ a)) aB;rw [e] at ao;have aP:1≤sumTo gs.size fun a=>cU (φ a):=ao;omega
end
end Pal
namespace Pal
open Go Go.Conc
open Go.ConcN (upd upd_same upd_ne sumTo sumTo_upd sumTo_upd_out sumTo_congr le_sumTo sumTo_le fork_knows RelBy)
section
variable {P:Program}{F:Fam}{B:Base}{gs gs':Array Goroutine}{w w':World}{sl:Option (Nat×Nat)}{t:Trace}{φ:Nat→Nx}{r:Nat→Rk}{bt:Nat→Bool}{S:Nat→St}{Sh:Nat→Prop}{j:Nat}{c:Bool}{v wt' sm v₁ wt₁ sm₁:Nat}{cl cl₁:Bool}{k k₁:Nat}{main:Bool}
theorem DK.R9{x:Nx}{r:Rk}{b:Bool}{o:Goroutine}{s:St}(h:DK P F main x r b o s)(hb:main=true→b=true):offersAt o F.ch false= []:=by
 cases h with
 | walk _ _ K=>exact offersAt_of_not_blocked (by rw [K.running];simp) _ _
 | again _ _=>exact offersAt_of_not_blocked (by simp) _ _
 | FG O _=>cases hb O
 | F1 _ _ _ _=>exact offersAt_parked_send' _ _ _ _ _ _
 | blk _ hs=>simp [offersAt,hs.law.offers]
 | gone _ U=>exact offersAt_of_not_blocked (by rcases U.status with e | e <;> rw [e] <;> simp) _ _
theorem DK.OF{k:Nat}{r:Rk}{o:Goroutine}{s:St}(h:DK P F main (.ph (.Cx k)) r false o s):∃g v z,o=parked g #[scase F.ch v z] .send∧F.msg k v s.E∧s.q=false∧Way P false (Stop P F .CZ) (served g undef) s:=by
 generalize K:Nx.ph (.Cx k)=x at h;generalize hb:false=b at h;cases h with
 | walk _ _ _=>cases hb
 | again _ _=>cases K
 | FG _ _=>cases K
 | F1 _ O U V=>cases K;exact⟨_,_,_,rfl,O,U,V⟩
 | blk _ _=>cases K
 | gone _ _=>cases K
theorem DK.NZ{x:Nx}{r:Rk}{b:Bool}{o:Goroutine}{s:St}(h:DK P F main x r b o s)(K:offersAt o F.ch true≠ []):∃k,x= .ph (.Cx k)∧b=false:=by
 cases h with
 | walk _ _ O=>exact absurd (offersAt_of_not_blocked (by rw [O.running];simp) _ _) K
 | again _ _=>exact absurd (offersAt_of_not_blocked (by simp) _ _) K
 | FG V _=>exact absurd (offersAt_parked_recv' _ _ _ _ _) K
 | F1 _ _ _ _=>exact⟨_,rfl,rfl⟩
 | blk _ hs=>exact absurd (by simp [offersAt,hs.law.offers]) K
 | gone _ U=>exact absurd (offersAt_of_not_blocked (by rcases U.status with e | e <;> rw [e] <;> simp) _ _) K
theorem DK.receiver{p:Ph}{r:Rk}{b:Bool}{o:Goroutine}{s:St}(h:DK P F main (.ph p) r b o s)(hb:b=false)(hm:main=true):∃O vs g z,p= .Cd O vs∧o=parked g #[rcase F.ch z] (.recv true)∧Stop P F (.Cd O vs) g s:=by
 generalize U:Nx.ph p=x at h;cases h with
 | walk _ _ _=>cases hb
 | again _ _=>cases hb
 | FG _ V=>cases U;exact⟨_,_,_,_,rfl,rfl,V⟩
 | F1 K _ _ _=>rw [K] at hm;cases hm
 | blk K _=>rw [K] at hm;cases hm
 | gone _ _=>cases U
theorem TH{g g':Goroutine}{cs K:Array CommCase}{sh O:CommShape}(h:parked g cs sh=parked g' K O):cs=K∧sh=O∧∀x,served g x=served g' x:=by
 obtain⟨a,b,c,d,e⟩:=g;obtain⟨U,V,W,Z,aa⟩:=g';simp only [parked,Goroutine.mk.injEq,Option.some.injEq,Prod.mk.injEq,true_and] at h;obtain⟨rfl,rfl,rfl,rfl,rfl⟩:=h;exact⟨rfl,rfl,fun _=>rfl⟩
theorem PR(w:World)(c cap:Nat)(buf:Ax)(cl:Bool)(s r:Nat)(K:Bool){b:Nat}(h:b≠c):(w.setChan c cap buf cl s r K).heap[b]? =w.heap[b]? :=by simp [World.setChan,Array.getElem?_setIfInBounds_ne (Ne.symm h)]
def Hn(E E':LH):LH:=fun b=>match E b with | some o=>some o | none=>E' b
def Gc(i s:Nat)(c:Nat)(f1 f2:FuncId)(p1 p2:String):Trace:=
 #[{g:=i,fn:=f1,pos:=p1,act:= .send c s},{g:=0,fn:=f2,pos:=p2,act:= .recv c s 0},{g:=i,fn:=f1,pos:=p1,act:= .sendDone c s},{g:=0,fn:=f2,pos:=p2,act:= .recvDone c s}]
theorem Tw{i s K:Nat}{f1 f2:FuncId}{p1 p2:String}(hi:i≠0)(V:Deaf t i=0)(W:Deaf t 0=0){x:Nat}(Z:Knows t i x):Knows (t++Gc i s K f1 f2 p1 p2) 0 x:=by
 generalize hu:Gc i s K f1 f2 p1 p2=u;have O:(t++u)[t.size]? =some {g:=i,fn:=f1,pos:=p1,act:= .send K s}:=by subst hu;rw [Array.getElem?_append_right (by omega)];simp [Gc]
 have aa:(t++u)[t.size+1]? =some {g:=0,fn:=f2,pos:=p2,act:= .recv K s 0}:=by subst hu;rw [Array.getElem?_append_right (by omega)];simp [Gc]
 have ab:(t++u)[t.size+2]? =some {g:=i,fn:=f1,pos:=p1,act:= .sendDone K s}:=by subst hu;rw [Array.getElem?_append_right (by omega)];simp [Gc]
 have U:(t++u)[t.size+3]? =some {g:=0,fn:=f2,pos:=p2,act:= .recvDone K s}:=by subst hu;rw [Array.getElem?_append_right (by omega)];simp [Gc]
 have ae:=Z.hb_new (Nat.le_refl _) O rfl;have ag:(t++u).heard t.size:=⟨i,by simp [Trace.g?,O],by rw [deaf_old (Nat.le_refl _)];exact V⟩;have ah:(t++u).heard (t.size+3):=⟨0,by simp [Trace.g?,U],by
  rw [deaf_succ ab,deaf_succ aa,deaf_succ O,deaf_old (Nat.le_refl _)]
  simp only [deafStep];exact W⟩
 exact⟨t.size+3,_,U,rfl,.inr (ae.trans (.single (.inr ⟨.handOver (by rw [act?_of O]) (by rw [act?_of U]),ag,ah⟩)))⟩
theorem Inv.meet(h:Inv P F B gs w t φ r bt S Sh j c v wt' sm cl k)(aM:∀k v E E',Le E E'→F.msg k v E→F.msg k v E'){i k':Nat}(aj:k'<j)(ak:i=B.N0+k')(Z:φ i= .ph (.Cx k')){U:List Nat}{vs:Lv_}(ah:φ 0= .ph (.Cd U vs))
  {aA aB:Goroutine} {s₀ K:St} (aC:Cp (S 0) s₀) (aN:Cp (S i) K) (aO:Stop P F (.Cd U vs) aA s₀) {x:Value} (aP:F.msg k' x K.E) (aQ:Way P false (Stop P F .CZ) (served aB undef) K)
  (al:gs'.size=gs.size) (aR:gs'[0]? =some (served aA (.tuple #[x,.bool true]))) (hi:gs'[i]? =some (served aB undef)) (V:∀a,a≠0→a≠i→gs'[a]? =gs[a]?) (aS:cl=false) {f1 f2:FuncId} {p1 p2:String}:
  ∃aD aE aF S',Inv P F B gs' (w.setChan F.ch 0 #[] false (k+1) (k+1) false) (t++Gc i k F.ch f1 f2 p1 p2) aD aE aF S' Sh j c v wt' sm false (k+1)∧Mu.lt (mu F gs'.size aD aE aF) (mu F gs.size φ r bt):=by
 subst aS;have bd:=h.Bw.pos;have be:=h.Bw.size;have aa:i<gs.size:=by omega
 have ab:0<gs.size:=by omega
 have ai:i≠0:=by omega
 have aG:F.has k'=true:=by have:=h.Bw.work k' aj;rw [← ak,Z] at this;exact this.2
 have aT:k' ∉ U:=by have:=(h.Bw.G4 k' aj aG).1 (by rw [← ak];exact Z);rwa [ah] at this
 have aH:=h.Bw.meet (x:=x) ah aj (by rw [← ak];exact Z);rw [← ak] at aH;have hu:∀op∈Gc i k F.ch f1 f2 p1 p2,op.act.touch? =none∧∀m,op.act≠ .mark m:=by
  intro op O;simp only [Gc,List.mem_toArray,List.mem_cons,List.not_mem_nil,or_false] at O;rcases O with rfl | rfl | rfl | rfl <;> exact⟨rfl,by simp⟩
 have aU:=h.EA.Di h.Bw hu;have aI:=h.CQ.Fp F.ch h.Gn;have am:Cf t w gs.size (upd (upd S i K) 0 s₀) Sh:=by
  have:=(h.CQ.ghost aa aN).ghost (i:=0) (s₀:=s₀) ab (by rw [upd_ne _ _ (Ne.symm ai)];exact aC);exact this
 have ar:upd (upd S i K) 0 s₀ 0=s₀:=upd_same _ _ _;have au:upd (upd S i K) 0 s₀ i=K:=by rw [upd_ne _ _ ai,upd_same]
 have aV:Cf (t++Gc i k F.ch f1 f2 p1 p2) (w.setChan F.ch 0 #[] false (k+1) (k+1) false) gs.size (upd (upd S i K) 0 s₀) Sh:=by
  refine am.ext (fun said=>?_) (fun op O a an=>by rw [(hu op O).1] at an;cases an) (fun op O=>?_) (by simp [World.setChan]) (fun b hb=>PR _ _ _ _ _ _ _ _ fun e=>hb (e▸h.Gn))
  ·have key:∀(l:List MemOp) (t:Trace),¬Race said t→(∀op∈l,op.act.touch? =none)→¬Race said (t++l.toArray):=by
    intro l
    induction l with
    | nil=>intro t ht _;simpa using ht
    | cons y l aW=>
     intro t ht ae;have e:t++(y::l).toArray=(t++ #[y])++l.toArray:=by apply Array.ext';simp
     rw [e];exact aW _ (noRace_append (g:=y.g) ht (by simp) fun z a _ op O b hb _=>by simp at O;subst O;rw [ae op (by simp)] at hb;cases hb) fun op O=>ae op (by simp [O])
   exact key _ t (h.CQ.clean said) fun op O=>(hu op (by simpa [Gc] using O)).1
  ·simp only [Gc,List.mem_toArray,List.mem_cons,List.not_mem_nil,or_false] at O;rcases O with rfl | rfl | rfl | rfl <;> exact aI
 have aX:∀b o o',s₀.E b=some o→K.E b=some o'→o=o':=by
  intro b o o' av aw;have ay:=(am.fits 0 ab).e b o (by rw [ar];exact av);have ao:=(am.fits i aa).e b o' (by rw [au];exact aw);rw [ay] at ao;exact Option.some.inj ao
 have aJ:Le s₀.E (Hn s₀.E K.E):=fun b o V=>by simp [Hn,V]
 have aY:Le K.E (Hn s₀.E K.E):=fun b o V=>by
  unfold Hn;cases ap:s₀.E b with
  | none=>exact V
  | some o'=>simp only;rw [aX b o' o ap V]
 have aZ:Deaf t 0=0:=by rw [h.EA.deaf 0 ab,ah];rfl
 have a0:Deaf t i=0:=by rw [h.EA.deaf i aa,Z];rfl
 have aK:Cf (t++Gc i k F.ch f1 f2 p1 p2) (w.setChan F.ch 0 #[] false (k+1) (k+1) false) gs.size (upd (upd S i K) 0 ⟨Hn s₀.E K.E,s₀.H,false⟩) Sh:=by
  have:=aV.grow (i:=0) (E':=Hn s₀.E K.E) (q:=false) ab (fun b o hb=>by
   rw [ar]
   unfold Hn at hb
   cases ap:s₀.E b with
   | some o'=>rw [ap] at hb;exact .inl hb
   | none=>
    rw [ap] at hb
    have aL:K.E b=some o:=hb
    refine .inr ⟨i,aa,by rw [au];exact aL,fun y a a1 a2 a3=>?_⟩
    have hold:touchAt t y=some a:=by
     obtain⟨op,V,az⟩:=touch_of a1
     rcases getElem?_append_cases V with⟨_,a4⟩ | ⟨_,a5⟩
     ·rw [touchAt_of a4];exact az
     ·rw [(hu op a5).1] at az;cases az
    exact Tw ai a0 aZ (am.kE i aa b (by rw [au,aL];simp) y a hold a2 a3))
  rw [ar,On] at this;exact this
 have a6:∀b,Hn s₀.E K.E b≠none→s₀.H b=none:=by
  intro b hb;have:=(aK.fits 0 ab).d b (by rw [upd_same];exact hb)
  rwa [upd_same] at this
 have a7:k'<F.n:=Nat.lt_of_lt_of_le aj h.Bw.jn;obtain⟨z,_,a8,_⟩:=aO.law.recv U vs rfl;obtain⟨a9,ba⟩:=a8 k' x (Hn s₀.E K.E) a7 aG aT aJ a6 (aM _ _ _ _ aY aP);obtain⟨bb,bc⟩:=aQ;have f0:∀a,a≠0→a≠i→upd (upd φ i (.ph .CZ)) 0 (.ph (.Cd (U++ [k']) (vs++ [x]))) a=φ a:=fun a av aw=>by rw [upd_ne _ _ av,upd_ne _ _ aw]
 have fi:upd (upd φ i (.ph .CZ)) 0 (.ph (.Cd (U++ [k']) (vs++ [x]))) i= .ph .CZ:=by rw [upd_ne _ _ ai,upd_same]
 refine⟨upd (upd φ i (.ph .CZ)) 0 (.ph (.Cd (U++ [k']) (vs++ [x]))),upd (upd r i bb) 0 a9,upd (upd bt i true) 0 true,upd (upd S i K) 0 ⟨Hn s₀.E K.E,s₀.H,false⟩,⟨by rw [al];exact aH,?_,fun a o ag=>?_,by rw [al];exact aK,h.HR,h.Gn,h.ne,?_,?_,fun hb=>(by rw [upd_same] at hb;cases hb),fun aq hb=>?_,?_,h.tape,h.os,h.output⟩,?_⟩
 ·rw [al];refine aU.VC (fun a an=>?_) (fun a an ae=>?_) (fun aq=>?_)
  ·by_cases q:a=0
   ·subst q;rw [upd_same,ah];rfl
   ·by_cases W:a=i
    ·subst W;rw [fi,Z];rfl
    ·rw [f0 a q W]
  ·by_cases q:B.N0+a=i
   ·rw [q,fi] at ae;exact ae.elim
   ·rwa [f0 _ (by omega) q] at ae
  ·have:=h.Bw.cj aq;exact f0 _ (by omega) (by omega)
 ·by_cases q:a=0
  ·subst q;rw [aR] at ag;obtain rfl:=Option.some.inj ag;rw [upd_same,upd_same,upd_same,upd_same];exact .walk rfl (fun q=>by cases q) ba
  ·by_cases W:a=i
   ·subst W;rw [hi] at ag;obtain rfl:=Option.some.inj ag;rw [fi,upd_ne _ _ q,upd_same,upd_ne _ _ q,upd_same,upd_ne _ _ q,upd_same];have hm:(a==0)=false:=by simp [q]
    exact .walk (by rw [hm];rfl) (fun q=>by cases q) (by rw [hm];exact bc)
   ·rw [V a q W] at ag;rw [f0 a q W,upd_ne _ _ q,upd_ne _ _ W,upd_ne _ _ q,upd_ne _ _ W,upd_ne _ _ q,upd_ne _ _ W];exact h.EB a o ag
 ·show(w.setChan F.ch 0 #[] false (k+1) (k+1) false).heap[F.wg]? =_;rw [PR _ _ _ _ _ _ _ _ h.ne];exact h.wg
 ·show(w.setChan F.ch 0 #[] false (k+1) (k+1) false).heap[F.ch]? =_;simp [World.setChan,aI]
 ·have bf:=h.Bw.cj aq;rw [upd_ne _ _ (by omega),upd_ne _ _ (by omega)] at hb;exact h.blk aq hb
 ·rw [upd_same];exact(h.le.trans fun b o V=>aC.ext b o V).trans aJ
 ·rw [al];refine Ss ?_;have ay:=sumTo_upd (upd φ i (.ph .CZ)) (.ph (.Cd (U++ [k']) (vs++ [x]))) (wt F.n) ab;have ao:=sumTo_upd φ (.ph .CZ) (wt F.n) aa;rw [upd_ne _ _ (Ne.symm ai),ah] at ay;rw [Z] at ao;have bg:wt F.n (.ph (.Cd U vs))=2:=rfl;have bh:wt F.n (.ph (.Cd (U++ [k']) (vs++ [x])))=2:=rfl;have bi:wt F.n (.ph (.Cx k'))=10:=rfl;have bj:wt F.n (.ph .CZ)=9:=rfl;omega
theorem Inv.send(h:Inv P F B gs w t φ r bt S Sh j c v wt' sm cl k)(ay:∀k v E E',Le E E'→F.msg k v E→F.msg k v E'){i k':Nat}{g:Goroutine}(hi:gs[i]? =some g)(K:φ i= .ph (.Cx k'))(az:bt i=true)(aa:(i==0)=false){s₀:St}(al:Cp (S i) s₀)(hs:Stop P F (.Cx k') g s₀):
  Hm P F B gs w sl t i (mu F gs.size φ r bt):=by
 have V:i<gs.size:=(Array.getElem?_eq_some_iff.1 hi).1;have am:0<gs.size:=by omega
 have O:i≠0:=by simpa using aa
 have aA:k'<j∧i=B.N0+k':=by
  rcases h.Bw.Fv V with rfl | ⟨a,b⟩ | ⟨aB,W,rfl⟩ | ⟨ab,rfl⟩
  ·exact absurd rfl O
  ·have:=h.Bw.old i a b;rw [K] at this;exact this.elim
  ·have:=h.Bw.work aB W;rw [K] at this;obtain⟨rfl,_⟩:=this;exact⟨W,rfl⟩
  ·have:=h.Bw.cls ab;rw [K] at this;exact this.elim
 obtain⟨W,aC⟩:=aA;have aD:cl=false:=by
  cases aE:cl with
  | false=>rfl
  | true=>exact absurd K (h.noSend aE i k' V)
 subst aD;obtain⟨x,z,an,aF,ao⟩:=hs.law.send k' rfl;have ap:stepG P (i==0) g w= .comm g #[scase F.ch x z] true .send w #[]:=by rw [aa];exact aF w
 have aq:∀(a:Nat) (fn:FuncId) (pos:String),MemOp.ofEvents a fn pos #[]= #[]:=fun a fn pos=>by rw [ofEvents_eq];simp
 cases ae:bt 0 with
 | true=>
  have aG:partners (gs.setIfInBounds i ph) F.ch false= []:=by
   refine partners_nil fun a o ag=>?_;rcases getElem?_stand gs i a o ag with⟨_,rfl⟩ | ⟨_,ah⟩
   ·exact offersAt_ph _ _
   ·exact(h.EB a o ah).R9 fun e=>by
     have:a=0:=by simpa using e
     subst this;exact ae
  have Z:=crowd_waits (sl:=sl) hi ap fun aR ar=>by
   simp at ar;subst ar;exact ways_send_none (v:=x) (z:=z) h.G7 (Nat.le_refl _) aG
  obtain⟨au,ai,aj⟩:=h.rest (g':=parked g #[scase F.ch x z] .send) (u:=MemOp.ofEvents i g.frame.fn g.frame.place #[]) V az al (by rw [K];exact .F1 aa an (hs.law.live rfl) ao) (aq _ _ _) (fun e=>absurd e O) (fun _ _=>ae) (fun ab e=>by have:=h.Bw.cj ab;omega);exact⟨_,_,_,_,Z,.inl ⟨_,_,_,_,_,_,_,_,_,_,_,_,ai,aj⟩⟩
 | false=>
  obtain⟨aH,ak⟩:∃o,gs[0]? =some o:=⟨_,Array.getElem?_eq_getElem am⟩;obtain⟨p0,av,hm⟩:=h.Bw.main;have aw:=h.EB 0 aH ak;rw [ae,av] at aw;obtain⟨aS,vs,U,aI,rfl,rfl,aJ⟩:=aw.receiver rfl rfl;have aK:partners (gs.setIfInBounds i ph) F.ch false= [(0,0)]:=by
   rw [partners_one (j:=0) (g:=parked U #[rcase F.ch aI] (.recv true)) (stand_get (Ne.symm O) ak) fun a o aL ag=>?_]
   ·rw [offersAt_parked_recv];simp
   ·rcases getElem?_stand gs i a o ag with⟨_,rfl⟩ | ⟨_,ah⟩
    ·exact offersAt_ph _ _
    ·exact(h.EB a o ah).R9 fun e=>by
      have:a=0:=by simpa using e
      exact absurd this aL
  have Z:=crowd_send_meets (sl:=sl) hi ap h.G7 (Ne.symm O) ak aK;rw [finishComm_recv,finishComm_send,aq] at Z;have aM:((gs.setIfInBounds 0 (served U (recvd true x true))).setIfInBounds i (served g undef)).size=gs.size:=by simp
  obtain⟨aN,aO,au,S',ai,aj⟩:=h.meet ay W aC K av (.refl _) al aJ an ao (gs':=(gs.setIfInBounds 0 (served U (recvd true x true))).setIfInBounds i (served g undef)) aM
   (by rw [Array.getElem?_setIfInBounds_ne O,Array.getElem?_setIfInBounds_self_of_lt am];rfl) (by rw [Array.getElem?_setIfInBounds_self_of_lt (by simpa using V)]) (fun a aP aQ=>by rw [Array.getElem?_setIfInBounds_ne (Ne.symm aQ),Array.getElem?_setIfInBounds_ne (Ne.symm aP)]) rfl
   (f1:=g.frame.fn) (f2:=U.frame.fn) (p1:=g.frame.place) (p2:=U.frame.place)
  refine⟨_,_,_,_,Z,.inl ⟨aN,aO,au,S',Sh,j,c,v,wt',sm,false,k+1,?_,aj⟩⟩;rw [Array.empty_append];exact ai
end
end Pal
namespace Pal
open Go Go.Conc
open Go.ConcN (upd upd_same upd_ne sumTo sumTo_upd sumTo_upd_out sumTo_congr le_sumTo sumTo_le fork_knows RelBy)
section
variable {P:Program}{F:Fam}{B:Base}{gs gs':Array Goroutine}{w w':World}{sl:Option (Nat×Nat)}{t:Trace}{φ:Nat→Nx}{r:Nat→Rk}{bt:Nat→Bool}{S:Nat→St}{Sh:Nat→Prop}{j:Nat}{c:Bool}{v wt' sm v₁ wt₁ sm₁:Nat}{cl cl₁:Bool}{k k₁:Nat}{main:Bool}
theorem Inv.RI(h:Inv P F B gs w t φ r bt S Sh j c v wt' sm true k):c=true∧EW (φ (B.N0+F.n))∧∀i,0<i→i<gs.size→∃d,φ i= .gone d:=by
 have hm:=h.Bw.mode;have K:c=true∧EW (φ (B.N0+F.n)):=by
  split at hm
  ·rename_i K;refine⟨K,?_⟩;cases O:φ (B.N0+F.n) with
   | gone d=>trivial
   | ph p=>rw [O] at hm;cases p <;> simp [CY] at hm
  ·simp [CY] at hm
 refine⟨K.1,K.2,fun i hi U=>?_⟩;have:EW (φ i):=by
  rcases h.Bw.Fv U with rfl | ⟨a,b⟩ | ⟨k',V,rfl⟩ | ⟨_,rfl⟩
  ·omega
  ·exact h.Bw.old i a b
  ·exact h.Bw.Ou K.1 (.inr (.inr (.inr (.inr K.2)))) k' V
  ·exact K.2
 cases O:φ i with
 | gone d=>exact⟨d,rfl⟩
 | ph p=>rw [O] at this;exact this.elim
theorem Inv.over(h:Inv P F B gs w t φ r bt S Sh j c v wt' sm true k){aC:List Nat}{vs:Lv_}(ap:φ 0= .ph (.Cd aC vs)){s₀:St}(aq:Cp (S 0) s₀){g':Goroutine}(aD:F.fin g' s₀)
  (ar:gs'.size=gs.size) (aE:gs'[0]? =some g') (aa:∀a,a≠0→gs'[a]? =gs[a]?) {f1:FuncId} {p1:String}:
  Over P F B gs' w (t++ #[{g:=0,fn:=f1,pos:=p1,act:= .recvClosed F.ch}]):=by
 obtain⟨ag,au,aF⟩:=h.RI;have aX:=h.Bw.pos;have av:=h.Bw.size;have aj:0<gs.size:=by omega
 have aG:F.ch<w.heap.size:=h.CQ.Fp F.ch h.Gn;generalize hu:(#[{g:=0,fn:=f1,pos:=p1,act:= .recvClosed F.ch}]:Trace)=u;have aw:∀op∈u,op.act.touch? =none∧∀m,op.act≠ .mark m:=by
  intro op O;subst hu;simp at O;subst O;exact⟨rfl,by simp⟩
 have ab:=h.EA.Di h.Bw aw;have aH:Deaf t 0=0:=by rw [h.EA.deaf 0 aj,ap];rfl
 have ay:∀i g,0<i→gs[i]? =some g→∃q d,φ i= .gone d∧QuitsD P q d g∧S i= .quiet:=by
  intro i g hi K;obtain⟨d,hd⟩:=aF i hi (Array.getElem?_eq_some_iff.1 K).1;have hs:=h.EB i g K;rw [hd] at hs;generalize V:Nx.gone d=x at hs;generalize S i=s at hs ⊢;generalize r i=ρ at hs;generalize bt i=aY at hs;cases hs with
  | gone _ ah=>cases V;exact⟨_,_,hd,ah,rfl⟩
  | _=>cases V
 have ah:∀i,∃q,∀g,0<i→gs[i]? =some g→QuitsD P q (Deaf t i) g:=by
  intro i;by_cases hi:0<i∧i<gs.size
  ·obtain⟨q,d,U,Z,_⟩:=ay i _ hi.1 (Array.getElem?_eq_getElem hi.2);refine⟨q,fun g _ K=>?_⟩;rw [Array.getElem?_eq_getElem hi.2] at K;obtain rfl:=Option.some.inj K;rw [h.EA.deaf i hi.2,U];exact Z
  ·exact⟨0,fun g U Z=>absurd ⟨U,(Array.getElem?_eq_some_iff.1 Z).1⟩ hi⟩
 have az:∀op∈u,op.g=0:=by intro op O;subst hu;simp at O;subst O;rfl
 have aI:Cf t w gs.size (lone s₀) Sh:=by
  have U:=h.CQ.ghost aj aq;refine U.congr fun i hi=>?_;by_cases e:i=0
  ·subst e;rw [upd_same];exact⟨rfl,rfl⟩
  ·rw [upd_ne _ _ e];obtain⟨_,_,_,_,aJ⟩:=ay i _ (by omega) (Array.getElem?_eq_getElem hi);rw [aJ];simp [lone,e]
 have aK:Cf (t++u) w gs.size (lone s₀) Sh:=aI.mute (g:=0) az (fun op aa=>(aw op aa).1) (fun op O=>by subst hu;simp at O;subst O;exact aG) rfl;refine⟨fun i=>Classical.choose (ah i),Sh,g',s₀,⟨aE,⟨fun i g hi K=>?_,fun i hi=>?_⟩,by rw [ar];exact aK,fun x g K aL ak=>?_,?_⟩,aD,h.le.trans fun b o aa=>aq.ext b o aa,h.tape,h.os,h.output⟩
 ·rw [Deaf_other t (by omega) u az];rw [aa i (by omega)] at K;exact Classical.choose_spec (ah i) g hi K
 ·exact ab.above i (by rw [← ar];exact hi)
 ·rcases ab.over x g K aL ak with q | ⟨q1,q2⟩
  ·exact q
  obtain⟨p,W⟩:=ab.JU ag au;have aZ:p<t.size:=by
   obtain⟨a0,a1⟩:=h.EA.JU ag au;rcases Nat.lt_or_ge p t.size with q | q
   ·exact q
   ·have U:=W.1;obtain⟨op,O,aM⟩:=Option.map_eq_some_iff.1 U;rcases getElem?_append_cases O with⟨aN,_⟩ | ⟨_,hm⟩
    ·exact aN
    ·subst hu;simp at hm;subst hm;cases aM
  have al:(t++u)[t.size]? =some {g:=0,fn:=f1,pos:=p1,act:= .recvClosed F.ch}:=by subst hu;simp
  have aO:(t++u).heard t.size:=⟨0,by simp [Trace.g?,al],by rw [deaf_old (Nat.le_refl _)];exact aH⟩;have ai:HappensBefore (t++u) p t.size:= .single (.inr ⟨.closed W.1 (by rw [act?_of al]),W.2.2.1,aO⟩);have aA:(t++u).g? t.size=some 0:=by simp [Trace.g?,al]
  have am:∀{a b:Nat} {g:Nat},a<b→(t++u).g? a=some g→(t++u).g? b=some g→HappensBefore (t++u) a b:=fun U Z aP=> .single (.inl ⟨U,_,Z,aP⟩);rcases Nat.lt_or_ge g (B.N0+F.n) with aQ | aQ
  ·
   obtain⟨q,aR,aS,aT,aU,aV⟩:=W.2.2.2.1;obtain⟨ρ,a2,aW,ae⟩:=aV (g - B.N0) (by omega);have an:B.N0+(g - B.N0)=g:=by omega
   rw [an] at ae;have aB:HappensBefore (t++u) ρ q:= .single (.inr ⟨.marked aW (.inr ae.act) aS (fun z U Z=>ab.norel z (by omega)),ae.heard,aU⟩);have e2:HappensBefore (t++u) q p:=am aR aT W.2.1;have hle:x≤ρ:=Nat.le_of_not_lt fun ao=>ae.after x ao K ak;refine⟨t.size,aA,?_⟩;rcases Nat.lt_or_ge x ρ with V | V
   ·exact((am V K ae.g).trans (aB.trans e2)).trans ai
   ·obtain rfl:x=ρ:=by omega
    exact(aB.trans e2).trans ai
  ·
   have an:g=B.N0+F.n:=by rw [ag] at av;have:=h.Bw.cj ag;simp at av;omega
   subst an;have hle:x≤p:=Nat.le_of_not_lt fun ao=>W.2.2.2.2 x ao K ak;refine⟨t.size,aA,?_⟩;rcases Nat.lt_or_ge x p with V | V
   ·exact(am V K W.2.1).trans ai
   ·obtain rfl:x=p:=by omega
    exact ai
 ·have:=ab.deaf 0 aj;rw [ap] at this;exact this
theorem Inv.recv(h:Inv P F B gs w t φ r bt S Sh j c v wt' sm cl k)(aK:∀k v E E',Le E E'→F.msg k v E→F.msg k v E'){x:Goroutine}(hi:gs[0]? =some x){aj:List Nat}{vs:Lv_}(aa:φ 0= .ph (.Cd aj vs))(aL:bt 0=true)
  {O:Goroutine} {s₀:St} (ak:Cp (S 0) s₀) (hs:Stop P F (.Cd aj vs) O s₀) (al:∀w,stepG P true x w=stepG P true O w) (a3:x.frame=O.frame):
  Hm P F B gs w sl t 0 (mu F gs.size φ r bt):=by
 have am:0<gs.size:=(Array.getElem?_eq_some_iff.1 hi).1;obtain⟨z,aM,_,aN⟩:=hs.law.recv aj vs rfl;have an:stepG P (0==0) x w= .comm O #[rcase F.ch z] true (.recv true) w #[]:=by rw [show((0:Nat)==0)=true from rfl,al];exact aM w
 have ao:∀(a:Nat) (fn:FuncId) (pos:String),MemOp.ofEvents a fn pos #[]= #[]:=fun a fn pos=>by rw [ofEvents_eq];simp
 by_cases ab:partners (gs.setIfInBounds 0 ph) F.ch true= []
 ·cases ae:cl with
  | false=>
   have W:=h.G7;rw [ae] at W;have Z:=crowd_waits (sl:=sl) hi an fun a4 aA=>by
    simp at aA;subst aA;exact ways_recv_none (z:=z) W ab
   have aO:∀a k',a<gs.size→φ a= .ph (.Cx k')→bt a=true:=by
    intro a k' ah ap;cases hb:bt a with
    | true=>rfl
    | false=>
     have V:=h.EB a _ (Array.getElem?_eq_getElem ah);rw [ap,hb] at V;obtain⟨g,y,aq,hgo,_⟩:=V.OF;have ai:a≠0:=fun e=>by subst e;rw [aa] at ap;cases ap
     have:(a,0)∈partners (gs.setIfInBounds 0 ph) F.ch true:=mem_partners.2 ⟨gs[a],stand_get ai (Array.getElem?_eq_getElem ah),by rw [hgo,offersAt_parked_send];simp⟩;rw [ab] at this;cases this
   obtain⟨aB,ar,au⟩:=h.rest (g':=parked O #[rcase F.ch z] (.recv true)) (u:=MemOp.ofEvents 0 x.frame.fn x.frame.place #[]) am aL ak (by rw [aa];exact .FG rfl hs) (ao _ _ _) (fun _=>⟨ae,aO⟩) (fun k' e=>by rw [aa] at e;cases e) (fun W e=>by have:=h.Bw.pos;omega);exact⟨_,_,_,_,Z,.inl ⟨_,_,_,_,_,_,_,_,_,_,_,_,ar,au⟩⟩
  | true=>
   subst ae;have Z:=crowd_recv_closed (sl:=sl) hi an h.G7 ab;rw [finishComm_recv,ao] at Z;obtain⟨W,a5,aP⟩:=h.RI;have aQ:=aN fun k' U hh=>by
    have aR:k'<j:=by rw [h.Bw.cj W];exact U
    have aC:=h.Bw.G4 k' aR hh;rw [aa] at aC;have a6:=h.Bw.size;have a7:=h.Bw.pos;obtain⟨d,hd⟩:=aP (B.N0+k') (by omega) (by omega);apply Classical.byContradiction;intro aS;rw [aC.2 aS] at hd;cases hd
   have aT:=h.over (gs':=gs.setIfInBounds 0 (served O (recvd true z false))) aa ak aQ (by simp) (by rw [Array.getElem?_setIfInBounds_self_of_lt am];rfl) (fun a ah=>by rw [Array.getElem?_setIfInBounds_ne (Ne.symm ah)]) (f1:=O.frame.fn) (p1:=O.frame.place);refine⟨_,_,_,_,Z,.inr ?_⟩;rw [Array.empty_append];exact aT
 ·have ae:cl=false:=by
   obtain⟨⟨a,b⟩,av⟩:=List.exists_mem_of_ne_nil _ ab;obtain⟨o,aw,K⟩:=mem_partners.1 av;rcases getElem?_stand gs 0 a o aw with⟨_,rfl⟩ | ⟨_,ag⟩
   ·rw [offersAt_ph] at K;cases K
   ·obtain⟨k',U,_⟩:=(h.EB a o ag).NZ fun e=>by rw [e] at K;cases K
    cases al:cl with
    | false=>rfl
    | true=>exact absurd U (h.noSend al a k' (Array.getElem?_eq_some_iff.1 ag).1)
  subst ae;obtain⟨a,ay,aD,a8,a9,d,ai,aE,Z⟩:=crowd_recv_meets_some (sl:=sl) hi an h.G7 ab fun a b av=>by
   obtain⟨o,aw,K⟩:=mem_partners.1 av;rcases getElem?_stand gs 0 a o aw with⟨_,rfl⟩ | ⟨aU,ag⟩
   ·rw [offersAt_ph] at K;cases K
   ·have V:=h.EB a o ag;obtain⟨k',U,az⟩:=V.NZ fun e=>by rw [e] at K;cases K
    rw [U,az] at V;obtain⟨g,y,aq,hgo,_⟩:=V.OF;rw [hgo,offersAt_parked_send] at K;simp at K;exact⟨K,aU,g,y,aq,_,by rw [ag,hgo]⟩
  have aF:a<gs.size:=(Array.getElem?_eq_some_iff.1 aE).1;have V:=h.EB a _ aE;obtain⟨k',U,az⟩:=V.NZ (by rw [offersAt_parked_send];simp);rw [U,az] at V;obtain⟨g,y,aq,hgo,aV,ba,aG⟩:=V.OF;obtain⟨aH,e2,aW⟩:=TH hgo;have aX:aD=y:=by simp [scase] at aH;exact aH.1
  subst aX;subst e2;rw [finishComm_recv,finishComm_send,ao] at Z;rw [← aW] at aG;have aI:k'<j∧a=B.N0+k':=by
   rcases h.Bw.Fv aF with rfl | ⟨q1,q2⟩ | ⟨aY,aJ,rfl⟩ | ⟨W,rfl⟩
   ·exact absurd rfl ai
   ·have:=h.Bw.old a q1 q2;rw [U] at this;exact this.elim
   ·have:=h.Bw.work aY aJ;rw [U] at this;obtain⟨rfl,_⟩:=this;exact⟨aJ,rfl⟩
   ·have:=h.Bw.cls W;rw [U] at this;exact this.elim
  obtain⟨aZ,a0,aB,S',ar,au⟩:=(h.at_ d).meet aK aI.1 aI.2 U aa ak (.refl _) hs aV aG (gs':=(gs.setIfInBounds a (served ay undef)).setIfInBounds 0 (served O (recvd true aD true))) (by simp)
   (by rw [Array.getElem?_setIfInBounds_self_of_lt (by simpa using am)];rfl) (by rw [Array.getElem?_setIfInBounds_ne (Ne.symm ai),Array.getElem?_setIfInBounds_self_of_lt aF]) (fun b a1 a2=>by rw [Array.getElem?_setIfInBounds_ne (Ne.symm a1),Array.getElem?_setIfInBounds_ne (Ne.symm a2)]) rfl
   (f1:=ay.frame.fn) (f2:=O.frame.fn) (p1:=ay.frame.place) (p2:=O.frame.place)
  refine⟨_,_,_,_,Z,.inl ⟨aZ,a0,aB,S',Sh,j,c,v,wt',sm,false,k+1,?_,au⟩⟩;rw [Array.empty_append];exact ar
theorem Inv.spawn(h:Inv P F B gs w t φ r bt S Sh j c v wt' sm cl k){g g' child:Goroutine}(hi:gs[0]? =some g){p U O:Ph}(ah:φ 0= .ph p)(av:c=false){s₀:St}(aq:Cp (S 0) s₀)(aw:stepG P true g w= .spawn g' child w #[])
  (ay:Way P true (Stop P F U) g' s₀) (az:Way P false (Stop P F O) child ⟨s₀.E,fun _=>none,false⟩) (aA:Fam.DF U=true) (aB:Fam.DF O=false) (aC:Fam.Ee U=false) (aD:Fam.Ee O=false) {ai:Nat} {aj:Bool}
  (aE:Ce F B.N0 (gs.size+1) ai aj (upd (upd φ gs.size (.ph O)) 0 (.ph U)) v wt' sm cl)
  (hd:En (.ph p)=0∧En (.ph U)=0∧En (.ph O)=0) (aF:∀k,k<ai→late (upd (upd φ gs.size (.ph O)) 0 (.ph U) (B.N0+k))→k<j∧late (φ (B.N0+k))) (an:aj=true→B.N0+F.n=gs.size∧O= .C5)
  (hm:wt F.n (.ph U)+wt F.n (.ph O)<wt F.n (.ph p)) (aG:sm=0):
  Hm P F B gs w sl t 0 (mu F gs.size φ r bt):=by
 have W:0<gs.size:=(Array.getElem?_eq_some_iff.1 hi).1;have ak:=runT_crowd_spawn (P:=P) (sl:=sl) (i:=0) hi (show stepG P (0==0) g w=_ from aw);have aH:∀(a:Nat) (fn:FuncId) (pos:String),MemOp.ofEvents a fn pos #[]= #[]:=fun a fn pos=>by rw [ofEvents_eq];simp
 rw [aH] at ak;generalize aI:({g:=0,fn:=g.frame.fn,pos:=g.frame.place,act:= .go gs.size}:MemOp)=x at ak;generalize aJ:({g:=gs.size,fn:=child.frame.fn,pos:=g.frame.place,act:= .start}:MemOp)=y at ak;have aa:x.g=0∧x.act= .go gs.size:=by subst aI;exact⟨rfl,rfl⟩
 have ab:y.g=gs.size∧y.act= .start:=by subst aJ;exact⟨rfl,rfl⟩
 have aK:((#[]:Trace).push x).push y= #[x,y]:=rfl;have al:((gs.setIfInBounds 0 g').push child).size=gs.size+1:=by simp
 have f0:upd (upd φ gs.size (.ph O)) 0 (.ph U) 0= .ph U:=upd_same _ _ _;have am:upd (upd φ gs.size (.ph O)) 0 (.ph U) gs.size= .ph O:=by rw [upd_ne _ _ (by omega),upd_same]
 have ar:∀a,a≠0→a≠gs.size→upd (upd φ gs.size (.ph O)) 0 (.ph U) a=φ a:=fun a aL aM=>by rw [upd_ne _ _ aL,upd_ne _ _ aM]
 have hu:∀op∈(#[x,y]:Array MemOp),op.act.touch? =none∧∀m,op.act≠ .mark m:=by
  intro op K;simp only [List.mem_toArray,List.mem_cons,List.not_mem_nil,or_false] at K;rcases K with rfl | rfl
  ·rw [aa.2];exact⟨rfl,by simp⟩
  ·rw [ab.2];exact⟨rfl,by simp⟩
 have aN:D3 F B.N0 B.t0 (gs.size+1) ai aj (upd (upd φ gs.size (.ph O)) 0 (.ph U)) (t++ #[x,y]):=by
  refine h.EA.spawn h.Bw av (fun a ao=>?_) (by rw [am];exact hd.2.2) (by rw [ah];exact hd.1) aF (fun e=>⟨(an e).1,by rw [(an e).1,am,(an e).2]⟩) aa ab;by_cases e:a=0
  ·subst e;rw [f0,ah,hd.1,hd.2.1]
  ·rw [ar a e (by omega)]
 have au:Cf t w gs.size (upd S 0 s₀) Sh:=h.CQ.ghost W aq;have aO:Cf (t++ #[x,y]) w gs.size (upd S 0 s₀) Sh:=by
  refine au.ext (fun said=>?_) (fun op K a ao=>by rw [(hu op K).1] at ao;cases ao) (fun op K=>?_) rfl fun _ _=>rfl
  ·have e:t++ #[x,y]=(t++ #[x])++ #[y]:=by apply Array.ext';simp
   rw [e];exact noRace_append (g:=gs.size) (noRace_append (g:=0) (h.CQ.clean said) (fun op K=>by simp at K;subst K;exact aa.1) fun z a _ op K b hb _=>by rw [(hu op (by simp at K ⊢;exact .inl K)).1] at hb;cases hb)
    (fun op K=>by simp at K;subst K;exact ab.1) fun z a _ op K b hb _=>by rw [(hu op (by simp at K ⊢;exact .inr K)).1] at hb;cases hb
  ·simp only [List.mem_toArray,List.mem_cons,List.not_mem_nil,or_false] at K;rcases K with rfl | rfl
   ·rw [aa.2];trivial
   ·rw [ab.2];trivial
 have aP:Cf (t++ #[x,y]) w (gs.size+1) (upd (upd S 0 s₀) gs.size ⟨s₀.E,fun _=>none,false⟩) Sh:=by
  refine aO.push (i:=0) W (E:=s₀.E) (fun b o ae=>by rw [upd_same];exact ae) fun b hb z a aQ aR aS=>?_;have hold:touchAt t z=some a:=by
   obtain⟨op,ae,ap⟩:=touch_of aQ;rcases getElem?_append_cases ae with⟨_,aT⟩ | ⟨_,aU⟩
   ·rw [touchAt_of aT];exact ap
   ·rw [(hu op aU).1] at ap;cases ap
  exact fork_knows aa ab (by rw [h.EA.deaf 0 W,ah];exact hd.1) (h.EA.above _ (Nat.le_refl _)) (au.kE 0 W b (by rw [upd_same];exact hb) z a hold aR aS)
 obtain⟨aV,aW⟩:=ay;obtain⟨aX,aY⟩:=az;have ag:∀{α:Type} (f:Nat→α) (a b:α),upd (upd f 0 a) gs.size b 0=a:=fun f a b=>by rw [upd_ne _ _ (by omega),upd_same]
 refine⟨_,_,_,_,ak,.inl ⟨upd (upd φ gs.size (.ph O)) 0 (.ph U),upd (upd r 0 aV) gs.size aX,upd (upd bt 0 true) gs.size true,upd (upd S 0 s₀) gs.size ⟨s₀.E,fun _=>none,false⟩,Sh,ai,aj,v,wt',sm,cl,k,?_,?_⟩⟩
 ·rw [aK];refine⟨by rw [al];exact aE,by rw [al];exact aN,fun a o V=>?_,by rw [al];exact aP,h.HR,h.Gn,h.ne,h.wg,h.G7,fun hb=>(by rw [ag] at hb;cases hb),fun _ _=>aG,?_,h.tape,h.os,h.output⟩
  ·by_cases e:a=0
   ·subst e;rw [Array.getElem?_push_lt (by simpa using W)] at V;simp at V;subst V;rw [f0,ag,ag,ag];exact .walk aA.symm (fun q=>by rw [aC] at q;cases q) aW
   ·by_cases Z:a=gs.size
    ·subst Z;have:child=o:=by
      rw [show gs.size=(gs.setIfInBounds 0 g').size by simp,Array.getElem?_push_size] at V;exact Option.some.inj V
     subst this;rw [am,upd_same,upd_same,upd_same];have aZ:(gs.size==0)=false:=by rw [beq_eq_false_iff_ne];omega
     rw [aZ];exact .walk aB.symm (fun q=>by rw [aD] at q;cases q) aY
    ·rw [ar a e Z,upd_ne _ _ Z,upd_ne _ _ e,upd_ne _ _ Z,upd_ne _ _ e,upd_ne _ _ Z,upd_ne _ _ e];have:gs[a]? =some o:=by
      rw [Array.getElem?_push] at V;simp [Z] at V;simpa [Array.getElem?_setIfInBounds_ne (Ne.symm e)] using V
     exact h.EB a o this
  ·rw [ag];exact h.le.trans fun b o ae=>aq.ext b o ae
 ·rw [al];refine Ss ?_;simp only [sumTo];rw [am];have a0:=sumTo_upd (upd φ gs.size (.ph O)) (.ph U) (wt F.n) W;rw [upd_ne _ _ (by omega),ah] at a0;have a1:=sumTo_upd_out φ (.ph O) (wt F.n) (i:=gs.size) (j:=gs.size) (Nat.le_refl _);omega
theorem Inv.step(h:Inv P F B gs w t φ r bt S Sh j c v wt' sm cl k)(aC:∀k v E E',Le E E'→F.msg k v E→F.msg k v E'):
  ∃gs' w' aD u,stepT P (crowd gs w sl)=(.next (crowd gs' w' aD),u)∧
  ((∃aP aQ aR S' a1 O a2 v' a3 sm' cl' k',Inv P F B gs' w' (t++u) aP aQ aR S' a1 O a2 v' a3 sm' cl' k'∧Mu.lt (mu F gs'.size aP aQ aR) (mu F gs.size φ r bt))∨Over P F B gs' w' (t++u)):=by
 have bv:=h.Bw.pos;have ai:=h.Bw.size;have aE:0<gs.size:=by omega
 have a4:∀x∈gs,awake x:=by
  intro x K;obtain⟨i,hi,rfl⟩:=Array.mem_iff_getElem.1 K;exact(h.EB i _ (Array.getElem?_eq_getElem hi)).awake
 have aF:∀i (hi:i<gs.size) p,φ i= .ph p→bt i=true→(gs[i]).status= .running:=by
  intro i hi p a5 hb;have hs:=h.EB i _ (Array.getElem?_eq_getElem hi);rw [a5,hb] at hs;generalize K:Nx.ph p=x at hs;generalize Z:true=b at hs;generalize gs[i]=o at hs ⊢;generalize r i=ρ at hs;generalize S i=s at hs;cases hs with
  | walk _ _ an=>exact an.running
  | again _ _=>rfl
  | FG _ _=>cases Z
  | F1 _ _ _ _=>cases Z
  | blk _ _=>cases Z
  | gone _ _=>cases K
 have a6:∃(i:Nat) (g:Goroutine),gs[i]? =some g∧g.status= .running:=by
  obtain⟨p0,aa,ao⟩:=h.Bw.main;cases aG:bt 0 with
  | true=>exact⟨0,_,Array.getElem?_eq_getElem aE,aF 0 aE p0 aa aG⟩
  | false=>
   obtain⟨a7,a8⟩:=h.Nm aG;have aS:=h.EB 0 _ (Array.getElem?_eq_getElem aE);rw [aa,aG] at aS;obtain⟨aj,vs,aT,bw,rfl,_,_⟩:=aS.receiver rfl rfl;obtain⟨an,U⟩:=ao;have aH:B.N0+F.n<gs.size:=by rw [U] at ai;simp at ai;omega
   have a9:=h.Bw.cls U;have ab:=h.Bw.mode;rw [if_pos U] at ab;cases ar:φ (B.N0+F.n) with
   | gone d=>rw [ar] at ab;have:=ab.2.2.2.2.2;rw [a7] at this;cases this
   | ph aI=>
    cases aJ:bt (B.N0+F.n) with
    | true=>exact⟨_,_,Array.getElem?_eq_getElem aH,aF _ aH aI ar aJ⟩
    | false=>
     have au:=h.blk U aJ;have ae:=h.EB _ _ (Array.getElem?_eq_getElem aH);have ba:aI= .Dw:=by
      have av:=a9;rw [ar] at ae av;rw [aJ] at ae;generalize gs[B.N0+F.n]=o at ae;generalize r (B.N0+F.n)=ρ at ae;generalize S (B.N0+F.n)=s at ae;generalize K:Nx.ph aI=x at ae av;generalize Z:false=b at ae;cases ae with
      | walk _ _ _=>cases Z
      | again _ _=>cases Z
      | FG _ _=>cases K;exact av.elim
      | F1 _ _ _ _=>cases K;exact av.elim
      | blk _ _=>cases K;rfl
      | gone _ _=>cases K
     subst ba;rw [ar] at ab;obtain⟨bb,_,_⟩:=ab;have aU:=h.Bw.cnt;rw [aa] at aU;simp only [pend,Nat.add_zero] at aU;have hex:∃i,i<gs.size∧1≤cU (φ i)+cL (φ i)+cS (φ i):=by
      apply Classical.byContradiction;intro bc;have aK:∀i,i<gs.size→cU (φ i)=0∧cL (φ i)=0∧cS (φ i)=0:=fun i hi=>by
       have:¬1≤cU (φ i)+cL (φ i)+cS (φ i):=fun q=>bc ⟨i,hi,q⟩;omega
      have zero:∀f:Nat→Nat,(∀i,i<gs.size→f i=0)→sumTo gs.size f=0:=fun f bd=>by
       have:=sumTo_le (f:=f) (c:=0) (j:=gs.size) (fun i hi=>by rw [bd i hi];exact Nat.le_refl _);omega
      have z1:=zero (fun i=>cU (φ i)) fun i hi=>(aK i hi).1;have bx:=zero (fun i=>cL (φ i)) fun i hi=>(aK i hi).2.1;have bz:=zero (fun i=>cS (φ i)) fun i hi=>(aK i hi).2.2;omega
     obtain⟨i,hi,ak⟩:=hex;cases ap:φ i with
     | gone d=>rw [ap] at ak;simp [cU,cL,cS] at ak
     | ph pi=>
      have be:bt i=true:=by
       cases hb:bt i with
       | true=>rfl
       | false=>
        have hs:=h.EB i _ (Array.getElem?_eq_getElem hi);rw [ap,hb] at hs;rw [ap] at ak;generalize gs[i]=o at hs;generalize r i=ρ at hs;generalize S i=s at hs;generalize K:Nx.ph pi=x at hs ak;generalize Z:false=b at hs;cases hs with
        | walk _ _ _=>cases Z
        | again _ _=>cases Z
        | FG _ _=>simp [cU,cL,cS] at ak
        | F1 _ _ _ _=>have:=a8 i _ hi (ap.trans K);rw [hb] at this;cases this
        | blk _ _=>simp [cU,cL,cS] at ak
        | gone _ _=>cases K
      exact⟨i,_,Array.getElem?_eq_getElem hi,aF i hi pi ap be⟩
 obtain⟨i,g,d,aD,hi,aw,bf⟩:=crowd_pick (P:=P) (w:=w) (sl:=sl) a4 a6
 suffices Hm P F B gs (w.at d) aD t i (mu F gs.size φ r bt) by
  obtain⟨gs',w',bg,u,aL,ay⟩:=this;exact⟨gs',w',bg,u,bf.trans aL,ay⟩
 have V:=h.at_ d;have aM:i<gs.size:=(Array.getElem?_eq_some_iff.1 hi).1;have hs:=h.EB i g hi;generalize K:φ i=x at hs;generalize aV:r i=ρ at hs;generalize hb:bt i=b at hs;generalize az:S i=s at hs;cases hs with
 | FG _ _=>cases aw
 | F1 _ _ _ _=>cases aw
 | blk _ _=>cases aw
 | gone hm al=>exact V.slip hi aw K aV hm al az
 | @again aj vs _ aT _ z hm W=>
  have ah:i=0:=by simpa using hm
  subst ah;refine V.recv aC hi K hb (by rw [az];exact .refl _) W (fun w=>?_) rfl;rw [stepG_tries];congr 1;have:=W.law.run;obtain⟨a,b,c,d,e⟩:=aT;simp only at this;subst this;rfl
 | @walk p _ _ _ hm al an=>
  have bh:JQ (Stop P F p) g s∨∃f,ρ= .node f∧(∀w,Fits s w→∃g' s' w' es,stepG P (i==0) g w= .go g' w' es∧Jr P (i==0) (JQ (Stop P F p)) (f w) g' s'∧Fits s' w'∧Fr s w s' w'∧(∀e∈es,Ev s w w' e)∧(s= .quiet→s'= .quiet∧w'=w∧es= #[])):=by
   cases ρ with
   | leaf=>exact .inl an
   | node f=>
    rcases an with q | ⟨_,q⟩
    ·exact .inl q
    ·exact .inr ⟨f,rfl,q⟩
  rcases bh with⟨s₀,am,W⟩ | ⟨f,rfl,hgo⟩
  ·subst az;by_cases aW:∃k',p= .Cx k'
   ·obtain⟨k',rfl⟩:=aW;exact V.send aC hi K hb hm am W
   by_cases c2:∃O,p= .EZ O
   ·obtain⟨O,rfl⟩:=c2;have ah:i=0:=by simpa [Fam.DF] using hm
    subst ah;obtain⟨p0,aa,ao⟩:=h.Bw.main;have:p0= .EZ O:=by rw [K] at aa;exact(Nx.ph.inj aa).symm
    subst this;obtain⟨rfl,bi,U⟩:=ao;obtain⟨g',child,_,_,hgo,aN,aO⟩:=W.law.go _ rfl;have au:sm=0:=by have:=h.Bw.mode;rw [U] at this;exact this.2.2.1
    have bj:=h.Bw.spawn K;have aA:F.DT O= .FI∨F.DT O= .Fi (O+1):=by unfold Fam.DT;split;exact .inl rfl;exact .inr rfl
    have aq:F.start O= .Cx O∨F.start O= .CZ:=by unfold Fam.start;split;exact .inl rfl;exact .inr rfl
    have bl:gs.size=B.N0+O:=by rw [U] at ai;simpa using ai
    refine V.spawn hi K U am (hgo _) aO aN ?_ ?_ ?_ ?_ bj ⟨rfl,?_,?_⟩ (fun k' aX ag=>?_) (fun e=>by rw [U] at e;cases e) ?_ au
    ·rcases aA with e | e <;> rw [e] <;> rfl
    ·rcases aq with e | e <;> rw [e] <;> rfl
    ·rcases aA with e | e <;> rw [e] <;> rfl
    ·rcases aq with e | e <;> rw [e] <;> rfl
    ·rcases aA with e | e <;> rw [e] <;> rfl
    ·rcases aq with e | e <;> rw [e] <;> rfl
    ·by_cases e:k'=O
     ·subst e;rw [upd_ne _ _ (by omega),show B.N0+k'=gs.size by omega,upd_same] at ag;rcases aq with e | e <;> rw [e] at ag <;> exact ag.elim
     ·rw [upd_ne _ _ (by omega),upd_ne _ _ (by omega)] at ag;exact⟨by omega,ag⟩
    ·have:wt F.n (.ph (F.start O))≤10:=by rcases aq with e | e <;> rw [e] <;> simp [wt]
     have ay:wt F.n (.ph (F.DT O))+20≤5*F.n+60+20*(F.n - O):=by
      rcases aA with e | e <;> rw [e] <;> simp only [wt] <;> omega
     have aY:wt F.n (.ph (.EZ O))=5*F.n+55+20*(F.n - O):=rfl;omega
   by_cases c3:p= .FI
   ·subst c3;have ah:i=0:=by simpa [Fam.DF] using hm
    subst ah;obtain⟨p0,aa,ao⟩:=h.Bw.main;have:p0= .FI:=by rw [K] at aa;exact(Nx.ph.inj aa).symm
    subst this;obtain⟨bi,U⟩:=ao;obtain⟨g',child,_,_,hgo,aN,aO⟩:=W.law.GG rfl;have au:sm=0:=by have:=h.Bw.mode;rw [U] at this;exact this.2.2.1
    have bl:gs.size=B.N0+j:=by rw [U] at ai;simpa using ai
    refine V.spawn hi K U am (hgo _) aO aN rfl rfl rfl rfl (h.Bw.X6 K) ⟨rfl,rfl,rfl⟩ (fun k' aX ag=>?_) (fun _=>⟨by omega,rfl⟩) (by simp only [wt];omega) au;rw [upd_ne _ _ (by omega),upd_ne _ _ (by omega)] at ag;exact⟨aX,ag⟩
   by_cases c4:∃aj vs,p= .Cd aj vs
   ·obtain⟨aj,vs,rfl⟩:=c4;have ah:i=0:=by simpa [Fam.DF] using hm
    subst ah;exact V.recv aC hi K hb am W (fun _=>rfl) rfl
   by_cases aZ:p= .DR
   ·subst aZ;exact V.close hi K hm W
   by_cases aB:p= .Dw∧sm=0
   ·obtain⟨rfl,aB⟩:=aB;exact V.block hi K hb hm am W aB
   obtain⟨v',w',sm',es,nx,bm⟩:=h.Bw.enabled aM K (fun k e=>aW ⟨k,e⟩) (fun k e=>c2 ⟨k,e⟩) c3 (fun aj vs e=>c4 ⟨aj,vs,e⟩) aZ (fun e=>by
    have ab:=h.Bw.mode
    subst e
    have a0:c=true∧i=B.N0+F.n:=by
     rcases h.Bw.Fv aM with rfl | ⟨a,b⟩ | ⟨k',bn,rfl⟩ | q
     ·obtain⟨q,al,bo⟩:=h.Bw.main;rw [K] at al;cases al;exact bo.elim
     ·have:=h.Bw.old i a b;rw [K] at this;exact this.elim
     ·have:=h.Bw.work k' bn;rw [K] at this;exact this.elim
     ·exact q
    rw [if_pos a0.1,← a0.2,K] at ab
    obtain⟨bb,_⟩:=ab
    have:sm≠0:=fun q=>aB ⟨rfl,q⟩
    omega)
   exact V.act hi K hm am W bm
  ·subst az;have bp:Fits (S i) (w.at d):=V.CQ.fits i aM;obtain⟨g',s',w',es,aL,ay,aY,bq,br,bu⟩:=hgo (w.at d) bp;exact V.own hi K hm al aL ay aY bq br bu (by rw [aV];exact⟨f,_,rfl,rfl⟩)
theorem Inv.run(W:∀k v E E',Le E E'→F.msg k v E→F.msg k v E'):∀(K:Mu) (gs:Array Goroutine) (w:World) (sl:Option (Nat×Nat)) (t:Trace) (φ:Nat→Nx) (r:Nat→Rk) (bt:Nat→Bool) (S:Nat→St) (Sh:Nat→Prop) (j:Nat) (c:Bool) (v wt' sm:Nat) (cl:Bool) (k:Nat),
  mu F gs.size φ r bt=K→Inv P F B gs w t φ r bt S Sh j c v wt' sm cl k→∃n gs' w' O U,runNT P n (crowd gs w sl) t=(.next (crowd gs' w' O),U)∧Over P F B gs' w' U:=by
 intro K
 induction K using Mu.wf.induction with
 | _ K Z=>
  intro gs w sl t φ r bt S Sh j c v wt' sm cl k aa h;obtain⟨gs',w',O,u,V,hh⟩:=h.step (sl:=sl) W;rcases hh with⟨ab,ae,ag,S',ah,ai,aj,v',ak,sm',cl',k',al,am⟩ | an
  ·obtain⟨n,ao,ap,aq,ar,au,av⟩:=Z _ (aa▸am) gs' w' O (t++u) ab ae ag S' ah ai aj v' ak sm' cl' k' rfl al;exact⟨n+1,ao,ap,aq,ar,LN V au,av⟩
  ·exact⟨1,gs',w',O,t++u,LN V rfl,an⟩
end
end Pal
namespace Pal
open Go Go.Conc
open Go.ConcN (upd upd_same upd_ne sumTo sumTo_upd sumTo_upd_out sumTo_congr le_sumTo sumTo_le)
def H6(H:LH)(a b:Nat):LH:=fun x=>if x=b then none else if x=a then none else H x
theorem VU{P:Program}(F:Fam){Q:GP}{g:Goroutine}{s:St}(ae:1≤F.n)(am:F.n<2147483647)(an:∀k v E E',Le E E'→F.msg k v E→F.msg k v E')
  (V:F.wg≠F.ch) (W:s.H F.wg=some (F.GD 0 0)) (Z:s.H F.ch=some (.chan 0 #[] false 0 0 false))
  (ao:Way P true (Stop P F (.Fi 0)) g ⟨s.E,H6 s.H F.wg F.ch,false⟩) (ap:∀g s,F.fin g s→(DN P).ok Q g s):(DN P).ok Q g s:=by
 intro gs w sl t q Sh hC;have O:0<gs.size:=(Array.getElem?_eq_some_iff.1 hC.main).1;let s1:St:={s with H:=fun b=>if b=F.wg then none else s.H b}
 have ag:lone s 0=s:=rfl;have aq:Cf t w gs.size (upd (lone s) 0 s1) (fun b=>Sh b∨b=F.wg):=by
  have:=hC.CQ.share (i:=0) O (b₀:=F.wg) (o₀:=F.GD 0 0) (by rw [ag];exact W);exact this
 have c2:Cf t w gs.size (upd (upd (lone s) 0 s1) 0 ⟨s.E,H6 s.H F.wg F.ch,false⟩) (fun b=>(Sh b∨b=F.wg)∨b=F.ch):=by
  have:=aq.share (i:=0) O (b₀:=F.ch) (o₀:= .chan 0 #[] false 0 0 false) (by rw [upd_same];simp [s1,Ne.symm V,Z]);refine this.congr fun i hi=>?_;by_cases e:i=0
  ·subst e;rw [upd_same,upd_same,upd_same];exact⟨rfl,rfl⟩
  ·have h:∀(f:Nat→St) (x:St),upd f 0 x i=f i:=fun f x=>upd_ne f x e;constructor <;> simp only [h]
 have ah:∀b,s.H b≠none→∀x a,touchAt t x=some a→DO a.loc=some b→Knows t 0 x:=fun b hb=>hC.CQ.kH 0 O b (by rw [ag];exact hb);have ai:∀b,(b=F.wg∨b=F.ch)→s.H b≠none:=by rintro b (rfl | rfl) <;> simp [W,Z]
 have aj:=hC.CQ.fits 0 O;obtain⟨ρ,ar⟩:=ao;let φ:Nat→Nx:=fun i=>if i=0 then .ph (.Fi 0) else .gone (Deaf t i)
 have z:∀f:Nx→Nat,(∀d,f (.gone d)=0)→f (.ph (.Fi 0))=0→(sumTo gs.size fun i=>f (φ i))=0:=by
  intro f ak al;have:=sumTo_le (f:=fun i=>f (φ i)) (c:=0) (j:=gs.size) fun i _=>by
   show f (φ i)≤0;by_cases e:i=0
   ·simp [φ,e,al]
   ·simp [φ,e,ak]
  omega
 have au:∀i,(upd (upd (lone s) 0 s1) 0 ⟨s.E,H6 s.H F.wg F.ch,false⟩) i=if i=0 then⟨s.E,H6 s.H F.wg F.ch,false⟩ else .quiet:=by
  intro i;by_cases e:i=0
  ·subst e;rw [upd_same];rfl
  ·rw [upd_ne _ _ e,upd_ne _ _ e];simp [lone,e]
 have av:F.GD (Fam.word 0 0) (0:Nat)=F.GD 0 0:=by simp [Fam.word]
 have aw:Inv P F ⟨gs.size,t.size,s.E,w⟩ gs w t φ (fun i=>if i=0 then ρ else chain (q i)) (fun _=>true) (upd (upd (lone s) 0 s1) 0 ⟨s.E,H6 s.H F.wg F.ch,false⟩) (fun b=>(Sh b∨b=F.wg)∨b=F.ch) 0 false 0 0 0 false 0:=by
  refine⟨⟨O,ae,am,by simp,Nat.zero_le _,by simp,⟨.Fi 0,rfl,rfl,ae,rfl⟩,fun i ak al=>?_,fun k K=>by omega,by simp,?_,by simp [φ,pend],?_,fun k K=>by omega,.nil,fun k K=>by cases K⟩,
   ⟨fun i hi=>?_,fun i hi=>hC.lv.above i hi,fun x a b U hb aa K i hi ay=>?_,fun x a b U hb aa K=>?_,fun x g az V aA=> .inl (hC.over x g az V aA),fun x U e=>?_,Nat.le_refl _,fun k K=>by omega,by simp,by simp⟩,fun i g' ab=>?_,c2,.inl (.inr rfl),.inr rfl,V,?_,?_,by simp,by simp,?_,rfl,rfl,rfl⟩
  ·have:i≠0:=by omega
   simp [φ,this,EW]
  ·rw [z cU (fun _=>rfl) rfl];simp [φ,pend]
  ·simp only [Bool.false_eq_true,if_false,CY];exact⟨z cL (fun _=>rfl) rfl,z cS (fun _=>rfl) rfl,trivial,trivial,trivial⟩
  ·by_cases e:i=0
   ·subst e;simp [φ,En];exact hC.hears
   ·simp [φ,e,En]
  ·have:i=0:=by
    rcases ay with e | e
    ·exact e
    ·exact absurd hi (Nat.not_lt.2 e)
   subst this;exact ah b (ai b aa) x a U hb
  ·exact ah b (ai b aa) x a U hb
  ·have:=lt_of_act? e;have aU:t.size≤x:=U;omega
  ·rw [au];by_cases e:i=0
   ·subst e;rw [hC.main] at ab;obtain rfl:=Option.some.inj ab;simp only [if_true,φ];exact .walk rfl (fun h=>by cases h) ar
   ·have hm:(i==0)=false:=by rw [beq_eq_false_iff_ne];exact e
    simp only [e,if_false,φ];exact .gone hm (hC.lv.old i g' (by omega) ab)
  ·show w.heap[F.wg]? =_;rw [av];exact aj.h _ _ W
  ·exact aj.h _ _ Z
  ·rw [upd_same];exact Le.refl _
 obtain⟨n,gs',w',aB,aC,aD,aE,aF,g',s',aG,aH,hle,aI,aJ,aK⟩:=Inv.run an _ _ _ sl _ _ _ _ _ _ _ _ _ _ _ _ _ rfl aw;obtain⟨n2,aL,w2,aM,t2,q2,aN,g2,s2,k1,aO,aP,aQ,aR,aS,aT⟩:=ap g' s' aH gs' w' aB aC aE aF aG;refine⟨n+n2,aL,w2,aM,t2,q2,aN,g2,s2,?_,aO,aP,fun b o h=>aQ b o (hle b o h),aR.trans aI,aS.trans aJ,aT.trans aK⟩;rw [runNT_add,aD];exact k1
end Pal
namespace Pal
open Go Go.Conc
section
variable {P:Program}{F:Fam}{J:Judge P}{Q:GP}{n:Nat}{L L':Env}{ds:Ld_}{k:Li_}{cs:Lf_}{s s':St}{b:Frame}{main:Bool}
theorem CU(hb:b.roundOf=none)(T:Ax)(todo:Li_):fr b T ds todo=b.at ⟨T,ds⟩ todo:=by simp [fr,Frame.at,hb]
theorem Ja(hb:b.roundOf=none)(T:Ax)(todo:Li_):Er b T ds todo={b.at ⟨T,ds⟩ todo with mode:= .returning}:=by simp [Er,Frame.at,hb]
theorem EU(T:Ax)(ds:Ld_)(x:Operand):(⟨T,ds⟩:Act).eval x=BI T x:=by cases x <;> rfl
theorem FZ(T:Ax)(ds:Ld_)(d:Option Tmp)(v:Value):(⟨T,ds⟩:Act).put d v=⟨CN T d v,ds⟩:=by cases d <;> rfl
def JO(J:Judge P)(Q:GP)(b:Frame)(n:Nat)(L:Env)(ds:Ld_)(cs:Lf_)(s:St):Prop:=
 ∀T,Has n L T→∀todo,J.ok Q (G (Er b T ds todo) cs) s
theorem JL.out(K:b.roundOf=none)(h:JO J Q b n L ds cs s):JL J Q b n L ds [] cs s:=fun T O=>
 Judge.Di rfl (fun w=>by simp [G,stepG,stepG.exec,fr,Er,K]) (h T O [])
theorem GQ(K:b.roundOf=none)(h:JO J Q b n L ds cs s):JL J Q b n L ds (.code .ret::k) cs s:=fun T O=>
 Judge.Di rfl (fun w=>by simp [G,stepG,stepG.exec,fr,Er,K]) (h T O (.code .ret::k))
theorem JO.leave{c:Frame}{v:Value}(O:b.kind= .normal)(K:B9 P b.fn L n s v)(h:J.ok Q (G (c.finish v) cs) s):JO J Q b n L [] (c::cs) s:=fun T U todo=>by
 obtain⟨fn,V,K⟩:=K
 exact Judge.leave O V (K T U) h
theorem JO.leaveD{c:Frame}{fn:Func}(O:b.kind= .deferred)(U:P.funcs[b.fn]? =some fn)(K:fn.results= #[])(V:c.mode= .returning∨c.mode= .panicking [goexitEntry])(h:J.ok Q (G c cs) s):JO J Q b n L [] (c::cs) s:=fun T Z todo=>by
 refine Judge.Di rfl (fun w=>?_) h
 have W:=results_none K T P w
 have e2:=fun(x:Array Event)=>events_results_none (P:=P) (w:=w) K T x
 rcases V with e | e <;> simp [G,stepG,unwind,Er,U,W,e2,doReturn,O,GStep.after,seen_none,e,goexitEntry]
theorem JO.enter{f:FuncId}{fn:Func}{c:Code}{vs:Lv_}(O:b.roundOf=none)(V:P.funcs[f]? =some fn)(W:(fn.name== "runtime.NumGoroutine")=false)(hb:fn.body=some c)(ab:vs.length≤fn.ntmps)
  (h:∀T,Has n L T→∀todo,JL J Q (baseD f) fn.ntmps (FH 0 vs) [] [.code c] (Er b T ds todo::cs) s):JO J Q b n L (dcall f vs.toArray::ds) cs s:=fun T Z todo=>by
 refine Judge.Di rfl (fun w=>?_) (h T Z todo (vs.toArray++Array.replicate (fn.ntmps - vs.length) undef) ⟨by simp;omega,fun t v ht=>?_⟩)
 ·rw [Ja O,stepG_unwind_enter (a:=⟨T,dcall f vs.toArray::ds⟩) rfl V W hb,Ja O]
  rw [CU (b:=baseD f) rfl];simp
 ·obtain⟨_,K⟩:=I3 ht;have aa:t<vs.length:=by
   rcases Nat.lt_or_ge t vs.length with U | U
   ·exact U
   ·simp at K;have:=(List.getElem?_eq_some_iff.1 K).1;omega
  rw [Array.getD_eq_getD_getElem?,Array.getElem?_append_left (by simpa using aa)];simp at K;simp [K]
theorem JL.defer{ops:Ao_}{i:Nat}{rest:List Nat}{d:Option Tmp}{f:FuncId}{args:Array Operand}{ats:Array TypeId}{ty:TypeId}{p:String}{af:Ae_}{g:On_}{vs:Lv_}
  (U:ops[i]? =some ⟨d,.defer ⟨.value (.func f),args,ats⟩,ty,p,af,g⟩) (V:b.roundOf=none) (hw:Bg L ops ⟨d,.defer ⟨.value (.func f),args,ats⟩,ty,p,af,g⟩=some true) (K:((b.kind != .early)&&BE n d)=true)
  (W:evs L args.toList=some vs) (h:JL J Q b n (AB L d undef) (dcall f vs.toArray::ds) (.inRegion ops rest::k) cs s):
  JL J Q b n L ds (.inRegion ops (i::rest)::k) cs s:=fun T O=>by
 simp only [Bool.and_eq_true] at K
 have Z:args.map (BI T)=vs.toArray:=by
  rw [← Gq O.Gi W];apply Array.ext';simp
 refine Judge.oper U (C7 O hw) (by simpa using K.1) (.inl V) ?_;have hd:execOp (BI T) ⟨d,.defer ⟨.value (.func f),args,ats⟩,ty,p,af,g⟩= .pure (.defer (dcall f vs.toArray)):=by
  simp only [execOp,resolve,bind,Sem.bind,Deferred.ofValue,BI,pure,dcall];rw [Z];simp
 rw [hd];exact h _ (O.put K.2 undef)
def Jd:Ph→Bool
 | .Cx _ | .EZ _ | .FI | .Cd _ _ | .DR | .Dw=>false
 | _=>true
theorem Hd{p:Ph}{g:Goroutine}(K:Jd p=true)(U:g.status= .running)(V:g.offers=none)(O:if Fam.Ee p=true then s= .quiet else s.q=false)(W:p= .Ex→mayWake P g=true)
  (h:∀v wt sm v' wt' sm' es nx,F.act p v wt sm=some ((v',wt',sm'),es,nx)→∃g',(∀w,F.WG w v wt sm→stepG P (Fam.DF p) g w= .go g' (F.put w v' wt' sm') es)∧g'.status= .running∧Lj P (Stop P F) (Fam.DF p) nx g' (Fam.GF p s)):Stop P F p g s:=
 FJ.stop {
  run:=U
  offers:=V
  quiet:=fun e=>by rw [if_pos e] at O;exact O
  live:=fun e=>by rw [if_neg (by rw [e];simp)] at O;exact O
  act:=h
  G2:=fun e=>by rcases e with e | e;exact W e;subst e;cases K
  EC:=fun e=>by subst e;cases K
  close:=fun e=>by subst e;cases K
  send:=fun k e=>by subst e;cases K
  go:=fun j e=>by subst e;cases K
  GG:=fun e=>by subst e;cases K
  recv:=fun Z vs e=>by subst e;cases K}
theorem Jc{w:World}{v wt sm:Nat}(h:F.WG w v wt sm):F.put w v wt sm=w:=by
 unfold Fam.put;have:w.heap.setIfInBounds F.wg (F.GD (Fam.word v wt) sm)=w.heap:=by
  apply Array.ext_getElem?;intro i;by_cases e:F.wg=i
  ·subst e;unfold Fam.WG at h;have O:F.wg<w.heap.size:=by
    rcases Nat.lt_or_ge F.wg w.heap.size with K | K
    ·exact K
    ·simp [Array.getElem?_eq_none K] at h
   rw [Array.getElem?_setIfInBounds_self_of_lt O,h]
  ·rw [Array.getElem?_setIfInBounds_ne e]
 rw [this]
theorem Hg{w:World}{v wt sm:Nat}(h:F.WG w v wt sm):w.cell? F.sA=some (.int .u64 (Fam.word v wt))∧w.cell? F.mA=some (.int .u32 sm)∧w.frozen? F.sA=false∧w.frozen? F.mA=false:=by
 unfold Fam.WG Fam.GD at h;refine⟨?_,?_,?_,?_⟩
 ·simp [World.cell?,Fam.sA,h]
 ·simp [World.cell?,Fam.mA,h]
 ·simp [World.frozen?,Fam.sA,h]
 ·simp [World.frozen?,Fam.mA,h]
theorem LM{w:World}{v wt sm v' wt':Nat}(h:F.WG w v wt sm):w.setCell F.sA (.int .u64 (Fam.word v' wt'))=F.put w v' wt' sm:=by
 unfold Fam.put World.setCell;congr 1;apply Array.ext_getElem?;intro i;unfold Fam.WG Fam.GD at h;rw [Array.getElem?_modify];have O:F.wg<w.heap.size:=by
  rcases Nat.lt_or_ge F.wg w.heap.size with K | K
  ·exact K
  ·simp [Array.getElem?_eq_none K] at h
 by_cases e:F.wg=i
 ·subst e;rw [Array.getElem?_setIfInBounds_self_of_lt O,h];simp [Fam.sA,Fam.GD]
 ·rw [Array.getElem?_setIfInBounds_ne e];simp [Fam.sA,e]
theorem PL{w:World}{v wt sm sm':Nat}(h:F.WG w v wt sm):w.setCell F.mA (.int .u32 sm')=F.put w v wt sm':=by
 unfold Fam.put World.setCell;congr 1;apply Array.ext_getElem?;intro i;unfold Fam.WG Fam.GD at h;rw [Array.getElem?_modify];have O:F.wg<w.heap.size:=by
  rcases Nat.lt_or_ge F.wg w.heap.size with K | K
  ·exact K
  ·simp [Array.getElem?_eq_none K] at h
 by_cases e:F.wg=i
 ·subst e;rw [Array.getElem?_setIfInBounds_self_of_lt O,h];simp [Fam.mA,Fam.GD]
 ·rw [Array.getElem?_setIfInBounds_ne e];simp [Fam.mA,e]
structure Dx (P:Program) (f:FuncId) (e:Ax→Sem Value):Prop where
 h:∃fn,P.funcs[f]? =some fn∧(fn.name== "runtime.NumGoroutine")=false∧fn.body.isNone=true∧Extern.findNext fn=none∧Extern.find fn=some e
section
variable {ops:Ao_}{i:Nat}{rest:List Nat}{d:Option Tmp}{f:FuncId}{args:Array Operand}{ats:Array TypeId}{ty:TypeId}{pp:String}{af:Ae_}{g:On_}{vs:Lv_}{p q:Ph}
theorem Pc{T:Ax}(K:Has n L T)(O:evs L args.toList=some vs):args.map (⟨T,ds⟩:Act).eval=vs.toArray:=by
 have:(⟨T,ds⟩:Act).eval=BI T:=funext fun x=>EU T ds x;rw [this,← Gq K.Gi O];apply Array.ext';simp
theorem Kk{m:Mark}(W:Jd p=true)(Z:if Fam.Ee p=true then s= .quiet else s.q=false)(aa:p≠ .Ex)(ab:∀v wt sm,F.act p v wt sm=some ((v,wt,sm),#[Fam.Et m],.ph q))(ae:Fam.GF p s=s)
  (ag:ops[i]? =some ⟨d,.call ⟨.value (.func f),args,ats⟩,ty,pp,af,g⟩) (O:b.roundOf=none) (hw:Bg L ops ⟨d,.call ⟨.value (.func f),args,ats⟩,ty,pp,af,g⟩=some true) (K:((b.kind != .early)&&BE n d)=true)
  (hm:∀x,m≠ .extern x) (he:Dx P f (fun _=>do mark m;pure Extern.Race.none_))
  (h:JL (Bv P (Fam.DF p)) (Stop P F q) b n (AB L d (.tuple #[])) ds (.inRegion ops rest::k) cs s):
  JL (Bv P (Fam.DF p)) (Stop P F p) b n L ds (.inRegion ops (i::rest)::k) cs s:=fun T U=>by
 simp only [Bool.and_eq_true] at K
 obtain⟨fn,ah,ai,hb,aj,he⟩:=he.h
 refine(Bv P _).stop (Hd W rfl rfl Z (fun e=>absurd e aa) fun v wt sm v' wt' sm' es nx V=>?_)
 rw [ab] at V;cases V
 refine⟨_,fun w ak=>?_,rfl,by rw [ae];exact h _ (U.put K.2 _)⟩
 rw [CU O,CU O,stepG_mark0 (a:=⟨T,ds⟩) m hm ag (C7 U hw) (by simpa using K.1) rfl ah ai hb aj he,Jc ak,FZ]
 rfl
theorem Kb{mk:Addr→Mark}{ad:Addr}(W:Jd p=true)(Z:if Fam.Ee p=true then s= .quiet else s.q=false)(aa:p≠ .Ex)(ab:∀v wt sm,F.act p v wt sm=some ((v,wt,sm),#[Fam.Et (mk ad)],.ph q))
  (ae:ops[i]? =some ⟨d,.call ⟨.value (.func f),args,ats⟩,ty,pp,af,g⟩) (U:b.roundOf=none) (hw:Bg L ops ⟨d,.call ⟨.value (.func f),args,ats⟩,ty,pp,af,g⟩=some true) (K:((b.kind != .early)&&BE n d)=true)
  (hm:∀ad x,mk ad≠ .extern x) (he:Dx P f (Extern.Race.marked mk)) (ag:evs L args.toList=some vs) (ah:vs[0]? =some (.pointer (some ad)))
  (h:JL (Bv P (Fam.DF p)) (Stop P F q) b n (AB L d (.tuple #[])) ds (.inRegion ops rest::k) cs (Fam.GF p s)):
  JL (Bv P (Fam.DF p)) (Stop P F p) b n L ds (.inRegion ops (i::rest)::k) cs s:=fun T O=>by
 simp only [Bool.and_eq_true] at K
 obtain⟨fn,ai,aj,hb,ak,he⟩:=he.h
 refine(Bv P _).stop (Hd W rfl rfl Z (fun e=>absurd e aa) fun v wt sm v' wt' sm' es nx V=>?_)
 rw [ab] at V;cases V
 refine⟨_,fun w al=>?_,rfl,h _ (O.put K.2 _)⟩
 rw [CU U,CU U,stepG_markAt (a:=⟨T,ds⟩) mk hm ae (C7 O hw) (by simpa using K.1) rfl ai aj hb ak he (ad:=ad) (by rw [Pc O ag];simpa using ah),Jc al,FZ]
 rfl
end
end
end Pal
namespace Pal
open Go Go.Conc
section
variable {E H:LH}{S:List Seg}{j l:Nat}{o o':Obj}
theorem Mp(ag:Ar E H S)(V:S[j]? =some [(l,o)])(o':Obj):(Ak E H S).upd l o'=Ak E H (S.set j [(l,o')])∧Ar E H (S.set j [(l,o')]):=by
 obtain⟨K,W⟩:=Ge ag V;have U:=Nd.iff.1 W;have Z:E l=none:=(U.2 (l,o) (by simp)).1;have ah:H l=none:=(U.2 (l,o) (by simp)).2;have aa:Nd E H (S.set j []).flatten:=H2.Nd.left W;have ai:∀q∈(S.set j []).flatten,q.1≠l:=fun q O e=>by
  have:=U.1;rw [List.map_append,List.nodup_append] at this;exact this.2.2 q.1 (List.mem_map_of_mem O) l (by simp) e
 have ab:Bf (S.set j []).flatten H l=none:=by
  have key:∀(B:List (Nat×Obj)),(∀q∈B,q.1≠l)→Bf B H l=none:=by
   intro B
   induction B with
   | nil=>intro _;exact ah
   | cons q B aj=>
    intro O;obtain⟨c,ak⟩:=q;have ae:l≠c:=fun e=>O (c,ak) (by simp) e.symm;have K:=aj fun al am=>O al (List.mem_cons_of_mem _ am);simp only [Bf]
    first
    | rw [if_neg ae];exact K
    | rw [if_neg (Ne.symm ae)];exact K
  exact key _ ai
 have f1:=I6 (E:=E) (H:=H) (B:=(S.set j []).flatten) (r:=l) Z ab o aa;have f2:=I6 (E:=E) (H:=H) (B:=(S.set j []).flatten) (r:=l) Z ab o' aa;obtain⟨an,g2⟩:=HJ (seg:= [(l,o)]) V f2.1;refine⟨?_,g2⟩;rw [K,← an,← f1.2,← f2.2];unfold St.upd;congr 1;funext x;by_cases ao:x=l <;> simp [ao]
end
section
variable {P:Program}{J:Judge P}{Q:Gs_}{b:Frame}{n:Nat}{L:Env}{ds:Ld_}{k:Li_}{cs:Lf_}{E H:LH}{S:List Seg}{j l:Nat}
theorem Judge.EC{α:Type}{g:Goroutine}{g':α→Goroutine}{s:St}(x:Sem α)(Z:s.q=false)(aa:g.status= .running)
  (ab:∀w a w',x.run P w= .ok a w'→∃es,stepG P J.main g w= .go (g' a) w' es∧∀e∈es,e∈x.events P w #[])
  (h:lp P x s (fun a s'=>J.ok Q (g' a) s') (fun _ _=>False)):J.ok Q g s:=by
 refine J.step ⟨aa,fun w f=>?_,fun e=>by subst e;cases Z⟩;obtain⟨s',O,U,V,K⟩:=LX _ h f;cases W:x.run P w with
 | ok a w'=>
  rw [W] at O U V K;simp only [IT] at O U V;obtain⟨es,he,hm⟩:=ab w a w' W;exact⟨g' a,s',w',es,he,K,O,U,fun e ae=>V e (hm e ae)⟩
 | halt a w'=>rw [W] at K;exact K.elim
theorem LL{r:Loop}{s:St}{K:Loop→St→Prop}{X:Halt→St→Prop}(h:s.get l=some (.loop r))(k:K r s):lp P (Instr.getLoop l) s K X:=by
 unfold Instr.getLoop getObj;simp only [bind,Sem.bind,lp];exact⟨_,h,rfl,k⟩
theorem Px{r:Loop}{T:Ax}(j:Nat)(K:Ar E H S)(O:S[j]? =some [(l,.loop r)])(hs:(r.state== .busy)=false)(U:r.pending=none)
  (h:Ar E H (S.set j [(l,.loop {r with state:= .exhausted})])→J.ok Q (G (fr b T ds k) cs) (Ak E H (S.set j [(l,.loop {r with state:= .exhausted})]))):
  J.ok Q (G (fr b T ds (.endRangeFunc l::k)) cs) (Ak E H S):=by
 obtain⟨u1,V⟩:=Mp K O (.loop {r with state:= .exhausted});have W:lp P (Instr.endLoop l) (Ak E H S) (fun a s'=>a=none∧s'=Ak E H (S.set j [(l,.loop {r with state:= .exhausted})])) (fun _ _=>False):=by
  unfold Instr.endLoop;refine AJ _ _ (LL (Ey (i:=0) K O rfl) ?_);rw [if_neg (by rw [hs];simp)];have Z:(Ak E H S).H l=some (.loop r):=by
   have:=Ey (i:=0) K O rfl;have aa:E l=none:=Mx K O;unfold St.get at this;rw [show(Ak E H S).E l=none from aa] at this;exact this
  simp only [bind,Sem.bind,lp,setObj,pure];refine⟨⟨_,Z,rfl⟩,rfl,U,?_⟩;exact u1
 refine Judge.EC (g':=fun ab=>G (fr b T ds ((ab.map Item.code).toList++k)) cs) (Instr.endLoop l) rfl rfl (fun w a w' ae=>?_) (Ds _ W (fun a s' ⟨ag,ah⟩=>by subst ag ah;exact h V) (fun _ _ h=>h));refine⟨seen P b.fn ((Instr.endLoop l).events P w #[])++ #[],?_,fun e he=>?_⟩
 ·simp [G,stepG,stepG.exec,fr,ae,GStep.after]
 ·exact mem_seen (by simpa using he)
def Sz(l:Nat)(f:FuncId):Frame:={(default:Frame) with fn:=f,kind:= .normal,roundOf:=some l}
theorem EM.yield{r:Loop}{t:Tmp}{v:Value}{B:Seg}{R:Value→LH→Seg→Prop}{i:Nat}(K:B[i]? =some (l,.loop r))(O:r.params= #[t])
  (h:∀(Q:Gs_) (U:Frame) (cs:Lf_) (H:LH),Ar E H [B]→(∀w E' S' B',Le E E'→S'.flatten=B'→R w E' B'→Ar E' H S'→J.ok Q (G (U.finish w) cs) (Ak E' H S'))→
   J.ok Q (G (fr (Sz l r.fn) (r.tmps.setIfInBounds t v) [] [.code r.assign,.beginRound,.code r.body]) (U::cs)) (Ak E H [B])):
  EM J (.func (.yield l) #[] #[]) [v] E B R:=fun H V Q c cs W=>by
 have Z:(mk E H B).get l=some (.loop r):=NT V K
 simp only [Deferred.ofValue,bind,Sem.bind,pure,invoke]
 unfold Instr.yield
 refine AJ _ _ (LL Z ?_)
 have aa:¬((#[]:Ax)++ [v].toArray).size≠r.params.size:=by rw [O];simp
 rw [if_neg aa];have e2:((r.params.zip ((#[]:Ax)++ [v].toArray)).foldl (fun tmps (t,a)=>tmps.setIfInBounds t a) r.tmps)=r.tmps.setIfInBounds t v:=by rw [O];simp [Array.zip,Array.zipWith,Array.zipWithMAux]
 simp only [lp,pure];have ab:mk E H B=Ak E H [B]:=by unfold Ak;simp
 rw [e2,ab];exact h Q c cs H (by unfold Ar;simpa using V) fun w E' S' B' hle K ae ag=>by
  subst K;exact W w _ ⟨E',S'.flatten,hle,ae,ag,rfl⟩
theorem JL.beginRound{r:Loop}(j:Nat)(U:b.roundOf=some l)(V:b.kind= .normal)(K:Ar E H S)(O:S[j]? =some [(l,.loop r)])(hs:r.state= .ready)
  (h:Ar E H (S.set j [(l,.loop {r with state:= .busy})])→JL J Q b n L ds k cs (Ak E H (S.set j [(l,.loop {r with state:= .busy})]))):
  JL J Q b n L ds (.beginRound::k) cs (Ak E H S):=fun T W=>by
 obtain⟨u1,Z⟩:=Mp K O (.loop {r with state:= .busy})
 have aa:lp P (Instr.beginRound l) (Ak E H S) (fun _ s'=>s'=Ak E H (S.set j [(l,.loop {r with state:= .busy})])) (fun _ _=>False):=by
  unfold Instr.beginRound;refine AJ _ _ (LL (Ey (i:=0) K O rfl) ?_);have ab:(Ak E H S).H l=some (.loop r):=by
   have:=Ey (i:=0) K O rfl;have ae:E l=none:=Mx K O;unfold St.get at this;rw [show(Ak E H S).E l=none from ae] at this;exact this
  simp only [bind,Sem.bind,lp,setObj,pure,hs];exact⟨⟨_,ab,rfl⟩,rfl,u1⟩
 refine Judge.EC (g':=fun _=>G (fr b T ds k) cs) (Instr.beginRound l) rfl rfl (fun w a w' ag=>?_) (Ds _ aa (fun a s' ah=>by subst ah;exact h Z T W) (fun _ _ h=>h));refine⟨seen P b.fn ((Instr.beginRound l).events P w #[])++ #[],?_,fun e he=>?_⟩
 ·simp [G,stepG,stepG.exec,fr,stepG.apply,U,V,ag,GStep.after,Frame.finish]
 ·exact mem_seen (by simpa using he)
theorem No{o:Obj}{seg:Seg}(K:Ar E H S)(O:S[j]? =some ((l,o)::seg)):(Ak E H S).H l=some o:=by
 have:=Ey (i:=0) K O rfl;have U:E l=none:=Mx K O;unfold St.get at this;rw [show(Ak E H S).E l=none from U] at this;exact this
theorem JL.endRound{r:Loop}{c:Frame}(j:Nat)(U:b.roundOf=some l)(V:b.kind= .normal)(K:Ar E H S)(O:S[j]? =some [(l,.loop r)])
  (h:Ar E H (S.set j [(l,.loop {r with state:= .ready,pending:=none})])→J.ok Q (G (c.finish (.bool true)) cs) (Ak E H (S.set j [(l,.loop {r with state:= .ready,pending:=none})]))):
  JL J Q b n L [] [] (c::cs) (Ak E H S):=fun T ag=>by
 obtain⟨u1,W⟩:=Mp K O (.loop {r with state:= .ready,pending:=none})
 have Z:lp P (Instr.endRound l none) (Ak E H S) (fun a s'=>a= .bool true∧s'=Ak E H (S.set j [(l,.loop {r with state:= .ready,pending:=none})])) (fun _ _=>False):=by
  unfold Instr.endRound;refine AJ _ _ (LL (Ey (i:=0) K O rfl) ?_);simp only [bind,Sem.bind,lp,setObj,pure];exact⟨⟨_,No K O,rfl⟩,rfl,rfl,u1⟩
 refine Judge.EC (g':=fun v=>G (c.finish v) cs) (Instr.endRound l none) rfl rfl (fun w a w' aa=>?_) (Ds _ Z (fun a s' ⟨ab,ae⟩=>by subst ab ae;exact h W) (fun _ _ h=>h));refine⟨seen P b.fn ((Instr.endRound l none).events P w #[])++ #[],?_,fun e he=>?_⟩
 ·simp [G,stepG,stepG.exec,fr,U,V,aa,GStep.after,doReturn]
 ·exact mem_seen (by simpa using he)
theorem JL.rangeFunc{x:Operand}{params:Array Tmp}{as O:Code}{f:FuncId}{caps:Lv_}(ah:b.roundOf=none)(ai:b.kind≠ .early)(aa:ev L x=some (.func (.func f) #[] caps.toArray))(hb:D1 P f=true)(aj:Ar E H S)
  (h:∀K l T,Has n L T→Ar E H (S++ [[(K,.deferred (some []))]]++ [[(l,.loop ⟨.ready,none,b.fn,T,params,as,O,K⟩)]])→
   J.ok Q (G (Frame.enter P f (.func (.yield l) #[] #[]::caps).toArray .normal) (fr b T (⟨.collected K,#[]⟩::ds) (.inRangeFunc l::k)::cs)) (Ak E H (S++ [[(K,.deferred (some []))]]++ [[(l,.loop ⟨.ready,none,b.fn,T,params,as,O,K⟩)]]))):
  JL J Q b n L ds (.code (.rangeFunc x params as O)::k) cs (Ak E H S):=fun T ab=>by
 have ak:lp P (Instr.enterLoop b.fn T params as O b.roundOf) (Ak E H S) (fun q s'=>∃K,q.2= [⟨.collected K,#[]⟩]∧Ar E H (S++ [[(K,.deferred (some []))]]++ [[(q.1,.loop ⟨.ready,none,b.fn,T,params,as,O,K⟩)]])∧s'=Ak E H (S++ [[(K,.deferred (some []))]]++ [[(q.1,.loop ⟨.ready,none,b.fn,T,params,as,O,K⟩)]])) (fun _ _=>False):=by
  unfold Instr.enterLoop;rw [ah];simp only [newObj,bind,Sem.bind,lp,pure];refine⟨rfl,fun K V W=>?_⟩;obtain⟨Z,al⟩:=I6 V W (.deferred (some [])) aj;obtain⟨p1,p2⟩:=EG Z;have am:(Ak E H S).upd K (.deferred (some []))=Ak E H (S++ [[(K,.deferred (some []))]]):=by rw [← p1,← al];rfl
  rw [am];refine⟨rfl,fun l an ao=>?_⟩;obtain⟨ap,aq⟩:=I6 an ao (.loop ⟨.ready,none,b.fn,T,params,as,O,K⟩) p2;obtain⟨p3,p4⟩:=EG ap;exact⟨K,rfl,p4,by rw [← p3,← aq];rfl⟩
 refine Judge.EC (g':=fun q=>G (Frame.enter P f (.func (.yield q.1) #[] #[]::caps).toArray .normal) (fr b T (q.2++ds) (.inRangeFunc q.1::k)::cs)) (Instr.enterLoop b.fn T params as O b.roundOf) rfl rfl (fun w a w' ar=>?_) (Ds _ ak (fun a s' ⟨K,V,W,Z⟩=>by subst Z;simp only [V];exact h K a.1 T ab W) (fun _ _ h=>h));obtain⟨l,mk⟩:=a;have au:BI T x= .func (.func f) #[] caps.toArray:=ab.ev aa;obtain⟨fn,U,av,ae⟩:∃fn,P.funcs[f]? =some fn∧(fn.name== "runtime.NumGoroutine")=false∧fn.body.isNone=false:=by
  unfold D1 at hb;cases U:P.funcs[f]? with
  | none=>rw [U] at hb;cases hb
  | some fn=>
   rw [U] at hb;simp only [Bool.and_eq_true,Bool.not_eq_true'] at hb;exact⟨fn,rfl,hb.1,by cases aa:fn.body <;> simp_all⟩
 refine⟨seen P b.fn ((Instr.enterLoop b.fn T params as O b.roundOf).events P w #[])++ #[],?_,fun e he=>?_⟩
 ·have ag:=QS (b:=b) (ds:=mk++ds) T (.inRangeFunc l::k);simp only [fr] at ag;have aw:¬fn.name= "runtime.NumGoroutine" :=by simpa using av
  have ay:¬fn.body=none:=by intro e;rw [e] at ae;cases ae
  have az:BI T (.const (.func (.yield l) #[] #[]))= .func (.yield l) #[] #[]:=rfl;simp [G,stepG,stepG.exec,fr,ar,GStep.after,stepG.apply,resolve,ag,au,Deferred.ofValue,invoke,callFunc,U,aw,ay,ai,az,seen_none]
 ·exact mem_seen (by simpa using he)
theorem JO.collected{K:Nat}(j:Nat)(ag:b.roundOf=none)(O:Ar E H S)(U:S[j]? =some [(K,.deferred (some []))])
  (h:Ar E H (S.set j [(K,.deferred none)])→JO J Q b n L ds cs (Ak E H (S.set j [(K,.deferred none)]))):JO J Q b n L (⟨.collected K,#[]⟩::ds) cs (Ak E H S):=fun T V todo=>by
 obtain⟨u1,W⟩:=Mp O U (.deferred none)
 have Z:lp P (Instr.takeDeferred K) (Ak E H S) (fun a s'=>a= []∧s'=Ak E H (S.set j [(K,.deferred none)])) (fun _ _=>False):=by
  unfold Instr.takeDeferred getObj;simp only [bind,Sem.bind,lp,setObj,pure];exact⟨_,Ey (i:=0) O U rfl,rfl,⟨_,No O U,rfl⟩,rfl,rfl,u1⟩
 refine Judge.EC (g':=fun l=>G (Er b T (l++ds) todo) cs) (Instr.takeDeferred K) rfl rfl (fun w a w' aa=>?_) (Ds _ Z (fun a s' ⟨ab,ae⟩=>by subst ab ae;exact h W T V todo) (fun _ _ h=>h));refine⟨seen P b.fn ((Instr.takeDeferred K).events P w #[])++ #[],?_,fun e he=>?_⟩
 ·simp [G,stepG,unwind,Er,aa,GStep.after]
 ·exact mem_seen (by simpa using he)
def Lc(f:FuncId)(args caps:Ax):Deferred:={target:= .fn (.func f) caps,args:=args}
theorem JO.Sn{f:FuncId}{fn:Func}{c:Code}{vs caps:Lv_}(ae:b.roundOf=none)(O:P.funcs[f]? =some fn)(V:(fn.name== "runtime.NumGoroutine")=false)(hb:fn.body=some c)(W:(vs++caps).length≤fn.ntmps){s:St}
  (h:∀T,Has n L T→∀todo,JL J Q (baseD f) fn.ntmps (FH 0 (vs++caps)) [] [.code c] (Er b T ds todo::cs) s):JO J Q b n L (Lc f vs.toArray caps.toArray::ds) cs s:=fun T Z todo=>by
 have aa:¬fn.name= "runtime.NumGoroutine" :=by simpa using V
 refine Judge.Di rfl (fun w=>?_) (h T Z todo ((vs++caps).toArray++Array.replicate (fn.ntmps - (vs++caps).length) undef) ⟨by simp;simp at W;omega,fun t v ht=>?_⟩)
 ·rw [CU (b:=baseD f) rfl];have:=enter_atD (P:=P) (vs++caps).toArray O hb;simp only [List.size_toArray] at this;rw [← this];simp [G,stepG,unwind,callDeferred,Er,Lc,invoke,callFunc,O,aa,hb,GStep.after,seen_none]
 ·obtain⟨_,K⟩:=I3 ht;have ab:t<(vs++caps).length:=by
   rcases Nat.lt_or_ge t (vs++caps).length with U | U
   ·exact U
   ·simp only [Nat.sub_zero] at K;have:=(List.getElem?_eq_some_iff.1 K).1;omega
  rw [Array.getD_eq_getD_getElem?,Array.getElem?_append_left (by simpa using ab)];simp only [Nat.sub_zero] at K;rw [List.getElem?_toArray,K];rfl
theorem P6{ops:Ao_}{i:Nat}{rest:List Nat}{d:Option Tmp}{x:Operand}{f:FuncId}{caps:Lv_}{args:Array Operand}{ats:Array TypeId}{ty:TypeId}{p:String}{af:Ae_}{g:On_}{vs:Lv_}{s:St}
  (U:ops[i]? =some ⟨d,.defer ⟨.value x,args,ats⟩,ty,p,af,g⟩) (V:b.roundOf=none) (hw:Bg L ops ⟨d,.defer ⟨.value x,args,ats⟩,ty,p,af,g⟩=some true) (O:((b.kind != .early)&&BE n d)=true)
  (W:ev L x=some (.func (.func f) #[] caps.toArray)) (Z:evs L args.toList=some vs) (h:JL J Q b n (AB L d undef) (Lc f vs.toArray caps.toArray::ds) (.inRegion ops rest::k) cs s):
  JL J Q b n L ds (.inRegion ops (i::rest)::k) cs s:=fun T K=>by
 simp only [Bool.and_eq_true] at O
 have aa:args.map (BI T)=vs.toArray:=by
  rw [← Gq K.Gi Z];apply Array.ext';simp
 refine Judge.oper U (C7 K hw) (by simpa using O.1) (.inl V) ?_;have hd:execOp (BI T) ⟨d,.defer ⟨.value x,args,ats⟩,ty,p,af,g⟩= .pure (.defer (Lc f vs.toArray caps.toArray)):=by
  simp only [execOp,resolve,bind,Sem.bind,Deferred.ofValue,K.ev W,pure,Lc];rw [aa];simp
 rw [hd];exact h _ (K.put O.2 undef)
end
end Pal
namespace Pal
open Go Go.Conc
section
variable {P:Program}{s:St}{ρ:Operand→Value}{x y z:Operand}{d:Option Tmp}{t u ty e:TypeId}{p:String}{af:Ae_}{g:On_}{a:Option Addr}{l c:Nat}
theorem LQ(ht:P.underlying t=some (.slice e))(K:ρ x= .slice a l c)(O:ρ (.const (.slice none 0 0))= .slice none 0 0):Yl P ⟨d,.binOp .eql t x (.const (.slice none 0 0)) u,ty,p,af,g⟩ ρ s (.bool a.isNone):=by
 refine FR (sm:=do eqGuard .eql t x (.const (.slice none 0 0)) (ρ x) (ρ (.const (.slice none 0 0)));binOp .eql t (ρ x) (ρ (.const (.slice none 0 0)))) rfl ?_
 rw [K,O];have U:lp P (eqGuard .eql t x (.const (.slice none 0 0)) (.slice a l c) (.slice none 0 0)) s (fun _ s'=>s'=s) (fun _ _=>False):=by
  simp [eqGuard,lp,pure]
 refine AJ _ _ (Ds _ U ?_ (fun _ _ h=>h));rintro _ _ rfl;have hb:binOp .eql t (.slice a l c) (.slice none 0 0)=(do pure (.bool (← Op.equal t (.slice a l c) (.slice none 0 0)))):=rfl
 rw [hb];refine AJ (x:=Op.equal t (.slice a l c) (.slice none 0 0)) _ ?_;unfold Op.equal Op.maxDepth Op.equalIn;refine AJ _ _ (Dz ht ?_);cases a <;> exact⟨rfl,rfl⟩
end
def Fh{α B:Type}(step:B→α→Option B):List α→B→Option B
 | [],b=>some b
 | x::l,b=>(step b x).bind fun K=>Fh step l K
section
variable {P:Program}{J:Judge P}{Q:Gs_}{b:Frame}{n:Nat}{L:Env}{ds:Ld_}{k:Li_}{cs:Lf_}{s:St}
theorem Tj{α B:Type}{c:Code}{l:List α}{step:B→α→Option B}{acc acc':B}(ab:Fh step l acc=some acc')(I:Env→St→Nat→B→Prop)(ae:I L s 0 acc)
  (round:∀L s i K x O,I L s i K→l[i]? =some x→i<l.length→step K x=some O→(∀L' s',I L' s' (i+1) O→JL J Q b n L' ds (.inLoop c::k) cs s')→JL J Q b n L ds (.code c:: .inLoop c::k) cs s)
  (exit:∀L s,I L s l.length acc'→JL J Q b n L ds (.code c:: .inLoop c::k) cs s):JL J Q b n L ds (.code (.loop c)::k) cs s:=by
 refine I5 ?_;have key:∀(rest:List α) (i:Nat) (K:B),l.drop i=rest→Fh step rest K=some acc'→∀L s,I L s i K→i≤l.length→JL J Q b n L ds (.code c:: .inLoop c::k) cs s:=by
  intro rest
  induction rest with
  | nil=>
   intro i K hd U L s V hle;have:l.length≤i:=by simpa using hd
   obtain rfl:i=l.length:=by omega
   obtain rfl:K=acc':=Option.some.inj U;exact exit L s V
  | cons x rest ag=>
   intro i K hd U L s V hle;have Z:l[i]? =some x:=by
    have W:(l.drop i)[0]? =some x:=by rw [hd];rfl
    simpa using W
   have aa:i<l.length:=(List.getElem?_eq_some_iff.1 Z).1;obtain⟨O,W,ah⟩:=Option.bind_eq_some_iff.1 U;refine round L s i K x O V Z aa W fun L' s' ai=>JL.again (ag (i+1) O ?_ ah L' s' ai aa);rw [← List.drop_drop,hd];rfl
 exact key l 0 acc rfl ab L s ae (Nat.zero_le _)
end
section
variable {P:Program}{J:Judge P}{Q:Gs_}{b:Frame}{n:Nat}{ds:Ld_}{ops:Ao_}{k:Li_}{cs:Lf_}{m fuel:Nat}{listed:Array Bool}{L:Env}{E H:LH}{S:List Seg}
variable {d:Option Tmp}{x y:Operand}{t u ty e:TypeId}{p:String}{af:Ae_}{g:On_}{v:Value}{i:Nat}
theorem Take.SH(O:Ar E H S)(U:ops[i]? =some ⟨d,.box e x,ty,p,af,g⟩)(hw:Bg L ops ⟨d,.box e x,ty,p,af,g⟩=some true)(V:BE n d=true)(W:ev L x=some v)
  (h:∀r,Ar E H (S++ [[(r,.cells v.cells e (0,0))]])→AT J Q b n ds ops k cs m DV fuel (Bd listed i) (AB L d (.pointer (some ⟨r,0,none⟩))) (Ak E H (S++ [[(r,.cells v.cells e (0,0))]]))):
  Take J Q b n ds ops k cs m DV fuel listed L (Ak E H S) i:=
 Take.Nu U (by simp [DI,V]) hw fun ρ Z=>by
  show lp P (do pure (Next.value (← Instr.box e (ρ x)))) _ _ _
  rw [Z x v W]
  refine AJ _ _ ?_
  unfold Instr.box
  refine AJ _ _ (Hb O fun r K=>?_)
  rw [(EG K).1]
  exact h r (EG K).2
end
end Pal
namespace Pal
open Go Go.Conc
def G0(P:Program)(d:Nat):GP:=fun g _=>∃q,QuitsD P q d g
def HM(P:Program):Frame:={(default:Frame) with fn:=P.funcs.size,defers:= [],mode:= .panicking [goexitEntry]}
section
variable {P:Program}{F:Fam}{J:Judge P}{Q:GP}{n:Nat}{L L':Env}{ds:Ld_}{k:Li_}{cs:Lf_}{s s':St}{b:Frame}{main:Bool}
theorem Lv.quits{d:Nat}:∀{m:Nat} {g:Goroutine},Lv P (G0 P d) m g→∃q,QuitsD P q d g
 | 0,_,h=>h
 | m+1,_,h=>by
  rcases h with h | ⟨K,g',O,h⟩
  ·exact h
  ·obtain⟨q,U⟩:=h.quits;exact⟨q+1,.ctl K O U⟩
theorem LK{d:Nat}{g:Goroutine}(h:(Gs P).ok (G0 P d) g .quiet):∃q,QuitsD P q d g:=by
 obtain⟨m,hm⟩:=h rfl;exact hm.quits
theorem J6:(Gs P).ok (G0 P 0) (G (HM P) []) .quiet:=by
 refine Judge.Di (g':={frame:=HM P,callers:= [],status:= .finished,dying:=none}) rfl (fun w=>?_) ((Gs P).stop ⟨0,rfl,rfl⟩);have K:(default:Frame).todo= []:=rfl;have O:∀(m:FrameMode),Frame.catches P {fn:=P.funcs.size,tmps:=(default:Frame).tmps,todo:= [],defers:= [],mode:=m,kind:=(default:Frame).kind,roundOf:=(default:Frame).roundOf}=false:=fun m=>by simp [Frame.catches]
 simp [G,stepG,unwind,HM,goexitEntry,K,O]
theorem VA{ops:Ao_}{i:Nat}{rest:List Nat}{d:Option Tmp}{f:FuncId}{args:Array Operand}{ats:Array TypeId}{ty:TypeId}{pp:String}{af:Ae_}{g:On_}{T:Ax}{e:Ax→Sem Value}
  (K:ops[i]? =some ⟨d,.call ⟨.value (.func f),args,ats⟩,ty,pp,af,g⟩) (he:Dx P f e):mayWake P (G (fr b T ds (.inRegion ops (i::rest)::k)) cs)=true:=by
 obtain⟨fn,O,_,hb,_⟩:=he.h;have U:fn.body.isSome=false:=by cases h:fn.body <;> simp_all
 simp [mayWake,G,fr,K,Frame.eval,O,U]
theorem Vi{v wt:Nat}(K:1≤v)(O:v<2147483648)(U:wt≤1):IntKind.u64.wrap (Fam.word v wt+18446744069414584320)=Fam.word (v - 1) wt:=by
 simp only [Fam.word,Fam.KK,IntKind.wrap,IntKind.bits,IntKind.signed];simp;omega
theorem Vl{v:Nat}(h:v<2147483647):IntKind.u64.wrap (Fam.word v 0+4294967296)=Fam.word (v+1) 0:=by
 simp only [Fam.word,Fam.KK,IntKind.wrap,IntKind.bits,IntKind.signed];simp;omega
theorem word_inj{v v' wt:Nat}(h:Fam.word v wt=Fam.word v' wt):v=v':=by
 simp only [Fam.word,Fam.KK] at h;omega
section
variable {ops:Ao_}{i:Nat}{rest:List Nat}{d:Option Tmp}{f:FuncId}{x y z:Operand}{ats:Array TypeId}{ty:TypeId}{pp:String}{af:Ae_}{g:On_}{p q:Ph}
theorem Wu(aa:ops[i]? =some ⟨d,.call ⟨.value (.func f),#[x,y],ats⟩,ty,pp,af,g⟩)(W:b.roundOf=none)(hw:Bg L ops ⟨d,.call ⟨.value (.func f),#[x,y],ats⟩,ty,pp,af,g⟩=some true)(O:((b.kind != .early)&&BE n d)=true)
  (he:Dx P f (Extern.Atomic.update (Op.intArith .add) .u64 true)) (ab:ev L x=some (.pointer (some F.sA))) (ae:ev L y=some (.int .u64 18446744069414584320))
  (ag:JL (Bv P false) (Stop P F .Gj) b n (AB L d (.int .u64 (Fam.word 0 1))) ds (.inRegion ops rest::k) cs .quiet)
  (ah:∀v wt:Nat,v<2147483647→wt≤1→¬(v=0∧wt=1)→JL (Gs P) (G0 P 1) b n (AB L d (.int .u64 (Fam.word v wt))) ds (.inRegion ops rest::k) cs .quiet):
  JL (Bv P false) (Stop P F .G3) b n L ds (.inRegion ops (i::rest)::k) cs .quiet:=fun T K=>by
 simp only [Bool.and_eq_true] at O
 obtain⟨fn,ai,aj,hb,ak,he⟩:=he.h
 refine(Bv P _).stop (Hd rfl rfl rfl rfl (by simp) fun v wt sm v' wt' sm' es nx U=>?_)
 simp only [Fam.act] at U
 split at U
 ·rename_i V
  cases U;refine⟨G (fr b (CN T d (.int .u64 (Fam.word (v - 1) wt))) ds (.inRegion ops rest::k)) cs,fun w Z=>?_,rfl,?_⟩
  ·obtain⟨al,_,c3,_⟩:=Hg Z;rw [CU W,CU W];show stepG P false _ w=_;rw [stepG_add_atomic (a:=⟨T,ds⟩) aa (C7 K hw) (by simpa using O.1) rfl ai aj hb ak .u64 he (by rw [EU];exact K.ev ab) (by rw [EU];exact K.ev ae) al c3,Vi V.1 V.2.1 V.2.2,LM Z,FZ]
   rfl
  ·split
   ·rename_i e;obtain⟨rfl,rfl⟩:=e;exact ag _ (K.put O.2 _)
   ·rename_i e;exact LK (ah (v - 1) wt (by omega) V.2.2 (by omega) _ (K.put O.2 _))
 ·cases U
theorem VT{j:Nat}(aa:s.q=false)(ab:ops[i]? =some ⟨d,.call ⟨.value (.func f),#[x,y],ats⟩,ty,pp,af,g⟩)(W:b.roundOf=none)(hw:Bg L ops ⟨d,.call ⟨.value (.func f),#[x,y],ats⟩,ty,pp,af,g⟩=some true)(O:((b.kind != .early)&&BE n d)=true)
  (he:Dx P f (Extern.Atomic.update (Op.intArith .add) .u64 true)) (ae:ev L x=some (.pointer (some F.sA))) (ag:ev L y=some (.int .u64 4294967296))
  (ah:JL (Bv P true) (Stop P F (.G6 j)) b n (AB L d (.int .u64 (Fam.word 1 0))) ds (.inRegion ops rest::k) cs s)
  (ai:∀v:Nat,1≤v→v<2147483647→JL (Bv P true) (Stop P F (.F5 j)) b n (AB L d (.int .u64 (Fam.word (v+1) 0))) ds (.inRegion ops rest::k) cs s):
  JL (Bv P true) (Stop P F (.Hr j)) b n L ds (.inRegion ops (i::rest)::k) cs s:=fun T K=>by
 simp only [Bool.and_eq_true] at O
 obtain⟨fn,aj,ak,hb,al,he⟩:=he.h
 refine(Bv P _).stop (Hd rfl rfl rfl aa (by simp) fun v wt sm v' wt' sm' es nx U=>?_)
 simp only [Fam.act] at U
 split at U
 ·rename_i V
  obtain⟨V,rfl⟩:=V;cases U;refine⟨G (fr b (CN T d (.int .u64 (Fam.word (v+1) 0))) ds (.inRegion ops rest::k)) cs,fun w Z=>?_,rfl,?_⟩
  ·obtain⟨am,_,c3,_⟩:=Hg Z;rw [CU W,CU W];show stepG P true _ w=_;rw [stepG_add_atomic (a:=⟨T,ds⟩) ab (C7 K hw) (by simpa using O.1) rfl aj ak hb al .u64 he (by rw [EU];exact K.ev ae) (by rw [EU];exact K.ev ag) am c3,Vl V,LM Z,FZ]
   rfl
  ·split
   ·rename_i e;subst e;exact ah _ (K.put O.2 _)
   ·rename_i e;exact ai v (by omega) V _ (K.put O.2 _)
 ·cases U
theorem XE(ab:Jd p=true)(ae:if Fam.Ee p=true then s= .quiet else s.q=false)(ag:p≠ .Ex)(ah:Fam.GF p s=s)(ai:∀v wt sm r,F.act p v wt sm=some r→r.1=(v,wt,sm)∧r.2.1= #[Fam.Fa F.sA])
  (aj:ops[i]? =some ⟨d,.call ⟨.value (.func f),#[x],ats⟩,ty,pp,af,g⟩) (U:b.roundOf=none) (hw:Bg L ops ⟨d,.call ⟨.value (.func f),#[x],ats⟩,ty,pp,af,g⟩=some true) (K:((b.kind != .early)&&BE n d)=true)
  (he:Dx P f (Extern.Atomic.loadT (.int .u64))) (ak:ev L x=some (.pointer (some F.sA)))
  (h:∀v wt sm r,F.act p v wt sm=some r→∃q,r.2.2= .ph q∧JL (Bv P (Fam.DF p)) (Stop P F q) b n (AB L d (.int .u64 (Fam.word v wt))) ds (.inRegion ops rest::k) cs s):
  JL (Bv P (Fam.DF p)) (Stop P F p) b n L ds (.inRegion ops (i::rest)::k) cs s:=fun T O=>by
 simp only [Bool.and_eq_true] at K
 obtain⟨fn,al,am,hb,an,he⟩:=he.h
 refine(Bv P _).stop (Hd ab rfl rfl ae (fun e=>absurd e ag) fun v wt sm v' wt' sm' es nx V=>?_)
 obtain⟨W,e2⟩:=ai _ _ _ _ V
 obtain⟨q,Z,ao⟩:=h _ _ _ _ V
 simp only at W e2 Z
 cases W
 subst e2 Z
 refine⟨_,fun w aa=>?_,rfl,by rw [ah];exact ao _ (O.put K.2 _)⟩
 obtain⟨ap,_,_,_⟩:=Hg aa
 rw [CU U,CU U,stepG_load_atomic (a:=⟨T,ds⟩) aj (C7 O hw) (by simpa using K.1) rfl al am hb an .u64 he (by rw [EU];exact O.ev ak) ap,Jc aa,FZ]
 rfl
theorem Yf(Z:ops[i]? =some ⟨d,.call ⟨.value (.func f),#[x,y],ats⟩,ty,pp,af,g⟩)(V:b.roundOf=none)(hw:Bg L ops ⟨d,.call ⟨.value (.func f),#[x,y],ats⟩,ty,pp,af,g⟩=some true)(U:((b.kind != .early)&&BE n d)=true)
  (he:Dx P f Extern.Atomic.storeT) (aa:ev L x=some (.pointer (some F.sA))) (ab:ev L y=some (.int .u64 0))
  (h:JL (Bv P false) (Stop P F .Ex) b n (AB L d (.tuple #[])) ds (.inRegion ops rest::k) cs .quiet):
  JL (Bv P false) (Stop P F .Gx) b n L ds (.inRegion ops (i::rest)::k) cs .quiet:=fun T K=>by
 simp only [Bool.and_eq_true] at U
 obtain⟨fn,ae,ag,hb,ah,he⟩:=he.h
 refine(Bv P _).stop (Hd rfl rfl rfl rfl (by simp) fun v wt sm v' wt' sm' es nx O=>?_)
 simp only [Fam.act] at O
 split at O
 ·rename_i ai
  obtain⟨rfl,rfl⟩:=ai;cases O;refine⟨_,fun w W=>?_,rfl,h _ (K.put U.2 _)⟩;obtain⟨aj,_,c3,_⟩:=Hg W;have ak:(.int .u64 0:Value)= .int .u64 (Fam.word 0 0):=by simp [Fam.word]
  rw [CU V,CU V];show stepG P false _ w=_;rw [stepG_store_atomic (a:=⟨T,ds⟩) Z (C7 K hw) (by simpa using U.1) rfl ae ag hb ah he (by rw [EU];exact K.ev aa) (by rw [EU];exact K.ev ab) aj c3,ak,LM W,FZ]
  rfl
 ·cases O
theorem Xm{m:Nat}(ak:s.q=false)(aa:ops[i]? =some ⟨d,.call ⟨.value (.func f),#[x,y,z],ats⟩,ty,pp,af,g⟩)(W:b.roundOf=none)(hw:Bg L ops ⟨d,.call ⟨.value (.func f),#[x,y,z],ats⟩,ty,pp,af,g⟩=some true)(U:((b.kind != .early)&&BE n d)=true)
  (he:Dx P f (Extern.Atomic.casT (.int .u64))) (ab:ev L x=some (.pointer (some F.sA))) (ae:ev L y=some (.int .u64 (Fam.word m 0))) (ag:ev L z=some (.int .u64 (Fam.word m 1)))
  (al:JL (Bv P false) (Stop P F .Ht) b n (AB L d (.bool true)) ds (.inRegion ops rest::k) cs s)
  (am:JL (Bv P false) (Stop P F (.FE (m - 1))) b n (AB L d (.bool false)) ds (.inRegion ops rest::k) cs s):
  JL (Bv P false) (Stop P F (.G1 m)) b n L ds (.inRegion ops (i::rest)::k) cs s:=fun T K=>by
 simp only [Bool.and_eq_true] at U
 obtain⟨fn,ah,ai,hb,aj,he⟩:=he.h
 refine(Bv P _).stop (Hd rfl rfl rfl ak (by simp) fun v wt sm v' wt' sm' es nx O=>?_)
 simp only [Fam.act] at O
 split at O
 ·rename_i an
  obtain⟨_,_,rfl⟩:=an;split at O
  ·rename_i e;subst e;cases O;refine⟨_,fun w V=>?_,rfl,al _ (K.put U.2 _)⟩;obtain⟨Z,_,c3,_⟩:=Hg V;rw [CU W,CU W];show stepG P false _ w=_;rw [stepG_cas_hit (a:=⟨T,ds⟩) aa (C7 K hw) (by simpa using U.1) rfl ah ai hb aj .u64 he (by rw [EU];exact K.ev ab) (by rw [EU];exact K.ev ae) (by rw [EU];exact K.ev ag) Z c3,LM V,FZ]
   rfl
  ·rename_i e;cases O;refine⟨_,fun w V=>?_,rfl,am _ (K.put U.2 _)⟩;obtain⟨Z,_,c3,_⟩:=Hg V;rw [CU W,CU W];show stepG P false _ w=_;rw [stepG_cas_miss (a:=⟨T,ds⟩) aa (C7 K hw) (by simpa using U.1) rfl ah ai hb aj .u64 he (by rw [EU];exact K.ev ab) (by rw [EU];exact K.ev ae) (by rw [EU];exact K.ev ag) Z c3 (fun q=>e (word_inj q)),Jc V,FZ]
   rfl
 ·cases O
theorem UL{args:Array Operand}{vs:Lv_}(V:ops[i]? =some ⟨d,.call ⟨.value (.func f),args,ats⟩,ty,pp,af,g⟩)(W:b.roundOf=none)(hw:Bg L ops ⟨d,.call ⟨.value (.func f),args,ats⟩,ty,pp,af,g⟩=some true)(O:((b.kind != .early)&&BE n d)=true)
  (he:Dx P f Extern.Sync.semrelease) (aa:evs L args.toList=some vs) (ab:vs[0]? =some (.pointer (some F.mA)))
  (h:JL (Gs P) (G0 P 1) b n (AB L d (.tuple #[])) ds (.inRegion ops rest::k) cs .quiet):
  JL (Bv P false) (Stop P F .Ex) b n L ds (.inRegion ops (i::rest)::k) cs .quiet:=fun T U=>by
 simp only [Bool.and_eq_true] at O
 have ae:=VA (P:=P) (b:=b) (ds:=ds) (k:=k) (cs:=cs) (rest:=rest) (T:=T) V he
 obtain⟨fn,ag,ah,hb,ai,he⟩:=he.h
 refine(Bv P _).stop (Hd rfl rfl rfl rfl (fun _=>ae) fun v wt sm v' wt' sm' es nx K=>?_)
 simp only [Fam.act] at K
 split at K
 ·rename_i aj
  subst aj;cases K;refine⟨_,fun w Z=>?_,rfl,LK (h _ (U.put O.2 _))⟩;obtain⟨_,c2,_,c4⟩:=Hg Z;rw [CU W,CU W];show stepG P false _ w=_;rw [stepG_semrelease (a:=⟨T,ds⟩) V (C7 U hw) (by simpa using O.1) rfl ag ah hb ai he (ad:=F.mA) (by rw [Pc U aa];simpa using ab) c2 c4,FZ];have ak:IntKind.u32.wrap (((0:Nat):Int)+1)=((1:Nat):Int):=by decide
  rw [ak,PL Z]
 ·cases K
theorem TE{args:Array Operand}{vs:Lv_}(ah:s.q=false)(Z:ops[i]? =some ⟨d,.call ⟨.value (.func f),args,ats⟩,ty,pp,af,g⟩)(V:b.roundOf=none)(hw:Bg L ops ⟨d,.call ⟨.value (.func f),args,ats⟩,ty,pp,af,g⟩=some true)(W:((b.kind != .early)&&BE n d)=true)
  (he:Dx P f Extern.Sync.semacquire) (ai:evs L args.toList=some vs) (aj:vs[0]? =some (.pointer (some F.mA)))
  (h:JL (Bv P false) (Stop P F .Gw) b n (AB L d (.tuple #[])) ds (.inRegion ops rest::k) cs s):
  JL (Bv P false) (Stop P F .Dw) b n L ds (.inRegion ops (i::rest)::k) cs s:=fun T K=>by
 simp only [Bool.and_eq_true] at W
 obtain⟨fn,aa,ab,hb,ae,he⟩:=he.h
 have ag:(args.map (⟨T,ds⟩:Act).eval)[0]? =some (.pointer (some F.mA)):=by rw [Pc K ai];simpa using aj
 refine(Bv P _).stop (FJ.stop {
  run:=rfl,offers:=rfl,quiet:=(by simp [Fam.Ee]),live:=fun _=>ah,act:=?_,G2:=(by simp),EC:=?_,close:=(by simp),send:=(by simp),go:=(by simp),GG:=(by simp),recv:=(by simp)})
 ·intro v wt sm v' wt' sm' es nx O;simp only [Fam.act] at O;split at O
  ·rename_i ak;subst ak;cases O;refine⟨_,fun w U=>?_,rfl,h _ (K.put W.2 _)⟩;obtain⟨_,c2,_,c4⟩:=Hg U;rw [CU V,CU V];show stepG P false _ w=_;rw [stepG_semacquire (a:=⟨T,ds⟩) Z (C7 K hw) (by simpa using W.1) rfl aa ab hb ae he (ad:=F.mA) ag c2 (by decide) c4,FZ];have al:(((1:Nat):Int) - 1)=((0:Nat):Int):=by decide
   rw [al,PL U]
  ·cases O
 ·intro _ w v wt U;obtain⟨_,c2,_,c4⟩:=Hg U;rw [CU V];exact stepG_semacquire_wait (a:=⟨T,ds⟩) Z (C7 K hw) rfl aa ab hb ae he (ad:=F.mA) ag c2
theorem Ug(W:s.q=false)(U:ops[i]? =some ⟨d,.call ⟨.builtin .close,#[x],ats⟩,ty,pp,af,g⟩)(V:b.roundOf=none)(hw:Bg L ops ⟨d,.call ⟨.builtin .close,#[x],ats⟩,ty,pp,af,g⟩=some true)(K:((b.kind != .early)&&BE n d)=true)
  (Z:ev L x=some (.chan (some F.ch))) (aa:(P.funcs[b.fn]?).any (·.norace)=false)
  (h:JL (Gs P) (G0 P 0) b n (AB L d (.tuple #[])) ds (.inRegion ops rest::k) cs .quiet):
  JL (Bv P false) (Stop P F .DR) b n L ds (.inRegion ops (i::rest)::k) cs s:=fun T O=>by
 simp only [Bool.and_eq_true] at K
 refine(Bv P _).stop (FJ.stop {
  run:=rfl,offers:=rfl,quiet:=(by simp [Fam.Ee]),live:=fun _=>W,act:=(by simp [Fam.act]),G2:=fun _=>(by simp [mayWake,G,fr,U]),EC:=(by simp),close:=fun _=>?_,send:=(by simp),go:=(by simp),GG:=(by simp),recv:=(by simp)})
 refine⟨_,?_,fun w k' ab=>?_,LK (h _ (O.put K.2 _))⟩
 ·rfl
 ·rw [CU V,CU V,stepG_close (a:=⟨T,ds⟩) U (C7 O hw) (by simpa using K.1) rfl (by rw [EU];exact O.ev Z) ab aa,FZ]
theorem Qx{kk:Nat}{v:Value}(W:s.q=false)(U:ops[i]? =some ⟨d,.send x y,ty,pp,af,g⟩)(Z:b.roundOf=none)(hw:Bg L ops ⟨d,.send x y,ty,pp,af,g⟩=some true)(O:((b.kind != .early)&&BE n d)=true)
  (aa:ev L x=some (.chan (some F.ch))) (ab:ev L y=some v) (hm:F.msg kk v s.E)
  (h:JL (Bv P false) (Stop P F .CZ) b n (AB L d undef) ds (.inRegion ops rest::k) cs s):
  JL (Bv P false) (Stop P F (.Cx kk)) b n L ds (.inRegion ops (i::rest)::k) cs s:=fun T K=>by
 simp only [Bool.and_eq_true] at O
 have V:execOp (BI T) ⟨d,.send x y,ty,pp,af,g⟩= .pure (.comm #[scase F.ch v (.tuple #[])] true .send):=by
  simp [execOp,K.ev aa,K.ev ab,scase,pure]
 refine(Bv P _).stop (FJ.stop {
  run:=rfl,offers:=rfl,quiet:=(by simp [Fam.Ee]),live:=fun _=>W,act:=(by simp [Fam.act]),G2:=(by simp),EC:=(by simp),close:=(by simp),send:=fun k' e=>?_,go:=(by simp),GG:=(by simp),recv:=(by simp)})
 cases e;refine⟨v,.tuple #[],hm,fun w=>?_,?_⟩
 ·have he:(⟨T,ds⟩:Act).eval=BI T:=funext fun x=>EU T ds x;rw [CU Z,stepG_comm (a:=⟨T,ds⟩) (w':=w) U (C7 K hw) (by simpa using O.1) (by rw [he,V];rfl),listed_none (by rw [he,V];simp [Sem.events_pure'])]
 ·have:Conc.served (G (fr b T ds (.inRegion ops (i::rest)::k)) cs) undef=G (fr b (CN T d undef) ds (.inRegion ops rest::k)) cs:=by
   have:=Ga (b:=b) (ds:=ds) (k:=k) T ops i rest undef _ U;simp only [Conc.served,G,this]
  rw [this];exact h _ (K.put O.2 _)
end
end
end Pal
namespace Pal
open Go Go.Conc
section
variable {P:Program}{F:Fam}{J:Judge P}{Q:GP}{n:Nat}{L L':Env}{ds:Ld_}{k:Li_}{cs:Lf_}{s s':St}{b:Frame}{main:Bool}
variable {ops:Ao_}{i:Nat}{rest:List Nat}{d:Option Tmp}{f:FuncId}{x y z:Operand}{ats:Array TypeId}{ty t e:TypeId}{pp:String}{af:Ae_}{g:On_}{p q:Ph}
theorem Qb{T:Ax}{o:Oper}(K:ops[i]? =some o)(v:Value):Conc.served (G (fr b T ds (.inRegion ops (i::rest)::k)) cs) v=G (fr b (CN T o.dst v) ds (.inRegion ops rest::k)) cs:=by
 have:=Ga (b:=b) (ds:=ds) (k:=k) T ops i rest v _ K;simp only [Conc.served,G,this]
theorem Ix(T:Ax)(ds:Ld_):(⟨T,ds⟩:Act).eval=BI T:=funext fun x=>EU T ds x
theorem UP{O:List Nat}{vs:Lv_}{K:Value}{dir:ChanDir}(ae:s.q=false)(W:ops[i]? =some ⟨d,.recv t x true,ty,pp,af,g⟩)(ag:b.roundOf=none)(hw:Bg L ops ⟨d,.recv t x true,ty,pp,af,g⟩=some true)(U:((b.kind != .early)&&BE n d)=true)
  (ah:ev L x=some (.chan (some F.ch))) (ht:P.underlying t=some (.chan dir e)) (ai:zeroOf P e=some K)
  (Z:∀kk v E',kk<F.n→F.has kk=true→kk ∉ O→Le s.E E'→(∀b,E' b≠none→s.H b=none)→F.msg kk v E'→JL (Bv P true) (Stop P F (.Cd (O++ [kk]) (vs++ [v]))) b n (AB L d (.tuple #[v,.bool true])) ds (.inRegion ops rest::k) cs ⟨E',s.H,false⟩)
  (aa:(∀kk,kk<F.n→F.has kk=true→kk∈O)→∀T,Has n (AB L d (.tuple #[K,.bool false])) T→F.fin (G (fr b T ds (.inRegion ops rest::k)) cs) s):
  JL (Bv P true) (Stop P F (.Cd O vs)) b n L ds (.inRegion ops (i::rest)::k) cs s:=fun T V=>by
 simp only [Bool.and_eq_true] at U
 have ab:∀w,(execOp (BI T) ⟨d,.recv t x true,ty,pp,af,g⟩).run P w= .ok (.comm #[rcase F.ch K] true (.recv true)) w∧listed P b.fn ⟨T,ds⟩ ⟨d,.recv t x true,ty,pp,af,g⟩ w= #[]:=by
  have aj:∀s,lp P (execOp (BI T) ⟨d,.recv t x true,ty,pp,af,g⟩) s (fun nx s'=>nx= .comm #[rcase F.ch K] true (.recv true)∧s'=s) (fun _ _=>False):=by
   intro s;unfold execOp;simp only;refine AJ (x:=underlying t) _ (Dz ht ?_);simp only;refine AJ (x:=zeroValue e) _ (F8 ai ?_);rw [V.ev ah];exact⟨rfl,rfl⟩
  obtain⟨es,Z,aa,ak⟩:=N9 _ (aj .quiet);rcases ak with⟨a,⟨rfl,_⟩,al⟩ | ⟨_,am,_⟩
  ·intro w;refine⟨al w,?_⟩;unfold listed;rw [Ix,Z];exact NM aa
  ·exact am.elim
 refine(Bv P _).stop (FJ.stop {
  run:=rfl,offers:=rfl,quiet:=(by simp [Fam.Ee]),live:=fun _=>ae,act:=(by simp [Fam.act]),G2:=(by simp),EC:=(by simp),close:=(by simp),send:=(by simp),go:=(by simp),GG:=(by simp),recv:=fun ay az an=>?_})
 cases an;refine⟨K,fun w=>?_,fun kk v E' ao ap aq ar au av=>?_,fun aw=>?_⟩
 ·rw [CU ag,stepG_comm (a:=⟨T,ds⟩) (w':=w) W (C7 V hw) (by simpa using U.1) (by rw [Ix];exact(ab w).1),(ab w).2]
 ·rw [Qb W];exact Z kk v E' ao ap aq ar au av _ (V.put U.2 _)
 ·rw [Qb W];exact aa aw _ (V.put U.2 _)
theorem Q0{X:GP}{fn:Func}{c:Code}{vs:Lv_}{caps:Ax}{args:Ax}(O:P.funcs[f]? =some fn)(W:(fn.name== "runtime.NumGoroutine")=false)(hb:fn.body=some c)(Z:args++caps=vs.toArray)(ae:vs.length≤fn.ntmps)
  (h:JL (Bv P false) X (baseD f) fn.ntmps (FH 0 vs) [] [.code c] [HM P] s):Way P false X (born P {target:= .fn (.func f) caps,args:=args}) s:=by
 have aa:¬fn.name= "runtime.NumGoroutine" :=by simpa using W
 refine Judge.Di (J:=Bv P false) rfl (fun w=>?_) (h (vs.toArray++Array.replicate (fn.ntmps - vs.length) undef) ⟨by simp;omega,fun t v ht=>?_⟩)
 ·show stepG P false _ w=_;have U:=enter_atD (P:=P) vs.toArray O hb;rw [CU (b:=baseD f) rfl];simp only [List.size_toArray] at U;simp [G,born,stepG,unwind,callDeferred,invoke,callFunc,O,aa,hb,GStep.after,seen_none,Z,HM,U]
 ·obtain⟨_,K⟩:=I3 ht;have ab:t<vs.length:=by
   rcases Nat.lt_or_ge t vs.length with V | V
   ·exact V
   ·simp at K;have:=(List.getElem?_eq_some_iff.1 K).1;omega
  rw [Array.getD_eq_getD_getElem?,Array.getElem?_append_left (by simpa using ab)];simp at K;simp [K]
theorem R1{T:Ax}{args:Array Operand}{K:Go.Fn}{fi O:Ax}{as:Lv_}(U:Has n L T)(V:ev L x=some (.func K fi O))(W:evs L args.toList=some as):
  execOp (BI T) ⟨d,.go ⟨.value x,args,ats⟩,ty,pp,af,g⟩= .pure (.spawn {target:= .fn K O,args:=fi++as.toArray}):=by
 have Z:args.map (BI T)=as.toArray:=by
  rw [← Gq U.Gi W];apply Array.ext';simp
 simp only [execOp,resolve,bind,Sem.bind,Deferred.ofValue,U.ev V,pure,Z]
theorem W7{j:Nat}{args:Array Operand}{fi U:Ax}{as:Lv_}{V:FuncId}(aa:s.q=false)(ab:ops[i]? =some ⟨d,.go ⟨.value x,args,ats⟩,ty,pp,af,g⟩)(W:b.roundOf=none)(hw:Bg L ops ⟨d,.go ⟨.value x,args,ats⟩,ty,pp,af,g⟩=some true)(K:((b.kind != .early)&&BE n d)=true)
  (ae:ev L x=some (.func (.func V) fi U)) (ag:evs L args.toList=some as)
  (ah:Way P false (Stop P F (F.start j)) (born P {target:= .fn (.func V) U,args:=fi++as.toArray}) ⟨s.E,fun _=>none,false⟩)
  (ai:JL (Bv P true) (Stop P F (F.DT j)) b n (AB L d undef) ds (.inRegion ops rest::k) cs s):
  JL (Bv P true) (Stop P F (.EZ j)) b n L ds (.inRegion ops (i::rest)::k) cs s:=fun T O=>by
 simp only [Bool.and_eq_true] at K
 have Z:=R1 (d:=d) (ats:=ats) (ty:=ty) (pp:=pp) (af:=af) (g:=g) O ae ag
 refine(Bv P _).stop (FJ.stop {
  run:=rfl,offers:=rfl,quiet:=(by simp [Fam.Ee]),live:=fun _=>aa,act:=(by simp [Fam.act]),G2:=(by simp),EC:=(by simp),close:=(by simp),send:=(by simp),go:=fun aj e=>?_,GG:=(by simp),recv:=(by simp)})
 cases e
 refine⟨G (fr b (CN T d undef) ds (.inRegion ops rest::k)) cs,_,rfl,rfl,fun w=>?_,ah,ai _ (O.put K.2 _)⟩
 rw [CU W,CU W,stepG_spawn (a:=⟨T,ds⟩) (w':=w) ab (C7 O hw) (by simpa using K.1) (by rw [Ix,Z];rfl) rfl,listed_none (by rw [Ix,Z];simp [Sem.events_pure']),FZ]
theorem JL.GG{args:Array Operand}{fi U:Ax}{as:Lv_}{V:FuncId}(aa:s.q=false)(ab:ops[i]? =some ⟨d,.go ⟨.value x,args,ats⟩,ty,pp,af,g⟩)(W:b.roundOf=none)(hw:Bg L ops ⟨d,.go ⟨.value x,args,ats⟩,ty,pp,af,g⟩=some true)(K:((b.kind != .early)&&BE n d)=true)
  (ae:ev L x=some (.func (.func V) fi U)) (ag:evs L args.toList=some as)
  (ah:Way P false (Stop P F .C5) (born P {target:= .fn (.func V) U,args:=fi++as.toArray}) ⟨s.E,fun _=>none,false⟩)
  (ai:JL (Bv P true) (Stop P F (.Cd [] [])) b n (AB L d undef) ds (.inRegion ops rest::k) cs s):
  JL (Bv P true) (Stop P F .FI) b n L ds (.inRegion ops (i::rest)::k) cs s:=fun T O=>by
 simp only [Bool.and_eq_true] at K
 have Z:=R1 (d:=d) (ats:=ats) (ty:=ty) (pp:=pp) (af:=af) (g:=g) O ae ag
 refine(Bv P _).stop (FJ.stop {
  run:=rfl,offers:=rfl,quiet:=(by simp [Fam.Ee]),live:=fun _=>aa,act:=(by simp [Fam.act]),G2:=(by simp),EC:=(by simp),close:=(by simp),send:=(by simp),go:=(by simp),GG:=fun _=>?_,recv:=(by simp)})
 refine⟨G (fr b (CN T d undef) ds (.inRegion ops rest::k)) cs,_,rfl,rfl,fun w=>?_,ah,ai _ (O.put K.2 _)⟩
 rw [CU W,CU W,stepG_spawn (a:=⟨T,ds⟩) (w':=w) ab (C7 O hw) (by simpa using K.1) (by rw [Ix,Z];rfl) rfl,listed_none (by rw [Ix,Z];simp [Sem.events_pure']),FZ]
theorem JO.Ry{j:Nat}(V:s.q=false)(K:b.roundOf=none)(he:Dx P f (fun _=>do mark .enable;pure Extern.Race.none_))
  (h:JO (Bv P true) (Stop P F (.EZ j)) b n L ds cs s):JO (Bv P true) (Stop P F (.F5 j)) b n L (dcall f #[]::ds) cs s:=fun T W todo=>by
 obtain⟨fn,Z,aa,hb,ab,he⟩:=he.h
 refine(Bv P _).stop (Hd rfl rfl rfl V (by simp) fun v wt sm v' wt' sm' es nx O=>?_)
 simp only [Fam.act] at O
 cases O
 refine⟨G (Er b T ds todo) cs,fun w ae=>?_,rfl,h T W todo⟩
 rw [Ja K,Ja K,Jc ae]
 exact stepG_unwind_entry (a:=⟨T,dcall f #[]::ds⟩) (v:= .tuple #[]) (evs:= #[Fam.Et .enable]) rfl Z aa hb ab he (by simp [Extern.Race.none_]) (by simp;rfl) (by
  intro x U
  simp at U
  subst U
  exact⟨rfl,fun g h=>by cases h⟩)
theorem JO.L3(K:b.roundOf=none)(he:Dx P f (fun _=>do mark .enable;pure Extern.Race.none_))
  (h:JO (Gs P) (G0 P 0) b n L ds cs .quiet):JO (Gs P) (G0 P 1) b n L (dcall f #[]::ds) cs .quiet:=fun T U todo=>by
 obtain⟨fn,V,W,hb,Z,he⟩:=he.h
 refine(Gs P).stop ?_
 obtain⟨q,O⟩:=LK (h T U todo)
 rw [Ja K] at O
 rw [Ja K]
 exact⟨q+1,QuitsD.unwind_mark (a:=⟨T,dcall f #[]::ds⟩) .enable rfl (by simp) rfl V W hb Z he O⟩
end
end Pal
namespace Pal
open Go Go.Conc
def SJ:BinOp→Int→Int→Option Bool
 | .lss,m,m'=>some (decide (m<m'))
 | .leq,m,m'=>some (decide (m≤m'))
 | .gtr,m,m'=>some (decide (m'<m))
 | .geq,m,m'=>some (decide (m'≤m))
 | .eql,m,m'=>some (decide (m=m'))
 | .neq,m,m'=>some (decide (m≠m'))
 | _,_,_=>none
def IS(L:Env):Op→Option Value
 | .move x=>ev L x
 | .assign x=>ev L x
 | .pick z x y=>match ev L z with
  | some (.bool true)=>ev L x
  | some (.bool false)=>ev L y
  | _=>none
 | .extract x i=>match ev L x with
  | some (.tuple vs)=>vs[i]?
  | _=>none
 | .nilCheck x=>match ev L x with
  | some (.pointer (some a))=>some (.pointer (some a))
  | _=>none
 | .binOp op _ x y _=>match ev L x with
  | some (.int kd m)=>match ev L y with
   | some (.int kd' m')=>if kd=kd' then(match SJ op m m' with | some t=>some (.bool t) | none=>none) else none
   | _=>none
  | _=>none
 | _=>none
theorem We{P:Program}{s:St}{ρ:Operand→Value}{d:Option Tmp}{x y:Operand}{t u ty:TypeId}{p:String}{af:Ae_}{g:On_}{kd:IntKind}{m m':Int}(K:ρ x= .int kd m)(O:ρ y= .int kd m'):Yl P ⟨d,.binOp .neq t x y u,ty,p,af,g⟩ ρ s (.bool (decide (m≠m'))):=by
 have h:=Yl.neq (P:=P) (s:=s) (d:=d) (t:=t) (u:=u) (ty:=ty) (p:=p) (af:=af) (g:=g) K O;simpa using h
theorem Mm{P:Program}{L:Env}{ρ:Operand→Value}{s:St}{o:Oper}{v:Value}(K:Eu L ρ)(h:IS L o.op=some v):Yl P o ρ s v:=by
 obtain⟨d,op,ty,p,af,g⟩:=o;simp only at h;unfold IS at h;split at h
 ·exact Yl.move (K _ _ h)
 ·exact Yl.assign (K _ _ h)
 ·split at h
  ·rename_i e;exact T3 (K _ _ e) (K _ _ h)
  ·rename_i e;exact T5 (K _ _ e) (K _ _ h)
  ·cases h
 ·split at h
  ·rename_i e;exact Yl.extract (K _ _ e) h
  ·cases h
 ·split at h
  ·rename_i e;cases h;exact Yl.nilCheck (K _ _ e)
  ·cases h
 ·split at h
  ·rename_i O;split at h
   ·rename_i U;split at h
    ·rename_i e;subst e;split at h
     ·rename_i e;cases h;unfold SJ at e;split at e
      ·cases e;exact Yl.lss (K _ _ O) (K _ _ U)
      ·cases e;exact Yl.leq (K _ _ O) (K _ _ U)
      ·cases e;exact Yl.gtr (K _ _ O) (K _ _ U)
      ·cases e;exact Yl.geq (K _ _ O) (K _ _ U)
      ·cases e;exact Yl.eql (K _ _ O) (K _ _ U)
      ·cases e;exact We (K _ _ O) (K _ _ U)
      ·cases e
     ·cases h
    ·cases h
   ·cases h
  ·cases h
 ·cases h
def HP:List Oper→Nat→Option Oper
 | [],_=>none
 | o::_,0=>some o
 | _::os,i+1=>HP os i
theorem Jo:∀(os:List Oper) (i:Nat),HP os i=os[i]?
 | [],i=>by simp [HP]
 | _::_,0=>rfl
 | _::os,i+1=>by simp [HP,Jo os i]
def O3(b:Frame)(n:Nat)(L:Env):Li_→Option (Li_×Env)
 | .code (.seq x y)::k=>some (.code x:: .code y::k,L)
 | .code (.block i c)::k=>some (.code c:: .inBlock i::k,L)
 | .code (.scope c)::k=>some (.code c:: .inScope c::k,L)
 | .code .skip::k=>some (k,L)
 | .code (.exit i)::k=>match exitTo i k with
  | some k'=>some (k',L)
  | none=>none
 | .code (.cond c x y)::k=>match ev L c with
  | some (.bool true)=>some (.code x::k,L)
  | some (.bool false)=>some (.code y::k,L)
  | _=>none
 | .code (.region _ ops false)::k=>some (.inRegion ops (List.range ops.size)::k,L)
 | .inBlock _::k=>some (k,L)
 | .inScope _::k=>some (k,L)
 | .inRegion _ []::k=>some (k,L)
 | .inRegion ops (i::rest)::k=>match HP ops.toList i with
  | some ⟨d,op,ty,p,af,g⟩=>match Bg L ops ⟨d,op,ty,p,af,g⟩ with
   | some true=>match CR b n ⟨d,op,ty,p,af,g⟩ with
    | true=>match IS L op with
     | some v=>match d with
      | some d=>some (.inRegion ops rest::k,(d,v)::L)
      | none=>some (.inRegion ops rest::k,L)
     | none=>none
    | false=>none
   | some false=>match BE n d with
    | true=>match d with
     | some d=>some (.inRegion ops rest::k,(d,undef)::L)
     | none=>some (.inRegion ops rest::k,L)
    | false=>none
   | none=>none
  | none=>none
 | _=>none
def MW(b:Frame)(n:Nat):Nat→Li_→Env→Option (Li_×Env)
 | 0,k,L=>some (k,L)
 | m+1,k,L=>match O3 b n L k with
  | some (k',L')=>MW b n m k' L'
  | none=>none
section
variable {P:Program}{J:Judge P}{Q:Gs_}{b:Frame}{n:Nat}{L L':Env}{ds:Ld_}{k k':Li_}{cs:Lf_}{s:St}
theorem XP(h:O3 b n L k=some (k',L'))(K:JL J Q b n L' ds k' cs s):JL J Q b n L ds k cs s:=by
 unfold O3 at h;split at h
 ·cases h;exact JL.seq K
 ·cases h;exact JL.block K
 ·cases h;exact JL.scope K
 ·cases h;exact JL.skip K
 ·split at h
  ·rename_i e;cases h;exact JL.exit e K
  ·cases h
 ·split at h
  ·rename_i e;cases h;exact Up e K
  ·rename_i e;cases h;exact Ue e K
  ·cases h
 ·cases h;exact JL.region K
 ·cases h;exact PC K
 ·cases h;exact Tk K
 ·cases h;exact JL.done K
 ·split at h
  ·rename_i d op ty p af g O;rw [Jo,Array.getElem?_toList] at O;split at h
   ·rename_i hw;split at h
    ·rename_i U;split at h
     ·rename_i v W;cases d with
      | none=>cases h;exact A6 O hw U (fun ρ V=>Mm V W) K
      | some d=>cases h;exact A6 O hw U (fun ρ V=>Mm V W) K
     ·cases h
    ·cases h
   ·rename_i hw;split at h
    ·rename_i U;cases d with
     | none=>cases h;exact Sx O hw U K
     | some d=>cases h;exact Sx O hw U K
    ·cases h
   ·cases h
  ·cases h
 ·cases h
theorem JL.go(m:Nat)(h:MW b n m k L=some (k',L'))(K:JL J Q b n L' ds k' cs s):JL J Q b n L ds k cs s:=by
 induction m generalizing k L with
 | zero=>cases h;exact K
 | succ m O=>
  unfold MW at h;split at h
  ·rename_i e;exact XP e (O h)
  ·cases h
end
abbrev pV(a o:Nat):Value:= .pointer (some ⟨a,o,none⟩)
abbrev sV{α:Type}(a:Option Addr)(l:List α)(c:Nat):Value:= .slice a l.length c
abbrev fV(n:Nat):Value:= .func (.func n) #[] #[]
abbrev nS:Value:= .slice none 0 0
abbrev Bh(r:Nat):Option Addr:=some ⟨r,0,none⟩
abbrev uV(n:Nat):Value:= .int .u16 ((n:Nat):Int)
end Pal
namespace Pal
open Go Go.Conc Go.Conc.Lib
open Go.ConcR.Gen
theorem Fe{P:Program}{t:TypeId}{n:Nat}(h:∀w,Sem.run P (Go.sizeOf t) w= .ok n w):Bz P t=some n:=by
 have K:=h default;unfold Bz;simp only [Go.sizeOf,typeInfo,bind,Sem.bind,program,Sem.run] at K;cases hi:P.info? t with
 | none=>rw [hi] at K;simp [stuck,Sem.run,Sem.bind] at K
 | some i=>
  rw [hi] at K;simp [pure,Sem.bind,Sem.run] at K;simp [K]
section
variable {P:Program}{L:WgLink}(H:WgLib P L)
include H
theorem NO:Dx P L.disable (fun _=>do mark .disable;pure Extern.Race.none_):=⟨⟨_,H.f_disable,x_disable_n L,x_disable_b L,x_disable_x L,x_disable_f L⟩⟩
theorem H0:Dx P L.enable (fun _=>do mark .enable;pure Extern.Race.none_):=⟨⟨_,H.f_enable,x_enable_n L,x_enable_b L,x_enable_x L,x_enable_f L⟩⟩
theorem Tc:Dx P L.relMerge (Extern.Race.marked .releaseMerge):=⟨⟨_,H.f_relMerge,x_relMerge_n L,x_relMerge_b L,x_relMerge_x L,x_relMerge_f L⟩⟩
theorem PG:Dx P L.acquire (Extern.Race.marked .acquire):=⟨⟨_,H.f_acquire,x_acquire_n L,x_acquire_b L,x_acquire_x L,x_acquire_f L⟩⟩
theorem UN:Dx P L.raceRead (Extern.Race.marked .read):=⟨⟨_,H.f_raceRead,x_raceRead_n L,x_raceRead_b L,x_raceRead_x L,x_raceRead_f L⟩⟩
theorem T9:Dx P L.raceWrite (Extern.Race.marked .write):=⟨⟨_,H.f_raceWrite,x_raceWrite_n L,x_raceWrite_b L,x_raceWrite_x L,x_raceWrite_f L⟩⟩
theorem RF:Dx P L.addU64 (Extern.Atomic.update (Op.intArith .add) .u64 true):=⟨⟨_,H.f_addU64,x_addU64_n L,x_addU64_b L,x_addU64_x L,x_addU64_f L⟩⟩
theorem Vm:Dx P L.loadU64 (Extern.Atomic.loadT (.int .u64)):=⟨⟨_,H.f_loadU64,x_loadU64_n L,x_loadU64_b L,x_loadU64_x L,x_loadU64_f L⟩⟩
theorem TW:Dx P L.storeU64 Extern.Atomic.storeT:=⟨⟨_,H.f_storeU64,x_storeU64_n L,x_storeU64_b L,x_storeU64_x L,x_storeU64_f L⟩⟩
theorem Wc:Dx P L.casU64 (Extern.Atomic.casT (.int .u64)):=⟨⟨_,H.f_casU64,x_casU64_n L,x_casU64_b L,x_casU64_x L,x_casU64_f L⟩⟩
theorem Uy:Dx P L.semrelease Extern.Sync.semrelease:=⟨⟨_,H.f_semrelease,x_semrelease_n L,x_semrelease_b L,x_semrelease_x L,x_semrelease_f L⟩⟩
theorem Tf:Dx P L.semacquire Extern.Sync.semacquire:=⟨⟨_,H.f_semacquire,x_semacquire_n L,x_semacquire_b L,x_semacquire_x L,x_semacquire_f L⟩⟩
theorem PQ:Dx P L.inBubble (fun _=>pure (.bool false)):=⟨⟨_,H.f_inBubble,x_inBubble_n L,x_inBubble_b L,x_inBubble_x L,x_inBubble_f L⟩⟩
end
section
variable {P:Program}{F:Fam}{J:Judge P}{Q:GP}{n:Nat}{L L':Env}{ds:Ld_}{k:Li_}{cs:Lf_}{s s':St}{b:Frame}{main:Bool}
variable {ops:Ao_}{i:Nat}{rest:List Nat}{d:Option Tmp}{f:FuncId}{x y z:Operand}{ats:Array TypeId}{ty t u e tw:TypeId}{pp:String}{af:Ae_}{g:On_}{p q:Ph}
theorem Yl.to{o:Oper}{ρ:Operand→Value}{v v':Value}(h:Yl P o ρ s v)(e:v=v'):Yl P o ρ s v':=e▸h
theorem Kr{ad:Addr}(ah:Jd p=true)(ai:if Fam.Ee p=true then s= .quiet else s.q=false)(aj:p≠ .Ex)(ak:∀v wt sm,F.act p v wt sm=some ((v,wt,sm),#[],.ph q))(al:Fam.GF p s=s)
  (am:ops[i]? =some ⟨d,.convert t u x,ty,pp,af,g⟩) (U:b.roundOf=none) (hw:Bg L ops ⟨d,.convert t u x,ty,pp,af,g⟩=some true) (K:((b.kind != .early)&&BE n d)=true)
  (ht:P.underlying t=some (.pointer tw)) (hu:P.underlying u=some .unsafePointer) (V:(P.info? tw).map (fun i=>decide (i.size=0))=some false) (an:ev L x=some (.pointer (some ad))) (hb:ad=F.sA∨ad=F.mA)
  (h:JL (Bv P (Fam.DF p)) (Stop P F q) b n (AB L d (.pointer (some ad))) ds (.inRegion ops rest::k) cs s):
  JL (Bv P (Fam.DF p)) (Stop P F p) b n L ds (.inRegion ops (i::rest)::k) cs s:=fun T O=>by
 simp only [Bool.and_eq_true] at K
 refine(Bv P _).stop (Hd ah rfl rfl ai (fun e=>absurd e aj) fun v wt sm v' wt' sm' es nx W=>?_)
 rw [ak] at W;cases W
 refine⟨_,fun w Z=>?_,rfl,by rw [al];exact h _ (O.put K.2 _)⟩
 obtain⟨aa,ab⟩:∃aa,w.cell? ad=some aa:=by
  obtain⟨ao,c2,_,_⟩:=Hg Z;rcases hb with e | e <;> rw [e]
  ·exact⟨_,ao⟩
  ·exact⟨_,c2⟩
 have ae:=run_convert_to_unsafe (P:=P) (w:=w) ht hu V ab;have ap:=events_convert_to_unsafe (P:=P) (w:=w) ht hu V ab;have ag:execOp (⟨T,ds⟩:Act).eval ⟨d,.convert t u x,ty,pp,af,g⟩=(do pure (Next.value (← Go.convert t u (.pointer (some ad))))):=by
  rw [Ix];simp only [execOp,O.ev an]
 rw [CU U,CU U,stepG_value (a:=⟨T,ds⟩) (v:= .pointer (some ad)) (w':=w) am (C7 O hw) (by simpa using K.1) (by rw [ag];simp [ae,Result.andThen]),Jc Z,FZ];have e2:listed P b.fn ⟨T,ds⟩ ⟨d,.convert t u x,ty,pp,af,g⟩ w= #[]:=by
  unfold listed;rw [ag];simp [ae,ap,Result.evThen,seen_none]
 rw [e2]
end
end Pal
namespace Pal
open Go Go.Conc Go.Conc.Lib
open Go.ConcR.Gen
section
variable {P:Program}{F:Fam}{J:Judge P}{Q:GP}{n:Nat}{L L':Env}{ds:Ld_}{k:Li_}{cs:Lf_}{s s':St}{b:Frame}{main:Bool}
variable {ops:Ao_}{i:Nat}{rest:List Nat}{d:Option Tmp}{f:FuncId}{x y z:Operand}{args:Array Operand}{ats:Array TypeId}{ty t u e tw:TypeId}{pp:String}{af:Ae_}{g:On_}{p q:Ph}{vs:Lv_}
def YY(P:Program)(b:Frame)(n:Nat)(L:Env)(d:Option Tmp)(ds:Ld_)(todo:Li_)(cs:Lf_)(U:Frame):Prop:=
 ∀(K:Judge P) (O:GP) (v:Value) (s':St),JL K O b n (AB L d v) ds todo cs s'→K.ok O (G (U.finish v) cs) s'
theorem H5{fn:Func}{c:Code}(V:ops[i]? =some ⟨d,.call ⟨.value (.func f),args,ats⟩,ty,pp,af,g⟩)(hw:Bg L ops ⟨d,.call ⟨.value (.func f),args,ats⟩,ty,pp,af,g⟩=some true)(O:((b.kind != .early)&&BE n d)=true)
  (W:P.funcs[f]? =some fn) (ab:(fn.name== "runtime.NumGoroutine")=false) (hb:fn.body=some c) (ae:evs L args.toList=some vs) (al:vs.length≤fn.ntmps)
  (h:∀Z:Frame,YY P b n L d ds (.inRegion ops rest::k) cs Z→JL J Q (base f) fn.ntmps (FH 0 vs) [] [.code c] (Z::cs) s):
  JL J Q b n L ds (.inRegion ops (i::rest)::k) cs s:=fun T U=>by
 simp only [Bool.and_eq_true] at O
 have ag:args.map (BI T)=vs.toArray:=by
  rw [← Gq U.Gi ae];apply Array.ext';simp
 refine Judge.oper V (C7 U hw) (by simpa using O.1) (.inr fun c ah=>by cases ah) ?_;have ai:D1 P f=true:=by unfold D1;rw [W];simp [ab,hb]
 have hd:lp P (execOp (BI T) ⟨d,.call ⟨.value (.func f),args,ats⟩,ty,pp,af,g⟩) s (upon J Q b T ds ops i rest k cs d) (Nc J Q b T ds ops i rest k cs):=by
  simp only [execOp,resolve,bind,Sem.bind,Deferred.ofValue,BI,pure,invoke];have e: #[]++args.map (BI T)++ #[]=vs.toArray:=by rw [ag];simp
  rw [e];refine I2 ai ?_;have he:Frame.enter P f vs.toArray .normal=fr (base f) (vs.toArray++Array.replicate (fn.ntmps - vs.length) undef) [] [.code c]:=by
   simp [Frame.enter,fr,W,hb,base];rfl
  show J.ok Q (G (Frame.enter P f vs.toArray .normal) _) s;rw [he];refine h _ (fun am an v s' aj=>?_) _ ⟨by simp;omega,fun t v ht=>?_⟩
  ·rw [Ga (o:=⟨d,.call ⟨.value (.func f),args,ats⟩,ty,pp,af,g⟩) _ _ _ _ _ V];exact aj _ (U.put O.2 v)
  ·obtain⟨_,K⟩:=I3 ht;have ak:t<vs.length:=by
    rcases Nat.lt_or_ge t vs.length with aa | aa
    ·exact aa
    ·simp at K;have:=(List.getElem?_eq_some_iff.1 K).1;omega
   rw [Array.getD_eq_getD_getElem?,Array.getElem?_append_left (by simpa using ak)];simp at K;simp [K]
 exact hd
theorem Yl.ext{e:Ax→Sem Value}{v:Value}{ρ:Operand→Value}(he:Dx P f e)(O:args.map ρ=vs.toArray)(h:e vs.toArray= .pure v):Yl P ⟨d,.call ⟨.value (.func f),args,ats⟩,ty,pp,af,g⟩ ρ s v∨ρ (.func f)≠ .func (.func f) #[] #[]:=by
 by_cases K:ρ (.func f)= .func (.func f) #[] #[]
 ·left;obtain⟨fn,U,V,W,Z,aa⟩:=he.h;unfold Yl;simp only [execOp,resolve,bind,Sem.bind,Deferred.ofValue,K,pure,invoke];have ab: #[]++args.map ρ++ #[]=vs.toArray:=by rw [O];simp
  rw [ab];have ae:fn.body=none:=by simpa using W
  simp only [callFunc,bind,Sem.bind,program,lp,U,V,ae,Option.isNone_none,Bool.false_eq_true,if_false,if_true,mark,Z,aa,h,pure];exact⟨.inr ⟨f,rfl⟩,trivial,trivial⟩
 ·exact .inr K
theorem JL.ext{e:Ax→Sem Value}{v:Value}(O:ops[i]? =some ⟨d,.call ⟨.value (.func f),args,ats⟩,ty,pp,af,g⟩)(hw:Bg L ops ⟨d,.call ⟨.value (.func f),args,ats⟩,ty,pp,af,g⟩=some true)(U:CR b n ⟨d,.call ⟨.value (.func f),args,ats⟩,ty,pp,af,g⟩=true)
  (he:Dx P f e) (V:evs L args.toList=some vs) (W:e vs.toArray= .pure v) (h:JL J Q b n (AB L d v) ds (.inRegion ops rest::k) cs s):JL J Q b n L ds (.inRegion ops (i::rest)::k) cs s:=
 A6 O hw U (fun ρ K=>by
  have Z:args.map ρ=vs.toArray:=by
   rw [← Gq K V]
   apply Array.ext';simp
  rcases Yl.ext (s:=s) (d:=d) (ats:=ats) (ty:=ty) (pp:=pp) (af:=af) (g:=g) he Z W with q | q
  ·exact q
  ·exact absurd (K (.func f) _ rfl) q) h
end
section
variable {P:Program}{L:WgLink}(H:WgLib P L){F:Fam}{n:Nat}{M:Env}{ds:Ld_}{k:Li_}{cs:Lf_}{s:St}{b:Frame}
variable {ops:Ao_}{i:Nat}{rest:List Nat}{d:Option Tmp}{x y z:Operand}{ats:Array TypeId}{ty:TypeId}{pp:String}{af:Ae_}{g:On_}{p q:Ph}
include H
theorem Vg(K:ops[i]? =some ⟨d,.call ⟨.value (.func L.uAdd),#[x,y],ats⟩,ty,pp,af,g⟩)(hw:Bg M ops ⟨d,.call ⟨.value (.func L.uAdd),#[x,y],ats⟩,ty,pp,af,g⟩=some true)(O:((b.kind != .early)&&BE n d)=true)
  (U:ev M x=some (.pointer (some F.sA))) (V:ev M y=some (.int .u64 18446744069414584320))
  (W:JL (Bv P false) (Stop P F .Gj) b n (AB M d (.int .u64 (Fam.word 0 1))) ds (.inRegion ops rest::k) cs .quiet)
  (Z:∀v wt:Nat,v<2147483647→wt≤1→¬(v=0∧wt=1)→JL (Gs P) (G0 P 1) b n (AB M d (.int .u64 (Fam.word v wt))) ds (.inRegion ops rest::k) cs .quiet):
  JL (Bv P false) (Stop P F .G3) b n M ds (.inRegion ops (i::rest)::k) cs .quiet:=by
 refine H5 (vs:= [.pointer (some F.sA),.int .u64 18446744069414584320]) K hw O H.f_uAdd (nm_uAdd L) rfl (by simp [evs,U,V]) (Nat.le_of_ble_eq_true rfl) fun ag back=>JL.go 8 rfl (A6 rfl rfl rfl (fun ρ h=>Yl.fieldAddr H.underlying_tAU rfl (Fe H.sizeOf_tU64) (h _ _ rfl)) ?_);refine JL.go 1 rfl (Wu rfl rfl rfl rfl (RF H) rfl rfl ?_ fun v wt aa ab ae=>?_)
 ·refine A6 rfl rfl rfl (fun ρ h=>Yl.assign (h _ _ rfl)) (JL.done ?_);exact JL.ret rfl rfl (B9.one H.f_uAdd rfl rfl) (back _ _ _ _ W)
 ·refine A6 rfl rfl rfl (fun ρ h=>Yl.assign (h _ _ rfl)) (JL.done ?_);exact JL.ret rfl rfl (B9.one H.f_uAdd rfl rfl) (back _ _ _ _ (Z v wt aa ab ae))
theorem UJ{j:Nat}(K:s.q=false)(O:ops[i]? =some ⟨d,.call ⟨.value (.func L.uAdd),#[x,y],ats⟩,ty,pp,af,g⟩)(hw:Bg M ops ⟨d,.call ⟨.value (.func L.uAdd),#[x,y],ats⟩,ty,pp,af,g⟩=some true)(U:((b.kind != .early)&&BE n d)=true)
  (V:ev M x=some (.pointer (some F.sA))) (W:ev M y=some (.int .u64 4294967296))
  (Z:JL (Bv P true) (Stop P F (.G6 j)) b n (AB M d (.int .u64 (Fam.word 1 0))) ds (.inRegion ops rest::k) cs s)
  (aa:∀v:Nat,1≤v→v<2147483647→JL (Bv P true) (Stop P F (.F5 j)) b n (AB M d (.int .u64 (Fam.word (v+1) 0))) ds (.inRegion ops rest::k) cs s):
  JL (Bv P true) (Stop P F (.Hr j)) b n M ds (.inRegion ops (i::rest)::k) cs s:=by
 refine H5 (vs:= [.pointer (some F.sA),.int .u64 4294967296]) O hw U H.f_uAdd (nm_uAdd L) rfl (by simp [evs,V,W]) (Nat.le_of_ble_eq_true rfl) fun ag back=>JL.go 8 rfl (A6 rfl rfl rfl (fun ρ h=>Yl.fieldAddr H.underlying_tAU rfl (Fe H.sizeOf_tU64) (h _ _ rfl)) ?_);refine JL.go 1 rfl (VT K rfl rfl rfl rfl (RF H) rfl rfl ?_ fun v ab ae=>?_)
 ·refine A6 rfl rfl rfl (fun ρ h=>Yl.assign (h _ _ rfl)) (JL.done ?_);exact JL.ret rfl rfl (B9.one H.f_uAdd rfl rfl) (back _ _ _ _ Z)
 ·refine A6 rfl rfl rfl (fun ρ h=>Yl.assign (h _ _ rfl)) (JL.done ?_);exact JL.ret rfl rfl (B9.one H.f_uAdd rfl rfl) (back _ _ _ _ (aa v ab ae))
theorem JL.uLoad(K:Jd p=true)(O:if Fam.Ee p=true then s= .quiet else s.q=false)(U:p≠ .Ex)(V:Fam.GF p s=s)(W:∀v wt sm r,F.act p v wt sm=some r→r.1=(v,wt,sm)∧r.2.1= #[Fam.Fa F.sA])(Z:ops[i]? =some ⟨d,.call ⟨.value (.func L.uLoad),#[x],ats⟩,ty,pp,af,g⟩)(hw:Bg M ops ⟨d,.call ⟨.value (.func L.uLoad),#[x],ats⟩,ty,pp,af,g⟩=some true)(aa:((b.kind != .early)&&BE n d)=true)
  (ab:ev M x=some (.pointer (some F.sA)))
  (h:∀v wt sm r,F.act p v wt sm=some r→∃q,r.2.2= .ph q∧JL (Bv P (Fam.DF p)) (Stop P F q) b n (AB M d (.int .u64 (Fam.word v wt))) ds (.inRegion ops rest::k) cs s):
  JL (Bv P (Fam.DF p)) (Stop P F p) b n M ds (.inRegion ops (i::rest)::k) cs s:=by
 refine H5 (vs:= [.pointer (some F.sA)]) Z hw aa H.f_uLoad (nm_uLoad L) rfl (by simp [evs,ab]) (Nat.le_of_ble_eq_true rfl) fun ai back=>JL.go 8 rfl (A6 rfl rfl rfl (fun ρ h=>Yl.fieldAddr H.underlying_tAU rfl (Fe H.sizeOf_tU64) (h _ _ rfl)) ?_);refine XE K O U V W rfl rfl rfl rfl (Vm H) rfl fun v wt sm r ae=>?_;obtain⟨q,ag,ah⟩:=h v wt sm r ae;refine⟨q,ag,?_⟩
 ·refine A6 rfl rfl rfl (fun ρ h=>Yl.assign (h _ _ rfl)) (JL.done ?_);exact JL.ret rfl rfl (B9.one H.f_uLoad rfl rfl) (back _ _ _ _ ah)
theorem JL.uStore(K:ops[i]? =some ⟨d,.call ⟨.value (.func L.uStore),#[x,y],ats⟩,ty,pp,af,g⟩)(hw:Bg M ops ⟨d,.call ⟨.value (.func L.uStore),#[x,y],ats⟩,ty,pp,af,g⟩=some true)(O:((b.kind != .early)&&BE n d)=true)
  (U:ev M x=some (.pointer (some F.sA))) (V:ev M y=some (.int .u64 0))
  (h:JL (Bv P false) (Stop P F .Ex) b n (AB M d (.tuple #[])) ds (.inRegion ops rest::k) cs .quiet):
  JL (Bv P false) (Stop P F .Gx) b n M ds (.inRegion ops (i::rest)::k) cs .quiet:=by
 refine H5 (vs:= [.pointer (some F.sA),.int .u64 0]) K hw O H.f_uStore (nm_uStore L) rfl (by simp [evs,U,V]) (Nat.le_of_ble_eq_true rfl) fun W back=>JL.go 3 rfl (A6 rfl rfl rfl (fun ρ h=>Yl.fieldAddr H.underlying_tAU rfl (Fe H.sizeOf_tU64) (h _ _ rfl)) ?_);refine JL.go 1 rfl (Yf rfl rfl rfl rfl (TW H) rfl rfl ?_);exact JL.done (JL.fin rfl rfl (B9.none H.f_uStore rfl) (back _ _ _ _ h))
theorem JL.uCas{m:Nat}(K:s.q=false)(O:ops[i]? =some ⟨d,.call ⟨.value (.func L.uCas),#[x,y,z],ats⟩,ty,pp,af,g⟩)(hw:Bg M ops ⟨d,.call ⟨.value (.func L.uCas),#[x,y,z],ats⟩,ty,pp,af,g⟩=some true)(U:((b.kind != .early)&&BE n d)=true)
  (V:ev M x=some (.pointer (some F.sA))) (W:ev M y=some (.int .u64 (Fam.word m 0))) (Z:ev M z=some (.int .u64 (Fam.word m 1)))
  (aa:JL (Bv P false) (Stop P F .Ht) b n (AB M d (.bool true)) ds (.inRegion ops rest::k) cs s)
  (ab:JL (Bv P false) (Stop P F (.FE (m - 1))) b n (AB M d (.bool false)) ds (.inRegion ops rest::k) cs s):
  JL (Bv P false) (Stop P F (.G1 m)) b n M ds (.inRegion ops (i::rest)::k) cs s:=by
 refine H5 (vs:= [.pointer (some F.sA),.int .u64 (Fam.word m 0),.int .u64 (Fam.word m 1)]) O hw U H.f_uCas (nm_uCas L) rfl (by simp [evs,V,W,Z]) (Nat.le_of_ble_eq_true rfl) fun ae back=>JL.go 8 rfl (A6 rfl rfl rfl (fun ρ h=>Yl.fieldAddr H.underlying_tAU rfl (Fe H.sizeOf_tU64) (h _ _ rfl)) ?_);refine JL.go 2 rfl (Xm (m:=m) K rfl rfl rfl rfl (Wc H) rfl rfl rfl ?_ ?_)
 ·refine A6 rfl rfl rfl (fun ρ h=>Yl.assign (h _ _ rfl)) (JL.done ?_);exact JL.ret rfl rfl (B9.one H.f_uCas rfl rfl) (back _ _ _ _ aa)
 ·refine A6 rfl rfl rfl (fun ρ h=>Yl.assign (h _ _ rfl)) (JL.done ?_);exact JL.ret rfl rfl (B9.one H.f_uCas rfl rfl) (back _ _ _ _ ab)
end
end Pal
namespace Pal
open Go Go.Conc Go.Conc.Lib
open Go.ConcR.Gen
theorem Jv{v wt:Nat}(K:v<2147483648)(O:wt≤1):IntKind.u64.wrap (BitVec.ofInt IntKind.u64.bits (Fam.word v wt)&&& BitVec.ofInt IntKind.u64.bits 2147483648).toNat=0:=by
 have:=Go.ConcN.st_flag v wt K O;simpa [bits,Fam.word,Fam.KK] using this
theorem JC{v wt:Nat}(K:v<2147483648)(O:wt≤1):IntKind.u64.wrap (BitVec.ofInt IntKind.u64.bits (Fam.word v wt)&&& BitVec.ofInt IntKind.u64.bits 2147483647).toNat=(wt:Int):=by
 have:=Go.ConcN.st_waiters v wt K O;simpa [bits,Fam.word,Fam.KK] using this
theorem Jb{v wt:Nat}(K:wt≤1):(Fam.word v wt).fdiv (2 ^ (min (32:Int).toNat IntKind.u64.bits))=(v:Int):=by
 have e:(2:Int) ^ (min (32:Int).toNat IntKind.u64.bits)=4294967296:=by decide
 rw [e,Int.fdiv_eq_ediv_of_nonneg _ (by decide)];simp only [Fam.word,Fam.KK];omega
theorem wrap_i32{v:Nat}(K:v<2147483648):IntKind.i32.wrap (v:Int)=v:=by
 simp only [IntKind.wrap,IntKind.bits,IntKind.signed];simp;split <;> omega
theorem wrap_u32{v:Nat}(K:v≤1):IntKind.u32.wrap (v:Int)=v:=by
 simp only [IntKind.wrap,IntKind.bits,IntKind.signed];simp;omega
theorem Ul{F:Fam}:∀v wt sm r,F.act .Gj v wt sm=some r→r.1=(v,wt,sm)∧r.2.1= #[Fam.Fa F.sA]:=by
 intro v wt sm r h;simp only [Fam.act] at h;split at h
 ·rename_i K;obtain⟨rfl,rfl⟩:=K;cases h;exact⟨rfl,rfl⟩
 ·cases h
theorem Vr{F:Fam}{v wt sm:Nat}{r}(h:F.act .Gj v wt sm=some r):v=0∧wt=1∧r.2.2= .ph .Gx:=by
 simp only [Fam.act] at h;split at h
 ·rename_i K;cases h;exact⟨K.1,K.2,rfl⟩
 ·cases h
section
variable {P:Program}{L:WgLink}(H:WgLib P L){F:Fam}{n:Nat}{M:Env}{ds:Ld_}{k:Li_}{cs:Lf_}{s:St}{b:Frame}
variable {ops:Ao_}{i:Nat}{rest:List Nat}{d:Option Tmp}{x y z:Operand}{ats:Array TypeId}{ty:TypeId}{pp:String}{af:Ae_}{g:On_}{p q:Ph}
include H
theorem T4(U:s.q=false)(V:ops[i]? =some ⟨d,.call ⟨.value (.func L.add),#[x,y],ats⟩,ty,pp,af,g⟩)(hw:Bg M ops ⟨d,.call ⟨.value (.func L.add),#[x,y],ats⟩,ty,pp,af,g⟩=some true)(W:((b.kind != .early)&&BE n d)=true)
  (Z:ev M x=some (.pointer (some F.sA))) (aa:ev M y=some (.int .i64 (-1)))
  (h:JL (Gs P) (G0 P 0) b n (AB M d (.tuple #[])) ds (.inRegion ops rest::k) cs .quiet):
  JL (Bv P false) (Stop P F .CZ) b n M ds (.inRegion ops (i::rest)::k) cs s:=by
 refine H5 (vs:= [.pointer (some F.sA),.int .i64 (-1)]) V hw W H.f_add (nm_add L) rfl (by simp [evs,Z,aa]) (Nat.le_of_ble_eq_true rfl) fun ae back=>JL.go 11 rfl (Kr (p:= .CZ) (q:= .Gk) (ad:=F.sA) rfl U (by simp) (fun _ _ _=>rfl) rfl rfl rfl rfl rfl H.underlying_tWgP H.underlying_tUP H.room_tWg rfl (.inl rfl) ?_)
 refine Kb (p:= .Gk) (q:= .HN) (mk:= .releaseMerge) (ad:=F.sA) (vs:= [.pointer (some F.sA)]) rfl U (by simp) (fun _ _ _=>rfl) rfl rfl rfl rfl (by simp) (Tc H) rfl rfl (JL.go 3 rfl ?_);refine Kk (p:= .HN) (q:= .G3) rfl rfl (by simp) (fun _ _ _=>rfl) rfl rfl rfl rfl rfl (by simp) (NO H) (JL.go 2 rfl ?_);refine JL.defer (vs:= []) rfl rfl rfl rfl rfl (JL.go 8 rfl ?_);refine JL.ext (vs:= []) rfl rfl rfl (PQ H) rfl rfl (JL.go 7 rfl ?_);refine A6 rfl rfl rfl (fun ρ h=>Yl.fieldAddr H.underlying_tWg rfl (Fe H.sizeOf_tAU) (h _ _ rfl)) (JL.go 1 rfl ?_);refine A6 rfl rfl rfl (fun ρ h=>Ep H.underlying_t3 H.underlying_tU64 (h _ _ rfl)) ?_
 refine A6 (v:= .int .u64 18446744069414584320) rfl rfl rfl (fun ρ h=>(Yl.shl (h _ _ rfl) (h _ _ rfl) (by decide)).to (congrArg _ (by decide))) (Vg H rfl rfl rfl rfl rfl ?_ fun v wt ag K ah=>?_)
 ·refine A6 rfl rfl rfl (fun ρ h=>Yl.assign (h _ _ rfl)) (JL.go 5 rfl ?_);refine A6 (v:= .int .u64 0) rfl rfl rfl (fun ρ h=>(Yl.and (h _ _ rfl) (h _ _ rfl)).to (congrArg _ (Jv (v:=0) (wt:=1) (by decide) (by decide)))) (A6 rfl rfl rfl (fun ρ h=>Yl.neq (h _ _ rfl) (h _ _ rfl)) ?_);refine JL.go 10 rfl (A6 (v:= .int .u64 (0:Nat)) rfl rfl rfl (fun ρ h=>(Yl.shr (h _ _ rfl) (h _ _ rfl) (by decide)).to (congrArg _ (Jb (v:=0) (wt:=1) (by decide)))) ?_);refine A6 (v:= .int .i32 (0:Nat)) rfl rfl rfl (fun ρ h=>(Ep H.underlying_tU64 H.underlying_t21 (h _ _ rfl)).to (congrArg _ (wrap_i32 (by decide)))) ?_
  refine JL.go 5 rfl (A6 (v:= .int .u64 (1:Nat)) rfl rfl rfl (fun ρ h=>(Yl.and (h _ _ rfl) (h _ _ rfl)).to (congrArg _ (JC (v:=0) (wt:=1) (by decide) (by decide)))) ?_);refine A6 (v:= .int .u32 (1:Nat)) rfl rfl rfl (fun ρ h=>(Ep H.underlying_tU64 H.underlying_tU32 (h _ _ rfl)).to (congrArg _ (wrap_u32 (by decide)))) ?_
  refine JL.go 30 rfl (A6 rfl rfl rfl (fun ρ h=>Yl.neq (h _ _ rfl) (h _ _ rfl)) ?_);refine JL.go 30 rfl (A6 rfl rfl rfl (fun ρ h=>Yl.fieldAddr H.underlying_tWg rfl (Fe H.sizeOf_tAU) (h _ _ rfl)) ?_);refine JL.uLoad H (p:= .Gj) rfl rfl (by simp) rfl Ul rfl rfl rfl rfl fun v wt sm r ab=>?_;obtain⟨rfl,rfl,e⟩:=Vr ab;refine⟨.Gx,e,?_⟩;refine JL.go 1 rfl (A6 (v:= .bool false) rfl rfl rfl (fun ρ h=>(Yl.neq (h _ _ rfl) (h _ _ rfl)).to (by simp)) ?_);refine JL.go 7 rfl (A6 rfl rfl rfl (fun ρ h=>Yl.fieldAddr H.underlying_tWg rfl (Fe H.sizeOf_tAU) (h _ _ rfl)) ?_);refine JL.uStore H rfl rfl rfl rfl rfl (JL.go 9 rfl ?_);refine I5 (JL.go 4 rfl ?_);refine A6 rfl rfl rfl (fun ρ h=>Yl.neq (h _ _ rfl) (h _ _ rfl)) (JL.go 8 rfl ?_);refine A6 rfl rfl rfl (fun ρ h=>Yl.fieldAddr H.underlying_tWg rfl (Fe H.sizeOf_tU32) (h _ _ rfl)) (UL (vs:= [.pointer (some F.mA),.bool false,.int .i64 0]) rfl rfl rfl rfl (Uy H) rfl rfl ?_);refine JL.go 4 rfl (A6 (v:= .int .u32 ((0:Nat):Int)) rfl rfl rfl (fun ρ h=>(Yl.sub (h _ _ rfl) (h _ _ rfl)).to (congrArg _ (by decide))) ?_);refine JL.go 2 rfl (JL.again ?_);refine JL.go 4 rfl (A6 rfl rfl rfl (fun ρ h=>Yl.neq (h _ _ rfl) (h _ _ rfl)) ?_);refine JL.go 3 rfl (JL.out rfl (JO.L3 rfl (H0 H) (JO.leave rfl (B9.none H.f_add rfl) (back _ _ _ _ h))))
 ·refine A6 rfl rfl rfl (fun ρ h=>Yl.assign (h _ _ rfl)) (JL.go 5 rfl ?_);refine A6 (v:= .int .u64 0) rfl rfl rfl (fun ρ h=>(Yl.and (h _ _ rfl) (h _ _ rfl)).to (congrArg _ (Jv (v:=v) (wt:=wt) (by omega) K))) (A6 rfl rfl rfl (fun ρ h=>Yl.neq (h _ _ rfl) (h _ _ rfl)) ?_);refine JL.go 10 rfl (A6 (v:= .int .u64 (v:Nat)) rfl rfl rfl (fun ρ h=>(Yl.shr (h _ _ rfl) (h _ _ rfl) (by decide)).to (congrArg _ (Jb (v:=v) (wt:=wt) K))) ?_);refine A6 (v:= .int .i32 (v:Nat)) rfl rfl rfl (fun ρ h=>(Ep H.underlying_tU64 H.underlying_t21 (h _ _ rfl)).to (congrArg _ (wrap_i32 (by omega)))) ?_
  refine JL.go 5 rfl (A6 (v:= .int .u64 (wt:Nat)) rfl rfl rfl (fun ρ h=>(Yl.and (h _ _ rfl) (h _ _ rfl)).to (congrArg _ (JC (v:=v) (wt:=wt) (by omega) K))) ?_);refine A6 (v:= .int .u32 (wt:Nat)) rfl rfl rfl (fun ρ h=>(Ep H.underlying_tU64 H.underlying_tU32 (h _ _ rfl)).to (congrArg _ (wrap_u32 K))) ?_
  refine JL.go 22 rfl (A6 (v:= .bool false) rfl rfl rfl (fun ρ h=>(Yl.lss (h _ _ rfl) (h _ _ rfl)).to (by simp)) ?_);refine JL.go 6 rfl ?_;by_cases O:wt=0
  ·refine A6 rfl rfl rfl (fun ρ h=>Yl.move (h _ _ rfl)) (A6 (v:= .bool false) rfl rfl rfl (fun ρ h=>(Yl.neq (h _ _ rfl) (h _ _ rfl)).to (by simp [O])) ?_);refine JL.go 16 rfl ?_;by_cases ai:0<v
   ·refine A6 rfl rfl rfl (fun ρ h=>Yl.move (h _ _ rfl)) (A6 (v:= .bool true) rfl rfl rfl (fun ρ h=>(Yl.gtr (h _ _ rfl) (h _ _ rfl)).to (by simp <;> omega)) ?_);refine JL.go 6 rfl (GQ rfl (JO.L3 rfl (H0 H) (JO.leave rfl (B9.none H.f_add rfl) (back _ _ _ _ h))))
   ·refine A6 rfl rfl rfl (fun ρ h=>Yl.move (h _ _ rfl)) (A6 (v:= .bool false) rfl rfl rfl (fun ρ h=>(Yl.gtr (h _ _ rfl) (h _ _ rfl)).to (by simp <;> omega)) ?_);refine JL.go 2 rfl (A6 (v:= .bool true) rfl rfl rfl (fun ρ h=>(Yl.eql (h _ _ rfl) (h _ _ rfl)).to (by simp [O])) ?_);refine JL.go 3 rfl (GQ rfl (JO.L3 rfl (H0 H) (JO.leave rfl (B9.none H.f_add rfl) (back _ _ _ _ h))))
  ·refine A6 rfl rfl rfl (fun ρ h=>Yl.move (h _ _ rfl)) (A6 (v:= .bool true) rfl rfl rfl (fun ρ h=>(Yl.neq (h _ _ rfl) (h _ _ rfl)).to (by simp [O])) ?_);refine JL.go 17 rfl (A6 (v:= .bool true) rfl rfl rfl (fun ρ h=>(Yl.gtr (h _ _ rfl) (h _ _ rfl)).to (by simp <;> omega)) ?_);refine JL.go 6 rfl (GQ rfl (JO.L3 rfl (H0 H) (JO.leave rfl (B9.none H.f_add rfl) (back _ _ _ _ h))))
theorem Uc{j:Nat}(K:s.q=false)(O:ops[i]? =some ⟨d,.call ⟨.value (.func L.add),#[x,y],ats⟩,ty,pp,af,g⟩)(hw:Bg M ops ⟨d,.call ⟨.value (.func L.add),#[x,y],ats⟩,ty,pp,af,g⟩=some true)(U:((b.kind != .early)&&BE n d)=true)
  (V:ev M x=some (.pointer (some F.sA))) (W:ev M y=some (.int .i64 1))
  (h:JL (Bv P true) (Stop P F (.EZ j)) b n (AB M d (.tuple #[])) ds (.inRegion ops rest::k) cs s):
  JL (Bv P true) (Stop P F (.Fi j)) b n M ds (.inRegion ops (i::rest)::k) cs s:=by
 refine H5 (vs:= [.pointer (some F.sA),.int .i64 1]) O hw U H.f_add (nm_add L) rfl (by simp [evs,V,W]) (Nat.le_of_ble_eq_true rfl) fun Z back=>JL.go 12 rfl (Kk (p:= .Fi j) (q:= .Hr j) rfl K (by simp) (fun _ _ _=>rfl) rfl rfl rfl rfl rfl (by simp) (NO H) ?_);refine JL.go 2 rfl (JL.defer (vs:= []) rfl rfl rfl rfl rfl ?_);refine JL.go 8 rfl (JL.ext (vs:= []) rfl rfl rfl (PQ H) rfl rfl ?_);refine JL.go 7 rfl (A6 rfl rfl rfl (fun ρ h=>Yl.fieldAddr H.underlying_tWg rfl (Fe H.sizeOf_tAU) (h _ _ rfl)) ?_);refine JL.go 1 rfl (A6 rfl rfl rfl (fun ρ h=>Ep H.underlying_t3 H.underlying_tU64 (h _ _ rfl)) ?_)
 refine A6 (v:= .int .u64 4294967296) rfl rfl rfl (fun ρ h=>(Yl.shl (h _ _ rfl) (h _ _ rfl) (by decide)).to (congrArg _ (by decide))) (UJ H K rfl rfl rfl rfl rfl ?_ fun v aa ab=>?_)
 ·refine A6 rfl rfl rfl (fun ρ h=>Yl.assign (h _ _ rfl)) (JL.go 5 rfl ?_);refine A6 (v:= .int .u64 0) rfl rfl rfl (fun ρ h=>(Yl.and (h _ _ rfl) (h _ _ rfl)).to (congrArg _ (Jv (v:=1) (wt:=0) (by decide) (by decide)))) (A6 rfl rfl rfl (fun ρ h=>Yl.neq (h _ _ rfl) (h _ _ rfl)) ?_);refine JL.go 10 rfl (A6 (v:= .int .u64 (1:Nat)) rfl rfl rfl (fun ρ h=>(Yl.shr (h _ _ rfl) (h _ _ rfl) (by decide)).to (congrArg _ (Jb (v:=1) (wt:=0) (by decide)))) ?_);refine A6 (v:= .int .i32 (1:Nat)) rfl rfl rfl (fun ρ h=>(Ep H.underlying_tU64 H.underlying_t21 (h _ _ rfl)).to (congrArg _ (wrap_i32 (by decide)))) ?_
  refine JL.go 5 rfl (A6 (v:= .int .u64 (0:Nat)) rfl rfl rfl (fun ρ h=>(Yl.and (h _ _ rfl) (h _ _ rfl)).to (congrArg _ (JC (v:=1) (wt:=0) (by decide) (by decide)))) ?_);refine A6 (v:= .int .u32 (0:Nat)) rfl rfl rfl (fun ρ h=>(Ep H.underlying_tU64 H.underlying_tU32 (h _ _ rfl)).to (congrArg _ (wrap_u32 (by decide)))) ?_
  refine JL.go 12 rfl (A6 (v:= .int .i32 1) rfl rfl rfl (fun ρ h=>(Ep H.underlying_t3 H.underlying_t21 (h _ _ rfl)).to (congrArg _ (by decide))) ?_)
  refine A6 (v:= .bool true) rfl rfl rfl (fun ρ h=>(Yl.eql (h _ _ rfl) (h _ _ rfl)).to (by simp)) (JL.go 6 rfl ?_);refine A6 rfl rfl rfl (fun ρ h=>Yl.fieldAddr H.underlying_tWg rfl (Fe H.sizeOf_tU32) (h _ _ rfl)) (Kr (p:= .G6 j) (q:= .Gy j) (ad:=F.mA) rfl K (by simp) (fun _ _ _=>rfl) rfl rfl rfl rfl rfl H.underlying_tPU32 H.underlying_tUP H.room_tU32 rfl (.inr rfl) ?_)
  refine Kb (p:= .Gy j) (q:= .F5 j) (mk:= .read) (ad:=F.mA) (vs:= [.pointer (some F.mA)]) rfl K (by simp) (fun _ _ _=>rfl) rfl rfl rfl rfl (by simp) (UN H) rfl rfl (JL.go 5 rfl ?_);refine A6 (v:= .bool false) rfl rfl rfl (fun ρ h=>(Yl.lss (h _ _ rfl) (h _ _ rfl)).to (by simp)) (JL.go 7 rfl ?_);refine A6 (v:= .bool false) rfl rfl rfl (fun ρ h=>(Yl.neq (h _ _ rfl) (h _ _ rfl)).to (by simp)) (JL.go 17 rfl ?_);refine A6 (v:= .bool true) rfl rfl rfl (fun ρ h=>(Yl.gtr (h _ _ rfl) (h _ _ rfl)).to (by simp)) (JL.go 6 rfl ?_);exact GQ rfl (JO.Ry K rfl (H0 H) (JO.leave rfl (B9.none H.f_add rfl) (back _ _ _ _ h)))
 ·refine A6 rfl rfl rfl (fun ρ h=>Yl.assign (h _ _ rfl)) (JL.go 5 rfl ?_);refine A6 (v:= .int .u64 0) rfl rfl rfl (fun ρ h=>(Yl.and (h _ _ rfl) (h _ _ rfl)).to (congrArg _ (Jv (v:=(v+1)) (wt:=0) (by omega) (by decide)))) (A6 rfl rfl rfl (fun ρ h=>Yl.neq (h _ _ rfl) (h _ _ rfl)) ?_);refine JL.go 10 rfl (A6 (v:= .int .u64 ((v+1):Nat)) rfl rfl rfl (fun ρ h=>(Yl.shr (h _ _ rfl) (h _ _ rfl) (by decide)).to (congrArg _ (Jb (v:=(v+1)) (wt:=0) (by decide)))) ?_);refine A6 (v:= .int .i32 ((v+1):Nat)) rfl rfl rfl (fun ρ h=>(Ep H.underlying_tU64 H.underlying_t21 (h _ _ rfl)).to (congrArg _ (wrap_i32 (by omega)))) ?_
  refine JL.go 5 rfl (A6 (v:= .int .u64 (0:Nat)) rfl rfl rfl (fun ρ h=>(Yl.and (h _ _ rfl) (h _ _ rfl)).to (congrArg _ (JC (v:=(v+1)) (wt:=0) (by omega) (by decide)))) ?_);refine A6 (v:= .int .u32 (0:Nat)) rfl rfl rfl (fun ρ h=>(Ep H.underlying_tU64 H.underlying_tU32 (h _ _ rfl)).to (congrArg _ (wrap_u32 (by decide)))) ?_
  refine JL.go 12 rfl (A6 (v:= .int .i32 1) rfl rfl rfl (fun ρ h=>(Ep H.underlying_t3 H.underlying_t21 (h _ _ rfl)).to (congrArg _ (by decide))) ?_)
  refine A6 (v:= .bool false) rfl rfl rfl (fun ρ h=>(Yl.eql (h _ _ rfl) (h _ _ rfl)).to (by simp <;> omega)) (JL.go 8 rfl ?_);refine A6 (v:= .bool false) rfl rfl rfl (fun ρ h=>(Yl.lss (h _ _ rfl) (h _ _ rfl)).to (by simp <;> omega)) (JL.go 7 rfl ?_);refine A6 (v:= .bool false) rfl rfl rfl (fun ρ h=>(Yl.neq (h _ _ rfl) (h _ _ rfl)).to (by simp)) (JL.go 17 rfl ?_);refine A6 (v:= .bool true) rfl rfl rfl (fun ρ h=>(Yl.gtr (h _ _ rfl) (h _ _ rfl)).to (by simp <;> omega)) (JL.go 6 rfl ?_);exact GQ rfl (JO.Ry K rfl (H0 H) (JO.leave rfl (B9.none H.f_add rfl) (back _ _ _ _ h)))
omit H in
theorem Uu{m:Nat}:∀v wt sm r,F.act (.FE m) v wt sm=some r→r.1=(v,wt,sm)∧r.2.1= #[Fam.Fa F.sA]:=by
 intro v wt sm r h;simp only [Fam.act] at h;split at h
 ·rename_i K;obtain⟨_,rfl⟩:=K;cases h;exact⟨rfl,rfl⟩
 ·cases h
omit H in
theorem UC{m v wt sm:Nat}{r}(h:F.act (.FE m) v wt sm=some r):v≤m∧wt=0∧r.2.2=if v=0 then .ph .Fs else .ph (.G1 v):=by
 simp only [Fam.act] at h;split at h
 ·rename_i K;cases h;exact⟨K.1,K.2,rfl⟩
 ·cases h
omit H in
theorem TC:∀v wt sm r,F.act .Gw v wt sm=some r→r.1=(v,wt,sm)∧r.2.1= #[Fam.Fa F.sA]:=by
 intro v wt sm r h;simp only [Fam.act] at h;split at h
 ·rename_i K;obtain⟨rfl,rfl⟩:=K;cases h;exact⟨rfl,rfl⟩
 ·cases h
omit H in
theorem Uv{v wt sm:Nat}{r}(h:F.act .Gw v wt sm=some r):v=0∧wt=0∧r.2.2= .ph .Fs:=by
 simp only [Fam.act] at h;split at h
 ·rename_i K;cases h;exact⟨K.1,K.2,rfl⟩
 ·cases h
omit H in
theorem Uq{v:Nat}(K:v<2147483648):IntKind.u64.wrap (Fam.word v 0+1)=Fam.word v 1:=by
 simp only [Fam.word,Fam.KK,IntKind.wrap,IntKind.bits,IntKind.signed];simp;omega
theorem JL.wait(W:F.n<2147483648)(K:s.q=false)(Z:ops[i]? =some ⟨d,.call ⟨.value (.func L.wait),#[x],ats⟩,ty,pp,af,g⟩)(hw:Bg M ops ⟨d,.call ⟨.value (.func L.wait),#[x],ats⟩,ty,pp,af,g⟩=some true)(aa:((b.kind != .early)&&BE n d)=true)
  (ab:ev M x=some (.pointer (some F.sA)))
  (h:JL (Bv P false) (Stop P F .DR) b n (AB M d (.tuple #[])) ds (.inRegion ops rest::k) cs s):
  JL (Bv P false) (Stop P F .C5) b n M ds (.inRegion ops (i::rest)::k) cs s:=by
 refine H5 (vs:= [.pointer (some F.sA)]) Z hw aa H.f_wait (nm_wait L) rfl (by simp [evs,ab]) (Nat.le_of_ble_eq_true rfl) fun ag back=>JL.go 3 rfl (Kk (p:= .C5) (q:= .FE F.n) rfl K (by simp) (fun _ _ _=>rfl) rfl rfl rfl rfl rfl (by simp) (NO H) ?_);refine JL.go 2 rfl (I5 ?_);refine GV (L':= [(0,.pointer (some F.sA))]) ⟨rfl,trivial⟩ ?_;generalize F.n=m at W ⊢
 induction m using Nat.strongRecOn with
 | _ m ae=>?_
 refine JL.go 5 rfl (A6 rfl rfl rfl (fun ρ h=>Yl.fieldAddr H.underlying_tWg rfl (Fe H.sizeOf_tAU) (h _ _ rfl)) ?_);refine JL.uLoad H (p:= .FE m) rfl K (by simp) rfl Uu rfl rfl rfl rfl fun v wt sm r U=>?_;obtain⟨ah,rfl,e⟩:=UC U;have O:v<2147483648:=by omega
 by_cases V:v=0
 ·subst V;refine⟨.Fs,e,?_⟩;refine JL.go 5 rfl (A6 (v:= .int .u64 (0:Nat)) rfl rfl rfl (fun ρ h=>(Yl.shr (h _ _ rfl) (h _ _ rfl) (by decide)).to (congrArg _ (Jb (v:=0) (wt:=0) (by decide)))) ?_);refine A6 (v:= .int .i32 (0:Nat)) rfl rfl rfl (fun ρ h=>(Ep H.underlying_tU64 H.underlying_t21 (h _ _ rfl)).to (congrArg _ (wrap_i32 (by decide)))) ?_
  refine JL.go 5 rfl (A6 (v:= .int .u64 ((0:Nat):Int)) rfl rfl rfl (fun ρ h=>(Yl.and (h _ _ rfl) (h _ _ rfl)).to (congrArg _ (JC (v:=0) (wt:=0) (by decide) (by decide)))) ?_);refine A6 (v:= .int .u32 ((0:Nat):Int)) rfl rfl rfl (fun ρ h=>(Ep H.underlying_tU64 H.underlying_tU32 (h _ _ rfl)).to (congrArg _ (wrap_u32 (by decide)))) ?_
  refine JL.go 6 rfl (A6 (v:= .bool true) rfl rfl rfl (fun ρ h=>(Yl.eql (h _ _ rfl) (h _ _ rfl)).to (by simp)) ?_);refine JL.go 6 rfl (Kk (p:= .Fs) (q:= .Hq) rfl K (by simp) (fun _ _ _=>rfl) rfl rfl rfl rfl rfl (by simp) (H0 H) ?_);refine JL.go 3 rfl (Kr (p:= .Hq) (q:= .GB) (ad:=F.sA) rfl K (by simp) (fun _ _ _=>rfl) rfl rfl rfl rfl rfl H.underlying_tWgP H.underlying_tUP H.room_tWg rfl (.inl rfl) ?_)
  refine Kb (p:= .GB) (q:= .DR) (mk:= .acquire) (ad:=F.sA) (vs:= [.pointer (some F.sA)]) rfl K (by simp) (fun _ _ _=>rfl) rfl rfl rfl rfl (by simp) (PG H) rfl rfl (JL.go 5 rfl ?_);refine A6 (v:= .bool true) rfl rfl rfl (fun ρ h=>(Yl.eql (h _ _ rfl) (h _ _ rfl)).to (by simp)) (JL.go 2 rfl ?_);refine A6 (v:= .int .u64 0) rfl rfl rfl (fun ρ h=>(Yl.and (h _ _ rfl) (h _ _ rfl)).to (congrArg _ (Jv (v:=0) (wt:=0) (by decide) (by decide)))) (A6 (v:= .bool false) rfl rfl rfl (fun ρ h=>(Yl.neq (h _ _ rfl) (h _ _ rfl)).to (by simp)) ?_);exact JL.go 8 rfl (JL.ret rfl rfl (B9.none H.f_wait rfl) (back _ _ _ _ h))
 ·refine⟨.G1 v,by rw [e,if_neg V],?_⟩;refine JL.go 5 rfl (A6 (v:= .int .u64 (v:Nat)) rfl rfl rfl (fun ρ h=>(Yl.shr (h _ _ rfl) (h _ _ rfl) (by decide)).to (congrArg _ (Jb (v:=v) (wt:=0) (by decide)))) ?_);refine A6 (v:= .int .i32 (v:Nat)) rfl rfl rfl (fun ρ h=>(Ep H.underlying_tU64 H.underlying_t21 (h _ _ rfl)).to (congrArg _ (wrap_i32 O))) ?_
  refine JL.go 5 rfl (A6 (v:= .int .u64 ((0:Nat):Int)) rfl rfl rfl (fun ρ h=>(Yl.and (h _ _ rfl) (h _ _ rfl)).to (congrArg _ (JC (v:=v) (wt:=0) O (by decide)))) ?_);refine A6 (v:= .int .u32 ((0:Nat):Int)) rfl rfl rfl (fun ρ h=>(Ep H.underlying_tU64 H.underlying_tU32 (h _ _ rfl)).to (congrArg _ (wrap_u32 (by decide)))) ?_
  refine JL.go 6 rfl (A6 (v:= .bool false) rfl rfl rfl (fun ρ h=>(Yl.eql (h _ _ rfl) (h _ _ rfl)).to (by simp <;> omega)) ?_);refine JL.go 7 rfl (A6 rfl rfl rfl (fun ρ h=>Yl.fieldAddr H.underlying_tWg rfl (Fe H.sizeOf_tAU) (h _ _ rfl)) ?_);refine JL.go 2 rfl (A6 (v:= .int .u64 (Fam.word v 1)) rfl rfl rfl (fun ρ h=>(Yl.add (h _ _ rfl) (h _ _ rfl)).to (congrArg _ (Uq O))) ?_);refine JL.uCas H (m:=v) K rfl rfl rfl rfl rfl rfl ?_ ?_
  ·refine JL.done (JL.go 6 rfl ?_);refine A6 (v:= .bool true) rfl rfl rfl (fun ρ h=>(Yl.eql (h _ _ rfl) (h _ _ rfl)).to (by simp)) (JL.go 6 rfl ?_);refine A6 rfl rfl rfl (fun ρ h=>Yl.fieldAddr H.underlying_tWg rfl (Fe H.sizeOf_tU32) (h _ _ rfl)) (Kr (p:= .Ht) (q:= .G5) (ad:=F.mA) rfl K (by simp) (fun _ _ _=>rfl) rfl rfl rfl rfl rfl H.underlying_tPU32 H.underlying_tUP H.room_tU32 rfl (.inr rfl) ?_)
   refine Kb (p:= .G5) (q:= .Dw) (mk:= .write) (ad:=F.mA) (vs:= [.pointer (some F.mA)]) rfl K (by simp) (fun _ _ _=>rfl) rfl rfl rfl rfl (by simp) (T9 H) rfl rfl (JL.go 9 rfl ?_);refine A6 (v:= .int .u64 0) rfl rfl rfl (fun ρ h=>(Yl.and (h _ _ rfl) (h _ _ rfl)).to (congrArg _ (Jv (v:=v) (wt:=0) O (by decide)))) (A6 (v:= .bool false) rfl rfl rfl (fun ρ h=>(Yl.neq (h _ _ rfl) (h _ _ rfl)).to (by simp)) ?_);refine JL.go 10 rfl (A6 rfl rfl rfl (fun ρ h=>Yl.fieldAddr H.underlying_tWg rfl (Fe H.sizeOf_tU32) (h _ _ rfl)) ?_);refine JL.go 1 rfl (TE (vs:= [.pointer (some F.mA),.bool false]) K rfl rfl rfl rfl (Tf H) rfl rfl ?_);refine JL.go 5 rfl (A6 rfl rfl rfl (fun ρ h=>Yl.fieldAddr H.underlying_tWg rfl (Fe H.sizeOf_tAU) (h _ _ rfl)) ?_);refine JL.uLoad H (p:= .Gw) rfl K (by simp) rfl TC rfl rfl rfl rfl fun v wt sm r U=>?_;obtain⟨rfl,rfl,e⟩:=Uv U;refine⟨.Fs,e,?_⟩;refine A6 (v:= .bool false) rfl rfl rfl (fun ρ h=>(Yl.neq (h _ _ rfl) (h _ _ rfl)).to (by simp [Fam.word])) (JL.go 6 rfl ?_);refine Kk (p:= .Fs) (q:= .Hq) rfl K (by simp) (fun _ _ _=>rfl) rfl rfl rfl rfl rfl (by simp) (H0 H) (JL.go 3 rfl ?_);refine Kr (p:= .Hq) (q:= .GB) (ad:=F.sA) rfl K (by simp) (fun _ _ _=>rfl) rfl rfl rfl rfl rfl H.underlying_tWgP H.underlying_tUP H.room_tWg rfl (.inl rfl) ?_
   refine Kb (p:= .GB) (q:= .DR) (mk:= .acquire) (ad:=F.sA) (vs:= [.pointer (some F.sA)]) rfl K (by simp) (fun _ _ _=>rfl) rfl rfl rfl rfl (by simp) (PG H) rfl rfl (JL.go 8 rfl ?_);exact JL.ret rfl rfl (B9.none H.f_wait rfl) (back _ _ _ _ h)
  ·refine JL.done (JL.go 3 rfl ?_);refine JL.again (GV (L':= [(0,.pointer (some F.sA))]) ⟨rfl,trivial⟩ ?_);exact ae (v - 1) (by omega) (by omega)
theorem JO.Nb(K:b.roundOf=none)(O:s.q=false)(h:JO (Gs P) (G0 P 0) b n M ds cs .quiet):
  JO (Bv P false) (Stop P F .CZ) b n M (dcall L.done #[.pointer (some F.sA)]::ds) cs s:=by
 refine JO.enter (vs:= [.pointer (some F.sA)]) K H.f_done (nm_done L) rfl (Nat.le_of_ble_eq_true rfl) fun T U todo=>JL.go 2 rfl (T4 H O rfl rfl rfl rfl rfl ?_);exact JL.done (JL.out rfl (JO.leaveD rfl H.f_done rfl (.inl rfl) (h T U todo)))
end
end Pal
namespace Pal
open Go Go.Conc
section
variable {P:Program}{J:Judge P}{Q:Gs_}{g:Goroutine}{cs:Lf_}{c:Frame}{E H:LH}{S S':List Seg}
theorem Ol(K:S.flatten.Perm S'.flatten)(O:Ar E H S)(h:Ar E H S'→J.ok Q g (Ak E H S')):J.ok Q g (Ak E H S):=by
 have U:Ak E H S=Ak E H S':=EV O K;rw [U];exact h (Nd.perm O K)
theorem Re(K:S'.flatten=S.flatten)(O:Ar E H S)(h:Ar E H S'→J.ok Q g (Ak E H S')):J.ok Q g (Ak E H S):=Ol (by rw [K]) O h
theorem Qw{f:FuncId}{vs:Lv_}{seg:Seg}{R:Value→LH→Seg→Prop}(j:Nat)(ab:AQ J f vs E seg R)(K:Ar E H S)(O:S[j]? =some seg)
  (ae:∀v E' seg',Le E E'→R v E' seg'→Ar E' H (S.set j seg')→J.ok Q (G (c.finish v) cs) (Ak E' H (S.set j seg'))):
  J.ok Q (G (Frame.enter P f vs.toArray .normal) (c::cs)) (Ak E H S):=by
 have U:S.flatten.Perm (seg++(S.set j []).flatten):=(Dr (seg':=seg) O).1.trans List.perm_append_comm;have V:Nd E H (seg++(S.set j []).flatten):=Nd.perm K U;have ag:Ak E H S=mk E (Bf (S.set j []).flatten H) seg:=by
  rw [show Ak E H S=mk E H S.flatten from rfl,EV K U];unfold mk;rw [FU]
 have W:=D8.JM (ab (Bf (S.set j []).flatten H) (Nd.front V)) (by rintro v s' ⟨E',B',_,_,_,rfl⟩;rfl);rw [← ag] at W;refine W Q c cs ?_;rintro v aq ⟨⟨E',B',hle,ah,ai,rfl⟩,w,aj⟩;have e2:mk E' (Bf (S.set j []).flatten H) B'=mk E' H (B'++(S.set j []).flatten):=by unfold mk;rw [FU]
 have ak:Nd E H (S.set j []).flatten:=by
  have:=V;rw [Nd.iff] at this ⊢;rw [List.map_append,List.nodup_append] at this;exact⟨this.1.2.1,fun q al=>this.2 q (List.mem_append_right _ al)⟩
 have am:Nd E' H (S.set j []).flatten:=ak.grow fun x an=>by
  have ao:=aj.d x an;have ap:Bf B' (Bf (S.set j []).flatten H) x=none:=ao;exact(GN ap).1
 have Z:Nd E' H (B'++(S.set j []).flatten):=Nd.glue ai am;rw [e2];have aa:(B'++(S.set j []).flatten).Perm (S.set j B').flatten:=List.perm_append_comm.trans (Dr O).2.symm;rw [EV Z aa];exact ae v E' B' hle ah (Nd.perm Z aa)
theorem Sg{e p d l:Seg}:([e,p]++ [d]++ [l]:List Seg).flatten.Perm ([e++(l++p),d]:List Seg).flatten:=by
 simp only [List.cons_append,List.nil_append,List.flatten_cons,List.flatten_nil,List.append_nil,List.append_assoc];refine List.Perm.append_left e ?_;rw [← List.append_assoc];exact List.perm_append_comm
end
section
variable {P:Program}{J:Judge P}{Q:Gs_}{b:Frame}{n:Nat}{L:Env}{ds:Ld_}{k:Li_}{cs:Lf_}{E H:LH}{S:List Seg}{ops:Ao_}{i:Nat}{rest:List Nat}{d:Option Tmp}{t ty e:TypeId}{p:String}{af:Ae_}{g:On_}
theorem JS.makeChan{dir:ChanDir}{K:Nat}(O:ops[i]? =some ⟨d,.makeChan t (.const (.int .i64 0)),ty,p,af,g⟩)(hw:Bg L ops ⟨d,.makeChan t (.const (.int .i64 0)),ty,p,af,g⟩=some true)(U:CR b n ⟨d,.makeChan t (.const (.int .i64 0)),ty,p,af,g⟩=true)
  (ht:P.underlying t=some (.chan dir e)) (hb:Ez P e=some K) (V:Ar E H S)
  (h:∀r,Ar E H (S++ [[(r,.chan 0 #[] false 0 0 false)]])→JL J Q b n (AB L d (.chan (some r))) ds (.inRegion ops rest::k) cs (Ak E H (S++ [[(r,.chan 0 #[] false 0 0 false)]]))):
  JL J Q b n L ds (.inRegion ops (i::rest)::k) cs (Ak E H S):=
 JL.op O hw U fun ρ W=>by
  show lp P (do pure (Next.value (← Instr.makeChan t (ρ (.const (.int .i64 0)))))) _ _ _
  rw [W _ _ rfl]
  obtain⟨inf,hi,ai⟩:=LR hb
  refine AJ _ _ ?_
  unfold Instr.makeChan
  simp only [asInt,bind,Sem.bind,pure]
  refine AJ (x:=underlying t) _ (Dz ht ?_)
  simp only
  refine AJ (x:=typeInfo e) _ (HZ hi ?_)
  have Z:¬((0:Int)<0∨(0:Int)>IntKind.i64.max∨(inf.bytes:Int)*0>2 ^ 48 - 112):=by
   simp [IntKind.max,IntKind.signed,IntKind.bits]
  rw [if_neg Z];simp only [newObj,Sem.bind,lp];refine⟨rfl,fun r aa ab=>?_⟩;obtain⟨ae,ag⟩:=I6 aa ab (.chan 0 #[] false 0 0 false) V;obtain⟨p1,p2⟩:=EG ae;have ah:(Ak E H S).upd r (.chan 0 #[] false 0 0 false)=Ak E H (S++ [[(r,.chan 0 #[] false 0 0 false)]]):=by rw [← p1,← ag];rfl
  show JL J Q b n (AB L d (.chan (some r))) ds (.inRegion ops rest::k) cs ((Ak E H S).upd r (.chan 0 #[] false 0 0 false));rw [ah];exact h r p2
end
theorem TN{E H:LH}{a b:Nat}{K O:Obj}(V:Ar E H [[(a,K)],[(b,O)]]):(⟨E,H6 (Ak E H [[(a,K)],[(b,O)]]).H b a,false⟩:St)=Ak E H []:=by
 have h:=Nd.iff.1 V;have W:H a=none:=(h.2 (a,K) (by simp)).2;have Z:H b=none:=(h.2 (b,O) (by simp)).2;unfold Ak mk;congr 1;funext x;simp only [H6,Ak,mk,List.flatten_cons,List.flatten_nil,List.append_nil,List.cons_append,List.nil_append,Bf];by_cases U:x=a
 ·subst U;simp [W]
 ·by_cases e2:x=b
  ·subst e2;simp [U,Z]
  ·simp [U,e2]
theorem Ar.up{E E' H:LH}{S:List Seg}(U:Ar E H S)(h:∀x,E' x≠none→(Ak E H S).H x=none):Ar E' H S:=by
 have K:=Nd.iff.1 U;refine Nd.iff.2 ⟨K.1,fun q O=>⟨?_,(K.2 q O).2⟩⟩;cases V:E' q.1 with
 | none=>rfl
 | some o=>
  have W:=h q.1 (by rw [V];simp);have Z:Bf S.flatten H q.1=none:=W;exact absurd rfl ((GN Z).2 q O)
end Pal
namespace Pal
open Go Go.Conc
theorem Kl{P:Program}{J:Judge P}{Q:Gs_}{b:Frame}{n:Nat}{L:Env}{ds:Ld_}{cs:Lf_}{E H:LH}{S:List Seg}{todo:Li_}{A B:Seg}(j K:Nat)(O:S[j]? =some A)(W:(S.set j [])[K]? =some B)(Z:Ar E H S)
  (h:Ar E H (((S.set j []).set K []).set j (A++B))→JL J Q b n L ds todo cs (Ak E H (((S.set j []).set K []).set j (A++B)))):JL J Q b n L ds todo cs (Ak E H S):=by
 refine JS.perm ?_ Z h;have U:j<S.length:=(List.getElem?_eq_some_iff.1 O).1;have aa:=(Dr (seg':=A) O).1;have ab:=(Dr (seg':=B) W).1;have ae:((S.set j []).set K [])[j]? =some []:=by
  by_cases e:K=j
  ·subst e;rw [List.getElem?_set_self (by simpa using U)]
  ·rw [List.getElem?_set_ne e,List.getElem?_set_self U]
 have V:=(Dr (seg':=A++B) ae).2;have ag:(((S.set j []).set K []).set j [])=(S.set j []).set K []:=by
  by_cases e:K=j
  ·subst e;simp
  ·rw [List.set_comm _ _ e];simp
 rw [ag] at V;refine aa.trans (List.Perm.trans ?_ V.symm);refine(List.Perm.append_right A ab).trans ?_;rw [List.append_assoc];exact List.Perm.append_left _ List.perm_append_comm
end Pal
namespace Pal
open Go Go.Conc
def WL{α:Type}(e:TypeId)(pp:Rp α)(E:LH)(bk c n:Nat)(f:Ax)(xs:List α):Prop:=
 OL e pp E (some ⟨bk,0,none⟩) c [(bk,.cells f e (0,0))] xs∧xs.length=n
theorem WL.Ai{α:Type}{e:TypeId}{pp:Rp α}{E E':LH}{bk c n:Nat}{f:Ax}{xs:List α}(h:WL e pp E bk c n f xs)(hle:Le E E'):WL e pp E' bk c n f xs:=⟨h.1.Ai hle,h.2⟩
theorem WL.at{α:Type}{e:TypeId}{pp:Rp α}{E:LH}{bk c n:Nat}{f:Ax}{xs:List α}{m:Int}{x:α}(h:WL e pp E bk c n f xs)(hm:ix xs m=some x):
  ∃ws,pp.r E ws x∧(∀j w,ws[j]? =some w→f[m.toNat*pp.n+j]? =some w):=by
 obtain⟨ws,K,O,_,_⟩:=OL.again h.1 hm rfl;exact⟨ws,K,O⟩
theorem WL.put{α:Type}{e:TypeId}{pp:Rp α}{E:LH}{bk c n:Nat}{f:Ax}{xs O:List α}{m:Int}{U x':α}{ws':Lv_}(h:WL e pp E bk c n f xs)(V:O.length=n)(hm:ix O m=some U)(W:pp.r E ws' x'):
  WL e pp E bk c n (Be f (m.toNat*pp.n) ws') (xs.set m.toNat x')∧m.toNat*pp.n+pp.n≤f.size:=by
 obtain⟨K,rfl,Z⟩:=GY hm;have aa:K<xs.length:=by rw [h.2,← V];exact(List.getElem?_eq_some_iff.1 Z).1
 have ab:ix xs (K:Int)=some xs[K]:=by simp [ix,aa]
 obtain⟨ws,ah,ai,ae,ag⟩:=OL.again h.1 ab rfl;exact⟨⟨ag x' ws' W,by rw [List.length_set];exact h.2⟩,ae⟩
theorem OL.cases{α:Type}{e:TypeId}{pp:Rp α}{E:LH}{a:Option Addr}{c:Nat}{seg:Seg}{xs:List α}(h:OL e pp E a c seg xs):
  (a=none∧c=0∧seg= []∧xs= [])∨∃bk f,a=some ⟨bk,0,none⟩∧seg= [(bk,.cells f e (0,0))]∧WL e pp E bk c xs.length f xs:=by
 have V:=h;obtain⟨wss,W,aa,ab⟩:=h;rcases W with⟨K,O,U,Z,ae⟩ | ⟨bk,f,K,O,U⟩
 ·exact .inl ⟨K,U,Z,List.length_eq_zero_iff.1 O⟩
 ·subst K O;exact .inr ⟨bk,f,rfl,rfl,V,rfl⟩
theorem Gu{P:Program}{s:St}{ρ:Operand→Value}{x y:Operand}{d:Option Tmp}{t ty e:TypeId}{p:String}{af:Ae_}{g:On_}{kd:IntKind}{α:Type}{xs:List α}{xv:α}{m:Int}{bk c sz n:Nat}(K:xs.length=n)(hm:ix xs m=some xv)(ht:P.underlying t=some (.slice e))(O:Bz P e=some sz)(U:ρ x= .slice (some ⟨bk,0,none⟩) n c)(V:ρ y= .int kd m):
  Yl P ⟨d,.indexAddr t x y,ty,p,af,g⟩ ρ s (.pointer (some ⟨bk,m.toNat*sz,none⟩)):=by
 subst K;exact QK hm ht O U V
theorem Rm{P:Program}{s:St}{ρ:Operand→Value}{x:Operand}{d:Option Tmp}{t ty e:TypeId}{p:String}{af:Ae_}{g:On_}{α:Type}{xs:List α}{a:Option Addr}{n c:Nat}{ats:Array TypeId}(K:xs.length=n)(O:ats[0]? =some t)(ht:P.underlying t=some (.slice e))(U:ρ x= .slice a n c):
  Yl P ⟨d,.call ⟨.builtin .len,#[x],ats⟩,ty,p,af,g⟩ ρ s (.int .i64 (xs.length:Int)):=by
 subst K;exact Yl.len O ht U
section
variable {P:Program}{J:Judge P}{Q:Gs_}{b:Frame}{n:Nat}{ds:Ld_}{ops:Ao_}{k:Li_}{cs:Lf_}{m fuel:Nat}{D:Nat→Bool}{listed:Array Bool}{L:Env}{s:St}{E E' H:LH}{S:List Seg}
variable {d:Option Tmp}{x y:Operand}{t u ty e:TypeId}{p:String}{af:Ae_}{g:On_}{v:Value}{i:Nat}{kd:IntKind}
theorem TV{f:FuncId}{args:Array Operand}{ats:Array TypeId}{vs:Lv_}{R:Value→St→Prop}(U:s.q=false)(V:Region.ready .any ops listed= [i])
  (W:ops[i]? =some ⟨d,.call ⟨.value x,args,ats⟩,ty,p,af,g⟩) (Z:ev L x=some (.func (.func f) #[] #[])) (aa:BE n d=true) (hw:Bg L ops ⟨d,.call ⟨.value x,args,ats⟩,ty,p,af,g⟩=some true) (hb:D1 P f=true) (ab:evs L args.toList=some vs)
  (ae:D8 J f vs.toArray s R) (h:∀v K,R v K→K.q=false∧(∀x o,(BB D s).E x=some o→(BB D K).E x=some o)∧AT J Q b n ds ops k cs m D fuel (Bd listed i) (AB L d v) K):
  AT J Q b n ds ops k cs m D (fuel+1) listed L s:=by
 refine AT.one U V W (by simp [DI,aa]) hw fun ρ O=>?_;have ag:args.map ρ=vs.toArray:=by
  rw [← Gq O ab];apply Array.ext';simp
 have ah:ρ x= .func (.func f) #[] #[]:=O _ _ Z;simp only [execOp,resolve,bind,Sem.bind,Deferred.ofValue,ah,pure,invoke];have e: #[]++args.map ρ++ #[]=vs.toArray:=by rw [ag];simp
 rw [e];refine I2 hb ?_;rw [J8];exact⟨R,ae,h⟩
theorem Hz{bks:List Nat}{f:FuncId}{args:Array Operand}{ats:Array TypeId}{vs:Lv_}{R:Value→LH→Seg→Prop}(ae:Gg S bks)(ag:AQ J f vs E [] R)(ah:Region.ready .any ops listed= [i])
  (ai:ops[i]? =some ⟨d,.call ⟨.value x,args,ats⟩,ty,p,af,g⟩) (K:ev L x=some (.func (.func f) #[] #[])) (aj:BE n d=true) (hw:Bg L ops ⟨d,.call ⟨.value x,args,ats⟩,ty,p,af,g⟩=some true) (hb:D1 P f=true) (ak:evs L args.toList=some vs) (W:Ar E H S)
  (al:∀v E' seg',Le E E'→R v E' seg'→Ar E' H (S++ [seg'])→AT J Q b n ds ops k cs m (A5 bks) fuel (Bd listed i) (AB L d v) (Ak E' H (S++ [seg']))):
  AT J Q b n ds ops k cs m (A5 bks) (fuel+1) listed L (Ak E H S):=by
 have am:=D8.JM (ag (Bf S.flatten H) trivial) (by rintro v s' ⟨E',B',_,_,_,rfl⟩;rfl);refine TV rfl ah ai K aj hw hb ak am ?_;rintro v aw ⟨⟨E',B',hle,an,ao,rfl⟩,w,ap⟩;have e2:mk E' (Bf S.flatten H) B'=mk E' H (B'++S.flatten):=by unfold mk;rw [FU]
 have aq:Nd E' H S.flatten:=Nd.grow W fun x K=>by
  have ar:=ap.d x K;have U:Bf B' (Bf S.flatten H) x=none:=ar;exact(GN U).1
 have Z:Nd E' H (B'++S.flatten):=Nd.glue ao aq;have aa:(B'++S.flatten).Perm (S++ [B']).flatten:=by rw [FV];exact List.perm_append_comm
 have ab:Ar E' H (S++ [B']):=Nd.perm Z aa;rw [e2,EV Z aa];refine⟨rfl,fun x o K=>?_,al v E' B' hle an ab⟩;by_cases hd:A5 bks x=true
 ·obtain⟨j,o',V⟩:=ae.mem x (by simpa [A5] using hd);have U:(Ak E H S).get x=some o':=Ey (i:=0) W V rfl;have au:j<S.length:=(List.getElem?_eq_some_iff.1 V).1;have av:(Ak E' H (S++ [B'])).get x=some o':=Ey (i:=0) ab (by rw [List.getElem?_append_left au];exact V) rfl;have O:(if A5 bks x then(Ak E H S).get x else E x)=some o:=K
  show(if A5 bks x then(Ak E' H (S++ [B'])).get x else E' x)=some o
  rw [if_pos hd] at O ⊢;rw [av,← U];exact O
 ·have O:(if A5 bks x then(Ak E H S).get x else E x)=some o:=K
  show(if A5 bks x then(Ak E' H (S++ [B'])).get x else E' x)=some o
  rw [if_neg hd] at O ⊢;exact hle _ _ O
end
section
variable {P:Program}{J:Judge P}{Q:Gs_}{b:Frame}{n:Nat}{ds:Ld_}{ops:Ao_}{k:Li_}{cs:Lf_}{L:Env}{s:St}{E E' H:LH}{S:List Seg}
variable {d:Option Tmp}{x y:Operand}{t u ty e:TypeId}{p:String}{af:Ae_}{g:On_}{v:Value}{i:Nat}{rest:List Nat}{kd:IntKind}
theorem Kh{f:FuncId}{args:Array Operand}{ats:Array TypeId}{vs:Lv_}{R:Value→LH→Seg→Prop}
  (O:AQ J f vs E [] R) (U:ops[i]? =some ⟨d,.call ⟨.value x,args,ats⟩,ty,p,af,g⟩) (V:ev L x=some (.func (.func f) #[] ([]:Lv_).toArray)) (hw:Bg L ops ⟨d,.call ⟨.value x,args,ats⟩,ty,p,af,g⟩=some true) (W:((b.kind != .early)&&BE n d)=true) (hb:D1 P f=true)
  (Z:evs L args.toList=some vs) (aa:Ar E H S) (ab:∀v E' seg',Le E E'→R v E' seg'→Ar E' H (S++ [seg'])→JL J Q b n (AB L d v) ds (.inRegion ops rest::k) cs (Ak E' H (S++ [seg']))):
  JL J Q b n L ds (.inRegion ops (i::rest)::k) cs (Ak E H S):=by
 have ae:EM J (.func (.func f) #[] ([]:Lv_).toArray) vs E [] R:=EM.ofFn hb (by rw [List.append_nil];exact O);have ag:Ar E H (S++ [[]]):=by unfold Ar at*;rw [FV,List.append_nil];exact aa
 have ah:Ak E H S=Ak E H (S++ [[]]):=by unfold Ak;rw [FV,List.append_nil]
 rw [ah];refine I8 (seg:= []) S.length ae U hw W V Z ag (by simp) fun v E' seg' hle ai K=>?_;have aj:(S++ [([]:Seg)]).set S.length seg'=S++ [seg']:=Hf _ _ _ _;rw [aj] at K ⊢;exact ab v E' seg' hle ai K
end
def Ho(a b:Int):Option Int:=if b=0 then none else Au (a.tdiv b)
def Lb(l:List Nat)(i:Int):Option Nat:=if 0≤i then l[i.toNat]? else none
section
variable {P:Program}{s:St}{ρ:Operand→Value}{x y z:Operand}{d:Option Tmp}{t u ty e:TypeId}{p:String}{af:Ae_}{g:On_}{v:Value}{kd kd':IntKind}{m m':Int}{a b:Nat}
theorem Ks{r:Int}(K:ρ x=iV m)(O:ρ y=iV m')(h:Ho m m'=some r):Yl P ⟨d,.binOp .quo t x y u,ty,p,af,g⟩ ρ s (iV r):=by
 unfold Ho at h;split at h
 ·cases h
 ·rename_i U;obtain⟨rfl,hb⟩:=Ka h;have:=Yl.quo (P:=P) (s:=s) (d:=d) (t:=t) (u:=u) (ty:=ty) (p:=p) (af:=af) (g:=g) K O U
  rwa [Iw hb] at this
theorem SO{a:Nat}:IntKind.u8.wrap (a:Int)=((a % 256:Nat):Int):=by
 simp only [IntKind.wrap,IntKind.bits,IntKind.signed];simp
theorem Vn(K:ρ x= .int .u8 (a:Int))(O:ρ y= .int .u8 (b:Int)):Yl P ⟨d,.binOp .add t x y u,ty,p,af,g⟩ ρ s (.int .u8 (((a+b) % 256:Nat):Int)):=by
 have h:=Yl.add (P:=P) (s:=s) (d:=d) (t:=t) (u:=u) (ty:=ty) (p:=p) (af:=af) (g:=g) K O;rw [← Int.natCast_add,SO] at h;exact h
theorem V9(ht:P.underlying t=some (.int .u64))(hu:P.underlying u=some (.int .u8))(K:ρ x= .int .u64 (a:Int)):Yl P ⟨d,.convert t u x,ty,p,af,g⟩ ρ s (.int .u8 ((a % 256:Nat):Int)):=by
 have h:=Ep (P:=P) (s:=s) (d:=d) (ty:=ty) (p:=p) (af:=af) (g:=g) ht hu K
 rw [SO] at h;exact h
theorem RB{r:Int}(ht:P.underlying t=some (.int .u8))(hu:P.underlying u=some (.int .i64))(K:ρ x= .int .u8 (a:Int))(h:Au ((a:Nat):Int)=some r):Yl P ⟨d,.convert t u x,ty,p,af,g⟩ ρ s (iV r):=by
 obtain⟨rfl,hb⟩:=Ka h;have h:=Ep (P:=P) (s:=s) (d:=d) (ty:=ty) (p:=p) (af:=af) (g:=g) ht hu K
 rwa [Iw hb] at h
theorem Vd(c:Nat)(K:ρ x= .int .u16 (a:Int))(O:ρ y= .int .u64 (c:Int))(U:c≤16):Yl P ⟨d,.binOp .shr t x y u,ty,p,af,g⟩ ρ s (.int .u16 ((a>>>c:Nat):Int)):=by
 have h:=Yl.shr (P:=P) (s:=s) (d:=d) (t:=t) (u:=u) (ty:=ty) (p:=p) (af:=af) (g:=g) K O (by omega);have e:min (c:Int).toNat IntKind.u16.bits=c:=by simp [IntKind.bits];omega
 rw [e,Int.fdiv_eq_ediv_of_nonneg _ (Int.pow_nonneg (by decide))] at h;have e2:(a:Int) / 2 ^ c=((a>>>c:Nat):Int):=by rw [Nat.shiftRight_eq_div_pow,Int.natCast_ediv];rfl
 rw [e2] at h;exact h
theorem N2{l:List Nat}{bs:ByteArray}{r:Nat}(O:(bs.data.toList.map UInt8.toNat==l)=true)(ht:P.underlying t=some .string)(U:ρ y= .int kd m)(V:ρ (.const (.string bs))= .string bs)(h:Lb l m=some r):Yl P ⟨d,.index t (.const (.string bs)) y,ty,p,af,g⟩ ρ s (.int .u8 (r:Int)):=by
 unfold Lb at h;split at h
 ·rename_i W;have Z:=eq_of_beq O;rw [← Z,List.getElem?_map] at h;obtain⟨K,hb,rfl⟩:=Option.map_eq_some_iff.1 h;have aa:bs[m.toNat]? =some K:=by
   have ab:bs.data[m.toNat]? =some K:=by rw [← Array.getElem?_toList];exact hb
   obtain⟨ae,ag⟩:=Array.getElem?_eq_some_iff.1 ab;rw [getElem?_pos bs m.toNat ae];exact congrArg some ag
  simp [Yl,execOp,lp,pure,bind,Sem.bind,V,U,Instr.index,underlying,program,ht,W,aa,asIntOf]
 ·cases h
end
end Pal
