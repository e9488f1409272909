/- ToothAll: gone through one by one, all horses say what the program says Part 2 of 8. -/
import Derived.Test.YtboibffcmhheiaaGreatDoorTaa
import Derived.Conc.Beside
import Derived.Conc.CrowdComm
import Derived.Conc.TokenWalk
import Derived.Conc.MarkLaws
import Derived.Conc.AtomicLaws2
import Derived.Conc.WgLib
import Derived.Conc.WgArith
import Derived.Conc.WgGenW
set_option linter.all false
set_option maxRecDepth 100000
namespace Pal
open Go Go.Conc
open Go.ConcN (upd upd_same upd_ne)
def D2:Loc→Option Nat | .cell a=>some a.block | .obj r=>some r | _=>none
structure Ck (t:Trace) (w:World) (N:Nat) (S:Nat→St) (Sh:Nat→Prop):Prop where
 fits:∀i,i<N→Fits (S i) w
 hh:∀i j,i<N→j<N→i≠j→∀b,(S i).H b≠none→(S j).H b=none∧(S j).E b=none
 sh:∀i,i<N→∀b,Sh b→(S i).H b=none∧(S i).E b=none
 FD:∀b,Sh b→b<w.heap.size
 clean:∀said,¬Race said t
 low:∀op∈t,op.act.low w.heap.size
 kH:∀i,i<N→∀b,(S i).H b≠none→∀x a,touchAt t x=some a→D2 a.loc=some b→Knows t i x
 kE:∀i,i<N→∀b,(S i).E b≠none→∀x a,touchAt t x=some a→D2 a.loc=some b→a.write=true→Knows t i x
theorem Od{t:Trace}{x:Nat}{a:Touch}{b n:Nat}(W:∀op∈t,op.act.low n)(h:touchAt t x=some a)(hb:D2 a.loc=some b):b<n:=by
 obtain⟨op,Z,K⟩:=touch_of h;have O:=W op (mem_of_getElem? Z);cases U:op.act with
 | access e=>
  rw [U] at K O;simp only [MemAct.touch?,Option.some.injEq] at K;subst K;simp only [MemAct.low] at O;cases V:e.loc with
  | cell ad=>rw [V] at O hb;simp only [D2,Option.some.injEq] at hb;subst hb;exact O
  | obj r=>rw [V] at O hb;simp only [D2,Option.some.injEq] at hb;subst hb;exact O
  | _=>rw [V] at hb;simp [D2] at hb
 | mark m=>
  rw [U] at K O;cases m <;> simp only [MemAct.touch?] at K <;> first
   | (simp at K;done)
   | (simp only [Option.some.injEq] at K;subst K;simp only [D2,Option.some.injEq] at hb;subst hb;exact O)
 | _=>rw [U] at K;simp [MemAct.touch?] at K
theorem Me{s:St}{w w':World}{e:Event}{a:Touch}{b:Nat}(h:Ev s w w' e)(K:(MemAct.ofEvent e).touch? =some a)(hb:D2 a.loc=some b):
  F7 s w w' b a.write:=by
 obtain⟨loc,wr,V⟩:=e;cases loc with
 | cell ad=>
  obtain⟨O,U⟩:=h;simp only at O;subst O;simp only [MemAct.ofEvent,MemAct.touch?,Option.some.injEq] at K;subst K;simp only [D2,Option.some.injEq] at hb;subst hb;exact U
 | obj r=>
  obtain⟨O,U⟩:=h;simp only at O;subst O;simp only [MemAct.ofEvent,MemAct.touch?,Option.some.injEq] at K;subst K;simp only [D2,Option.some.injEq] at hb;subst hb;exact U
 | mark m=>
  cases m <;> simp only [Ev] at h <;> first | exact h.elim | simp [MemAct.ofEvent,MemAct.touch?] at K
 | _=>exact h.elim
theorem Yv{s:St}{w w':World}{e:Event}(h:Ev s w w' e):(MemAct.ofEvent e).low w'.heap.size:=by
 obtain⟨loc,wr,U⟩:=e;cases loc with
 | cell ad=>obtain⟨K,O⟩:=h;simp only at K;subst K;exact O.1
 | obj r=>obtain⟨K,O⟩:=h;simp only at K;subst K;cases wr <;> exact O.1
 | mark m=>cases m <;> simp only [Ev] at h <;> first | exact h.elim | exact trivial
 | _=>exact h.elim
theorem TH{l:Loc}(h:l.isMemory=true):∃b,D2 l=some b:=by
 cases l <;> simp [Loc.isMemory] at h <;> exact⟨_,rfl⟩
theorem Ck.own{t:Trace}{w w':World}{N:Nat}{S:Nat→St}{Sh:Nat→Prop}(h:Ck t w N S Sh){i:Nat}(hi:i<N){s':St}{fn:FuncId}{pos:String}{es:Array Event}
  (az:Fits s' w') (V:Fr (S i) w s' w') (ak:∀e∈es,Ev (S i) w w' e):Ck (t++MemOp.ofEvents i fn pos es) w' N (upd S i s') Sh:=by
 have ar:∀j,j<N→j≠i→∀b o,((S j).H b=some o∨(S j).E b=some o)→w'.heap[b]? =some o∧(S i).H b=none:=by
  intro j U W b o K;have hw:w.heap[b]? =some o:=K.elim ((h.fits j U).h b o) ((h.fits j U).e b o);have ab:b<w.heap.size:=by
   rcases Nat.lt_or_ge b w.heap.size with an | an
   ·exact an
   ·simp [Array.getElem?_eq_none an] at hw
  have au:(S i).H b=none:=by
   cases aA:(S i).H b with
   | none=>rfl
   | some u=>
    have:=h.hh i j hi U (Ne.symm W) b (by rw [aA];simp);rcases K with K | K
    ·rw [this.1] at K;cases K
    ·rw [this.2] at K;cases K
  exact⟨by rw [V.keep b ab au,hw],au⟩
 have al:∀j,j<N→∀b,w.heap.size≤b→(S j).H b=none∧(S j).E b=none:=by
  intro j U b hb;constructor
  ·cases O:(S j).H b with
   | none=>rfl
   | some o=>have:=(h.fits j U).h b o O;simp [Array.getElem?_eq_none hb] at this
  ·cases O:(S j).E b with
   | none=>rfl
   | some o=>have:=(h.fits j U).e b o O;simp [Array.getElem?_eq_none hb] at this
 have ae:∀op∈MemOp.ofEvents i fn pos es,op.g=i∧∃e∈es,op.act=MemAct.ofEvent e:=by
  intro op ae;obtain⟨e,he,rfl⟩:=mem_ofEvents ae;exact⟨rfl,e,he,rfl⟩
 have hold:∀x a,touchAt t x=some a→touchAt (t++MemOp.ofEvents i fn pos es) x=some a:=by
  intro x a O;obtain⟨op,K,_⟩:=touch_of O;rw [touchAt_old (lt_size_of_getElem? K)];exact O
 have am:∀x a,touchAt (t++MemOp.ofEvents i fn pos es) x=some a→touchAt t x=some a∨(Knows (t++MemOp.ofEvents i fn pos es) i x∧∃e∈es,(MemAct.ofEvent e).touch? =some a):=by
  intro x a O;obtain⟨op,K,av⟩:=touch_of O;rcases getElem?_append_cases K with⟨ab,aB⟩ | ⟨_,aC⟩
  ·left;rw [touchAt_of aB];exact av
  ·right;obtain⟨hg,e,he,ah⟩:=ae op aC;exact⟨by have:=knows_own K;rwa [hg] at this,e,he,by rw [← ah];exact av⟩
 have aD:∀j,j<N→j≠i→∀b,s'.H b≠none→(S j).H b=none∧(S j).E b=none:=by
  intro j U W b hb;rcases V.own b hb with O | O
  ·exact h.hh i j hi U (Ne.symm W) b O
  ·exact al j U b O
 have aE:∀j,j<N→j≠i→∀b,(S j).H b≠none→s'.H b=none∧s'.E b=none:=by
  intro j U W b hb;have Z:=h.hh j i U hi W b hb;have ab:¬w.heap.size≤b:=fun O=>hb (al j U b O).1;constructor
  ·cases O:s'.H b with
   | none=>rfl
   | some o=>
    rcases V.own b (by rw [O];simp) with y | y
    ·exact absurd Z.1 y
    ·exact absurd y ab
  ·cases O:s'.E b with
   | none=>rfl
   | some o=>
    rcases V.Eh b (by rw [O];simp) with y | y | y
    ·exact absurd Z.2 y
    ·exact absurd Z.1 y
    ·exact absurd y ab
 constructor
 ·intro j U;by_cases e:j=i
  ·subst e;rw [upd_same];exact az
  ·rw [upd_ne _ _ e];exact⟨fun b o K=>(ar j U e b o (.inr K)).1,fun b o K=>(ar j U e b o (.inl K)).1,(h.fits j U).d⟩
 ·intro a c aw ai W b hb;by_cases e:a=i
  ·subst e;rw [upd_same] at hb;rw [upd_ne _ _ (Ne.symm W)];exact aD c ai (Ne.symm W) b hb
  ·rw [upd_ne _ _ e] at hb;by_cases ay:c=i
   ·subst ay;rw [upd_same];exact aE a aw W b hb
   ·rw [upd_ne _ _ ay];exact h.hh a c aw ai W b hb
 ·intro j U b hb;by_cases e:j=i
  ·subst e;rw [upd_same];have Z:=h.sh j U b hb;have ab:=h.FD b hb;constructor
   ·cases O:s'.H b with
    | none=>rfl
    | some o=>
     rcases V.own b (by rw [O];simp) with y | y
     ·exact absurd Z.1 y
     ·omega
   ·cases O:s'.E b with
    | none=>rfl
    | some o=>
     rcases V.Eh b (by rw [O];simp) with y | y | y
     ·exact absurd Z.2 y
     ·exact absurd Z.1 y
     ·omega
  ·rw [upd_ne _ _ e];exact h.sh j U b hb
 ·exact fun b hb=>Nat.lt_of_lt_of_le (h.FD b hb) V.size
 ·intro said;refine noRace_append (g:=i) (h.clean said) (fun op K=>(ae op K).1) fun x a O op K c ai aF=>?_;obtain⟨_,e,he,ah⟩:=ae op K;rw [ah] at ai;obtain⟨aG,hm,ag,_⟩:=aF;obtain⟨b,hb⟩:=TH hm;have aH:D2 c.loc=some b:=by rw [← aG];exact hb
  have aj:=Me (ak e he) ai aH;rcases aj.2 with y | y | ⟨y,ao⟩
  ·exact h.kH i hi b y x a O hb
  ·have:=Od h.low O hb;omega
  ·rcases ag with z | z
   ·exact h.kE i hi b y x a O hb z
   ·rw [ao] at z;cases z
 ·intro op K;rcases Array.mem_append.1 K with K | K
  ·exact MemAct.low_mono V.size (h.low op K)
  ·obtain⟨_,e,he,ah⟩:=ae op K;rw [ah];exact Yv (ak e he)
 ·intro j U b hb x a O aa;by_cases e:j=i
  ·subst e;rw [upd_same] at hb;rcases am x a O with K | ⟨ap,_⟩
   ·rcases V.own b hb with y | y
    ·exact(h.kH j U b y x a K aa).app _
    ·have:=Od h.low K aa;omega
   ·exact ap
  ·rw [upd_ne _ _ e] at hb;rcases am x a O with K | ⟨_,ev,he,aq⟩
   ·exact(h.kH j U b hb x a K aa).app _
   ·have aj:=Me (ak ev he) aq aa;have Z:=h.hh j i U hi e b hb;rcases aj.2 with y | y | ⟨y,_⟩
    ·exact absurd Z.1 y
    ·exact absurd (al j U b y).1 hb
    ·exact absurd Z.2 y
 ·intro j U b hb x a O aa ag;by_cases e:j=i
  ·subst e;rw [upd_same] at hb;rcases am x a O with K | ⟨ap,_⟩
   ·rcases V.Eh b hb with y | y | y
    ·exact(h.kE j U b y x a K aa ag).app _
    ·exact(h.kH j U b y x a K aa).app _
    ·have:=Od h.low K aa;omega
   ·exact ap
  ·rw [upd_ne _ _ e] at hb;rcases am x a O with K | ⟨_,ev,he,aq⟩
   ·exact(h.kE j U b hb x a K aa ag).app _
   ·have aj:=Me (ak ev he) aq aa;rcases aj.2 with y | y | ⟨_,ao⟩
    ·exact absurd ((h.hh i j hi U (Ne.symm e) b y).2) hb
    ·exact absurd (al j U b y).2 hb
    ·rw [ao] at ag;cases ag
theorem Ck.mute{t u:Trace}{w w':World}{N:Nat}{S:Nat→St}{Sh:Nat→Prop}(h:Ck t w N S Sh){g:Nat}(hu:∀op∈u,op.g=g)(W:∀op∈u,op.act.touch? =none)(ab:∀op∈u,op.act.low w'.heap.size)(hw:w'.heap=w.heap):Ck (t++u) w' N S Sh:=by
 have Z:∀x a,touchAt (t++u) x=some a→touchAt t x=some a:=by
  intro x a O;obtain⟨op,K,U⟩:=touch_of O;rcases getElem?_append_cases K with⟨ai,ae⟩ | ⟨_,ag⟩
  ·rw [touchAt_of ae];exact U
  ·rw [W op ag] at U;cases U
 exact⟨fun i hi=>⟨fun b o K=>by rw [hw];exact(h.fits i hi).e b o K,fun b o K=>by rw [hw];exact(h.fits i hi).h b o K,(h.fits i hi).d⟩,h.hh,h.sh,fun b hb=>by rw [hw];exact h.FD b hb,
  fun said=>noRace_append (g:=g) (h.clean said) hu (fun x a _ op K c aa _=>by rw [W op K] at aa;cases aa),
  fun op K=>(Array.mem_append.1 K).elim (fun K=>by rw [hw];exact h.low op K) (ab op),
  fun i hi b hb x a O V=>(h.kH i hi b hb x a (Z x a O) V).app _,fun i hi b hb x a O V ah=>(h.kE i hi b hb x a (Z x a O) V ah).app _⟩
theorem Ck.ghost{t:Trace}{w:World}{N:Nat}{S:Nat→St}{Sh:Nat→Prop}(h:Ck t w N S Sh){i:Nat}(hi:i<N){s₀:St}(hg:Cv (S i) s₀):Ck t w N (upd S i s₀) Sh:=by
 have W:∀b,s₀.H b≠none→(S i).H b≠none:=fun b hb=>by obtain⟨o,aa⟩:=Hj hb;rw [hg.own b o aa];simp
 have ab:∀b,s₀.E b≠none→(S i).E b≠none∨(S i).H b≠none:=fun b hb=>by
  obtain⟨o,aa⟩:=Hj hb;rcases hg.Eh b o aa with x | x
  ·exact .inl (by rw [x];simp)
  ·exact .inr (by rw [x.1];simp)
 have GB:∀{x:Option Obj},¬x≠none→x=none:=fun h=>Classical.not_not.1 h;constructor
 ·intro j K;by_cases e:j=i
  ·subst e;rw [upd_same];exact hg.fits (h.fits j K)
  ·rw [upd_ne _ _ e];exact h.fits j K
 ·intro a c ae ag Z b hb;by_cases e:a=i
  ·subst e;rw [upd_same] at hb;rw [upd_ne _ _ (Ne.symm Z)];exact h.hh a c ae ag Z b (W b hb)
  ·rw [upd_ne _ _ e] at hb;by_cases ah:c=i
   ·subst ah;rw [upd_same];have O:=h.hh a c ae ag Z b hb;exact⟨GB fun x=>W b x O.1,GB fun x=>(ab b x).elim (fun y=>y O.2) fun y=>y O.1⟩
   ·rw [upd_ne _ _ ah];exact h.hh a c ae ag Z b hb
 ·intro j K b hb;by_cases e:j=i
  ·subst e;rw [upd_same];have O:=h.sh j K b hb;exact⟨GB fun x=>W b x O.1,GB fun x=>(ab b x).elim (fun y=>y O.2) fun y=>y O.1⟩
  ·rw [upd_ne _ _ e];exact h.sh j K b hb
 ·exact h.FD
 ·exact h.clean
 ·exact h.low
 ·intro j K b hb x a U V;by_cases e:j=i
  ·subst e;rw [upd_same] at hb;exact h.kH j K b (W b hb) x a U V
  ·rw [upd_ne _ _ e] at hb;exact h.kH j K b hb x a U V
 ·intro j K b hb x a U V ai;by_cases e:j=i
  ·subst e;rw [upd_same] at hb;rcases ab b hb with y | y
   ·exact h.kE j K b y x a U V ai
   ·exact h.kH j K b y x a U V
  ·rw [upd_ne _ _ e] at hb;exact h.kE j K b hb x a U V ai
end Pal
namespace Pal
open Go Go.Conc
open Go.ConcN (sumTo upd sumTo_upd upd_ne upd_same)
abbrev St.none:St:=St.quiet
def lone(s:St):Nat→St:=fun i=>if i=0 then s else St.none
structure Gw (P:Program) (gs:Array Goroutine) (w:World) (t:Trace) (q:Nat→Nat) (Sh:Nat→Prop) (g:Goroutine) (s:St):Prop where
 main:gs[0]? =some g
 lv:Leavers P t gs q
 CX:Ck t w gs.size (lone s) Sh
 over:t.HandedOver
 hears:Deaf t 0=0
def Reaches(P:Program)(gs:Array Goroutine)(w:World)(sl:Option (Nat×Nat))(t:Trace)(s:St)(K:Gs_):Prop:=
 ∃(n:Nat) (gs':Array Goroutine) (w':World) (U:Option (Nat×Nat)) (O:Trace) (V:Nat→Nat) (W:Nat→Prop) (g':Goroutine) (s':St),
  runNT P n (crowd gs w sl) t=(.next (crowd gs' w' U),O)∧Gw P gs' w' O V W g' s'∧K g' s'∧Le' s s'∧w'.tape=w.tape∧w'.os=w.os∧w'.output=w.output
 where
  Le' (s s' : St) : Prop := ∀ b o, s.E b = some o → s'.E b = some o
theorem QU{s s':St}:upd (lone s) 0 s'=lone s':=by
 funext i;unfold upd lone;split <;> rfl
theorem L9{P:Program}{m m':Machine}{t ops:Trace}{k:Nat}{r:Stepped×Trace}(h:stepT P m=(.next m',ops))(K:runNT P k m' (t++ops)=r):runNT P (k+1) m t=r:=by
 simp only [runNT,h];exact K
theorem Gw.at_{P:Program}{gs:Array Goroutine}{w:World}{t:Trace}{q:Nat→Nat}{Sh:Nat→Prop}{g:Goroutine}{s:St}(h:Gw P gs w t q Sh g s)(d:Nat):Gw P gs (w.at d) t q Sh g s:=
 ⟨h.main,h.lv,by
  have:=h.CX.mute (u:= #[]) (w':=w.at d) (g:=0) (by simp) (by simp) (by simp) rfl
  simpa using this,h.over,h.hears⟩
theorem UO{P:Program}{g:Goroutine}{s:St}{K:Gs_}(aw:Sn P true g s K):
  ∀(M:Nat) (gs:Array Goroutine) (w:World) (sl:Option (Nat×Nat)) (t:Trace) (q:Nat→Nat) (Sh:Nat→Prop),sumTo gs.size q≤M→Gw P gs w t q Sh g s→Reaches P gs w sl t s K:=by
 intro M
 induction M with
 | zero=>?_
 | succ M aC=>?_
 all_goals
  intro gs w sl t q Sh aS hC;have aj:=aw.1;have aD:∀x∈gs,awake x:=by
   intro x ab;obtain⟨i,hi,rfl⟩:=Array.mem_iff_getElem.1 ab;rcases Nat.eq_zero_or_pos i with rfl | ak
   ·have:gs[0]=g:=by simpa [Array.getElem?_eq_getElem hi] using hC.main
    rw [this];exact awake_of (.inl aj)
   ·exact awake_of ((hC.lv.old i _ ak (Array.getElem?_eq_getElem hi)).status.elim .inl fun x=> .inr (.inr x))
  obtain⟨i,x,d,ae,hi,ab,ay⟩:=crowd_pick (P:=P) (w:=w) (sl:=sl) aD ⟨0,g,hC.main,aj⟩;have al:=hC.at_ d;have am:0<gs.size:=(Array.getElem?_eq_some_iff.1 hC.main).1;rcases Nat.eq_zero_or_pos i with rfl | ak
  ·obtain rfl:x=g:=by rw [hC.main] at hi;exact(Option.some.inj hi).symm
   have aE:Fits s (w.at d):=al.CX.fits 0 am;obtain⟨g',s',w',es,an,ao,ap,W,ag⟩:=aw.2.1 (w.at d) aE;have aq:=runT_crowd_go (P:=P) (sl:=ae) (i:=0) hi (show stepG P (0==0) x (w.at d)=_ from an);have ah:((gs.map (woken P x g' w')).setIfInBounds 0 g').size=gs.size:=by simp
   have V:∀op∈MemOp.ofEvents 0 x.frame.fn x.frame.place es,op.g=0:=fun op O=>by obtain⟨e,_,rfl⟩:=mem_ofEvents O;rfl
   have aF:deafBehind (Deaf t 0) es=Deaf t 0:=deafBehind_still (fun e he=>by
    have:=ag e he
    unfold Ev at this
    constructor <;> intro aG <;> rw [aG] at this <;> exact this) _
   refine⟨1,_,w',ae,t++MemOp.ofEvents 0 x.frame.fn x.frame.place es,q,Sh,g',s',L9 (ay.trans aq) rfl,⟨by simp [am],⟨fun j y U Z=>?_,fun j U=>?_⟩,?_,?_,?_⟩,ao,W.ext,W.tape,W.os,W.output⟩
   ·have ar:0≠j:=by omega
    rw [Array.getElem?_setIfInBounds_ne ar,Array.getElem?_map] at Z;obtain⟨z,au,rfl⟩:=Option.map_eq_some_iff.1 Z;have aa:=hC.lv.old j z U au;rw [woken_quitsD aa,Deaf_other t (by omega) _ V];exact aa
   ·rw [Deaf_other t (g':=0) (by simp at U;omega) _ V];exact hC.lv.above j (by simpa using U)
   ·rw [ah,← QU (s:=s)];exact al.CX.own am ap (by simpa [lone] using W) (by simpa [lone] using ag)
   ·exact handedOver_app hC.over fun op O=> .inl (V op O)
   ·rw [Deaf_own,aF];exact hC.hears
  ·
   have aa:=hC.lv.old i x ak hi;have aH:(i==0)=false:=by simp;omega
   have az:i<gs.size:=(Array.getElem?_eq_some_iff.1 hi).1;cases av:q i with
   | zero=>rw [av] at aa;rw [aa.1] at ab;cases ab
   | succ k=>
    rw [av] at aa;rcases aa with⟨aI,_⟩ | ⟨_,x',es,hm,aJ,aK⟩
    ·rw [aI] at ab;cases ab
    have aT:sumTo gs.size (upd q i k)+(k+1)=sumTo gs.size q+k:=by
     have:=sumTo_upd q k id az;simpa [av] using this
    first
     | (exfalso;omega)
     | (
      have aq:=runT_crowd_go (P:=P) (sl:=ae) (i:=i) hi (by rw [aH];exact aJ (w.at d))
      have ah:((gs.map (woken P x x' (w.at d))).setIfInBounds i x').size=gs.size:=by simp
      have V:∀op∈MemOp.ofEvents i x.frame.fn x.frame.place es,op.g=i:=fun op O=>by obtain⟨e,_,rfl⟩:=mem_ofEvents O;rfl
      have aA:∀op∈MemOp.ofEvents i x.frame.fn x.frame.place es,op.act.touch? =none:=fun op O=>by obtain⟨e,he,rfl⟩:=mem_ofEvents O;exact touch_mute (hm e he)
      have aL:Gw P ((gs.map (woken P x x' (w.at d))).setIfInBounds i x') (w.at d) (t++MemOp.ofEvents i x.frame.fn x.frame.place es) (upd q i k) Sh g s:=by
       refine⟨?_,⟨fun j y U Z=>?_,fun j U=>?_⟩,?_,?_,?_⟩
       ·have ar:i≠0:=by omega
        rw [Array.getElem?_setIfInBounds_ne ar,Array.getElem?_map,hC.main]
        simp [woken_run aj]
       ·by_cases ai:i=j
        ·subst ai
         rw [Array.getElem?_setIfInBounds_self_of_lt (by simpa using az)] at Z
         obtain rfl:=Option.some.inj Z
         rw [upd_same,Deaf_own]
         exact aK
        ·rw [Array.getElem?_setIfInBounds_ne ai,Array.getElem?_map] at Z
         obtain⟨z,au,rfl⟩:=Option.map_eq_some_iff.1 Z
         have aB:=hC.lv.old j z U au
         rw [woken_quitsD aB,upd_ne q k (Ne.symm ai),Deaf_other t ai _ V]
         exact aB
       ·rw [Deaf_other t (g':=i) (by simp at U;omega) _ V]
        exact hC.lv.above j (by simpa using U)
       ·rw [ah]
        exact al.CX.mute V aA (fun op O=>by obtain⟨e,he,rfl⟩:=mem_ofEvents O;exact low_mute (hm e he) _) rfl
       ·exact handedOver_app hC.over fun op O=> .inr (aA op O)
       ·rw [Deaf_other t (by omega) _ V];exact hC.hears
      obtain⟨n,gs',w',aM,aN,aO,aP,g',s',an,ao,ap,W,ag,aQ,aR⟩:=aC _ (w.at d) ae _ _ Sh (by rw [ah];omega) aL
      exact⟨n+1,gs',w',aM,aN,aO,aP,g',s',L9 (ay.trans aq) an,ao,ap,W,ag,aQ,aR⟩)
def DR(P:Program):Judge P where
 main:=true
 ok Q g s:=∀gs w sl t q Sh,Gw P gs w t q Sh g s→Reaches P gs w sl t s Q
 stop {Q g s} h:=fun gs w sl t q Sh hC=>⟨0,gs,w,sl,t,q,Sh,g,s,rfl,hC,h,fun _ _ h=>h,rfl,rfl,rfl⟩
 step {Q g s} h:=fun gs w sl t q Sh hC=>by
  obtain⟨n,gs',w',K,O,U,V,g',s',W,Z,aa,ab,ae,ag,ah⟩:=UO h _ gs w sl t q Sh (Nat.le_refl _) hC
  obtain⟨ai,aj,ak,al,am,an,ao,ap,aq,k1,ar,au,av,aw,ay,az⟩:=aa gs' w' K O U V Z
  refine⟨n+ai,aj,ak,al,am,an,ao,ap,aq,?_,ar,au,fun b o h=>av b o (ab b o h),aw.trans ae,ay.trans ag,az.trans ah⟩
  rw [runNT_add,W];exact k1
 trans {Q R g s} h k:=fun gs w sl t q Sh hC=>by
  obtain⟨n,gs',w',K,O,U,V,g',s',W,Z,aa,ab,ae,ag,ah⟩:=h gs w sl t q Sh hC
  obtain⟨ai,aj,ak,al,am,an,ao,ap,aq,k1,ar,au,av,aw,ay,az⟩:=k g' s' aa gs' w' K O U V Z
  refine⟨n+ai,aj,ak,al,am,an,ao,ap,aq,?_,ar,au,fun b o h=>av b o (ab b o h),aw.trans ae,ay.trans ag,az.trans ah⟩
  rw [runNT_add,W];exact k1
 ghost {Q g s s₀} hg h:=fun gs w sl t q Sh hC=>by
  have aA:0<gs.size:=(Array.getElem?_eq_some_iff.1 hC.main).1
  have aB:Gw P gs w t q Sh g s₀:=⟨hC.main,hC.lv,by
   rw [← QU (s:=s)];exact hC.CX.ghost aA (by simpa [lone] using hg),hC.over,hC.hears⟩
  obtain⟨n,gs',w',K,O,U,V,g',s',W,Z,aa,ab,ae,ag,ah⟩:=h gs w sl t q Sh aB
  exact⟨n,gs',w',K,O,U,V,g',s',W,Z,aa,fun b o h=>ab b o (hg.ext b o h),ae,ag,ah⟩
end Pal
namespace Pal
open Go Go.Conc
open Go.ConcN (upd upd_same upd_ne)
section
variable {t u:Trace}{w w':World}{N:Nat}{S:Nat→St}{Sh:Nat→Prop}
theorem Ck.ext(h:Ck t w N S Sh)(Z:∀said,¬Race said (t++u))(hu:∀op∈u,∀a,op.act.touch? =some a→∀b,D2 a.loc=some b→Sh b)
  (aa:∀op∈u,op.act.low w.heap.size) (hs:w'.heap.size=w.heap.size) (hw:∀b,¬Sh b→w'.heap[b]? =w.heap[b]?):Ck (t++u) w' N S Sh:=by
 have hold:∀x a b,touchAt (t++u) x=some a→D2 a.loc=some b→¬Sh b→touchAt t x=some a:=by
  intro x a b U hb O;obtain⟨op,K,W⟩:=touch_of U;rcases getElem?_append_cases K with⟨ai,ab⟩ | ⟨_,ae⟩
  ·rw [touchAt_of ab];exact W
  ·exact absurd (hu op ae a W b hb) O
 have O:∀i,i<N→∀b,((S i).H b≠none∨(S i).E b≠none)→¬Sh b:=by
  intro i hi b hb ag;have:=h.sh i hi b ag;exact hb.elim (fun x=>x this.1) (fun x=>x this.2)
 refine⟨fun i hi=>⟨fun b o K=>?_,fun b o K=>?_,(h.fits i hi).d⟩,h.hh,h.sh,fun b hb=>by rw [hs];exact h.FD b hb,Z,fun op K=>?_,fun i hi b hb x a U V=>?_,fun i hi b hb x a U V ah=>?_⟩
 ·rw [hw b (O i hi b (.inr (by rw [K];simp)))];exact(h.fits i hi).e b o K
 ·rw [hw b (O i hi b (.inl (by rw [K];simp)))];exact(h.fits i hi).h b o K
 ·rcases Array.mem_append.1 K with K | K
  ·rw [hs];exact h.low op K
  ·rw [hs];exact aa op K
 ·exact(h.kH i hi b hb x a (hold x a b U V (O i hi b (.inl hb))) V).app _
 ·exact(h.kE i hi b hb x a (hold x a b U V (O i hi b (.inr hb))) V ah).app _
theorem Ck.congr{S':Nat→St}(h:Ck t w N S Sh)(K:∀i,i<N→(S' i).E=(S i).E∧(S' i).H=(S i).H):Ck t w N S' Sh:=by
 refine⟨fun i hi=>⟨by rw [(K i hi).1];exact(h.fits i hi).e,by rw [(K i hi).2];exact(h.fits i hi).h,by rw [(K i hi).1,(K i hi).2];exact(h.fits i hi).d⟩,fun i j hi O U b=>?_,fun i hi b=>?_,h.FD,h.clean,h.low,fun i hi b=>?_,fun i hi b=>?_⟩
 ·rw [(K i hi).2,(K j O).1,(K j O).2];exact h.hh i j hi O U b
 ·rw [(K i hi).1,(K i hi).2];exact h.sh i hi b
 ·rw [(K i hi).2];exact h.kH i hi b
 ·rw [(K i hi).1];exact h.kE i hi b
theorem Ck.less(h:Ck t w N S Sh){i:Nat}{s':St}(ab:∀b o,s'.E b=some o→(S i).E b=some o)(ae:∀b o,s'.H b=some o→(S i).H b=some o):Ck t w N (upd S i s') Sh:=by
 have V:∀j b o,(upd S i s' j).E b=some o→(S j).E b=some o:=by
  intro j b o K;by_cases e:j=i
  ·subst e;rw [upd_same] at K;exact ab b o K
  ·rwa [upd_ne _ _ e] at K
 have e2:∀j b o,(upd S i s' j).H b=some o→(S j).H b=some o:=by
  intro j b o K;by_cases e:j=i
  ·subst e;rw [upd_same] at K;exact ae b o K
  ·rwa [upd_ne _ _ e] at K
 have n1:∀j b,(S j).E b=none→(upd S i s' j).E b=none:=by
  intro j b hb;cases U:(upd S i s' j).E b with
  | none=>rfl
  | some o=>rw [V j b o U] at hb;cases hb
 have n2:∀j b,(S j).H b=none→(upd S i s' j).H b=none:=by
  intro j b hb;cases U:(upd S i s' j).H b with
  | none=>rfl
  | some o=>rw [e2 j b o U] at hb;cases hb
 have p1:∀j b,(upd S i s' j).E b≠none→(S j).E b≠none:=fun j b hb x=>hb (n1 j b x);have p2:∀j b,(upd S i s' j).H b≠none→(S j).H b≠none:=fun j b hb x=>hb (n2 j b x);exact⟨fun j O=>⟨fun b o K=>(h.fits j O).e b o (V j b o K),fun b o K=>(h.fits j O).h b o (e2 j b o K),fun b hb=>n2 j b ((h.fits j O).d b (p1 j b hb))⟩,
  fun a c W Z aa b hb=>⟨n2 c b (h.hh a c W Z aa b (p2 a b hb)).1,n1 c b (h.hh a c W Z aa b (p2 a b hb)).2⟩,
  fun j O b hb=>⟨n2 j b (h.sh j O b hb).1,n1 j b (h.sh j O b hb).2⟩,h.FD,h.clean,h.low,
  fun j O b hb=>h.kH j O b (p2 j b hb),fun j O b hb=>h.kE j O b (p1 j b hb)⟩
theorem Ck.grow(h:Ck t w N S Sh){i:Nat}(hi:i<N){E':LH}{q:Bool}
  (aa:∀b o,E' b=some o→(S i).E b=some o∨∃j,j<N∧(S j).E b=some o∧∀x a,touchAt t x=some a→D2 a.loc=some b→a.write=true→Knows t i x):
  Ck t w N (upd S i ⟨E',(S i).H,q⟩) Sh:=by
 have ah:∀{b},E' b≠none→∃j,j<N∧∃o,(S j).E b=some o:=by
  intro b hb;obtain⟨o,V⟩:=Hj hb;rcases aa b o V with x | ⟨j,K,x,_⟩
  ·exact⟨i,hi,o,x⟩
  ·exact⟨j,K,o,x⟩
 have ai:∀a,a<N→∀b,(S a).H b≠none→E' b=none:=by
  intro a U b hb;cases O:E' b with
  | none=>rfl
  | some o=>
   obtain⟨j,K,o',W⟩:=ah (b:=b) (by rw [O];simp);by_cases e:a=j
   ·subst e;have:=(h.fits a U).d b (by rw [W];simp);exact absurd this hb
   ·have:=(h.hh a j U K e b hb).2;rw [W] at this;cases this
 constructor
 ·intro j K;by_cases e:j=i
  ·subst e;rw [upd_same];refine⟨fun b o V=>?_,(h.fits j K).h,fun b hb=>?_⟩
   ·rcases aa b o V with x | ⟨k,Z,x,_⟩
    ·exact(h.fits j K).e b o x
    ·exact(h.fits k Z).e b o x
   ·cases O:(S j).H b with
    | none=>rfl
    | some o=>exact absurd (ai j K b (by rw [O];simp)) hb
  ·rw [upd_ne _ _ e];exact h.fits j K
 ·intro a c U aj ak b hb;have ab:(S a).H b≠none:=by
   by_cases e:a=i
   ·subst e;rwa [upd_same] at hb
   ·rwa [upd_ne _ _ e] at hb
  by_cases e:c=i
  ·subst e;rw [upd_same];exact⟨(h.hh a c U aj ak b ab).1,ai a U b ab⟩
  ·rw [upd_ne _ _ e];exact h.hh a c U aj ak b ab
 ·intro j K b hb;by_cases e:j=i
  ·subst e;rw [upd_same];refine⟨(h.sh j K b hb).1,?_⟩;cases O:E' b with
   | none=>exact O
   | some o=>
    obtain⟨k,Z,o',W⟩:=ah (b:=b) (by rw [O];simp);rw [(h.sh k Z b hb).2] at W;cases W
  ·rw [upd_ne _ _ e];exact h.sh j K b hb
 ·exact h.FD
 ·exact h.clean
 ·exact h.low
 ·intro j K b hb;by_cases e:j=i
  ·subst e;rw [upd_same] at hb;exact h.kH j K b hb
  ·rw [upd_ne _ _ e] at hb;exact h.kH j K b hb
 ·intro j K b hb x a O ae ag;by_cases e:j=i
  ·subst e;rw [upd_same] at hb;obtain⟨o,V⟩:=Hj hb;rcases aa b o V with y | ⟨k,Z,y,al⟩
   ·exact h.kE j K b (by rw [y];simp) x a O ae ag
   ·exact al x a O ae ag
  ·rw [upd_ne _ _ e] at hb;exact h.kE j K b hb x a O ae ag
theorem Ck.push(h:Ck t w N S Sh){i:Nat}(hi:i<N){E:LH}(Z:∀b o,E b=some o→(S i).E b=some o)
  (ae:∀b,E b≠none→∀x a,touchAt t x=some a→D2 a.loc=some b→a.write=true→Knows t N x):Ck t w (N+1) (upd S N ⟨E,fun _=>none,false⟩) Sh:=by
 have O:∀j,j<N→upd S N ⟨E,fun _=>none,false⟩ j=S j:=fun j K=>upd_ne _ _ (by omega);have ah:∀b,E b≠none→(S i).E b≠none:=fun b hb=>by obtain⟨o,V⟩:=Hj hb;rw [Z b o V];simp
 have ab:∀b,(S i).E b=none→E b=none:=fun b hb=>by
  cases aa:E b with
  | none=>rfl
  | some o=>rw [Z b o aa] at hb;cases hb
 have cs:∀j,j<N+1→j<N∨j=N:=fun j K=>by omega
 constructor
 ·intro j K;rcases cs j K with K | rfl
  ·rw [O j K];exact h.fits j K
  ·rw [upd_same];exact⟨fun b o V=>(h.fits i hi).e b o (Z b o V),fun b o V=>(by cases V),fun b _=>rfl⟩
 ·intro a c U W ag b hb;rcases cs a U with U | rfl
  ·rw [O a U] at hb;rcases cs c W with W | rfl
   ·rw [O c W];exact h.hh a c U W ag b hb
   ·rw [upd_same];refine⟨rfl,ab b ?_⟩;by_cases e:a=i
    ·subst e;cases aa:(S a).E b with
     | none=>rfl
     | some o=>exact absurd ((h.fits a U).d b (by rw [aa];simp)) hb
    ·exact(h.hh a i U hi e b hb).2
  ·rw [upd_same] at hb;exact absurd rfl hb
 ·intro j K b hb;rcases cs j K with K | rfl
  ·rw [O j K];exact h.sh j K b hb
  ·rw [upd_same];exact⟨rfl,ab b (h.sh i hi b hb).2⟩
 ·exact h.FD
 ·exact h.clean
 ·exact h.low
 ·intro j K b hb;rcases cs j K with K | rfl
  ·rw [O j K] at hb;exact h.kH j K b hb
  ·rw [upd_same] at hb;exact absurd rfl hb
 ·intro j K b hb;rcases cs j K with K | rfl
  ·rw [O j K] at hb;exact h.kE j K b hb
  ·rw [upd_same] at hb;exact ae b hb
theorem Ck.share(h:Ck t w N S Sh){i:Nat}(hi:i<N){b₀:Nat}{o₀:Obj}(U:(S i).H b₀=some o₀):
  Ck t w N (upd S i {S i with H:=fun b=>if b=b₀ then none else(S i).H b}) (fun b=>Sh b∨b=b₀):=by
 have K:Ck t w N (upd S i {S i with H:=fun b=>if b=b₀ then none else(S i).H b}) Sh:=
  h.less (fun b o O=>O) (fun b o O=>by simp only at O;split at O <;> first | (cases O;done) | exact O)
 have Z:b₀<w.heap.size:=by
  have:=(h.fits i hi).h b₀ o₀ U;rcases Nat.lt_or_ge b₀ w.heap.size with V | V
  ·exact V
  ·simp [Array.getElem?_eq_none V] at this
 refine⟨K.fits,K.hh,fun j W b hb=>?_,fun b hb=>hb.elim (K.FD b) (fun e=>e▸Z),K.clean,K.low,K.kH,K.kE⟩;rcases hb with hb | rfl
 ·exact K.sh j W b hb
 ·by_cases e:j=i
  ·subst e;rw [upd_same];refine⟨by simp,?_⟩;cases aa:(S j).E b with
   | none=>rfl
   | some o=>have:=(h.fits j W).d b (by rw [aa];simp);rw [U] at this;cases this
  ·rw [upd_ne _ _ e];exact h.hh i j hi W (Ne.symm e) b (by rw [U];simp)
end
end Pal
namespace Pal
open Go Go.Conc
open Go.ConcN (upd upd_same upd_ne sumTo sumTo_upd)
abbrev GP:=Gs_
inductive Ph where
 | CC (k:Nat) | Gv | H0 | Ha | Gt | GF | EP
 | Dh | FV (m:Nat) | Hb (v:Nat) | Hd | DL | GG | FG | GL | D3
 | FE (j:Nat) | Hy (j:Nat) | GK (j:Nat) | Gg (j:Nat) | Fq (j:Nat) | FY | Ci (K:List Nat) (vs:Lv_)
 | Df | HC | Hx | Hc (j:Nat)
inductive Nx where
 | ph (p:Ph) | gone (d:Nat)
structure Fam where
 wg:Nat
 ch:Nat
 ty:TypeId
 n:Nat
 has:Nat→Bool
 msg:Nat→Value→LH→Prop
 fin:GP
namespace Fam
variable (F:Fam)
def KK:Int:=4294967296
def GQ(st sm:Int):Obj:= .cells #[.int .u64 st,.int .u32 sm] F.ty (0,0)
def word(v wt:Nat):Int:=(v:Int)*KK+wt
def WG(w:World)(v wt sm:Nat):Prop:=w.heap[F.wg]? =some (F.GQ (word v wt) sm)
def put(w:World)(v wt sm:Nat):World:={w with heap:=w.heap.setIfInBounds F.wg (F.GQ (word v wt) sm)}
def sA:Addr:=⟨F.wg,0,none⟩
def mA:Addr:=⟨F.wg,1,none⟩
def Fs(a:Addr):Event:=⟨.cell a,false,true⟩
def IJ(a:Addr):Event:=⟨.cell a,true,true⟩
def EH(m:Mark):Event:=⟨.mark m,false,true⟩
def ChanAt(w:World)(closed:Bool)(k:Nat):Prop:=w.heap[F.ch]? =some (.chan 0 #[] closed k k false)
def act:Ph→Nat→Nat→Nat→Option ((Nat×Nat×Nat)×Array Event×Nx)
 | .Gv,v,wt,sm=>some ((v,wt,sm),#[EH (.releaseMerge F.sA)],.ph .H0)
 | .H0,v,wt,sm=>some ((v,wt,sm),#[EH .disable],.ph .Ha)
 | .Ha,v,wt,sm=>if 1≤v∧v<2147483648∧wt≤1 then some ((v - 1,wt,sm),#[Fs F.sA,IJ F.sA],if v=1∧wt=1 then .ph .Gt else .gone 1) else none
 | .Gt,v,wt,sm=>if v=0∧wt=1 then some ((0,1,sm),#[Fs F.sA],.ph .GF) else none
 | .GF,v,wt,sm=>if v=0∧wt=1 then some ((0,0,sm),#[IJ F.sA],.ph .EP) else none
 | .EP,v,wt,sm=>if sm=0 then some ((v,wt,1),semEvents F.mA,.gone 1) else none
 | .Dh,v,wt,sm=>some ((v,wt,sm),#[EH .disable],.ph (.FV F.n))
 | .FV m,v,wt,sm=>if v≤m∧wt=0 then some ((v,0,sm),#[Fs F.sA],if v=0 then .ph .FG else .ph (.Hb v)) else none
 | .Hb m,v,wt,sm=>if v≤m∧1≤m∧wt=0 then some (if v=m then((v,1,sm),#[Fs F.sA,IJ F.sA],.ph .HC) else((v,0,sm),#[Fs F.sA],.ph (.FV (m - 1)))) else none
 | .Hd,v,wt,sm=>some ((v,wt,sm),#[EH (.write F.mA)],.ph .DL)
 | .DL,v,wt,sm=>if sm=1 then some ((v,wt,0),semEvents F.mA,.ph .GG) else none
 | .GG,v,wt,sm=>if v=0∧wt=0 then some ((0,0,sm),#[Fs F.sA],.ph .FG) else none
 | .FG,v,wt,sm=>some ((v,wt,sm),#[EH .enable],.ph .Hx)
 | .Df,v,wt,sm=>some ((v,wt,sm),#[],.ph .Gv)
 | .HC,v,wt,sm=>some ((v,wt,sm),#[],.ph .Hd)
 | .Hx,v,wt,sm=>some ((v,wt,sm),#[],.ph .GL)
 | .Hc j,v,wt,sm=>some ((v,wt,sm),#[],.ph (.GK j))
 | .GL,v,wt,sm=>some ((v,wt,sm),#[EH (.acquire F.sA)],.ph .D3)
 | .FE j,v,wt,sm=>some ((v,wt,sm),#[EH .disable],.ph (.Hy j))
 | .Hy j,v,wt,sm=>if v<2147483647∧wt=0 then some ((v+1,0,sm),#[Fs F.sA,IJ F.sA],if v=0 then .ph (.Hc j) else .ph (.Gg j)) else none
 | .GK j,v,wt,sm=>some ((v,wt,sm),#[EH (.read F.mA)],.ph (.Gg j))
 | .Gg j,v,wt,sm=>some ((v,wt,sm),#[EH .enable],.ph (.Fq j))
 | _,_,_,_=>none
def DT:Ph→Bool
 | .FE _ | .Hy _ | .GK _ | .Gg _ | .Fq _ | .FY | .Ci _ _ | .Hc _=>true
 | _=>false
def Ek:Ph→Bool
 | .H0 | .Ha | .Gt | .GF | .EP=>true
 | _=>false
def GR:Ph→St→St
 | .Gv,_=> .quiet
 | _,s=>s
def start(k:Nat):Ph:=if F.has k then .CC k else .Df
def D4(j:Nat):Ph:=if j+1=F.n then .FY else .FE (j+1)
end Fam
def Way(P:Program)(main:Bool)(X:GP):GP:=(BB P main).ok X
theorem Jr.Ai{P:Program}{main:Bool}{Q K:GP}(h:∀g s,Q g s→K g s):∀{r:Rk} {g:Goroutine} {s:St},Jr P main Q r g s→Jr P main K r g s
 | .leaf,_,_,x=>h _ _ x
 | .node _,_,_,.inl x=> .inl (h _ _ x)
 | .node _,_,_,.inr ⟨O,x⟩=> .inr ⟨O,fun w f=>let ⟨g',s',w',es,U,V,W⟩:=x w f;⟨g',s',w',es,U,Jr.Ai h V,W⟩⟩
theorem Way.Ai{P:Program}{main:Bool}{Q K:GP}(h:∀g s,Q g s→K g s){g:Goroutine}{s:St}(x:Way P main Q g s):Way P main K g s:=
 let ⟨r,O⟩:=x;⟨r,Jr.Ai (fun g s ⟨s₀,a,b⟩=>⟨s₀,a,h g s₀ b⟩) O⟩
section
variable (P:Program)(F:Fam)
def LG(X:Ph→GP)(main:Bool):Nx→GP
 | .ph p,g,s=>Way P main (X p) g s
 | .gone d,g,_=>∃q,QuitsD P q d g
structure FZ (X:Ph→GP) (p:Ph) (g:Goroutine) (s:St):Prop where
 run:g.status= .running
 offers:g.offers=none
 quiet:Fam.Ek p=true→s= .quiet
 live:Fam.Ek p=false→s.q=false
 act:∀v wt sm v' wt' sm' es nx,F.act p v wt sm=some ((v',wt',sm'),es,nx)→
  ∃g',(∀w,F.WG w v wt sm→stepG P (Fam.DT p) g w= .go g' (F.put w v' wt' sm') es)∧g'.status= .running∧LG P X (Fam.DT p) nx g' (Fam.GR p s)
 G8:p= .EP∨p= .D3→mayWake P g=true
 ES:p= .DL→∀w v wt,F.WG w v wt 0→stepG P false g w= .go {g with status:= .blocked} w #[]
 close:p= .D3→∃g',g'.status= .running∧(∀w k,F.ChanAt w false k→stepG P false g w= .go g' (w.setChan F.ch 0 #[] true k k false) (closeEvents F.ch))∧∃q,QuitsD P q 0 g'
 send:∀k,p= .CC k→∃v z,F.msg k v s.E∧(∀w,stepG P false g w= .comm g #[scase F.ch v z] true .send w #[])∧Way P false (X .Df) (served g undef) s
 go:∀j,p= .Fq j→∃g' child,g'.status= .running∧child.status= .running∧(∀w,stepG P true g w= .spawn g' child w #[])∧Way P false (X (F.start j)) child ⟨s.E,fun _=>none,false⟩∧Way P true (X (F.D4 j)) g' s
 GO:p= .FY→∃g' child,g'.status= .running∧child.status= .running∧(∀w,stepG P true g w= .spawn g' child w #[])∧Way P false (X .Dh) child ⟨s.E,fun _=>none,false⟩∧Way P true (X (.Ci [] [])) g' s
 recv:∀K vs,p= .Ci K vs→∃z,(∀w,stepG P true g w= .comm g #[rcase F.ch z] true (.recv true) w #[])∧
  (∀k v E',k<F.n→F.has k=true→k ∉ K→Le s.E E'→(∀b,E' b≠none→s.H b=none)→F.msg k v E'→Way P true (X (.Ci (K++ [k]) (vs++ [v]))) (served g (.tuple #[v,.bool true])) ⟨E',s.H,false⟩)∧
  ((∀k,k<F.n→F.has k=true→k∈K)→F.fin (served g (.tuple #[z,.bool false])) s)
theorem LG.Ai{X K:Ph→GP}(h:∀p g s,X p g s→K p g s){main:Bool}{nx:Nx}{g:Goroutine}{s:St}(x:LG P X main nx g s):LG P K main nx g s:=by
 cases nx with
 | ph p=>exact Way.Ai (h p) x
 | gone d=>exact x
theorem FZ.Ai{X Z:Ph→GP}(h:∀p g s,X p g s→Z p g s){p:Ph}{g:Goroutine}{s:St}(x:FZ P F X p g s):FZ P F Z p g s where
 run:=x.run
 offers:=x.offers
 quiet:=x.quiet
 live:=x.live
 act v wt sm v' wt' sm' es nx e:=let ⟨g',K,O,U⟩:=x.act v wt sm v' wt' sm' es nx e;⟨g',K,O,U.Ai P h⟩
 G8:=x.G8
 ES:=x.ES
 close:=x.close
 send k e:=let ⟨v,z,K,O,U⟩:=x.send k e;⟨v,z,K,O,U.Ai (h _)⟩
 go j e:=let ⟨g',c,K,O,U,V,W⟩:=x.go j e;⟨g',c,K,O,U,V.Ai (h _),W.Ai (h _)⟩
 GO e:=let ⟨g',c,K,O,U,V,W⟩:=x.GO e;⟨g',c,K,O,U,V.Ai (h _),W.Ai (h _)⟩
 recv aa vs e:=let ⟨z,K,O,U⟩:=x.recv aa vs e;⟨z,K,fun k v E' a b c d e f=>(O k v E' a b c d e f).Ai (h _),U⟩
def Stop(p:Ph)(g:Goroutine)(s:St):Prop:=∃X:Ph→GP,(∀p g s,X p g s→FZ P F X p g s)∧X p g s
variable {P F}
theorem Stop.law{p:Ph}{g:Goroutine}{s:St}(h:Stop P F p g s):FZ P F (Stop P F) p g s:=by
 obtain⟨X,O,K⟩:=h;exact(O p g s K).Ai P F fun p g s K=>⟨X,O,K⟩
theorem FZ.stop{p:Ph}{g:Goroutine}{s:St}(h:FZ P F (Stop P F) p g s):Stop P F p g s:=
 ⟨fun p g s=>FZ P F (Stop P F) p g s,fun _ _ _ x=>x.Ai P F fun _ _ _ y=>y.law,h⟩
end
end Pal
namespace Pal
open Go Go.Conc
open Go.ConcN (upd upd_same upd_ne sumTo sumTo_upd sumTo_upd_out sumTo_congr le_sumTo sumTo_le)
def cU:Nx→Nat
 | .ph (.CC _) | .ph .Df | .ph .Gv | .ph .H0 | .ph .Ha=>1
 | _=>0
def cL:Nx→Nat
 | .ph .Gt | .ph .GF=>1
 | _=>0
def cS:Nx→Nat
 | .ph .EP=>1
 | _=>0
def pend:Nx→Nat
 | .ph (.Hc _) | .ph (.GK _) | .ph (.Gg _) | .ph (.Fq _)=>1
 | _=>0
def got:Nx→List Nat
 | .ph (.Ci K _)=>K
 | _=> []
def Fh:Nx→Prop
 | .gone _=>True
 | _=>False
def Hq(n j:Nat)(c:Bool):Ph→Prop
 | .FE K | .Hy K | .Hc K | .GK K | .Gg K | .Fq K=>K=j∧j<n∧c=false
 | .FY=>j=n∧c=false
 | .Ci _ _=>j=n∧c=true
 | _=>False
def HT(F:Fam)(k:Nat):Nx→Prop
 | .gone _=>True
 | .ph (.CC k')=>k'=k∧F.has k=true
 | .ph .Df | .ph .Gv | .ph .H0 | .ph .Ha | .ph .Gt | .ph .GF | .ph .EP=>True
 | _=>False
def Hs:Nx→Prop
 | .gone _=>True
 | .ph .Dh | .ph (.FV _) | .ph (.Hb _) | .ph .HC | .ph .Hd | .ph .DL | .ph .GG | .ph .FG | .ph .Hx | .ph .GL | .ph .D3=>True
 | _=>False
def Dd(x:Nx)(v wt sm L S:Nat)(cl:Bool):Prop:=
 match x with
 | .ph .Dh=>L=0∧S=0∧sm=0∧wt=0∧cl=false
 | .ph (.FV m)=>L=0∧S=0∧sm=0∧wt=0∧cl=false∧v≤m
 | .ph (.Hb m)=>L=0∧S=0∧sm=0∧wt=0∧cl=false∧v≤m∧1≤m
 | .ph .HC | .ph .Hd | .ph .DL=>L+S+sm+min v 1=1∧wt=L+min v 1∧cl=false
 | .ph .GG | .ph .FG | .ph .Hx | .ph .GL | .ph .D3=>L=0∧S=0∧sm=0∧wt=0∧v=0∧cl=false
 | .gone _=>L=0∧S=0∧sm=0∧wt=0∧v=0∧cl=true
 | _=>False
structure Cj (F:Fam) (N0 N j:Nat) (c:Bool) (φ:Nat→Nx) (v wt sm:Nat) (cl:Bool):Prop where
 pos:0<N0
 n1:1≤F.n
 IH:F.n<2147483647
 size:N=N0+j+c.toNat
 jn:j≤F.n
 cj:c=true→j=F.n
 main:∃p,φ 0= .ph p∧Hq F.n j c p
 old:∀i,0<i→i<N0→Fh (φ i)
 work:∀k,k<j→HT F k (φ (N0+k))
 cls:c=true→Hs (φ (N0+F.n))
 cnt:v=sumTo N (fun i=>cU (φ i))+pend (φ 0)
 H4:v≤j+pend (φ 0)
 mode:Dd (if c=true then φ (N0+F.n) else .ph .Dh) v wt sm (sumTo N fun i=>cL (φ i)) (sumTo N fun i=>cS (φ i)) cl
 Hf:∀k,k<j→F.has k=true→(φ (N0+k)= .ph (.CC k)↔k ∉ got (φ 0))
 nd:(got (φ 0)).Nodup
 sub:∀k∈got (φ 0),k<j∧F.has k=true
section
variable {F:Fam}{N0 N j:Nat}{c:Bool}{φ:Nat→Nx}{v wt sm v' wt' sm':Nat}{cl cl':Bool}
theorem Cj.FH(h:Cj F N0 N j c φ v wt sm cl){i:Nat}(hi:i<N):i=0∨(0<i∧i<N0)∨(∃k,k<j∧i=N0+k)∨(c=true∧i=N0+F.n):=by
 have:=h.size;rcases Nat.eq_zero_or_pos i with K | K
 ·exact .inl K
 rcases Nat.lt_or_ge i N0 with U | U
 ·exact .inr (.inl ⟨K,U⟩)
 rcases Nat.lt_or_ge i (N0+j) with V | V
 ·exact .inr (.inr (.inl ⟨i - N0,by omega,by omega⟩))
 ·cases O:c with
  | false=>rw [O] at this;simp at this;omega
  | true=>have e:=h.cj O;rw [O] at this;simp at this;exact .inr (.inr (.inr ⟨rfl,by omega⟩))
theorem Cj.Tb(h:Cj F N0 N j c φ v wt sm cl):v≤F.n:=by
 have K:=h.H4;obtain⟨p,O,hm⟩:=h.main;have:=h.jn;rw [O] at K;cases p <;> simp [Hq] at hm <;> simp [pend] at K <;> omega
theorem Cj.HY(h:Cj F N0 N j c φ v wt sm cl){k:Nat}(ab:k<j){x:Nx}(ae:HT F k x)(hs:∀k',φ (N0+k)≠ .ph (.CC k'))(ag:∀k',x≠ .ph (.CC k'))
  (ao:v'+cU (φ (N0+k))=v+cU x)
  (hm:∀L S,L+cL (φ (N0+k))=(sumTo N fun i=>cL (φ i))+cL x→S+cS (φ (N0+k))=(sumTo N fun i=>cS (φ i))+cS x→Dd (if c=true then φ (N0+F.n) else .ph .Dh) v' wt' sm' L S cl'):
  Cj F N0 N j c (upd φ (N0+k) x) v' wt' sm' cl':=by
 have ap:=h.size;have aq:=h.jn;have ar:=h.pos;have V:N0+k<N:=by omega
 have K:upd φ (N0+k) x 0=φ 0:=upd_ne _ _ (by omega);have ah:(if c=true then upd φ (N0+k) x (N0+F.n) else .ph .Dh)=(if c=true then φ (N0+F.n) else .ph .Dh):=by
  cases O:c with
  | false=>rfl
  | true=>have:=h.cj O;simp only [if_true];exact upd_ne _ _ (by omega)
 have s1:=sumTo_upd φ x cU V;have s2:=sumTo_upd φ x cL V;have ai:=sumTo_upd φ x cS V;have au:=h.cnt;have av:=h.H4;refine⟨h.pos,h.n1,h.IH,h.size,h.jn,h.cj,by rw [K];exact h.main,fun i aj ak=>by rw [upd_ne _ _ (by omega)];exact h.old i aj ak,fun k' U=>?_,fun O=>?_,by rw [K];omega,?_,?_,fun k' U hh=>?_,by rw [K];exact h.nd,by rw [K];exact h.sub⟩
 ·by_cases e:k'=k
  ·subst e;rw [upd_same];exact ae
  ·rw [upd_ne _ _ (by omega)];exact h.work k' U
 ·have:=h.cj O;rw [upd_ne _ _ (by omega)];exact h.cls O
 ·rw [K];have:cU x≤1:=by cases x with
   | gone d=>simp [cU]
   | ph p=>cases p <;> simp [cU]
  have hw:=h.work k ab;have key:cU x≤cU (φ (N0+k))∨cU (φ (N0+k))<cU x:=by omega
  rcases key with hle | aw
  ·omega
  ·
   have:(sumTo N fun a=>cU (upd φ (N0+k) x a))≤j:=by
    have hb:∀M,M≤N→(sumTo M fun a=>cU (upd φ (N0+k) x a))≤min (M - N0) j:=by
     intro M
     induction M with
     | zero=>intro _;simp [sumTo]
     | succ M al=>
      intro ay;have:=al (by omega);simp only [sumTo];have az:cU (upd φ (N0+k) x M)≤1:=by
       generalize upd φ (N0+k) x M=y;cases y with
       | gone d=>simp [cU]
       | ph p=>cases p <;> simp [cU]
      have Z:(M<N0∨N0+j≤M)→cU (upd φ (N0+k) x M)=0:=by
       intro aA;rw [upd_ne _ _ (by omega)];rcases h.FH (i:=M) (by omega) with rfl | ⟨a,b⟩ | ⟨k',a,rfl⟩ | ⟨a,rfl⟩
       ·obtain⟨p,am,hm⟩:=h.main;rw [am];cases p <;> simp [Hq] at hm <;> rfl
       ·have:=h.old M a b;cases W:φ M with
        | gone d=>rfl
        | ph p=>rw [W] at this;exact this.elim
       ·omega
       ·have:=h.cls a;cases W:φ (N0+F.n) with
        | gone d=>rfl
        | ph p=>rw [W] at this;cases p <;> simp [Hs] at this <;> rfl
      rcases Nat.lt_or_ge M N0 with q | q
      ·rw [Z (.inl q)];omega
      ·rcases Nat.lt_or_ge M (N0+j) with aa | aa
       ·omega
       ·rw [Z (.inr aa)];omega
    have:=hb N (Nat.le_refl _);omega
   omega
 ·rw [ah];exact hm _ _ s2 ai
 ·rw [K];by_cases e:k'=k
  ·subst e;rw [upd_same];have:=h.Hf k' U hh;constructor
   ·intro an;exact absurd an (ag k')
   ·intro hg;exact absurd (this.2 hg) (hs k')
  ·rw [upd_ne _ _ (by omega)];exact h.Hf k' U hh
theorem Cj.Gf(h:Cj F N0 N j c φ v wt sm cl)(O:c=true){x:Nx}(W:Hs x)
  (hm:Dd x v wt' sm' (sumTo N fun i=>cL (φ i)) (sumTo N fun i=>cS (φ i)) cl'):
  Cj F N0 N j c (upd φ (N0+F.n) x) v wt' sm' cl':=by
 have Z:=h.size;have ah:=h.pos;have ai:=h.cj O;have U:N0+F.n<N:=by rw [O] at Z;simp at Z;omega
 have K:upd φ (N0+F.n) x 0=φ 0:=upd_ne _ _ (by omega);have z:∀y,Hs y→cU y=0∧cL y=0∧cS y=0:=by
  intro y aa;cases y with
  | gone d=>exact⟨rfl,rfl,rfl⟩
  | ph p=>cases p <;> simp [Hs] at aa <;> exact⟨rfl,rfl,rfl⟩
 have z1:=z _ (h.cls O);have aj:=z x W;have s1:=sumTo_upd φ x cU U;have s2:=sumTo_upd φ x cL U;have ak:=sumTo_upd φ x cS U;have al:=h.cnt;refine⟨h.pos,h.n1,h.IH,h.size,h.jn,h.cj,by rw [K];exact h.main,fun i ab ae=>by rw [upd_ne _ _ (by omega)];exact h.old i ab ae,fun k' V=>?_,fun O=>?_,by rw [K];omega,by rw [K];exact h.H4,?_,fun k' V hh=>?_,by rw [K];exact h.nd,by rw [K];exact h.sub⟩
 ·rw [upd_ne _ _ (by omega)];exact h.work k' V
 ·rw [upd_same];exact W
 ·rw [if_pos O,upd_same];have e2:(sumTo N fun i=>cL (upd φ (N0+F.n) x i))=sumTo N fun i=>cL (φ i):=by omega
  have ag:(sumTo N fun i=>cS (upd φ (N0+F.n) x i))=sumTo N fun i=>cS (φ i):=by omega
  rw [e2,ag];exact hm
 ·rw [K,upd_ne _ _ (by omega)];exact h.Hf k' V hh
theorem Qr{n j:Nat}{c:Bool}{p:Ph}(h:Hq n j c p):cU (.ph p)=0∧cL (.ph p)=0∧cS (.ph p)=0:=by
 cases p <;> simp [Hq] at h <;> exact⟨rfl,rfl,rfl⟩
theorem Cj.J4(h:Cj F N0 N j c φ v wt sm cl){p:Ph}(U:Hq F.n j c p)(hg:got (.ph p)=got (φ 0))(ai:v'+pend (φ 0)=v+pend (.ph p))(V:v'≤j+pend (.ph p))
  (hm:Dd (if c=true then φ (N0+F.n) else .ph .Dh) v' wt' sm' (sumTo N fun i=>cL (φ i)) (sumTo N fun i=>cS (φ i)) cl'):
  Cj F N0 N j c (upd φ 0 (.ph p)) v' wt' sm' cl':=by
 have aj:=h.size;have ak:=h.pos;have K:0<N:=by omega
 obtain⟨al,W,Z⟩:=h.main;have z1:=Qr Z;have am:=Qr U;rw [← W] at z1;have s1:=sumTo_upd φ (.ph p) cU K;have s2:=sumTo_upd φ (.ph p) cL K;have an:=sumTo_upd φ (.ph p) cS K;have ao:=h.cnt;have aa:(if c=true then upd φ 0 (.ph p) (N0+F.n) else .ph .Dh)=(if c=true then φ (N0+F.n) else .ph .Dh):=by rw [upd_ne _ _ (by omega)]
 refine⟨h.pos,h.n1,h.IH,h.size,h.jn,h.cj,⟨p,upd_same _ _ _,U⟩,fun i ab ae=>by rw [upd_ne _ _ (by omega)];exact h.old i ab ae,fun k' O=>by rw [upd_ne _ _ (by omega)];exact h.work k' O,fun ag=>by rw [upd_ne _ _ (by omega)];exact h.cls ag,by rw [upd_same];omega,by rw [upd_same];exact V,?_,fun k' O hh=>?_,by rw [upd_same,hg];exact h.nd,by rw [upd_same,hg];exact h.sub⟩
 ·rw [aa];have e2:(sumTo N fun i=>cL (upd φ 0 (.ph p) i))=sumTo N fun i=>cL (φ i):=by omega
  have ah:(sumTo N fun i=>cS (upd φ 0 (.ph p) i))=sumTo N fun i=>cS (φ i):=by omega
  rw [e2,ah];exact hm
 ·rw [upd_same,hg,upd_ne _ _ (by omega)];exact h.Hf k' O hh
theorem Cj.act(h:Cj F N0 N j c φ v wt sm cl){i:Nat}(hi:i<N){p:Ph}(U:φ i= .ph p){es:Array Event}{nx:Nx}(K:F.act p v wt sm=some ((v',wt',sm'),es,nx)):
  Cj F N0 N j c (upd φ i nx) v' wt' sm' cl:=by
 have O:=h.mode;have ar:=h.Tb;rcases h.FH hi with rfl | ⟨a,b⟩ | ⟨k,ai,rfl⟩ | ⟨Z,rfl⟩
 ·
  obtain⟨am,aq,aj⟩:=h.main;have:am=p:=by rw [aq] at U;exact Nx.ph.inj U
  subst this;have av:∀q,Hq F.n j c q→(∀au vs,q≠ .Ci au vs)→c=false:=by
   intro q an ao;cases q <;> simp [Hq] at an <;> first | exact an.2.2 | exact an.2 | exact absurd rfl (ao _ _)
  have ag:=h.H4;cases am <;> simp only [Hq] at aj <;> (try exact aj.elim) <;> simp only [Fam.act] at K <;> (try (cases K;done))
  ·cases K;obtain⟨rfl,ah,rfl⟩:=aj;exact h.J4 (p:= .Hy _) ⟨rfl,ah,rfl⟩ (by rw [U];rfl) (by rw [U];rfl) (by rw [U] at ag;exact ag) (by simpa [Dd] using O)
  ·split at K
   ·rename_i aa;cases K;obtain⟨rfl,ah,rfl⟩:=aj;rw [U] at ag;simp only [pend,Nat.add_zero] at ag;simp only [Bool.false_eq_true,if_false,Dd] at O;split
    ·exact h.J4 (p:= .Hc _) ⟨rfl,ah,rfl⟩ (by rw [U];rfl) (by rw [U];simp [pend]) (by simp [pend];omega) ⟨O.1,O.2.1,O.2.2.1,rfl,O.2.2.2.2⟩
    ·exact h.J4 (p:= .Gg _) ⟨rfl,ah,rfl⟩ (by rw [U];rfl) (by rw [U];simp [pend]) (by simp [pend];omega) ⟨O.1,O.2.1,O.2.2.1,rfl,O.2.2.2.2⟩
   ·cases K
  ·cases K;obtain⟨rfl,ah,rfl⟩:=aj;exact h.J4 (p:= .Gg _) ⟨rfl,ah,rfl⟩ (by rw [U];rfl) (by rw [U];rfl) (by rw [U] at ag;exact ag) (by simpa [Dd] using O)
  ·cases K;obtain⟨rfl,ah,rfl⟩:=aj;exact h.J4 (p:= .Fq _) ⟨rfl,ah,rfl⟩ (by rw [U];rfl) (by rw [U];rfl) (by rw [U] at ag;exact ag) (by simpa [Dd] using O)
  ·cases K;obtain⟨rfl,ah,rfl⟩:=aj;exact h.J4 (p:= .GK _) ⟨rfl,ah,rfl⟩ (by rw [U];rfl) (by rw [U];rfl) (by rw [U] at ag;exact ag) (by simpa [Dd] using O)
 ·have:=h.old i a b;rw [U] at this;exact this.elim
 ·
  have hw:=h.work k ai;rw [U] at hw;have aw:∀q k',q=Nx.ph p→(∀k',p≠ .CC k')→q≠ .ph (.CC k'):=by
   rintro q k' rfl ao e;exact ao k' (Nx.ph.inj e)
  cases p <;> simp only [HT] at hw <;> (try exact hw.elim) <;> simp only [Fam.act] at K <;> (try (cases K;done))
  ·cases K;refine h.HY ai (x:= .ph .H0) trivial (fun k'=>by rw [U];simp) (by simp) (by rw [U];rfl) fun L S V W=>?_;rw [U] at V W;simp only [cL,cS,Nat.add_zero] at V W;subst V W;exact O
  ·cases K;refine h.HY ai (x:= .ph .Ha) trivial (fun k'=>by rw [U];simp) (by simp) (by rw [U];rfl) fun L S V W=>?_;rw [U] at V W;simp only [cL,cS,Nat.add_zero] at V W;subst V W;exact O
  ·split at K
   ·rename_i aa;cases K;have al:∀y ab ae L S,y=(if c=true then φ (N0+F.n) else .ph .Dh)→Dd y v wt sm ab ae cl→(if v=1∧wt=1 then L=ab+1 else L=ab)→S=ae→Dd y (v - 1) wt sm L S cl:=by
     intro y ab ae L S ay hm V W;cases y with
     | gone d=>simp only [Dd] at hm ⊢;split at V <;> omega
     | ph q=>
      cases q <;> simp only [Dd] at hm ⊢ <;> (try exact hm) <;> (try (split at V <;> omega))
      ·split at V
       ·exfalso;omega
       ·exact⟨by omega,by omega,by omega,by omega,hm.2.2.2.2⟩
      ·split at V
       ·exfalso;omega
       ·exact⟨by omega,by omega,by omega,by omega,hm.2.2.2.2.1,by omega⟩
      ·split at V
       ·exfalso;omega
       ·exact⟨by omega,by omega,by omega,by omega,hm.2.2.2.2.1,by omega,by omega⟩
      ·split at V
       ·exact⟨by omega,by omega,hm.2.2⟩
       ·exact⟨by omega,by omega,hm.2.2⟩
      ·split at V
       ·exact⟨by omega,by omega,hm.2.2⟩
       ·exact⟨by omega,by omega,hm.2.2⟩
      ·split at V
       ·exact⟨by omega,by omega,hm.2.2⟩
       ·exact⟨by omega,by omega,hm.2.2⟩
    split
    ·rename_i ak;refine h.HY ai (x:= .ph .Gt) trivial (fun k'=>by rw [U];simp) (by simp) (by rw [U];simp [cU];omega) fun L S V W=>?_;rw [U] at V W;simp only [cL,cS,Nat.add_zero] at V W;exact al _ _ _ L S rfl O (by rw [if_pos ak];exact V) W
    ·rename_i ak;refine h.HY ai (x:= .gone 1) trivial (fun k'=>by rw [U];simp) (by simp) (by rw [U];simp [cU];omega) fun L S V W=>?_;rw [U] at V W;simp only [cL,cS,Nat.add_zero] at V W;exact al _ _ _ L S rfl O (by rw [if_neg ak];exact V) W
   ·cases K
  ·split at K
   ·rename_i aa;cases K;refine h.HY ai (x:= .ph .GF) trivial (fun k'=>by rw [U];simp) (by simp) (by rw [U];simp [cU];omega) fun L S V W=>?_;rw [U] at V W;simp only [cL,cS,Nat.add_zero] at V W;have e:L=sumTo N fun i=>cL (φ i):=by
     have az:L+1=(sumTo N fun i=>cL (φ i))+1:=V;omega
    obtain⟨ak,ap⟩:=aa;subst e W ak ap;exact O
   ·cases K
  ·split at K
   ·rename_i aa;cases K;obtain⟨ak,ap⟩:=aa;subst ak ap;refine h.HY ai (x:= .ph .EP) trivial (fun k'=>by rw [U];simp) (by simp) (by rw [U];simp [cU]) fun L S V W=>?_;rw [U] at V W;simp only [cL,cS,Nat.add_zero] at V W;have al:∀y ab ae,Dd y 0 1 sm ab ae cl→L+1=ab→S=ae+1→Dd y 0 0 sm L S cl:=by
     intro y ab ae hm V W;cases y with
     | gone d=>simp only [Dd] at hm ⊢;omega
     | ph q=>
      cases q <;> simp only [Dd] at hm ⊢ <;> (try exact hm) <;> (try (exfalso;omega))
      ·exact⟨by omega,by omega,hm.2.2⟩
      ·exact⟨by omega,by omega,hm.2.2⟩
      ·exact⟨by omega,by omega,hm.2.2⟩
    exact al _ _ _ O V W
   ·cases K
  ·split at K
   ·rename_i aa;cases K;subst aa;refine h.HY ai (x:= .gone 1) trivial (fun k'=>by rw [U];simp) (by simp) (by rw [U];simp [cU]) fun L S V W=>?_;rw [U] at V W;simp only [cL,cS,Nat.add_zero] at V W;have al:∀y ab ae,Dd y v wt 0 ab ae cl→L=ab→S+1=ae→Dd y v wt 1 L S cl:=by
     intro y ab ae hm V W;cases y with
     | gone d=>simp only [Dd] at hm ⊢;omega
     | ph q=>
      cases q <;> simp only [Dd] at hm ⊢ <;> (try exact hm) <;> (try (exfalso;omega))
      ·exact⟨by omega,by omega,hm.2.2⟩
      ·exact⟨by omega,by omega,hm.2.2⟩
      ·exact⟨by omega,by omega,hm.2.2⟩
    exact al _ _ _ O V W
   ·cases K
  ·cases K;refine h.HY ai (x:= .ph .Gv) trivial (fun k'=>by rw [U];simp) (by simp) (by rw [U];rfl) fun L S V W=>?_;rw [U] at V W;simp only [cL,cS,Nat.add_zero] at V W;subst V W;exact O
 ·
  have hw:=h.cls Z;rw [if_pos Z,U] at O;rw [U] at hw;obtain⟨am,aq,aj⟩:=h.main;cases p <;> simp only [Hs] at hw <;> (try exact hw.elim) <;> simp only [Fam.act] at K <;> (try (cases K;done)) <;> simp only [Dd] at O
  ·cases K;exact h.Gf Z (x:= .ph (.FV F.n)) trivial ⟨O.1,O.2.1,O.2.2.1,O.2.2.2.1,O.2.2.2.2,ar⟩
  ·split at K
   ·rename_i m aa;cases K;split
    ·exact h.Gf Z (x:= .ph .FG) trivial ⟨O.1,O.2.1,O.2.2.1,rfl,by assumption,O.2.2.2.2.1⟩
    ·exact h.Gf Z (x:= .ph (.Hb _)) trivial ⟨O.1,O.2.1,O.2.2.1,rfl,O.2.2.2.2.1,Nat.le_refl _,by omega⟩
   ·cases K
  ·split at K
   ·rename_i m aa;split at K
    ·cases K;exact h.Gf Z (x:= .ph .HC) trivial ⟨by omega,by omega,O.2.2.2.2.1⟩
    ·cases K;exact h.Gf Z (x:= .ph (.FV _)) trivial ⟨O.1,O.2.1,O.2.2.1,rfl,O.2.2.2.2.1,by omega⟩
   ·cases K
  ·cases K;exact h.Gf Z (x:= .ph .DL) trivial O
  ·split at K
   ·rename_i aa;cases K;exact h.Gf Z (x:= .ph .GG) trivial ⟨by omega,by omega,rfl,by omega,by omega,O.2.2⟩
   ·cases K
  ·split at K
   ·rename_i aa;obtain⟨rfl,rfl⟩:=aa;cases K;exact h.Gf Z (x:= .ph .FG) trivial O
   ·cases K
  ·cases K;exact h.Gf Z (x:= .ph .Hx) trivial O
  ·cases K;exact h.Gf Z (x:= .ph .D3) trivial O
  ·cases K;exact h.Gf Z (x:= .ph .Hd) trivial O
  ·cases K;exact h.Gf Z (x:= .ph .GL) trivial O
end
end Pal
namespace Pal
open Go Go.Conc
open Go.ConcN (upd upd_same upd_ne sumTo sumTo_upd sumTo_upd_out sumTo_congr le_sumTo sumTo_le fork_knows)
section
variable {F:Fam}{N0 N j:Nat}{c:Bool}{φ:Nat→Nx}{v wt sm:Nat}{cl:Bool}
theorem Cj.spawn(h:Cj F N0 N j c φ v wt sm cl)(U:φ 0= .ph (.Fq j)):
  Cj F N0 (N+1) (j+1) c (upd (upd φ N (.ph (F.start j))) 0 (.ph (F.D4 j))) v wt sm cl:=by
 obtain⟨aj,ak,al⟩:=h.main;obtain rfl:aj= .Fq j:=by rw [ak] at U;exact Nx.ph.inj U
 obtain⟨_,aq,rfl⟩:=al;have am:=h.size;have ar:=h.pos;simp only [Bool.toNat_false,Nat.add_zero] at am;have W:cU (.ph (F.start j))=1∧cL (.ph (F.start j))=0∧cS (.ph (F.start j))=0:=by
  unfold Fam.start;split <;> exact⟨rfl,rfl,rfl⟩
 have K:cU (.ph (F.D4 j))=0∧cL (.ph (F.D4 j))=0∧cS (.ph (F.D4 j))=0∧pend (.ph (F.D4 j))=0∧got (.ph (F.D4 j))= []:=by
  unfold Fam.D4;split <;> exact⟨rfl,rfl,rfl,rfl,rfl⟩
 have Z:cU (φ 0)=0∧cL (φ 0)=0∧cS (φ 0)=0:=by rw [U];exact⟨rfl,rfl,rfl⟩
 let V:Nat→Nx:=upd (upd φ N (.ph (F.start j))) 0 (.ph (F.D4 j));have O:V 0= .ph (F.D4 j):=upd_same _ _ _;have aa:V N= .ph (F.start j):=by show upd _ _ _ _=_;rw [upd_ne _ _ (by omega),upd_same]
 have ab:∀i,0<i→i≠N→V i=φ i:=fun i ae ag=>by show upd _ _ _ _=_;rw [upd_ne _ _ (by omega),upd_ne _ _ ag]
 have sum:∀f:Nx→Nat,f (φ 0)=0→f (.ph (F.D4 j))=0→(sumTo (N+1) fun i=>f (V i))=(sumTo N fun i=>f (φ i))+f (.ph (F.start j)):=by
  intro f f0 f1;simp only [sumTo,aa];congr 1;have an:0<N:=by omega
  have:=sumTo_upd (upd φ N (.ph (F.start j))) (.ph (F.D4 j)) f an;have e2:upd φ N (.ph (F.start j)) 0=φ 0:=upd_ne _ _ (by omega);rw [e2,f0,f1] at this;have au:=sumTo_upd_out φ (.ph (F.start j)) f (i:=N) (j:=N) (Nat.le_refl _);show sumTo N (fun i=>f (upd (upd φ N (.ph (F.start j))) 0 (.ph (F.D4 j)) i))=_;omega
 have ah:=h.cnt;have ai:=h.H4;rw [U] at ah ai;simp only [pend] at ah ai;show Cj F N0 (N+1) (j+1) false V v wt sm cl;have ao:got (φ 0)= []:=by rw [U];rfl
 refine⟨h.pos,h.n1,h.IH,by simp;omega,by omega,by simp,⟨F.D4 j,O,?_⟩,fun i ae ag=>by rw [ab i ae (by omega)];exact h.old i ae ag,fun k ap=>?_,by simp,?_,?_,?_,fun k ap hh=>?_,by rw [O,K.2.2.2.2];exact .nil,by rw [O,K.2.2.2.2];simp⟩
 ·unfold Fam.D4;split
  ·exact⟨by assumption,rfl⟩
  ·exact⟨rfl,by omega,rfl⟩
 ·by_cases e:k=j
  ·subst e;rw [show N0+k=N by omega,aa];unfold Fam.start;split
   ·exact⟨rfl,by assumption⟩
   ·trivial
  ·rw [ab _ (by omega) (by omega)];exact h.work k (by omega)
 ·rw [O,K.2.2.2.1,sum cU Z.1 K.1,W.1];exact ah
 ·rw [O,K.2.2.2.1];exact ai
 ·have hm:=h.mode;simp only [Bool.false_eq_true,if_false] at hm ⊢;rw [sum cL Z.2.1 K.2.1,sum cS Z.2.2 K.2.2.1,W.2.1,W.2.2];exact hm
 ·rw [O,K.2.2.2.2];by_cases e:k=j
  ·subst e;rw [show N0+k=N by omega,aa];unfold Fam.start;simp [hh]
  ·rw [ab _ (by omega) (by omega)];have:=h.Hf k (by omega) hh
   rwa [ao] at this
theorem Cj.YI(h:Cj F N0 N j c φ v wt sm cl)(O:φ 0= .ph .FY):
  Cj F N0 (N+1) j true (upd (upd φ N (.ph .Dh)) 0 (.ph (.Ci [] []))) v wt sm cl:=by
 obtain⟨aj,ak,al⟩:=h.main;obtain rfl:aj= .FY:=by rw [ak] at O;exact Nx.ph.inj O
 obtain⟨ai,rfl⟩:=al;have am:=h.size;have ap:=h.pos;simp only [Bool.toNat_false,Nat.add_zero] at am;have V:cU (φ 0)=0∧cL (φ 0)=0∧cS (φ 0)=0:=by rw [O];exact⟨rfl,rfl,rfl⟩
 let U:Nat→Nx:=upd (upd φ N (.ph .Dh)) 0 (.ph (.Ci [] []));have K:U 0= .ph (.Ci [] []):=upd_same _ _ _;have W:U N= .ph .Dh:=by show upd _ _ _ _=_;rw [upd_ne _ _ (by omega),upd_same]
 have Z:∀i,0<i→i≠N→U i=φ i:=fun i aa ab=>by show upd _ _ _ _=_;rw [upd_ne _ _ (by omega),upd_ne _ _ ab]
 have sum:∀f:Nx→Nat,f (φ 0)=0→f (.ph (.Ci [] []))=0→f (.ph .Dh)=0→(sumTo (N+1) fun i=>f (U i))=(sumTo N fun i=>f (φ i)):=by
  intro f f0 f1 f2;simp only [sumTo,W,f2];have an:0<N:=by omega
  have:=sumTo_upd (upd φ N (.ph .Dh)) (.ph (.Ci [] [])) f an;have e2:upd φ N (.ph .Dh) 0=φ 0:=upd_ne _ _ (by omega);rw [e2,f0,f1] at this;have aq:=sumTo_upd_out φ (.ph .Dh) f (i:=N) (j:=N) (Nat.le_refl _);show sumTo N (fun i=>f (upd (upd φ N (.ph .Dh)) 0 (.ph (.Ci [] [])) i))+0=_;omega
 have ae:=h.cnt;have ag:=h.H4;rw [O] at ae ag;simp only [pend] at ae ag;show Cj F N0 (N+1) j true U v wt sm cl;have ao:got (φ 0)= []:=by rw [O];rfl
 refine⟨h.pos,h.n1,h.IH,by simp;omega,h.jn,fun _=>ai,⟨.Ci [] [],K,ai,rfl⟩,fun i aa ab=>by rw [Z i aa (by omega)];exact h.old i aa ab,fun k ah=>?_,fun _=>by rw [show N0+F.n=N by omega,W];trivial,?_,?_,?_,fun k ah hh=>?_,by rw [K];exact .nil,by rw [K];simp [got]⟩
 ·rw [Z _ (by omega) (by omega)];exact h.work k ah
 ·rw [K,sum cU V.1 rfl rfl];exact ae
 ·rw [K];exact ag
 ·have hm:=h.mode;simp only [Bool.false_eq_true,if_false,if_true] at hm ⊢;rw [show N0+F.n=N by omega,W,sum cL V.2.1 rfl rfl,sum cS V.2.2 rfl rfl];exact hm
 ·rw [K];rw [Z _ (by omega) (by omega)];have:=h.Hf k ah hh
  rwa [ao] at this
theorem Cj.meet(h:Cj F N0 N j c φ v wt sm cl){K:List Nat}{vs:Lv_}{k:Nat}{x:Value}(O:φ 0= .ph (.Ci K vs))(ae:k<j)(hw:φ (N0+k)= .ph (.CC k)):
  Cj F N0 N j c (upd (upd φ (N0+k) (.ph .Df)) 0 (.ph (.Ci (K++ [k]) (vs++ [x])))) v wt sm cl:=by
 obtain⟨ak,al,am⟩:=h.main;obtain rfl:ak= .Ci K vs:=by rw [al] at O;exact Nx.ph.inj O
 obtain⟨an,rfl⟩:=am;have ao:=h.size;have av:=h.pos;have ag:F.has k=true:=by have:=h.work k ae;rw [hw] at this;exact this.2
 have ap:k ∉ K:=by have:=(h.Hf k ae ag).1 hw;rwa [O] at this
 let V:Nat→Nx:=upd (upd φ (N0+k) (.ph .Df)) 0 (.ph (.Ci (K++ [k]) (vs++ [x])));have U:V 0= .ph (.Ci (K++ [k]) (vs++ [x])):=upd_same _ _ _;have ah:V (N0+k)= .ph .Df:=by show upd _ _ _ _=_;rw [upd_ne _ _ (by omega),upd_same]
 have W:∀i,0<i→i≠N0+k→V i=φ i:=fun i Z aa=>by show upd _ _ _ _=_;rw [upd_ne _ _ (by omega),upd_ne _ _ aa]
 have sum:∀f:Nx→Nat,f (φ 0)=f (.ph (.Ci (K++ [k]) (vs++ [x])))→f (.ph (.CC k))=f (.ph .Df)→(sumTo N fun i=>f (V i))=(sumTo N fun i=>f (φ i)):=by
  intro f f0 f1;have aq:0<N:=by omega
  have Z:=sumTo_upd (upd φ (N0+k) (.ph .Df)) (.ph (.Ci (K++ [k]) (vs++ [x]))) f aq;have e2:upd φ (N0+k) (.ph .Df) 0=φ 0:=upd_ne _ _ (by omega);have aa:=sumTo_upd φ (.ph .Df) f (show N0+k<N by omega);rw [e2] at Z;rw [hw] at aa;show sumTo N (fun i=>f (upd (upd φ (N0+k) (.ph .Df)) 0 (.ph (.Ci (K++ [k]) (vs++ [x]))) i))=_;omega
 have ai:=h.cnt;have aj:=h.H4;rw [O] at ai aj;show Cj F N0 N j true V v wt sm cl;refine⟨h.pos,h.n1,h.IH,ao,h.jn,h.cj,⟨_,U,an,rfl⟩,fun i Z aa=>by rw [W i Z (by omega)];exact h.old i Z aa,fun k' ab=>?_,fun ar=>?_,?_,?_,?_,fun k' ab hh=>?_,?_,?_⟩
 ·by_cases e:k'=k
  ·subst e;rw [ah];trivial
  ·rw [W _ (by omega) (by omega)];exact h.work k' ab
 ·rw [W _ (by omega) (by omega)];exact h.cls ar
 ·rw [U,sum cU (by rw [O];rfl) rfl];exact ai
 ·rw [U];exact aj
 ·have hm:=h.mode;simp only [if_true] at hm ⊢;rw [W _ (by omega) (by omega),sum cL (by rw [O];rfl) rfl,sum cS (by rw [O];rfl) rfl];exact hm
 ·rw [U];show _↔k' ∉ K++ [k];by_cases e:k'=k
  ·subst e;rw [ah];simp
  ·rw [W _ (by omega) (by omega)];have:=h.Hf k' ab hh;rw [O] at this;rw [this];show k' ∉ K↔_;simp [e]
 ·rw [U];have:=h.nd;rw [O] at this;show(K++ [k]).Nodup;rw [List.nodup_append];exact⟨this,by simp,fun a au b hb=>by simp at hb;subst hb;exact fun e=>ap (e▸au)⟩
 ·rw [U];intro k' ab;have hs:=h.sub;rw [O] at hs;rcases List.mem_append.1 ab with q | q
  ·exact hs k' q
  ·simp at q;subst q;exact⟨ae,ag⟩
theorem Cj.close(h:Cj F N0 N j c φ v wt sm cl)(K:c=true)(O:φ (N0+F.n)= .ph .D3):Cj F N0 N j c (upd φ (N0+F.n) (.gone 0)) v wt sm true:=by
 have hm:=h.mode;rw [if_pos K,O] at hm;exact h.Gf K (x:= .gone 0) trivial ⟨hm.1,hm.2.1,hm.2.2.1,hm.2.2.2.1,hm.2.2.2.2.1,rfl⟩
theorem Cj.leave(h:Cj F N0 N j c φ v wt sm cl){i d K:Nat}(hi:i<N)(O:φ i= .gone d):Cj F N0 N j c (upd φ i (.gone K)) v wt sm cl:=by
 rcases h.FH hi with rfl | ⟨a,b⟩ | ⟨k,V,rfl⟩ | ⟨W,rfl⟩
 ·obtain⟨p,Z,_⟩:=h.main;rw [O] at Z;cases Z
 ·have ag:=hi;have z:∀f:Nx→Nat,f (.gone d)=0→f (.gone K)=0→(sumTo N fun a=>f (upd φ i (.gone K) a))=sumTo N fun a=>f (φ a):=by
   intro f f0 f1;have:=sumTo_upd φ (.gone K) f ag;rw [O] at this;omega
  have ak:=h.size;have U:upd φ i (.gone K) 0=φ 0:=upd_ne _ _ (by omega);refine⟨h.pos,h.n1,h.IH,h.size,h.jn,h.cj,by rw [U];exact h.main,fun aa ah ai=>?_,fun k V=>by rw [upd_ne _ _ (by omega)];exact h.work k V,fun W=>by rw [upd_ne _ _ (by omega)];exact h.cls W,by rw [U,z cU rfl rfl];exact h.cnt,by rw [U];exact h.H4,?_,fun k V hh=>by rw [U,upd_ne _ _ (by omega)];exact h.Hf k V hh,by rw [U];exact h.nd,by rw [U];exact h.sub⟩
  ·by_cases e:aa=i
   ·subst e;rw [upd_same];trivial
   ·rw [upd_ne _ _ e];exact h.old aa ah ai
  ·rw [z cL rfl rfl,z cS rfl rfl,upd_ne _ _ (by omega)];exact h.mode
 ·refine h.HY V (x:= .gone K) trivial (by rw [O];simp) (by simp) (by rw [O];rfl) fun L S ab ae=>?_;rw [O] at ab ae;have aj:L=sumTo N fun i=>cL (φ i):=ab;have e2:S=sumTo N fun i=>cS (φ i):=ae;subst aj e2;exact h.mode
 ·have hm:=h.mode;rw [if_pos W,O] at hm;exact h.Gf W (x:= .gone K) trivial hm
theorem Cj.OE(h:Cj F N0 N j c φ v wt sm cl)(O:c=true)(U:φ (N0+F.n)= .ph .GG∨φ (N0+F.n)= .ph .FG∨φ (N0+F.n)= .ph .GL∨φ (N0+F.n)= .ph .D3∨Fh (φ (N0+F.n))):∀k,k<j→Fh (φ (N0+k)):=by
 intro k V;have hm:=h.mode;rw [if_pos O] at hm;have W:=h.size;have Z:=h.cnt;have aa:cU (φ (N0+k))≤sumTo N fun i=>cU (φ i):=le_sumTo (f:=fun i=>cU (φ i)) (show N0+k<N by omega);have ab:cL (φ (N0+k))≤sumTo N fun i=>cL (φ i):=le_sumTo (f:=fun i=>cL (φ i)) (show N0+k<N by omega);have ae:cS (φ (N0+k))≤sumTo N fun i=>cS (φ i):=le_sumTo (f:=fun i=>cS (φ i)) (show N0+k<N by omega);have ag:v=0∧(sumTo N fun i=>cL (φ i))=0∧(sumTo N fun i=>cS (φ i))=0:=by
  rcases U with e | e | e | e | e
  ·rw [e] at hm;exact⟨hm.2.2.2.2.1,hm.1,hm.2.1⟩
  ·rw [e] at hm;exact⟨hm.2.2.2.2.1,hm.1,hm.2.1⟩
  ·rw [e] at hm;exact⟨hm.2.2.2.2.1,hm.1,hm.2.1⟩
  ·rw [e] at hm;exact⟨hm.2.2.2.2.1,hm.1,hm.2.1⟩
  ·cases K:φ (N0+F.n) with
   | gone d=>rw [K] at hm;exact⟨hm.2.2.2.2.1,hm.1,hm.2.1⟩
   | ph p=>rw [K] at e;exact e.elim
 have hw:=h.work k V;cases K:φ (N0+k) with
 | gone d=>trivial
 | ph p=>
  have ah:1≤cU (φ (N0+k))+cL (φ (N0+k))+cS (φ (N0+k)):=by
   rw [K] at hw ⊢;cases p <;> simp only [HT] at hw <;> simp [cU,cL,cS]
  exfalso;omega
end
open Go.ConcN (RelBy)
def Ez:Nx→Nat
 | .gone d=>d
 | .ph .Ha | .ph .Gt | .ph .GF | .ph .EP=>1
 | .ph (.FV _) | .ph (.Hb _) | .ph .HC | .ph .Hd | .ph .DL | .ph .GG | .ph .FG=>1
 | .ph (.Hy _) | .ph (.Hc _) | .ph (.GK _) | .ph (.Gg _)=>1
 | _=>0
def late:Nx→Prop
 | .ph (.CC _) | .ph .Df | .ph .Gv=>False
 | _=>True
def I7(F:Fam)(N0 t0:Nat)(t:Trace)(q:Nat):Prop:=
 t.act? q=some (.mark (.acquire F.sA))∧t.g? q=some (N0+F.n)∧t.heard q∧∀k,k<F.n→∃ρ,t0≤ρ∧ρ<q∧RelBy F.sA t (N0+k) ρ
def Lx(F:Fam)(N0 t0:Nat)(t:Trace)(p:Nat):Prop:=
 t.act? p=some (.close F.ch)∧t.g? p=some (N0+F.n)∧t.heard p∧(∃q,q<p∧I7 F N0 t0 t q)∧∀x,p<x→t.g? x=some (N0+F.n)→¬t.counts x
structure Ee (F:Fam) (N0 t0 N j:Nat) (c:Bool) (φ:Nat→Nx) (t:Trace):Prop where
 deaf:∀i,i<N→Deaf t i=Ez (φ i)
 above:∀i,N≤i→Deaf t i=0
 plain:∀x a b,touchAt t x=some a→D2 a.loc=some b→(b=F.wg∨b=F.ch)→a.kind= .plain→∀i,i<N→(i=0∨N0≤i)→Knows t i x
 said:∀x a b,touchAt t x=some a→D2 a.loc=some b→(b=F.wg∨b=F.ch)→a.kind= .said→Knows t (if c=true then N0+F.n else 0) x
 over:∀x g,t.g? x=some g→g≠0→t.counts x→(∃y,t.g? y=some 0∧HappensBefore t x y)∨(N0≤g∧g<N)
 norel:∀x,t0≤x→t.act? x≠some (.mark (.release F.sA))
 Ly:t0≤t.size
 rel:∀k,k<j→late (φ (N0+k))→∃ρ,t0≤ρ∧RelBy F.sA t (N0+k) ρ
 acq:c=true→(φ (N0+F.n)= .ph .D3∨Fh (φ (N0+F.n)))→∃q,I7 F N0 t0 t q
 Kb:c=true→Fh (φ (N0+F.n))→∃p,Lx F N0 t0 t p
section
variable {F:Fam}{N0 t0 N j:Nat}{c:Bool}{φ:Nat→Nx}{t u:Trace}
def EvS(F:Fam)(K:Prop)(e:Event):Prop:=
 (∀a,(MemAct.ofEvent e).touch? =some a→(∃b,D2 a.loc=some b∧(b=F.wg∨b=F.ch))∧a.kind≠ .plain∧(a.kind= .said→K))∧e.loc≠ .mark (.release F.sA)
theorem Ee.noRace(h:Ee F N0 t0 N j c φ t)(W:∀said,¬Race said t){i:Nat}(hi:i<N)(Z:i=0∨N0≤i){fn:FuncId}{pos:String}{es:Array Event}
  (aa:∀e∈es,EvS F (i=if c=true then N0+F.n else 0) e):∀said,¬Race said (t++MemOp.ofEvents i fn pos es):=by
 intro said;refine noRace_append (g:=i) (W said) (fun op K=>by obtain⟨e,_,rfl⟩:=mem_ofEvents K;rfl) fun x a O op K d hd ab=>?_;obtain⟨e,he,rfl⟩:=mem_ofEvents K;obtain⟨⟨b,hb,U⟩,ae,hs⟩:=(aa e he).1 d hd;obtain⟨ag,hm,aj,ah⟩:=ab;have V:D2 a.loc=some b:=by rw [ag];exact hb
 rcases ah with q | q | ⟨_,q,ai⟩
 ·exact h.plain x a b O V U q i hi Z
 ·exact absurd q ae
 ·have:=h.said x a b O V U q
  rwa [← hs ai] at this
theorem I7.app{q:Nat}(h:I7 F N0 t0 t q)(V:∀k ρ,k<F.n→RelBy F.sA t (N0+k) ρ→RelBy F.sA (t++u) (N0+k) ρ):I7 F N0 t0 (t++u) q:=by
 obtain⟨O,W,Z,aa⟩:=h;have K:=lt_of_act? O;exact⟨by rw [act?_old K];exact O,by rw [g?_old K];exact W,(heard_old K).2 Z,fun k U=>let ⟨ρ,a,b,d⟩:=aa k U;⟨ρ,a,b,V k ρ U d⟩⟩
theorem Lx.app{p:Nat}(h:Lx F N0 t0 t p)(V:∀k ρ,k<F.n→RelBy F.sA t (N0+k) ρ→RelBy F.sA (t++u) (N0+k) ρ)(W:∀x,t.size≤x→(t++u).g? x=some (N0+F.n)→¬(t++u).counts x):Lx F N0 t0 (t++u) p:=by
 obtain⟨O,Z,aa,⟨q,ab,ae⟩,ag⟩:=h;have K:=lt_of_act? O;refine⟨by rw [act?_old K];exact O,by rw [g?_old K];exact Z,(heard_old K).2 aa,⟨q,ab,ae.app V⟩,fun x ah hg U=>?_⟩;rcases Nat.lt_or_ge x t.size with q | q
 ·exact ag x ah (by rw [← g?_old (u:=u) q];exact hg) ((counts_old q).1 U)
 ·exact W x q hg U
theorem Q1(h:∀x g,t.g? x=some g→g≠0→t.counts x→(∃y,t.g? y=some 0∧HappensBefore t x y)∨(N0≤g∧g<N))(hu:∀op∈u,op.g=0∨(N0≤op.g∧op.g<N)∨op.act.touch? =none):
  ∀x g,(t++u).g? x=some g→g≠0→(t++u).counts x→(∃y,(t++u).g? y=some 0∧HappensBefore (t++u) x y)∨(N0≤g∧g<N):=by
 intro x g hg O U;rcases Nat.lt_or_ge x t.size with q | q
 ·rcases h x g (by rw [← g?_old (u:=u) q];exact hg) O ((counts_old q).1 U) with⟨y,K,hb⟩ | hh
  ·have aa:y<t.size:=by
    unfold Trace.g? at K;obtain⟨z,ab,_⟩:=Option.map_eq_some_iff.1 K;exact lt_size_of_getElem? ab
   exact .inl ⟨y,by rw [g?_old aa];exact K,hb_app u hb⟩
  ·exact .inr hh
 ·obtain⟨a,ae,_⟩:=U;obtain⟨op,V,W⟩:=touch_of ae;have Z:op.g=g:=by simpa [Trace.g?,V] using hg
  rcases getElem?_append_cases V with⟨ah,_⟩ | ⟨_,ag⟩
  ·omega
  ·rcases hu op ag with z | z | z
   ·exact absurd (Z▸z) O
   ·exact .inr (Z▸z)
   ·rw [z] at W;cases W
theorem P5(h:∀x,t0≤x→t.act? x≠some (.mark (.release F.sA)))(hu:∀op∈u,op.act≠ .mark (.release F.sA)):∀x,t0≤x→(t++u).act? x≠some (.mark (.release F.sA)):=by
 intro x O e;obtain⟨op,U,K⟩:=Option.map_eq_some_iff.1 e;rcases getElem?_append_cases U with⟨_,V⟩ | ⟨_,W⟩
 ·exact h x O (by rw [act?_of V,K])
 ·exact hu op W K
theorem Th{i g:Nat}(hu:∀op∈u,op.g=i)(K:i≠g):∀x,t.size≤x→(t++u).g? x=some g→¬(t++u).counts x:=by
 intro x W hg;obtain⟨op,O,U⟩:=Option.map_eq_some_iff.1 hg;rcases getElem?_append_cases O with⟨Z,_⟩ | ⟨_,V⟩
 ·omega
 ·exact absurd ((hu op V).symm.trans U) K
theorem Pu{g:Nat}(hu:∀op∈u,op.g=g→op.act.touch? =none):∀x,t.size≤x→(t++u).g? x=some g→¬(t++u).counts x:=by
 intro x Z hg U;obtain⟨a,V,_⟩:=U;obtain⟨op,K,O⟩:=touch_of V;rcases getElem?_append_cases K with⟨aa,_⟩ | ⟨_,W⟩
 ·omega
 ·rw [hu op W (by simpa [Trace.g?,K] using hg)] at O;cases O
theorem Ee.app(h:Ee F N0 t0 N j c φ t){i:Nat}(hi:i<N){x:Nx}{fn:FuncId}{pos:String}{es:Array Event}(aF:j≤F.n)
  (hd:deafBehind (Ez (φ i)) es=Ez x)
  (al:∀e∈es,(∀a b,(MemAct.ofEvent e).touch? =some a→D2 a.loc=some b→(b=F.wg∨b=F.ch)→a.kind≠ .plain∧(a.kind= .said→i=if c=true then N0+F.n else 0))∧e.loc≠ .mark (.release F.sA))
  (av:(i=0∨N0≤i)∨∀e∈es,(MemAct.ofEvent e).touch? =none)
  (am:c=true→(φ (N0+F.n)= .ph .D3∨Fh (φ (N0+F.n)))→∀k,k<F.n→late (φ (N0+k)))
  (aw:∀k,k<F.n→i=N0+k→late (φ i)→∀ρ,RelBy F.sA t i ρ→RelBy F.sA (t++MemOp.ofEvents i fn pos es) i ρ)
  (ay:∀k,k<j→i=N0+k→late x→¬late (φ i)→∃ρ,t0≤ρ∧RelBy F.sA (t++MemOp.ofEvents i fn pos es) i ρ)
  (az:c=true→i=N0+F.n→(x= .ph .D3∨Fh x)→(∃q,I7 F N0 t0 (t++MemOp.ofEvents i fn pos es) q)∨(φ i= .ph .D3∨Fh (φ i)))
  (aA:c=true→i=N0+F.n→Fh x→(∃p,Lx F N0 t0 (t++MemOp.ofEvents i fn pos es) p)∨(Fh (φ i)∧∀e∈es,(MemAct.ofEvent e).touch? =none)):
  Ee F N0 t0 N j c (upd φ i x) (t++MemOp.ofEvents i fn pos es):=by
 generalize hu:MemOp.ofEvents i fn pos es=u at*;have Z:∀op∈u,op.g=i:=fun op O=>by rw [← hu] at O;obtain⟨e,_,rfl⟩:=mem_ofEvents O;rfl
 have aj:∀op∈u,∃e∈es,op.act=MemAct.ofEvent e:=fun op O=>by rw [← hu] at O;obtain⟨e,he,rfl⟩:=mem_ofEvents O;exact⟨e,he,rfl⟩
 have hold:∀{y a},touchAt (t++u) y=some a→touchAt t y=some a∨(Knows (t++u) i y∧∃e∈es,(MemAct.ofEvent e).touch? =some a):=by
  intro y a U;obtain⟨op,O,ar⟩:=touch_of U;rcases getElem?_append_cases O with⟨aG,aB⟩ | ⟨_,au⟩
  ·left;rw [touchAt_of aB];exact ar
  ·right;obtain⟨e,he,aa⟩:=aj op au;exact⟨by have:=knows_own O;rwa [Z op au] at this,e,he,by rw [← aa];exact ar⟩
 have ak:∀k ρ,k<F.n→late (φ (N0+k))→RelBy F.sA t (N0+k) ρ→RelBy F.sA (t++u) (N0+k) ρ:=by
  intro k ρ K ae W;by_cases e:i=N0+k
  ·have:=aw k K e (e▸ae) ρ (e▸W)
   rwa [e] at this
  ·exact W.appOther Z e
 refine⟨fun ab ag=>?_,fun ab ag=>?_,fun y a b an hb ah K ab ag ai=>?_,fun y a b an hb ah K=>?_,Q1 h.over fun op O=>?_,P5 h.norel fun op O e=>?_,by simp;have:=h.Ly;omega,fun k K ae=>?_,fun V U=>?_,fun V U=>?_⟩
 ·by_cases e:ab=i
  ·subst e;rw [upd_same,← hu,Deaf_own,h.deaf ab hi,hd]
  ·rw [upd_ne _ _ e,Deaf_other t (Ne.symm e) u Z];exact h.deaf ab ag
 ·rw [Deaf_other t (by omega) u Z];exact h.above ab ag
 ·rcases hold an with q | ⟨_,e,he,ao⟩
  ·exact(h.plain y a b q hb ah K ab ag ai).app _
  ·exact absurd K ((al e he).1 a b ao hb ah).1
 ·rcases hold an with q | ⟨aC,e,he,ao⟩
  ·exact(h.said y a b q hb ah K).app _
  ·rw [← ((al e he).1 a b ao hb ah).2 K];exact aC
 ·rw [Z op O];rcases av with(q | q) | q
  ·exact .inl q
  ·exact .inr (.inl ⟨q,hi⟩)
  ·obtain⟨e,he,aa⟩:=aj op O;rw [aa];exact .inr (.inr (q e he))
 ·obtain⟨ev,ap,aa⟩:=aj op O;rw [aa] at e;exact(al ev ap).2 (by
   obtain⟨loc,wr,aD⟩:=ev
   cases loc with
   | mark m=>simp only [MemAct.ofEvent,MemAct.mark.injEq] at e;rw [e]
   | obj r=>cases wr <;> cases aD <;> simp [MemAct.ofEvent] at e
   | _=>simp [MemAct.ofEvent] at e)
 ·by_cases e:i=N0+k
  ·subst e;rw [upd_same] at ae;by_cases aq:late (φ (N0+k))
   ·obtain⟨ρ,a,b⟩:=h.rel k K aq;exact⟨ρ,a,ak k ρ (by omega) aq b⟩
   ·exact ay k K rfl ae aq
  ·rw [upd_ne _ _ (Ne.symm e)] at ae;obtain⟨ρ,a,b⟩:=h.rel k K ae;exact⟨ρ,a,b.appOther Z e⟩
 ·have old:(φ (N0+F.n)= .ph .D3∨Fh (φ (N0+F.n)))→∃q,I7 F N0 t0 (t++u) q:=by
   intro U;obtain⟨q,aE⟩:=h.acq V U;exact⟨q,aE.app fun k ρ K W=>ak k ρ K (am V U k K) W⟩
  by_cases e:i=N0+F.n
  ·subst e;rw [upd_same] at U;rcases az V rfl U with q | q
   ·exact q
   ·exact old q
  ·rw [upd_ne _ _ (Ne.symm e)] at U;exact old U
 ·by_cases e:i=N0+F.n
  ·subst e;rw [upd_same] at U;rcases aA V rfl U with q | ⟨q,hm⟩
   ·exact q
   ·obtain⟨p,ai⟩:=h.Kb V q;exact⟨p,ai.app (fun k ρ K W=>ak k ρ K (am V (.inr q) k K) W) (Pu fun op O _=>by obtain⟨ev,ap,aa⟩:=aj op O;rw [aa];exact hm ev ap)⟩
  ·rw [upd_ne _ _ (Ne.symm e)] at U;obtain⟨p,ai⟩:=h.Kb V U;exact⟨p,ai.app (fun k ρ K W=>ak k ρ K (am V (.inr U) k K) W) (Th Z e)⟩
end
end Pal
namespace Pal
open Go Go.Conc
open Go.ConcN (upd upd_same upd_ne sumTo sumTo_upd sumTo_upd_out sumTo_congr le_sumTo sumTo_le fork_knows RelBy)
section
variable {F:Fam}{N0 t0 N j:Nat}{c:Bool}{φ:Nat→Nx}{t u:Trace}{v wt sm v' wt' sm':Nat}{cl:Bool}
theorem Py{x:Nx}(h:Fh x):late x:=by
 cases x with
 | gone d=>trivial
 | ph p=>exact h.elim
theorem Og{α:Type}(f:Nat→α)(i:Nat):upd f i (f i)=f:=by
 funext a;unfold upd;split
 ·rename_i e;rw [e]
 ·rfl
theorem Cj.Mp(K:Cj F N0 N j c φ v wt sm cl)(O:c=true)(h:φ (N0+F.n)= .ph .D3∨Fh (φ (N0+F.n))):∀k,k<F.n→late (φ (N0+k)):=fun k U=>
 Py (K.OE O (h.elim (fun e=> .inr (.inr (.inr (.inl e)))) fun e=> .inr (.inr (.inr (.inr e)))) k (by rw [K.cj O];exact U))
theorem Ui{m:Mark}(K:∀a,m≠ .read a)(O:∀a,m≠ .write a):(MemAct.ofEvent (Fam.EH m)).touch? =none:=by
 cases m <;> first | rfl | exact absurd rfl (K _) | exact absurd rfl (O _)
theorem R9(p:Ph){es:Array Event}{nx:Nx}(K:F.act p v wt sm=some ((v',wt',sm'),es,nx)):
  (∀e∈es,EvS F (p= .Hd∨∃j,p= .GK j) e)∧deafBehind (Ez (.ph p)) es=Ez nx∧(∀e∈es,∀B,F.wg<B→(MemAct.ofEvent e).low B):=by
 have am:∀b w,(MemAct.ofEvent ⟨.cell F.sA,w,b⟩).touch? =some ⟨.cell F.sA,w,if b then .atomic else .plain⟩:=by intro b w;cases b <;> cases w <;> rfl
 have aa:∀(a:Addr) w (T:Prop),a.block=F.wg→EvS F T ⟨.cell a,w,true⟩:=by
  intro a w T hb;refine⟨fun x U=>?_,by simp⟩;have:x=⟨.cell a,w,.atomic⟩:=by cases w <;> (simp [MemAct.ofEvent,MemAct.touch?] at U;exact U.symm)
  subst this;exact⟨⟨F.wg,by simp [D2,hb],.inl rfl⟩,by simp,by simp⟩
 have ab:∀(a:Addr) w B,a.block=F.wg→F.wg<B→(MemAct.ofEvent ⟨.cell a,w,true⟩).low B:=by
  intro a w B hb O;cases w <;> simp [MemAct.ofEvent,MemAct.low,Loc.low,hb,O]
 have Z:∀(m:Mark) (T:Prop),(∀a,m≠ .read a)→(∀a,m≠ .write a)→(∀a,m≠ .release a)→EvS F T (Fam.EH m):=by
  intro m T aj ak al;exact⟨fun x U=>(by rw [Ui aj ak] at U;cases U),fun e=>al _ (Loc.mark.inj e)⟩
 have ae:F.mA.block=F.wg:=rfl;have W:F.sA.block=F.wg:=rfl;have ES:∀(T:Prop),∀e∈semEvents F.mA,EvS F T e:=by
  intro T e he;simp only [semEvents,List.mem_toArray,List.mem_cons,List.not_mem_nil,or_false] at he;rcases he with rfl | rfl | rfl | rfl
  ·exact Z .disable T (by simp) (by simp) (by simp)
  ·exact aa _ _ _ ae
  ·exact aa _ _ _ ae
  ·exact Z .enable T (by simp) (by simp) (by simp)
 have ai:∀e∈semEvents F.mA,∀B,F.wg<B→(MemAct.ofEvent e).low B:=by
  intro e he B O;simp only [semEvents,List.mem_toArray,List.mem_cons,List.not_mem_nil,or_false] at he;rcases he with rfl | rfl | rfl | rfl
  ·trivial
  ·exact ab _ _ _ ae O
  ·exact ab _ _ _ ae O
  ·trivial
 have ag:∀(T:Prop),∀e∈(#[Fam.Fs F.sA,Fam.IJ F.sA]:Array Event),EvS F T e:=by
  intro T e he;simp only [List.mem_toArray,List.mem_cons,List.not_mem_nil,or_false] at he;rcases he with rfl | rfl <;> exact aa _ _ _ W
 have ah:∀e∈(#[Fam.Fs F.sA,Fam.IJ F.sA]:Array Event),∀B,F.wg<B→(MemAct.ofEvent e).low B:=by
  intro e he B O;simp only [List.mem_toArray,List.mem_cons,List.not_mem_nil,or_false] at he;rcases he with rfl | rfl <;> exact ab _ _ _ W O
 have one:∀{e:Event} {T:Prop},EvS F T e→∀x∈(#[e]:Array Event),EvS F T x:=by
  intro e T h x U;simp at U;subst U;exact h
 have V:∀{e:Event},(∀B,F.wg<B→(MemAct.ofEvent e).low B)→∀x∈(#[e]:Array Event),∀B,F.wg<B→(MemAct.ofEvent x).low B:=by
  intro e h x U;simp at U;subst U;exact h
 cases p <;> simp only [Fam.act] at K <;> (try (cases K;done))
 ·cases K;exact⟨one (Z _ _ (by simp) (by simp) (by simp)),rfl,V fun B O=>O⟩
 ·cases K;exact⟨one (Z _ _ (by simp) (by simp) (by simp)),rfl,V fun B O=>trivial⟩
 ·split at K
  ·cases K;exact⟨ag _,by split <;> rfl,ah⟩
  ·cases K
 ·split at K
  ·cases K;exact⟨one (aa _ _ _ W),rfl,V fun B O=>ab _ _ _ W O⟩
  ·cases K
 ·split at K
  ·cases K;exact⟨one (aa _ _ _ W),rfl,V fun B O=>ab _ _ _ W O⟩
  ·cases K
 ·split at K
  ·cases K;exact⟨ES _,rfl,ai⟩
  ·cases K
 ·cases K;exact⟨one (Z _ _ (by simp) (by simp) (by simp)),rfl,V fun B O=>trivial⟩
 ·split at K
  ·cases K;exact⟨one (aa _ _ _ W),by split <;> rfl,V fun B O=>ab _ _ _ W O⟩
  ·cases K
 ·split at K
  ·split at K
   ·cases K;exact⟨ag _,rfl,ah⟩
   ·cases K;exact⟨one (aa _ _ _ W),rfl,V fun B O=>ab _ _ _ W O⟩
  ·cases K
 ·cases K;refine⟨one ⟨fun x U=>?_,by simp [Fam.EH]⟩,rfl,V fun B O=>O⟩;simp [Fam.EH,MemAct.ofEvent,MemAct.touch?] at U;subst U;exact⟨⟨F.wg,rfl,.inl rfl⟩,by simp,fun _=> .inl rfl⟩
 ·split at K
  ·cases K;exact⟨ES _,rfl,ai⟩
  ·cases K
 ·split at K
  ·cases K;exact⟨one (aa _ _ _ W),rfl,V fun B O=>ab _ _ _ W O⟩
  ·cases K
 ·cases K;exact⟨one (Z _ _ (by simp) (by simp) (by simp)),rfl,V fun B O=>trivial⟩
 ·cases K;exact⟨one (Z _ _ (by simp) (by simp) (by simp)),rfl,V fun B O=>O⟩
 ·cases K;exact⟨one (Z _ _ (by simp) (by simp) (by simp)),rfl,V fun B O=>trivial⟩
 ·split at K
  ·cases K;exact⟨ag _,by split <;> rfl,ah⟩
  ·cases K
 ·cases K;refine⟨one ⟨fun x U=>?_,by simp [Fam.EH]⟩,rfl,V fun B O=>O⟩;simp [Fam.EH,MemAct.ofEvent,MemAct.touch?] at U;subst U;exact⟨⟨F.wg,rfl,.inl rfl⟩,by simp,fun _=> .inr ⟨_,rfl⟩⟩
 ·cases K;exact⟨one (Z _ _ (by simp) (by simp) (by simp)),rfl,V fun B O=>trivial⟩
 all_goals
  cases K;exact⟨by simp,rfl,by simp⟩
theorem VK(p:Ph){es:Array Event}{nx:Nx}(K:F.act p v wt sm=some ((v',wt',sm'),es,nx)){k:Nat}(hw:HT F k (.ph p))(O:late (.ph p)):
  ∀m e,es[m]? =some e→(MemAct.ofEvent e).touch? =none∨((∃ad wr,e=⟨.cell ad,wr,true⟩)∧0<deafBehind (Ez (.ph p)) (es.extract 0 m)):=by
 have two:∀m e,(#[Fam.Fs F.sA,Fam.IJ F.sA]:Array Event)[m]? =some e→(∃ad wr,e=⟨.cell ad,wr,true⟩)∧0<deafBehind 1 ((#[Fam.Fs F.sA,Fam.IJ F.sA]:Array Event).extract 0 m):=by
  intro m e h
  match m with
  | 0=>simp at h;subst h;exact⟨⟨_,_,rfl⟩,by simp [deafBehind]⟩
  | 1=>simp at h;subst h;exact⟨⟨_,_,rfl⟩,by simp [deafBehind,Fam.Fs]⟩
  | m+2=>simp at h
 cases p <;> simp only [HT] at hw <;> (try exact hw.elim) <;> simp only [late] at O <;> (try exact O.elim) <;> simp only [Fam.act] at K <;> (try (cases K;done))
 ·cases K;intro m e h
  match m with
  | 0=>simp at h;subst h;exact .inl rfl
  | m+1=>simp at h
 ·split at K
  ·cases K;exact fun m e h=> .inr (two m e h)
  ·cases K
 ·split at K
  ·cases K;intro m e h
   match m with
   | 0=>simp at h;subst h;exact .inr ⟨⟨_,_,rfl⟩,by simp [deafBehind,Ez]⟩
   | m+1=>simp at h
  ·cases K
 ·split at K
  ·cases K;intro m e h
   match m with
   | 0=>simp at h;subst h;exact .inr ⟨⟨_,_,rfl⟩,by simp [deafBehind,Ez]⟩
   | m+1=>simp at h
  ·cases K
 ·split at K
  ·cases K;intro m e h
   match m with
   | 0=>simp [semEvents] at h;subst h;exact .inl rfl
   | 1=>simp [semEvents] at h;subst h;exact .inr ⟨⟨_,_,rfl⟩,by simp [deafBehind,Ez,semEvents]⟩
   | 2=>simp [semEvents] at h;subst h;exact .inr ⟨⟨_,_,rfl⟩,by simp [deafBehind,Ez,semEvents]⟩
   | 3=>simp [semEvents] at h;subst h;exact .inl rfl
   | m+4=>simp [semEvents] at h
  ·cases K
theorem Ee.act(h:Ee F N0 t0 N j c φ t)(O:Cj F N0 N j c φ v wt sm cl){i:Nat}(hi:i<N){p:Ph}(U:φ i= .ph p){es:Array Event}{nx:Nx}(K:F.act p v wt sm=some ((v',wt',sm'),es,nx))(fn:FuncId)(pos:String):
  Ee F N0 t0 N j c (upd φ i nx) (t++MemOp.ofEvents i fn pos es)∧(∀e∈es,EvS F (i=if c=true then N0+F.n else 0) e)∧(i=0∨N0≤i):=by
 obtain⟨ah,al,_⟩:=R9 p K;have aw:=O.size;have am:=O.jn;have an:(p= .Hd∨∃j,p= .GK j)→i=if c=true then N0+F.n else 0:=by
  rintro(rfl | ⟨ay,rfl⟩)
  ·rcases O.FH hi with rfl | ⟨a,b⟩ | ⟨k,W,rfl⟩ | ⟨V,rfl⟩
   ·obtain⟨q,ab,hm⟩:=O.main;rw [U] at ab;cases ab;exact hm.elim
   ·have:=O.old i a b;rw [U] at this;exact this.elim
   ·have:=O.work k W;rw [U] at this;exact this.elim
   ·rw [if_pos V]
  ·rcases O.FH hi with rfl | ⟨a,b⟩ | ⟨k,W,rfl⟩ | ⟨V,rfl⟩
   ·obtain⟨q,ab,hm⟩:=O.main;rw [U] at ab;cases ab;obtain⟨_,_,rfl⟩:=hm;rfl
   ·have:=O.old i a b;rw [U] at this;exact this.elim
   ·have:=O.work k W;rw [U] at this;exact this.elim
   ·have:=O.cls V;rw [U] at this;exact this.elim
 have ai:∀e∈es,EvS F (i=if c=true then N0+F.n else 0) e:=fun e he=>⟨fun a ae=>let ⟨x,y,z⟩:=(ah e he).1 a ae;⟨x,y,fun q=>an (z q)⟩,(ah e he).2⟩
 have aj:i=0∨N0≤i:=by
  rcases O.FH hi with rfl | ⟨a,b⟩ | ⟨k,W,rfl⟩ | ⟨V,rfl⟩
  ·exact .inl rfl
  ·have:=O.old i a b;rw [U] at this;exact this.elim
  ·exact .inr (by omega)
  ·exact .inr (by omega)
 refine⟨h.app hi am (by rw [U];exact al) (fun e he=>⟨fun a b ae hb az=>⟨((ai e he).1 a ae).2.1,((ai e he).1 a ae).2.2⟩,(ah e he).2⟩) (.inl aj) (fun V Z=>O.Mp V Z) (fun k W e ag ρ ao=>?_) (fun k W e ag ak=>?_) (fun V e Z=>?_) (fun V e Z=>?_),ai,aj⟩
 ·subst e;rw [U] at ag;refine ao.appOwn fn pos es fun m e he=>?_;have aa:k<j∨(c=true∧F.n=k):=by
   rcases O.FH hi with q | ⟨a,b⟩ | ⟨k',aA,q⟩ | ⟨V,q⟩
   ·have:=O.pos;omega
   ·omega
   ·left;omega
   ·omega
  rcases aa with aa | ⟨_,q⟩
  ·have hw:=O.work k aa;rw [U] at hw;rw [h.deaf _ hi,U];exact VK p K hw ag m e he
  ·omega
 ·subst e;rw [U] at ak;have hw:=O.work k W;rw [U] at hw;have ap:p= .Gv:=by
   cases p <;> simp only [HT] at hw <;> (try exact hw.elim) <;> simp [late] at ak
   ·simp [Fam.act] at K
   ·rfl
   ·simp only [Fam.act] at K;cases K;exact ag.elim
  subst ap;simp only [Fam.act] at K;cases K;exact⟨t.size,h.Ly,.new (by rw [h.deaf _ hi,U];rfl) fn pos⟩
 ·subst e;left;have hw:=O.cls V;rw [U] at hw;have aq:p= .GL∧nx= .ph .D3:=by
   rcases Z with rfl | Z
   ·cases p <;> simp only [Hs] at hw <;> (try exact hw.elim) <;> simp only [Fam.act] at K <;> (try (cases K;done))
    ·split at K
     ·split at K <;> cases K
     ·cases K
    ·split at K
     ·split at K <;> cases K
     ·cases K
    ·split at K <;> cases K
    ·split at K <;> cases K
    ·exact⟨rfl,rfl⟩
   ·cases nx with
    | ph q=>exact Z.elim
    | gone d=>
     exfalso;cases p <;> simp only [Hs] at hw <;> (try exact hw.elim) <;> simp only [Fam.act] at K <;> (try (cases K;done))
     ·split at K
      ·split at K <;> cases K
      ·cases K
     ·split at K
      ·split at K <;> cases K
      ·cases K
     ·split at K <;> cases K
     ·split at K <;> cases K
  obtain⟨rfl,rfl⟩:=aq;simp only [Fam.act] at K;cases K;have ar:MemOp.ofEvents (N0+F.n) fn pos #[Fam.EH (.acquire F.sA)]= #[{g:=N0+F.n,fn,pos,act:= .mark (.acquire F.sA)}]:=by rw [ofEvents_eq];simp [Fam.EH,MemAct.ofEvent]
  rw [ar];have au:(t++ #[({g:=N0+F.n,fn,pos,act:= .mark (.acquire F.sA)}:MemOp)])[t.size]? =some {g:=N0+F.n,fn,pos,act:= .mark (.acquire F.sA)}:=by simp
  refine⟨t.size,by rw [act?_of au],by simp [Trace.g?],⟨N0+F.n,by simp [Trace.g?],by rw [deaf_old (Nat.le_refl _)];have:=h.deaf _ hi;rw [U] at this;exact this⟩,fun k W=>?_⟩;have av:=O.OE V (.inr (.inr (.inl U)));have aa:k<j:=by rw [O.cj V];exact W
  obtain⟨ρ,a,b⟩:=h.rel k aa (Py (av k aa));exact⟨ρ,a,lt_of_act? b.act,b.appOther (g:=N0+F.n) (by simp) (by omega)⟩
 ·subst e;exfalso;have hw:=O.cls V;rw [U] at hw;cases nx with
  | ph q=>exact Z.elim
  | gone d=>
   cases p <;> simp only [Hs] at hw <;> (try exact hw.elim) <;> simp only [Fam.act] at K <;> (try (cases K;done))
   ·split at K
    ·split at K <;> cases K
    ·cases K
   ·split at K
    ·split at K <;> cases K
    ·cases K
   ·split at K <;> cases K
   ·split at K <;> cases K
theorem Ee.Dw(h:Ee F N0 t0 N j c φ t)(ap:Cj F N0 N j c φ v wt sm cl)(hu:∀op∈u,op.act.touch? =none∧∀m,op.act≠ .mark m):Ee F N0 t0 N j c φ (t++u):=by
 have ah:∀g,Deaf (t++u) g=Deaf t g:=by
  intro g;obtain⟨l⟩:=u;rw [Deaf_append]
  induction l generalizing t with
  | nil=>rfl
  | cons y l aq=>
   have U:=(hu y (by simp)).2;have aj:deafStep g (Deaf t g) y=Deaf t g:=by
    unfold deafStep;split <;> first | (rename_i e;exact absurd e (U _)) | rfl
   rw [List.foldl_cons,aj];have key:∀(l:List MemOp) (d:Nat),(∀op∈l,∀m,op.act≠ .mark m)→l.foldl (deafStep g) d=d:=by
    intro l
    induction l with
    | nil=>intro d _;rfl
    | cons z l ak=>
     intro d Z;have al:=Z z (by simp);have e2:deafStep g d z=d:=by
      unfold deafStep;split <;> first | (rename_i e;exact absurd e (al _)) | rfl
     rw [List.foldl_cons,e2];exact ak d fun op K=>Z op (by simp [K])
   exact key l _ fun op K=>(hu op (by simp at K ⊢;exact .inr K)).2
 have hold:∀{y a},touchAt (t++u) y=some a→touchAt t y=some a:=by
  intro y a O;obtain⟨op,K,aa⟩:=touch_of O;rcases getElem?_append_cases K with⟨ar,am⟩ | ⟨_,an⟩
  ·rw [touchAt_of am];exact aa
  ·rw [(hu op an).1] at aa;cases aa
 have ai:∀g x,t.size≤x→(t++u).g? x=some g→¬(t++u).counts x:=fun g=>Pu fun op K _=>(hu op K).1;have V:∀g ρ,RelBy F.sA t g ρ→RelBy F.sA (t++u) g ρ:=fun g ρ V=>V.app fun x O hg=>ai g x O hg;refine⟨fun i hi=>by rw [ah];exact h.deaf i hi,fun i hi=>by rw [ah];exact h.above i hi,fun y a b U hb ab W i hi ae=>(h.plain y a b (hold U) hb ab W i hi ae).app _,fun y a b U hb ab W=>(h.said y a b (hold U) hb ab W).app _,
  Q1 h.over fun op K=> .inr (.inr (hu op K).1),P5 h.norel fun op K=>(hu op K).2 _,by simp;have:=h.Ly;omega,fun k W Z=>let ⟨ρ,a,b⟩:=h.rel k W Z;⟨ρ,a,V _ _ b⟩,
  fun ag O=>let ⟨q,ao⟩:=h.acq ag O;⟨q,ao.app fun k ρ _=>V _ ρ⟩,fun ag O=>let ⟨p,ae⟩:=h.Kb ag O;⟨p,ae.app (fun k ρ _=>V _ ρ) (ai _)⟩⟩
theorem Ee.W5(h:Ee F N0 t0 N j c φ t){U:Nat→Nx}(hd:∀i,i<N→Ez (U i)=Ez (φ i))(Z:∀k,k<j→late (U (N0+k))→late (φ (N0+k)))(V:c=true→U (N0+F.n)=φ (N0+F.n)):Ee F N0 t0 N j c U t:=
 ⟨fun i hi=>by rw [hd i hi];exact h.deaf i hi,h.above,h.plain,h.said,h.over,h.norel,h.Ly,fun k W K=>h.rel k W (Z k W K),fun O K=>h.acq O (by rwa [V O] at K),fun O K=>h.Kb O (by rwa [V O] at K)⟩
theorem Ee.spawn(h:Ee F N0 t0 N j c φ t)(aa:Cj F N0 N j c φ v wt sm cl)(am:c=false){W:Nat→Nx}{ag:Nat}{ah:Bool}(hd:∀i,i<N→Ez (W i)=Ez (φ i))(an:Ez (W N)=0)(ao:Ez (φ 0)=0)
  (ap:∀k,k<ag→late (W (N0+k))→k<j∧late (φ (N0+k))) (ab:ah=true→N0+F.n=N∧W (N0+F.n)= .ph .Dh)
  {x y:MemOp} (K:x.g=0∧x.act= .go N) (ai:y.g=N∧y.act= .start):Ee F N0 t0 (N+1) ag ah W (t++ #[x,y]):=by
 have aj:0<N:=by have:=aa.size;have:=aa.pos;omega
 have hu:∀op∈(#[x,y]:Array MemOp),op.act.touch? =none∧∀m,op.act≠ .mark m:=by
  intro op ak;simp only [List.mem_toArray,List.mem_cons,List.not_mem_nil,or_false] at ak;rcases ak with rfl | rfl
  ·rw [K.2];exact⟨rfl,by simp⟩
  ·rw [ai.2];exact⟨rfl,by simp⟩
 have O:=h.Dw aa hu;have al:∀z,Knows t 0 z→Knows (t++ #[x,y]) N z:=fun z U=>fork_knows K ai (by rw [h.deaf 0 aj];exact ao) (h.above N (Nat.le_refl _)) U;have hold:∀{z a},touchAt (t++ #[x,y]) z=some a→touchAt t z=some a:=by
  intro z a U;obtain⟨op,aq,ae⟩:=touch_of U;rcases getElem?_append_cases aq with⟨az,ar⟩ | ⟨_,au⟩
  ·rw [touchAt_of ar];exact ae
  ·rw [(hu op au).1] at ae;cases ae
 refine⟨fun i hi=>?_,fun i hi=>O.above i (by omega),fun z a b U hb Z V i hi av=>?_,fun z a b U hb Z V=>?_,fun z g hg aw ay=>?_,O.norel,O.Ly,fun k V K=>?_,fun e K=>?_,fun e K=>?_⟩
 ·rcases Nat.lt_or_ge i N with q | q
  ·rw [hd i q];exact O.deaf i q
  ·obtain rfl:i=N:=by omega
   rw [an];exact O.above i (Nat.le_refl _)
 ·rcases Nat.lt_or_ge i N with q | q
  ·exact O.plain z a b U hb Z V i q av
  ·obtain rfl:i=N:=by omega
   exact al z (h.plain z a b (hold U) hb Z V 0 aj (.inl rfl))
 ·have:=h.said z a b (hold U) hb Z V;rw [am] at this;simp only [Bool.false_eq_true,if_false] at this;split
  ·rename_i e;rw [(ab e).1];exact al z this
  ·exact this.app _
 ·rcases O.over z g hg aw ay with q | q
  ·exact .inl q
  ·exact .inr ⟨q.1,by omega⟩
 ·obtain⟨a,b⟩:=ap k V K;exact O.rel k a b
 ·have:=(ab e).2;rw [this] at K;rcases K with q | q
  ·cases q
  ·exact q.elim
 ·have:=(ab e).2;rw [this] at K;exact K.elim
end
end Pal
namespace Pal
open Go Go.Conc
open Go.ConcN (upd upd_same upd_ne sumTo sumTo_upd sumTo_upd_out sumTo_congr le_sumTo sumTo_le fork_knows RelBy)
def Dn(N:Nat)(K r:Nat→Rk):Prop:=∃i,i<N∧Rk.sub (K i) (r i)∧∀j,j≠i→K j=r j
theorem Dn.wf:∀N,WellFounded (Dn N)
 | 0=>⟨fun _=>⟨_,fun _ ⟨_,h,_⟩=>by omega⟩⟩
 | N+1=>⟨by
  have key:∀x:Rk,∀r:Nat→Rk,r N=x→Acc (Dn (N+1)) r:=by
   intro x
   induction x using Rk.wf.induction with
   | _ x V=>
    intro r
    induction r using (Dn.wf N).induction with
    | _ r W=>
     intro e
     refine⟨_,fun K ⟨i,hi,hs,O⟩=>?_⟩
     by_cases U:i=N
     ·subst U;exact V (K i) (by rw [← e];exact hs) K rfl
     ·exact W K ⟨i,by omega,hs,O⟩ (by rw [O N (Ne.symm U),e])
  exact fun r=>key _ r rfl⟩
def chain:Nat→Rk
 | 0=> .leaf
 | n+1=> .node fun _=>chain n
theorem Us(n:Nat)(w:World):Rk.sub (chain n) (chain (n+1)):=⟨_,w,rfl,rfl⟩
def Mu:=Nat×(Nat×((Nat→Rk)×Nat))
def Mu.lt(a b:Mu):Prop:=a.1<b.1∨(a.1=b.1∧a.2.1=b.2.1∧(Dn b.2.1 a.2.2.1 b.2.2.1∨(a.2.2.1=b.2.2.1∧a.2.2.2<b.2.2.2)))
theorem Mu.wf:WellFounded Mu.lt:=⟨by
 have key:∀(A:Nat) (N:Nat) (r:Nat→Rk) (B:Nat),Acc Mu.lt (A,N,r,B):=by
  intro A
  induction A using Nat.strongRecOn with
  | _ A Z=>
   intro N r
   induction r using (Dn.wf N).induction with
   | _ r aa=>
    intro B
    induction B using Nat.strongRecOn with
    | _ B ab=>
     refine⟨_,fun⟨ae,ag,U,B'⟩ h=>?_⟩
     rcases h with h | ⟨K,O,h | ⟨V,W⟩⟩
     ·exact Z ae h ag U B'
     ·simp only at K O h;subst K O;exact aa U h B'
     ·simp only at K O V W;subst K O V;exact ab B' W
 exact fun⟨A,N,r,B⟩=>key A N r B⟩
def wt(n:Nat):Nx→Nat
 | .gone _=>0
 | .ph p=>match p with
  | .CC _=>10 | .Df=>9 | .Gv=>8 | .H0=>7 | .Ha=>6 | .Gt=>5 | .GF=>4 | .EP=>3
  | .Dh=>3*n+25 | .FV m=>3*m+20 | .Hb m=>3*m+19 | .HC=>14 | .Hd=>13 | .DL=>12 | .GG=>11 | .FG=>10 | .Hx=>9 | .GL=>8 | .D3=>7
  | .FE j=>5*n+60+20*(n - j) | .Hy j=>5*n+59+20*(n - j) | .Hc j=>5*n+58+20*(n - j) | .GK j=>5*n+57+20*(n - j) | .Gg j=>5*n+56+20*(n - j) | .Fq j=>5*n+55+20*(n - j)
  | .FY=>5*n+60 | .Ci _ _=>2
theorem SH{F:Fam}{p:Ph}{v w sm v' w' sm':Nat}{es:Array Event}{nx:Nx}(h:F.act p v w sm=some ((v',w',sm'),es,nx)):wt F.n nx<wt F.n (.ph p):=by
 cases p <;> simp only [Fam.act] at h <;> (try (cases h;done))
 ·cases h;simp [wt]
 ·cases h;simp [wt]
 ·split at h
  ·cases h;split <;> simp [wt]
  ·cases h
 ·split at h
  ·cases h;simp [wt]
  ·cases h
 ·split at h
  ·cases h;simp [wt]
  ·cases h
 ·split at h
  ·cases h;simp [wt]
  ·cases h
 ·cases h;simp [wt]
 ·split at h
  ·cases h;split <;> simp [wt] <;> omega
  ·cases h
 ·split at h
  ·split at h <;> cases h <;> simp [wt] <;> omega
  ·cases h
 ·cases h;simp [wt]
 ·split at h
  ·cases h;simp [wt]
  ·cases h
 ·split at h
  ·cases h;simp [wt]
  ·cases h
 ·cases h;simp [wt]
 ·cases h;simp [wt]
 ·cases h;simp [wt]
 ·split at h
  ·cases h;split <;> simp [wt]
  ·cases h
 ·cases h;simp [wt]
 ·cases h;simp [wt]
 all_goals cases h;simp [wt]
inductive DV (P:Program) (F:Fam) (main:Bool):Nx→Rk→Bool→Gs_
 | walk {p:Ph} {r:Rk} {g:Goroutine} {s:St}:main=Fam.DT p→(Fam.Ek p=true→s= .quiet)→Jr P main (JQ (Stop P F p)) r g s→DV P F main (.ph p) r true g s
 | again {K:List Nat} {vs:Lv_} {r:Rk} {g:Goroutine} {s:St} {z:Value}:main=true→Stop P F (.Ci K vs) g s→DV P F main (.ph (.Ci K vs)) r true {parked g #[rcase F.ch z] (.recv true) with status:= .running} s
 | FX {K:List Nat} {vs:Lv_} {r:Rk} {g:Goroutine} {s:St} {z:Value}:main=true→Stop P F (.Ci K vs) g s→DV P F main (.ph (.Ci K vs)) r false (parked g #[rcase F.ch z] (.recv true)) s
 | Ga {k:Nat} {r:Rk} {g:Goroutine} {s:St} {v z:Value}:main=false→F.msg k v s.E→s.q=false→Way P false (Stop P F .Df) (served g undef) s→DV P F main (.ph (.CC k)) r false (parked g #[scase F.ch v z] .send) s
 | blk {r:Rk} {g:Goroutine} {s:St}:main=false→Stop P F .DL g s→DV P F main (.ph .DL) r false {g with status:= .blocked} s
 | gone {q d:Nat} {g:Goroutine}:main=false→QuitsD P q d g→DV P F main (.gone d) (chain q) true g .quiet
section
variable {P:Program}{F:Fam}{main:Bool}
theorem Jr.running{p:Ph}{r:Rk}{g:Goroutine}{s:St}(h:Jr P main (JQ (Stop P F p)) r g s):g.status= .running:=by
 cases r with
 | leaf=>obtain⟨s₀,_,hs⟩:=h;exact hs.law.run
 | node f=>
  rcases h with⟨s₀,_,hs⟩ | ⟨K,_⟩
  ·exact hs.law.run
  ·exact K
theorem Jr.at_{Q:GP}{r:Rk}{g:Goroutine}{s:St}(h:Q g s):Jr P main Q r g s:=by
 cases r with
 | leaf=>exact h
 | node f=>exact .inl h
theorem DV.awake{x:Nx}{r:Rk}{b:Bool}{g:Goroutine}{s:St}(h:DV P F main x r b g s):Go.Conc.awake g:=by
 cases h with
 | walk _ _ K=>exact awake_of (.inl K.running)
 | again _ _=>exact awake_of (.inl rfl)
 | FX _ _=>exact awake_of (.inr (.inl rfl))
 | Ga _ _ _ _=>exact awake_of (.inr (.inl rfl))
 | blk _ _=>exact awake_of (.inr (.inl rfl))
 | gone _ O=>exact awake_of (O.status.elim .inl fun x=> .inr (.inr x))
theorem Tu{g:Goroutine}(h:g.status= .running):{({g with status:= .blocked}:Goroutine) with status:= .running}=g:=by
 obtain⟨a,b,c,d,e⟩:=g;simp only at h;subst h;rfl
theorem DV.woken{x:Nx}{r:Rk}{b:Bool}{o:Goroutine}{s:St}(h:DV P F main x r b o s){g g':Goroutine}{w':World}{cl:Bool}{k:Nat}(W:F.ChanAt w' cl k)(aj:cl=true→∀k,x≠ .ph (.CC k)):
  ∃Z,DV P F main x r Z (Go.Conc.woken P g g' w' o) s∧(b=true→Z=true)∧(mayWake P g=true→g'.status= .running→(x= .ph .DL∨cl=true)→Z=true):=by
 have hw:∀(o:Goroutine),mayWake P g=true→g'.status= .running→Go.Conc.woken P g g' w' o=o.again w':=by
  intro o K U;unfold Go.Conc.woken;rw [if_pos (by simp [K,U])]
 have V:∀(o:Goroutine),Go.Conc.woken P g g' w' o=o.again w'∨Go.Conc.woken P g g' w' o=o:=by
  intro o;unfold Go.Conc.woken;split
  ·exact .inl rfl
  ·exact .inr rfl
 cases h with
 | walk K U aa=>exact⟨true,by rw [woken_run aa.running];exact .walk K U aa,fun _=>rfl,fun _ _ _=>rfl⟩
 | again K hs=>exact⟨true,by rw [woken_run rfl];exact .again K hs,fun _=>rfl,fun _ _ _=>rfl⟩
 | @FX al vs _ go _ z K hs=>
  cases cl with
  | false=>
   have:=again_recv_open (g:=go) (z:=z) (sh:= .recv true) (w:=w') W;rcases V (parked go #[rcase F.ch z] (.recv true)) with e | e
   ·exact⟨false,by rw [e,this];exact .FX K hs,fun e=>e,fun _ _ h=>by simp at h⟩
   ·exact⟨false,by rw [e];exact .FX K hs,fun e=>e,fun _ _ h=>by simp at h⟩
  | true=>
   have:=again_recv_closed (g:=go) (z:=z) (sh:= .recv true) (w:=w') W;by_cases O:mayWake P g=true∧g'.status= .running
   ·exact⟨true,by rw [hw _ O.1 O.2,this];exact .again K hs,fun e=>rfl,fun _ _ _=>rfl⟩
   ·rcases V (parked go #[rcase F.ch z] (.recv true)) with e | e
    ·exact⟨true,by rw [e,this];exact .again K hs,fun _=>rfl,fun a b=>absurd ⟨a,b⟩ O⟩
    ·exact⟨false,by rw [e];exact .FX K hs,fun e=>e,fun a b=>absurd ⟨a,b⟩ O⟩
 | @Ga k' _ go _ v z K U ab ae=>
  cases cl with
  | true=>exact absurd rfl (aj rfl k')
  | false=>
   have:=again_send_open (g:=go) (v:=v) (z:=z) (sh:= .send) (w:=w') W;rcases V (parked go #[scase F.ch v z] .send) with e | e
   ·exact⟨false,by rw [e,this];exact .Ga K U ab ae,fun e=>e,fun _ _ h=>by simp at h⟩
   ·exact⟨false,by rw [e];exact .Ga K U ab ae,fun e=>e,fun _ _ h=>by simp at h⟩
 | @blk _ go _ K hs=>
  have ag:({go with status:= .blocked}:Goroutine).again w'=go:=by
   have:=hs.law.offers;have ak:({go with status:= .blocked}:Goroutine).again w'={({go with status:= .blocked}:Goroutine) with status:= .running}:=by simp [Goroutine.again,this]
   rw [ak];exact Tu hs.law.run
  have ah:DV P F main (.ph .DL) r true go s:= .walk (p:= .DL) (by rw [K];rfl) (by simp [Fam.Ek]) (Jr.at_ ⟨s,.refl _,hs⟩);by_cases O:mayWake P g=true∧g'.status= .running
  ·exact⟨true,by rw [hw _ O.1 O.2,ag];exact ah,fun _=>rfl,fun _ _ _=>rfl⟩
  ·rcases V ({go with status:= .blocked}:Goroutine) with e | e
   ·exact⟨true,by rw [e,ag];exact ah,fun _=>rfl,fun a b=>absurd ⟨a,b⟩ O⟩
   ·exact⟨false,by rw [e];exact .blk K hs,fun e=>e,fun a b=>absurd ⟨a,b⟩ O⟩
 | gone K ai=>exact⟨true,by rw [woken_quitsD ai];exact .gone K ai,fun _=>rfl,fun _ _ _=>rfl⟩
end
structure Base where
 N0:Nat
 t0:Nat
 E0:LH
 w0:World
structure Inv (P:Program) (F:Fam) (B:Base) (gs:Array Goroutine) (w:World) (t:Trace) (φ:Nat→Nx) (r:Nat→Rk) (bt:Nat→Bool) (S:Nat→St) (Sh:Nat→Prop) (j:Nat) (c:Bool) (v wt sm:Nat) (cl:Bool) (k:Nat):Prop where
 BC:Cj F B.N0 gs.size j c φ v wt sm cl
 EM:Ee F B.N0 B.t0 gs.size j c φ t
 ER:∀i g,gs[i]? =some g→DV P F (i==0) (φ i) (r i) (bt i) g (S i)
 CX:Ck t w gs.size S Sh
 H3:Sh F.wg
 Gx:Sh F.ch
 ne:F.wg≠F.ch
 wg:F.WG w v wt sm
 He:F.ChanAt w cl k
 Nw:bt 0=false→cl=false∧∀i k',i<gs.size→φ i= .ph (.CC k')→bt i=true
 blk:c=true→bt (B.N0+F.n)=false→sm=0
 le:Le B.E0 (S 0).E
 tape:w.tape=B.w0.tape
 os:w.os=B.w0.os
 output:w.output=B.w0.output
def bit(b:Bool):Nat:=if b then 1 else 0
def mu(F:Fam)(N:Nat)(φ:Nat→Nx)(r:Nat→Rk)(bt:Nat→Bool):Mu:=(sumTo N fun i=>wt F.n (φ i),N,r,sumTo N fun i=>bit (bt i))
section
variable {P:Program}{F:Fam}{B:Base}{gs:Array Goroutine}{w w':World}{t:Trace}{φ:Nat→Nx}{r:Nat→Rk}{bt:Nat→Bool}{S:Nat→St}{Sh:Nat→Prop}{j:Nat}{c:Bool}{v wt' sm v₁ wt₁ sm₁:Nat}{cl cl₁:Bool}{k k₁:Nat}
theorem Inv.at_(h:Inv P F B gs w t φ r bt S Sh j c v wt' sm cl k)(d:Nat):Inv P F B gs (w.at d) t φ r bt S Sh j c v wt' sm cl k:=
 have K:Ck t (w.at d) gs.size S Sh:=by
  have:=h.CX.mute (u:= #[]) (w':=w.at d) (g:=0) (by simp) (by simp) (by simp) rfl;simpa using this
 {h with CX:=K}
theorem Inv.go(h:Inv P F B gs w t φ r bt S Sh j c v wt' sm cl k){i:Nat}{g g':Goroutine}{es:Array Event}{x:Nx}{ρ:Rk}{s':St}(hi:gs[i]? =some g)
  (ao:Cj F B.N0 gs.size j c (upd φ i x) v₁ wt₁ sm₁ cl₁)
  (ap:Ee F B.N0 B.t0 gs.size j c (upd φ i x) (t++MemOp.ofEvents i g.frame.fn g.frame.place es))
  (aq:DV P F (i==0) x ρ true g' s')
  (hC:Ck (t++MemOp.ofEvents i g.frame.fn g.frame.place es) w' gs.size (upd S i s') Sh)
  (ar:F.WG w' v₁ wt₁ sm₁) (ai:F.ChanAt w' cl₁ k₁)
  (au:cl₁=cl∨(mayWake P g=true∧g'.status= .running))
  (av:cl₁=true→∀aj k',aj<gs.size→φ aj≠ .ph (.CC k'))
  (aw:sm₁=sm∨sm₁=0∨(mayWake P g=true∧g'.status= .running∧φ (B.N0+F.n)= .ph .DL)∨(c=true→bt (B.N0+F.n)=true))
  (ay:i=0→Le (S 0).E s'.E) (az:w'.tape=w.tape) (aA:w'.os=w.os) (aB:w'.output=w.output) (aL:∀k',x= .ph (.CC k')→φ i= .ph (.CC k')):
  ∃O,Inv P F B ((gs.map (woken P g g' w')).setIfInBounds i g') w' (t++MemOp.ofEvents i g.frame.fn g.frame.place es) (upd φ i x) (upd r i ρ) O (upd S i s') Sh j c v₁ wt₁ sm₁ cl₁ k₁:=by
 have aC:i<gs.size:=(Array.getElem?_eq_some_iff.1 hi).1;have aa:((gs.map (woken P g g' w')).setIfInBounds i g').size=gs.size:=by simp
 have ak:∀a,∃Z,(a=i→Z=true)∧(a≠i→∀o,gs[a]? =some o→DV P F (a==0) (φ a) (r a) Z (woken P g g' w' o) (S a)∧(bt a=true→Z=true)∧(mayWake P g=true→g'.status= .running→(φ a= .ph .DL∨cl₁=true)→Z=true)):=by
  intro a;by_cases e:a=i
  ·exact⟨true,fun _=>rfl,fun q=>absurd e q⟩
  ·cases K:gs[a]? with
   | none=>exact⟨true,fun _=>rfl,fun _ o q=>by cases q⟩
   | some o=>
    have V:a<gs.size:=(Array.getElem?_eq_some_iff.1 K).1;obtain⟨Z,aD,aE,aF⟩:=(h.ER a o K).woken (g:=g) (g':=g') ai fun q k'=>av q a k' V;exact⟨Z,fun q=>absurd q e,fun _ o' q=>by cases q;exact⟨aD,aE,aF⟩⟩
 let O:Nat→Bool:=fun a=>Classical.choose (ak a);have hb:∀a,(a=i→O a=true)∧(a≠i→∀o,gs[a]? =some o→DV P F (a==0) (φ a) (r a) (O a) (woken P g g' w' o) (S a)∧(bt a=true→O a=true)∧(mayWake P g=true→g'.status= .running→(φ a= .ph .DL∨cl₁=true)→O a=true)):=fun a=>Classical.choose_spec (ak a);have ab:∀a,a<gs.size→bt a=true→O a=true:=by
  intro a V aG;by_cases e:a=i
  ·exact(hb a).1 e
  ·exact((hb a).2 e _ (Array.getElem?_eq_getElem V)).2.1 aG
 refine⟨O,by rw [aa];exact ao,by rw [aa];exact ap,fun a o K=>?_,by rw [aa];exact hC,h.H3,h.Gx,h.ne,ar,ai,fun U=>⟨?_,fun a k' V al=>?_⟩,fun ae U=>?_,fun b o K=>?_,az.trans h.tape,aA.trans h.os,aB.trans h.output⟩
 ·by_cases e:a=i
  ·subst e;rw [Array.getElem?_setIfInBounds_self_of_lt (by simpa using aC)] at K;obtain rfl:=Option.some.inj K;rw [upd_same,upd_same,upd_same,(hb a).1 rfl];exact aq
  ·rw [Array.getElem?_setIfInBounds_ne (Ne.symm e),Array.getElem?_map] at K;obtain⟨o',aH,rfl⟩:=Option.map_eq_some_iff.1 K;rw [upd_ne _ _ e,upd_ne _ _ e,upd_ne _ _ e];exact((hb a).2 e o' aH).1
 ·have ag:0<gs.size:=by omega
  have aI:0≠i:=fun e=>by have:=(hb 0).1 e;rw [U] at this;cases this
  have W:bt 0=false:=by
   cases q:bt 0 with
   | false=>rfl
   | true=>have:=ab 0 ag q;rw [U] at this;cases this
  cases am:cl₁ with
  | false=>rfl
  | true=>
   rcases au with e | ⟨ah,e2⟩
   ·have:=(h.Nw W).1;rw [← e,am] at this;cases this
   ·have:=((hb 0).2 aI _ (Array.getElem?_eq_getElem ag)).2.2 ah e2 (.inr am);rw [U] at this;cases this
 ·rw [aa] at V;have ag:0<gs.size:=by omega
  have W:bt 0=false:=by
   cases q:bt 0 with
   | false=>rfl
   | true=>have:=ab 0 ag q;rw [U] at this;cases this
  by_cases e:a=i
  ·exact(hb a).1 e
  ·rw [upd_ne _ _ e] at al;exact ab a V ((h.Nw W).2 a k' V al)
 ·have an:B.N0+F.n<gs.size:=by have:=h.BC.size;have:=h.BC.cj ae;rw [ae] at*;simp at*;omega
  have aJ:B.N0+F.n≠i:=fun e=>by have:=(hb _).1 e;rw [U] at this;cases this
  have W:bt (B.N0+F.n)=false:=by
   cases q:bt (B.N0+F.n) with
   | false=>rfl
   | true=>have:=ab _ an q;rw [U] at this;cases this
  rcases aw with e | e | ⟨ah,e2,aK⟩ | e
  ·rw [e];exact h.blk ae W
  ·exact e
  ·have:=((hb _).2 aJ _ (Array.getElem?_eq_getElem an)).2.2 ah e2 (.inl aK);rw [U] at this;cases this
  ·rw [e ae] at W;cases W
 ·by_cases e:i=0
  ·subst e;rw [upd_same];exact ay rfl b o (h.le b o K)
  ·rw [upd_ne _ _ (Ne.symm e)];exact h.le b o K
end
end Pal
namespace Pal
open Go Go.Conc
open Go.ConcN (upd upd_same upd_ne sumTo sumTo_upd sumTo_upd_out sumTo_congr le_sumTo sumTo_le fork_knows RelBy)
def Over(P:Program)(F:Fam)(B:Base)(gs:Array Goroutine)(w:World)(t:Trace):Prop:=
 ∃q Sh g s,Gw P gs w t q Sh g s∧F.fin g s∧Le B.E0 s.E∧w.tape=B.w0.tape∧w.os=B.w0.os∧w.output=B.w0.output
def Hv(P:Program)(F:Fam)(B:Base)(gs:Array Goroutine)(w:World)(sl:Option (Nat×Nat))(t:Trace)(i:Nat)(K:Mu):Prop:=
 ∃gs' w' O u,runT P (crowd gs w sl) i=(.next (crowd gs' w' O),u)∧
  ((∃φ r bt S Sh j c v wt' sm cl k,Inv P F B gs' w' (t++u) φ r bt S Sh j c v wt' sm cl k∧Mu.lt (mu F gs'.size φ r bt) K)∨Over P F B gs' w' (t++u))
section
variable {P:Program}{F:Fam}{B:Base}{gs:Array Goroutine}{w w':World}{sl:Option (Nat×Nat)}{t:Trace}{φ:Nat→Nx}{r:Nat→Rk}{bt:Nat→Bool}{S:Nat→St}{Sh:Nat→Prop}{j:Nat}{c:Bool}{v wt' sm v₁ wt₁ sm₁:Nat}{cl cl₁:Bool}{k k₁:Nat}
theorem SZ{N:Nat}{φ K:Nat→Nx}{r U:Nat→Rk}{b V:Nat→Bool}{O:Nat}(h:(sumTo O fun i=>wt F.n (K i))<sumTo N fun i=>wt F.n (φ i)):Mu.lt (mu F O K U V) (mu F N φ r b):= .inl h
theorem XB{N i:Nat}{x:Nx}{ρ:Rk}{K:Nat→Bool}(hi:i<N)(h:wt F.n x<wt F.n (φ i)∨(wt F.n x=wt F.n (φ i)∧Rk.sub ρ (r i))):Mu.lt (mu F N (upd φ i x) (upd r i ρ) K) (mu F N φ r bt):=by
 have:=sumTo_upd φ x (wt F.n) hi;rcases h with h | ⟨V,O⟩
 ·exact .inl (by show(sumTo N fun a=>wt F.n (upd φ i x a))<sumTo N fun a=>wt F.n (φ a);omega)
 ·exact .inr ⟨by show(sumTo N fun a=>wt F.n (upd φ i x a))=sumTo N fun a=>wt F.n (φ a);omega,rfl,.inl ⟨i,hi,by show Rk.sub (upd r i ρ i) _;rw [upd_same];exact O,fun a U=>upd_ne _ _ U⟩⟩
theorem Inv.go'(h:Inv P F B gs w t φ r bt S Sh j c v wt' sm cl k){i:Nat}{g g':Goroutine}{es:Array Event}{x:Nx}{ρ:Rk}{s':St}(hi:gs[i]? =some g)(O:stepG P (i==0) g w= .go g' w' es)
  (U:Cj F B.N0 gs.size j c (upd φ i x) v₁ wt₁ sm₁ cl₁)
  (V:Ee F B.N0 B.t0 gs.size j c (upd φ i x) (t++MemOp.ofEvents i g.frame.fn g.frame.place es))
  (W:DV P F (i==0) x ρ true g' s')
  (hC:Ck (t++MemOp.ofEvents i g.frame.fn g.frame.place es) w' gs.size (upd S i s') Sh)
  (Z:F.WG w' v₁ wt₁ sm₁) (aa:F.ChanAt w' cl₁ k₁)
  (ab:cl₁=cl∨(mayWake P g=true∧g'.status= .running))
  (ae:cl₁=true→∀K k',K<gs.size→φ K≠ .ph (.CC k'))
  (ag:sm₁=sm∨sm₁=0∨(mayWake P g=true∧g'.status= .running∧φ (B.N0+F.n)= .ph .DL)∨(c=true→bt (B.N0+F.n)=true))
  (ah:i=0→Le (S 0).E s'.E) (ai:w'.tape=w.tape) (aj:w'.os=w.os) (ak:w'.output=w.output) (al:∀k',x= .ph (.CC k')→φ i= .ph (.CC k'))
  (hm:wt F.n x<wt F.n (φ i)∨(wt F.n x=wt F.n (φ i)∧Rk.sub ρ (r i))):Hv P F B gs w sl t i (mu F gs.size φ r bt):=by
 obtain⟨ao,am⟩:=h.go hi U V W hC Z aa ab ae ag ah ai aj ak al;refine⟨_,_,_,_,runT_crowd_go hi O,.inl ⟨_,_,_,_,_,_,_,_,_,_,_,_,am,?_⟩⟩;have an:((gs.map (woken P g g' w')).setIfInBounds i g').size=gs.size:=by simp
 rw [an];exact XB (Array.getElem?_eq_some_iff.1 hi).1 hm
theorem Inv.noSend(h:Inv P F B gs w t φ r bt S Sh j c v wt' sm cl k)(W:cl=true):∀K k',K<gs.size→φ K≠ .ph (.CC k'):=by
 intro K k' U e;have hm:=h.BC.mode;subst W;have Z:v=0:=by
  split at hm
  ·cases V:φ (B.N0+F.n) with
   | gone d=>rw [V] at hm;exact hm.2.2.2.2.1
   | ph p=>rw [V] at hm;cases p <;> simp [Dd] at hm
  ·simp [Dd] at hm
 have aa:=h.BC.cnt;have:=le_sumTo (f:=fun a=>cU (φ a)) U;simp only [e,cU] at this;have ab:(sumTo gs.size fun a=>cU (φ a))=0:=by omega
 have O:cU (φ K)≤sumTo gs.size fun a=>cU (φ a):=le_sumTo (f:=fun a=>cU (φ a)) U;rw [e] at O;simp only [cU] at O;have ae:1≤sumTo gs.size fun a=>cU (φ a):=O;omega
theorem Ee.Wp{F:Fam}{N0 t0 N j:Nat}{c:Bool}{φ:Nat→Nx}{t:Trace}(h:Ee F N0 t0 N j c φ t)(K:Cj F N0 N j c φ v wt' sm cl){i:Nat}(hi:i<N){fn:FuncId}{pos:String}{es:Array Event}{p:Ph}(V:φ i= .ph p)
  (W:∀e∈es,(∀a b,(MemAct.ofEvent e).touch? =some a→D2 a.loc=some b→b≠F.wg∧b≠F.ch)∧e.loc≠ .mark (.release F.sA)∧e.loc≠ .mark .disable∧e.loc≠ .mark .enable)
  (ab:Fam.Ek p=true→es= #[]):Ee F N0 t0 N j c φ (t++MemOp.ofEvents i fn pos es):=by
 have ae:i=0∨N0≤i:=by
  rcases K.FH hi with rfl | ⟨a,b⟩ | ⟨k,aa,rfl⟩ | ⟨U,rfl⟩
  ·exact .inl rfl
  ·have:=K.old i a b;rw [V] at this;exact this.elim
  ·exact .inr (by omega)
  ·exact .inr (by omega)
 have:=h.app (x:=φ i) (fn:=fn) (pos:=pos) (es:=es) hi K.jn (deafBehind_still (fun e he=>⟨(W e he).2.2.1,(W e he).2.2.2⟩) _) (fun e he=>⟨fun a b ag hb ah=>absurd ah (by have:=(W e he).1 a b ag hb;rintro(q | q);exact this.1 q;exact this.2 q),(W e he).2.1⟩) (.inl ae)
  (fun U O=>K.Mp U O) (fun k aa e Z ρ ai=>?_) (fun k aa e Z aj=>absurd Z aj) (fun U e O=> .inr O) (fun U e O=>by rw [V] at O;exact O.elim)
 ·rwa [Og] at this
 ·
  have al:=K.size;have am:=K.jn;have ak:k<j:=by
   rcases K.FH hi with q | ⟨a,b⟩ | ⟨k',an,q⟩ | ⟨U,q⟩
   ·have:=K.pos;omega
   ·omega
   ·omega
   ·omega
  have hw:=K.work k ak;rw [← e,V] at hw;rw [V] at Z;have:es= #[]:=ab (by cases p <;> simp only [HT] at hw <;> (try exact hw.elim) <;> first | rfl | exact Z.elim)
  subst this;have:MemOp.ofEvents i fn pos #[]= #[]:=by rw [ofEvents_eq];simp
  rw [this];simpa using ai
theorem Inv.own(h:Inv P F B gs w t φ r bt S Sh j c v wt' sm cl k){i:Nat}{g g':Goroutine}{es:Array Event}{p:Ph}{ρ:Rk}{s':St}(hi:gs[i]? =some g)(O:φ i= .ph p)(ag:(i==0)=Fam.DT p)(aa:Fam.Ek p=true→S i= .quiet)
  (ah:stepG P (i==0) g w= .go g' w' es) (ai:Jr P (i==0) (JQ (Stop P F p)) ρ g' s') (aj:Fits s' w') (K:Fr (S i) w s' w') (V:∀e∈es,Ev (S i) w w' e) (ab:S i= .quiet→s'= .quiet∧w'=w∧es= #[]) (ak:Rk.sub ρ (r i)):
  Hv P F B gs w sl t i (mu F gs.size φ r bt):=by
 have U:i<gs.size:=(Array.getElem?_eq_some_iff.1 hi).1;have ae:upd φ i (.ph p)=φ:=by rw [← O];exact Og _ _
 have W:=h.CX.sh i U F.wg h.H3;have Z:=h.CX.sh i U F.ch h.Gx;have al:=h.CX.FD F.wg h.H3;have am:=h.CX.FD F.ch h.Gx;have an:∀b wr,F7 (S i) w w' b wr→b≠F.wg∧b≠F.ch:=by
  intro b wr ht;constructor
  ·rintro rfl;rcases ht.2 with q | q | ⟨q,_⟩
   ·exact q W.1
   ·omega
   ·exact q W.2
  ·rintro rfl;rcases ht.2 with q | q | ⟨q,_⟩
   ·exact q Z.1
   ·omega
   ·exact q Z.2
 refine h.go' hi ah (k₁:=k) (x:= .ph p) (ρ:=ρ) (s':=s') (by rw [ae];exact h.BC) (by
   rw [ae]
   refine h.EM.Wp h.BC U O (fun e he=>⟨fun a b ao hb=>an b a.write (Me (V e he) ao hb),?_,?_,?_⟩) fun q=>(ab (aa q)).2.2
   all_goals
    intro ap
    have:=V e he
    unfold Ev at this
    rw [ap] at this
    exact this)
  (.walk ag (fun q=>(ab (aa q)).1) ai) (h.CX.own U aj K V) ?_ ?_ (.inl rfl) (fun q=>h.noSend q) (.inl rfl) (fun e=>by subst e;exact fun b o aq=>K.ext b o aq) K.tape K.os K.output (fun k' e=>by rw [O];exact e) (.inr ⟨by rw [O],ak⟩)
 ·show w'.heap[F.wg]? =_;rw [K.keep _ al W.1];exact h.wg
 ·show w'.heap[F.ch]? =_;rw [K.keep _ am Z.1];exact h.He
theorem Inv.slip(h:Inv P F B gs w t φ r bt S Sh j c v wt' sm cl k){i:Nat}{g:Goroutine}(hi:gs[i]? =some g)(U:g.status= .running){d q:Nat}(K:φ i= .gone d)(V:r i=chain q)(W:(i==0)=false)(ab:QuitsD P q d g)(aj:S i= .quiet):
  Hv P F B gs w sl t i (mu F gs.size φ r bt):=by
 have ae:i<gs.size:=(Array.getElem?_eq_some_iff.1 hi).1;cases q with
 | zero=>rw [ab.1] at U;cases U
 | succ q=>
  rcases ab with⟨ak,_⟩ | ⟨_,g',es,hm,al,am⟩
  ·rw [ak] at U;cases U
  have an:∀op∈MemOp.ofEvents i g.frame.fn g.frame.place es,op.act.touch? =none:=fun op O=>by obtain⟨e,he,rfl⟩:=mem_ofEvents O;exact touch_mute (hm e he)
  have ao:∀e∈es,e.loc≠ .mark (.release F.sA):=by
   intro e he ag;have:=hm e he;obtain⟨loc,wr,au⟩:=e;simp only at ag;subst ag;simp [Event.mute] at this
  refine h.go' hi (by rw [W];exact al w) (x:= .gone (deafBehind d es)) (ρ:=chain q) (s':= .quiet) (h.BC.leave ae K) ?_ (.gone W am) ?_ h.wg h.He (.inl rfl) (fun q=>h.noSend q) (.inl rfl) (fun e=>by subst e;simp at W) rfl rfl rfl (by simp) (.inr ⟨by rw [K];rfl,by rw [V];exact Us q w⟩)
  ·refine h.EM.app ae h.BC.jn (by rw [K];rfl) (fun e he=>⟨fun a b ah=>(by rw [touch_mute (hm e he)] at ah;cases ah),ao e he⟩) (.inr fun e he=>touch_mute (hm e he)) (fun Z aa=>h.BC.Mp Z aa) (fun k ap e aq ρ V=>?_) (fun k ap e aq ai=>by rw [K] at ai;exact absurd trivial ai) (fun Z e aa=> .inr (.inr (by rw [K];trivial))) (fun Z e aa=> .inr ⟨by rw [K];trivial,fun e he=>touch_mute (hm e he)⟩);exact V.appOwn _ _ es fun m e he=> .inl (touch_mute (hm e (Array.mem_of_getElem? he)))
  ·have ar:upd S i .quiet=S:=by rw [← aj];exact Og _ _
   rw [ar];exact h.CX.mute (g:=i) (fun op O=>by obtain⟨e,_,rfl⟩:=mem_ofEvents O;rfl) an (fun op O=>by obtain⟨e,he,rfl⟩:=mem_ofEvents O;exact low_mute (hm e he) _) rfl
theorem Cj.enabled{N0 N:Nat}(h:Cj F N0 N j c φ v wt' sm cl){i:Nat}(hi:i<N){p:Ph}(K:φ i= .ph p)(al:∀k,p≠ .CC k)(am:∀k,p≠ .Fq k)(an:p≠ .FY)(ao:∀ap vs,p≠ .Ci ap vs)(aq:p≠ .D3)(ar:p= .DL→sm=1):
  ∃v' w' sm' es nx,F.act p v wt' sm=some ((v',w',sm'),es,nx):=by
 have hm:=h.mode;have ay:=h.Tb;have az:=h.IH;have O:=h.cnt;have Z:cU (φ i)≤sumTo N fun a=>cU (φ a):=le_sumTo (f:=fun a=>cU (φ a)) hi;have aa:cL (φ i)≤sumTo N fun a=>cL (φ a):=le_sumTo (f:=fun a=>cL (φ a)) hi;have ah:cS (φ i)≤sumTo N fun a=>cS (φ a):=le_sumTo (f:=fun a=>cS (φ a)) hi;rw [K] at Z aa ah;have au:wt'≤1:=by
  generalize (if c=true then φ (N0+F.n) else Nx.ph .Dh)=y at hm
  cases y with
  | gone d=>simp only [Dd] at hm;omega
  | ph q=>cases q <;> simp only [Dd] at hm <;> (try exact hm.elim) <;> omega
 have ab:1≤(sumTo N fun a=>cL (φ a))+(sumTo N fun a=>cS (φ a))→v=0∧sm=0∧wt'=sumTo N fun a=>cL (φ a):=by
  intro hh;generalize (if c=true then φ (N0+F.n) else Nx.ph .Dh)=y at hm
  cases y with
  | gone d=>simp only [Dd] at hm;omega
  | ph q=>cases q <;> simp only [Dd] at hm <;> (try exact hm.elim) <;> omega
 have ae:∀x,φ i= .ph x→Hs (.ph x)→c=true∧(if c=true then φ (N0+F.n) else Nx.ph .Dh)= .ph x:=by
  intro x V ai;rcases h.FH hi with rfl | ⟨a,b⟩ | ⟨k,ag,rfl⟩ | ⟨O,rfl⟩
  ·obtain⟨q,U,W⟩:=h.main;rw [V] at U;cases U;cases x <;> simp [Hq] at W <;> exact ai.elim
  ·have:=h.old i a b;rw [V] at this;exact this.elim
  ·have:=h.work k ag;rw [V] at this;cases x <;> simp [HT] at this <;> exact ai.elim
  ·exact⟨O,by rw [if_pos O];exact V⟩
 cases p <;> simp only [Fam.act]
 ·exact absurd rfl (al _)
 ·exact⟨_,_,_,_,_,rfl⟩
 ·exact⟨_,_,_,_,_,rfl⟩
 ·simp only [cU] at Z;have:1≤v:=by
   have aA:1≤sumTo N fun a=>cU (φ a):=Z;omega
  rw [if_pos ⟨this,by omega,au⟩];exact⟨_,_,_,_,_,rfl⟩
 ·have av:1≤sumTo N fun a=>cL (φ a):=aa;have:=ab (by omega);rw [if_pos ⟨this.1,by omega⟩];exact⟨_,_,_,_,_,rfl⟩
 ·have av:1≤sumTo N fun a=>cL (φ a):=aa;have:=ab (by omega);rw [if_pos ⟨this.1,by omega⟩];exact⟨_,_,_,_,_,rfl⟩
 ·have aB:1≤sumTo N fun a=>cS (φ a):=ah;have:=ab (by omega);rw [if_pos this.2.1];exact⟨_,_,_,_,_,rfl⟩
 ·exact⟨_,_,_,_,_,rfl⟩
 ·obtain⟨aj,e⟩:=ae _ K trivial;rw [e] at hm;rw [if_pos ⟨hm.2.2.2.2.2,hm.2.2.2.1⟩];exact⟨_,_,_,_,_,rfl⟩
 ·obtain⟨aj,e⟩:=ae _ K trivial;rw [e] at hm;rw [if_pos ⟨hm.2.2.2.2.2.1,hm.2.2.2.2.2.2,hm.2.2.2.1⟩];split <;> exact⟨_,_,_,_,_,rfl⟩
 ·exact⟨_,_,_,_,_,rfl⟩
 ·rw [if_pos (ar rfl)];exact⟨_,_,_,_,_,rfl⟩
 ·obtain⟨aj,e⟩:=ae _ K trivial;rw [e] at hm;rw [if_pos ⟨hm.2.2.2.2.1,hm.2.2.2.1⟩];exact⟨_,_,_,_,_,rfl⟩
 ·exact⟨_,_,_,_,_,rfl⟩
 ·exact⟨_,_,_,_,_,rfl⟩
 ·exact absurd rfl aq
 ·exact⟨_,_,_,_,_,rfl⟩
 ·have aw:c=false∧v≤j∧j<F.n:=by
   rcases h.FH hi with rfl | ⟨a,b⟩ | ⟨k,ag,rfl⟩ | ⟨O,rfl⟩
   ·obtain⟨q,U,W⟩:=h.main;rw [K] at U;cases U;have ak:=h.H4;rw [K] at ak;exact⟨W.2.2,by simpa [pend] using ak,W.2.1⟩
   ·have:=h.old i a b;rw [K] at this;exact this.elim
   ·have:=h.work k ag;rw [K] at this;exact this.elim
   ·have:=h.cls O;rw [K] at this;exact this.elim
  rw [aw.1] at hm;simp only [Bool.false_eq_true,if_false,Dd] at hm;rw [if_pos ⟨by omega,hm.2.2.2.1⟩];exact⟨_,_,_,_,_,rfl⟩
 ·exact⟨_,_,_,_,_,rfl⟩
 ·exact⟨_,_,_,_,_,rfl⟩
 ·exact absurd rfl (am _)
 ·exact absurd rfl an
 ·exact absurd rfl (ao _ _)
 all_goals exact⟨_,_,_,_,_,rfl⟩
end
end Pal
namespace Pal
open Go Go.Conc
open Go.ConcN (upd upd_same upd_ne sumTo sumTo_upd sumTo_upd_out sumTo_congr le_sumTo sumTo_le fork_knows RelBy)
theorem OD{α:Type}(f:Nat→α)(i:Nat)(x y:α):upd (upd f i x) i y=upd f i y:=by
 funext a;unfold upd;split <;> rfl
section
variable {P:Program}{F:Fam}{B:Base}{gs:Array Goroutine}{w w':World}{sl:Option (Nat×Nat)}{t:Trace}{φ:Nat→Nx}{r:Nat→Rk}{bt:Nat→Bool}{S:Nat→St}{Sh:Nat→Prop}{j:Nat}{c:Bool}{v wt' sm v₁ wt₁ sm₁:Nat}{cl cl₁:Bool}{k k₁:Nat}
theorem Xw{p:Ph}{es:Array Event}{nx:Nx}(K:F.act p v wt' sm=some ((v₁,wt₁,sm₁),es,nx)):
  (∀q,nx= .ph q→Fam.DT q=Fam.DT p∧(Fam.Ek q=true→p= .Gv∨Fam.Ek p=true))∧(∀k,nx≠ .ph (.CC k))∧(sm₁=sm∨sm₁=0∨p= .EP)∧(∀d,nx= .gone d→Fam.DT p=false):=by
 cases p <;> simp only [Fam.act] at K <;> (try (cases K;done))
 ·cases K;exact⟨fun q e=>by cases e;exact⟨rfl,fun _=> .inl rfl⟩,by simp,.inl rfl,by simp⟩
 ·cases K;exact⟨fun q e=>by cases e;exact⟨rfl,fun _=> .inr rfl⟩,by simp,.inl rfl,by simp⟩
 ·split at K
  ·cases K;refine⟨fun q e=>?_,?_,.inl rfl,fun _ _=>rfl⟩
   ·split at e
    ·cases e;exact⟨rfl,fun _=> .inr rfl⟩
    ·cases e
   ·intro k;split <;> simp
  ·cases K
 ·split at K
  ·cases K;exact⟨fun q e=>by cases e;exact⟨rfl,fun _=> .inr rfl⟩,by simp,.inl rfl,by simp⟩
  ·cases K
 ·split at K
  ·cases K;exact⟨fun q e=>by cases e;exact⟨rfl,fun _=> .inr rfl⟩,by simp,.inl rfl,by simp⟩
  ·cases K
 ·split at K
  ·cases K;exact⟨fun q e=>(by cases e),by simp,.inr (.inr rfl),fun _ _=>rfl⟩
  ·cases K
 ·cases K;exact⟨fun q e=>by cases e;exact⟨rfl,fun h=>by cases h⟩,by simp,.inl rfl,by simp⟩
 ·split at K
  ·cases K;refine⟨fun q e=>?_,?_,.inl rfl,?_⟩
   ·split at e <;> cases e <;> exact⟨rfl,fun h=>by cases h⟩
   ·intro k;split <;> simp
   ·intro d;split <;> simp
  ·cases K
 ·split at K
  ·split at K
   ·cases K;exact⟨fun q e=>by cases e;exact⟨rfl,fun h=>by cases h⟩,by simp,.inl rfl,by simp⟩
   ·cases K;exact⟨fun q e=>by cases e;exact⟨rfl,fun h=>by cases h⟩,by simp,.inl rfl,by simp⟩
  ·cases K
 ·cases K;exact⟨fun q e=>by cases e;exact⟨rfl,fun h=>by cases h⟩,by simp,.inl rfl,by simp⟩
 ·split at K
  ·cases K;exact⟨fun q e=>by cases e;exact⟨rfl,fun h=>by cases h⟩,by simp,.inr (.inl rfl),by simp⟩
  ·cases K
 ·split at K
  ·cases K;exact⟨fun q e=>by cases e;exact⟨rfl,fun h=>by cases h⟩,by simp,.inl rfl,by simp⟩
  ·cases K
 ·cases K;exact⟨fun q e=>by cases e;exact⟨rfl,fun h=>by cases h⟩,by simp,.inl rfl,by simp⟩
 ·cases K;exact⟨fun q e=>by cases e;exact⟨rfl,fun h=>by cases h⟩,by simp,.inl rfl,by simp⟩
 ·cases K;exact⟨fun q e=>by cases e;exact⟨rfl,fun h=>by cases h⟩,by simp,.inl rfl,by simp⟩
 ·split at K
  ·cases K;refine⟨fun q e=>?_,?_,.inl rfl,?_⟩
   ·split at e <;> cases e <;> exact⟨rfl,fun h=>by cases h⟩
   ·intro k;split <;> simp
   ·intro d;split <;> simp
  ·cases K
 ·cases K;exact⟨fun q e=>by cases e;exact⟨rfl,fun h=>by cases h⟩,by simp,.inl rfl,by simp⟩
 all_goals
  cases K;exact⟨fun q e=>by cases e;exact⟨rfl,fun h=>by cases h⟩,by simp,.inl rfl,by simp⟩
theorem U9(w:World)(v wt sm:Nat):(F.put w v wt sm).heap.size=w.heap.size:=by simp [Fam.put]
theorem Ss(w:World)(v wt sm:Nat){b:Nat}(h:b≠F.wg):(F.put w v wt sm).heap[b]? =w.heap[b]? :=by simp [Fam.put,Array.getElem?_setIfInBounds_ne (Ne.symm h)]
theorem Su(w:World)(v wt sm:Nat)(h:F.wg<w.heap.size):F.WG (F.put w v wt sm) v wt sm:=by simp [Fam.WG,Fam.put,h]
theorem Inv.act(h:Inv P F B gs w t φ r bt S Sh j c v wt' sm cl k){i:Nat}{g:Goroutine}(hi:gs[i]? =some g){p:Ph}(W:φ i= .ph p)(U:(i==0)=Fam.DT p){s₀:St}(hg:Cv (S i) s₀)(hs:Stop P F p g s₀)
  {es:Array Event} {nx:Nx} (O:F.act p v wt' sm=some ((v₁,wt₁,sm₁),es,nx)):Hv P F B gs w sl t i (mu F gs.size φ r bt):=by
 have Z:i<gs.size:=(Array.getElem?_eq_some_iff.1 hi).1;obtain⟨g',aw,ay,ak⟩:=hs.law.act _ _ _ _ _ _ _ _ O;obtain⟨n1,n2,az,aA⟩:=Xw O;have aa:=h.CX.FD F.wg h.H3;have al:=h.BC.act Z W O;obtain⟨am,an,aB⟩:=h.EM.act h.BC Z W O g.frame.fn g.frame.place;have aC:Ck t w gs.size (upd S i s₀) Sh:=h.CX.ghost Z hg;have ab:Ck (t++MemOp.ofEvents i g.frame.fn g.frame.place es) (F.put w v₁ wt₁ sm₁) gs.size (upd S i s₀) Sh:=by
  refine aC.ext (h.EM.noRace h.CX.clean Z aB an) (fun op ae a aD b hb=>?_) (fun op ae=>?_) (U9 ..) (fun b hb=>Ss _ _ _ _ fun e=>hb (e▸h.H3))
  ·obtain⟨e,he,rfl⟩:=mem_ofEvents ae;obtain⟨⟨aK,ao,aE⟩,_⟩:=(an e he).1 a aD;rw [hb] at ao;cases ao;rcases aE with rfl | rfl
   ·exact h.H3
   ·exact h.Gx
  ·obtain⟨e,he,rfl⟩:=mem_ofEvents ae;exact(R9 p O).2.2 e he _ aa
 have ap:stepG P (i==0) g w= .go g' (F.put w v₁ wt₁ sm₁) es:=by rw [U];exact aw w h.wg
 have aq:F.ChanAt (F.put w v₁ wt₁ sm₁) cl k:=by show(F.put w v₁ wt₁ sm₁).heap[F.ch]? =_;rw [Ss _ _ _ _ (Ne.symm h.ne)];exact h.He
 have ar:sm₁=sm∨sm₁=0∨(mayWake P g=true∧g'.status= .running∧φ (B.N0+F.n)= .ph .DL)∨(c=true→bt (B.N0+F.n)=true):=by
  rcases az with q | q | q
  ·exact .inl q
  ·exact .inr (.inl q)
  ·subst q;have aF:=hs.law.G8 (.inl rfl);by_cases e:φ (B.N0+F.n)= .ph .DL
   ·exact .inr (.inr (.inl ⟨aF,ay,e⟩))
   ·refine .inr (.inr (.inr fun ag=>?_));have aG:B.N0+F.n<gs.size:=by have au:=h.BC.size;have aL:=h.BC.cj ag;rw [ag] at au;simp at au;omega
    obtain⟨o,K⟩:∃o,gs[B.N0+F.n]? =some o:=⟨_,Array.getElem?_eq_getElem aG⟩;have V:=h.ER _ _ K;generalize r (B.N0+F.n)=aM at V;generalize S (B.N0+F.n)=aN at V;have ah:=h.BC.cls ag;generalize hb:bt (B.N0+F.n)=b at V ⊢;generalize aO:φ (B.N0+F.n)=x at V ah e;cases V with
    | walk _ _ _=>rfl
    | again _ _=>rfl
    | FX _ _=>exact ah.elim
    | Ga _ _ _ _=>exact ah.elim
    | blk _ _=>exact absurd rfl e
    | gone _ _=>rfl
 cases nx with
 | ph q=>
  obtain⟨aH,aI⟩:=n1 q rfl;obtain⟨ρ,aJ⟩:=ak;have ai:Ck (t++MemOp.ofEvents i g.frame.fn g.frame.place es) (F.put w v₁ wt₁ sm₁) gs.size (upd S i (Fam.GR p s₀)) Sh:=by
   by_cases e:p= .Gv
   ·subst e;have:=ab.less (i:=i) (s':= .quiet) (fun b o K=>by cases K) (fun b o K=>by cases K)
    rwa [OD] at this
   ·have:Fam.GR p s₀=s₀:=by cases p <;> first | rfl | exact absurd rfl e
    rw [this];exact ab
  refine h.go' hi ap al am (x:= .ph q) (ρ:=ρ) (s':=Fam.GR p s₀) (.walk (by rw [U,aH]) (fun aj=>?_) (by rw [U];exact aJ)) ai (Su _ _ _ _ aa) aq (.inl rfl) (fun e=>h.noSend e) ar (fun e=>?_) rfl rfl rfl (fun k' e=>absurd e (n2 k')) (.inl (by rw [W];exact SH O))
  ·rcases aI aj with e | e
   ·subst e;rfl
   ·have:Fam.GR p s₀=s₀:=by cases p <;> first | rfl | cases e
    rw [this];exact hs.law.quiet e
  ·have:Fam.GR p s₀=s₀:=by
    cases p <;> first | rfl | (subst e;simp [Fam.DT] at U)
   rw [this];subst e;exact fun b o K=>hg.ext b o K
 | gone d=>
  obtain⟨q,aj⟩:=ak;have av:(i==0)=false:=by rw [U];exact aA d rfl
  have ai:Ck (t++MemOp.ofEvents i g.frame.fn g.frame.place es) (F.put w v₁ wt₁ sm₁) gs.size (upd S i .quiet) Sh:=by
   have:=ab.less (i:=i) (s':= .quiet) (fun b o K=>by cases K) (fun b o K=>by cases K)
   rwa [OD] at this
  exact h.go' hi ap al am (x:= .gone d) (ρ:=chain q) (s':= .quiet) (.gone av aj) ai (Su _ _ _ _ aa) aq (.inl rfl) (fun e=>h.noSend e) ar (fun e=>by subst e;simp at av) rfl rfl rfl (fun k' e=>absurd e (n2 k')) (.inl (by rw [W];exact SH O))
theorem Tv{g g' o:Goroutine}(h:g'.status= .blocked):woken P g g' w o=o:=by
 unfold woken;rw [if_neg (by simp [h])]
theorem Inv.rest(h:Inv P F B gs w t φ r bt S Sh j c v wt' sm cl k){i:Nat}{g':Goroutine}{u:Trace}{s₀:St}(ab:i<gs.size)(ak:bt i=true)(hg:Cv (S i) s₀)(al:DV P F (i==0) (φ i) (r i) false g' s₀)(hu:u= #[])
  (am:i=0→cl=false∧∀a k',a<gs.size→φ a= .ph (.CC k')→bt a=true) (hsend:∀k',φ i= .ph (.CC k')→bt 0=true) (an:c=true→i=B.N0+F.n→sm=0):
  ∃ah,Inv P F B (gs.setIfInBounds i g') w (t++u) φ r ah (upd S i s₀) Sh j c v wt' sm cl k∧Mu.lt (mu F (gs.setIfInBounds i g').size φ r ah) (mu F gs.size φ r bt):=by
 subst hu;have O:(gs.setIfInBounds i g').size=gs.size:=by simp
 have ao:t++(#[]:Trace)=t:=by simp
 have aa:∀{a},a≠i→upd bt i false a=bt a:=fun e=>upd_ne _ _ e;rw [ao];refine⟨upd bt i false,⟨by rw [O];exact h.BC,by rw [O];exact h.EM,fun a o U=>?_,by rw [O];exact h.CX.ghost ab hg,h.H3,h.Gx,h.ne,h.wg,h.He,fun K=>?_,fun ai K=>?_,?_,h.tape,h.os,h.output⟩,?_⟩
 ·by_cases e:a=i
  ·subst e;rw [Array.getElem?_setIfInBounds_self_of_lt ab] at U;obtain rfl:=Option.some.inj U;rw [upd_same,upd_same];exact al
  ·rw [Array.getElem?_setIfInBounds_ne (Ne.symm e)] at U;rw [upd_ne _ _ e,upd_ne _ _ e];exact h.ER a o U
 ·by_cases e:0=i
  ·subst e;obtain⟨ae,ag⟩:=am rfl;refine⟨ae,fun a k' V W=>?_⟩;rw [O] at V;by_cases Z:a=0
   ·subst Z;obtain⟨p,aj,hm⟩:=h.BC.main;rw [W] at aj;cases aj;exact hm.elim
   ·rw [aa Z];exact ag a k' V W
  ·rw [aa e] at K;obtain⟨ae,ag⟩:=h.Nw K;refine⟨ae,fun a k' V W=>?_⟩;rw [O] at V;by_cases Z:a=i
   ·subst Z;rw [hsend k' W] at K;cases K
   ·rw [aa Z];exact ag a k' V W
 ·by_cases e:B.N0+F.n=i
  ·exact an ai e.symm
  ·rw [aa e] at K;exact h.blk ai K
 ·by_cases e:0=i
  ·subst e;rw [upd_same];exact fun b o U=>hg.ext b o (h.le b o U)
  ·rw [upd_ne _ _ e];exact h.le
 ·rw [O];have:=sumTo_upd bt false bit ab;rw [ak] at this;exact .inr ⟨rfl,rfl,.inr ⟨rfl,by show(sumTo gs.size fun a=>bit (upd bt i false a))<sumTo gs.size fun a=>bit (bt a);simp only [bit] at this ⊢;simp only [if_true,Bool.false_eq_true,if_false] at this;omega⟩⟩
theorem Inv.block(h:Inv P F B gs w t φ r bt S Sh j c v wt' sm cl k){i:Nat}{g:Goroutine}(hi:gs[i]? =some g)(O:φ i= .ph .DL)(V:bt i=true)(K:(i==0)=false){s₀:St}(hg:Cv (S i) s₀)(hs:Stop P F .DL g s₀)(W:sm=0):
  Hv P F B gs w sl t i (mu F gs.size φ r bt):=by
 have Z:i<gs.size:=(Array.getElem?_eq_some_iff.1 hi).1;subst W;have aa:=hs.law.ES rfl w v wt' h.wg;have U:=runT_crowd_go (P:=P) (sl:=sl) (i:=i) hi (by rw [K];exact aa);have ab:(gs.map (woken P g {g with status:= .blocked} w)).setIfInBounds i {g with status:= .blocked}=gs.setIfInBounds i {g with status:= .blocked}:=by
  have:(woken P g {g with status:= .blocked} w)=id:=by funext o;exact Tv rfl
  rw [this,Array.map_id]
 rw [ab] at U;obtain⟨ah,ae,ag⟩:=h.rest (g':={g with status:= .blocked}) (u:=MemOp.ofEvents i g.frame.fn g.frame.place #[]) Z V hg (by rw [O];exact .blk K hs) (by rw [ofEvents_eq];simp) (fun e=>by subst e;simp at K) (fun k' e=>by rw [O] at e;cases e) (fun _ _=>rfl);exact⟨_,_,_,_,U,.inl ⟨_,_,_,_,_,_,_,_,_,_,_,_,ae,ag⟩⟩
theorem Inv.close(h:Inv P F B gs w t φ r bt S Sh j c v wt' sm cl k){i:Nat}{g:Goroutine}(hi:gs[i]? =some g)(K:φ i= .ph .D3)(ab:(i==0)=false){s₀:St}(hs:Stop P F .D3 g s₀):
  Hv P F B gs w sl t i (mu F gs.size φ r bt):=by
 have W:i<gs.size:=(Array.getElem?_eq_some_iff.1 hi).1;have ap:c=true∧i=B.N0+F.n:=by
  rcases h.BC.FH W with rfl | ⟨a,b⟩ | ⟨k',aq,rfl⟩ | q
  ·simp at ab
  ·have:=h.BC.old i a b;rw [K] at this;exact this.elim
  ·have:=h.BC.work k' aq;rw [K] at this;exact this.elim
  ·exact q
 obtain⟨O,rfl⟩:=ap;have ar:cl=false:=by
  have hm:=h.BC.mode;rw [if_pos O,K] at hm;exact hm.2.2.2.2.2
 subst ar;have aH:v=0:=by
  have hm:=h.BC.mode;rw [if_pos O,K] at hm;exact hm.2.2.2.2.1
 obtain⟨g',au,av,q,aw⟩:=hs.law.close rfl;have ah:=h.CX.FD F.ch h.Gx;have ay:=hs.law.G8 (.inr rfl);have az:MemOp.ofEvents (B.N0+F.n) g.frame.fn g.frame.place (closeEvents F.ch)= #[{g:=B.N0+F.n,fn:=g.frame.fn,pos:=g.frame.place,act:= .access ⟨.obj F.ch,false,true⟩},{g:=B.N0+F.n,fn:=g.frame.fn,pos:=g.frame.place,act:= .close F.ch}]:=by
  simp [MemOp.ofEvents,closeEvents,MemAct.ofEvent]
 have ai:∀b,b≠F.ch→(w.setChan F.ch 0 #[] true k k false).heap[b]? =w.heap[b]? :=fun b hb=>by simp [World.setChan,Array.getElem?_setIfInBounds_ne (Ne.symm hb)]
 have aj:∀e∈closeEvents F.ch,∀a,(MemAct.ofEvent e).touch? =some a→a=⟨.obj F.ch,false,.atomic⟩:=by
  intro e he a U;simp only [closeEvents,List.mem_toArray,List.mem_cons,List.not_mem_nil,or_false] at he;rcases he with rfl | rfl
  ·simp [MemAct.ofEvent,MemAct.touch?] at U;exact U.symm
  ·simp [MemAct.ofEvent,MemAct.touch?] at U
 have Z:∀e∈closeEvents F.ch,EvS F (B.N0+F.n=if c=true then B.N0+F.n else 0) e:=by
  intro e he;refine⟨fun a U=>?_,?_⟩
  ·have:=aj e he a U;subst this;exact⟨⟨F.ch,rfl,.inr rfl⟩,by simp,by simp⟩
  ·simp only [closeEvents,List.mem_toArray,List.mem_cons,List.not_mem_nil,or_false] at he;rcases he with rfl | rfl <;> simp
 have aI:=h.BC.n1;have aJ:=h.BC.pos;refine h.go' hi (w':=w.setChan F.ch 0 #[] true k k false) (by rw [ab];exact av w k h.He) (x:= .gone 0) (ρ:=chain q) (s':= .quiet) (cl₁:=true) (k₁:=k) (h.BC.close O K) ?_ (.gone ab aw) ?_ ?_ ?_ (.inr ⟨ay,au⟩) (fun _ aA k' aB e=>?_) (.inl rfl) (fun e=>absurd e (by omega)) rfl rfl rfl (by simp) (.inl (by rw [K];simp [wt]))
 ·refine h.EM.app W h.BC.jn (by rw [K];rfl) (fun e he=>⟨fun a b U hb aK=>⟨((Z e he).1 a U).2.1,((Z e he).1 a U).2.2⟩,(Z e he).2⟩) (.inl (.inr (by omega))) (fun O aa=>h.BC.Mp O aa) (fun k' ak e aC ρ al=>by omega) (fun k' ak e aC aL=>by have:=h.BC.cj O;omega) (fun O e aa=> .inr (.inl K)) (fun aM e aa=> .inl ?_);obtain⟨am,an⟩:=h.EM.acq O (.inl K);have aN:am<t.size:=lt_of_act? an.1;rw [az];generalize hu:(#[({g:=B.N0+F.n,fn:=g.frame.fn,pos:=g.frame.place,act:= .access ⟨.obj F.ch,false,true⟩}:MemOp),{g:=B.N0+F.n,fn:=g.frame.fn,pos:=g.frame.place,act:= .close F.ch}]:Trace)=u;have aD:(t++u)[t.size]? =some {g:=B.N0+F.n,fn:=g.frame.fn,pos:=g.frame.place,act:= .access ⟨.obj F.ch,false,true⟩}:=by subst hu;simp
  have ae:(t++u)[t.size+1]? =some {g:=B.N0+F.n,fn:=g.frame.fn,pos:=g.frame.place,act:= .close F.ch}:=by
   subst hu;rw [Array.getElem?_append_right (by omega)];simp
  refine⟨t.size+1,by rw [act?_of ae],by simp [Trace.g?,ae],⟨B.N0+F.n,by simp [Trace.g?,ae],?_⟩,⟨am,by omega,an.app fun k' ρ ak al=>al.appOther (g:=B.N0+F.n) (by subst hu;simp) (by omega)⟩,fun x aa hg aE=>?_⟩
  ·rw [deaf_succ aD,deaf_old (Nat.le_refl _)];have:=h.EM.deaf _ W;rw [K] at this;show deafStep _ (Deaf t _) _=0;rw [this];rfl
  ·obtain⟨op,V,_⟩:=Option.map_eq_some_iff.1 hg;have:=lt_size_of_getElem? V;subst hu;simp at this;omega
 ·have aF:Ck (t++MemOp.ofEvents (B.N0+F.n) g.frame.fn g.frame.place (closeEvents F.ch)) (w.setChan F.ch 0 #[] true k k false) gs.size S Sh:=by
   refine h.CX.ext (h.EM.noRace h.CX.clean W (.inr (by omega)) Z) (fun op ag a aG b hb=>?_) (fun op ag=>?_) (by simp [World.setChan]) (fun b hb=>ai b fun e=>hb (e▸h.Gx))
   ·obtain⟨e,he,rfl⟩:=mem_ofEvents ag;have:=aj e he a aG;subst this;simp [D2] at hb;subst hb;exact h.Gx
   ·obtain⟨e,he,rfl⟩:=mem_ofEvents ag;simp only [closeEvents,List.mem_toArray,List.mem_cons,List.not_mem_nil,or_false] at he;rcases he with rfl | rfl <;> simpa [MemAct.ofEvent,MemAct.low,Loc.low] using ah
  exact aF.less (i:=B.N0+F.n) (s':= .quiet) (fun b o V=>by cases V) (fun b o V=>by cases V)
 ·show(w.setChan F.ch 0 #[] true k k false).heap[F.wg]? =_;rw [ai _ h.ne];exact h.wg
 ·show(w.setChan F.ch 0 #[] true k k false).heap[F.ch]? =_;simp [World.setChan,ah]
 ·have aE:=h.BC.cnt;have ao:cU (φ aA)≤sumTo gs.size fun a=>cU (φ a):=le_sumTo (f:=fun a=>cU (φ a)) aB;rw [e] at ao;have aO:1≤sumTo gs.size fun a=>cU (φ a):=ao;omega
end
end Pal
namespace Pal
open Go Go.Conc
open Go.ConcN (upd upd_same upd_ne sumTo sumTo_upd sumTo_upd_out sumTo_congr le_sumTo sumTo_le fork_knows RelBy)
section
variable {P:Program}{F:Fam}{B:Base}{gs gs':Array Goroutine}{w w':World}{sl:Option (Nat×Nat)}{t:Trace}{φ:Nat→Nx}{r:Nat→Rk}{bt:Nat→Bool}{S:Nat→St}{Sh:Nat→Prop}{j:Nat}{c:Bool}{v wt' sm v₁ wt₁ sm₁:Nat}{cl cl₁:Bool}{k k₁:Nat}{main:Bool}
theorem DV.R7{x:Nx}{r:Rk}{b:Bool}{o:Goroutine}{s:St}(h:DV P F main x r b o s)(hb:main=true→b=true):offersAt o F.ch false= []:=by
 cases h with
 | walk _ _ K=>exact offersAt_of_not_blocked (by rw [K.running];simp) _ _
 | again _ _=>exact offersAt_of_not_blocked (by simp) _ _
 | FX O _=>cases hb O
 | Ga _ _ _ _=>exact offersAt_parked_send' _ _ _ _ _ _
 | blk _ hs=>simp [offersAt,hs.law.offers]
 | gone _ U=>exact offersAt_of_not_blocked (by rcases U.status with e | e <;> rw [e] <;> simp) _ _
theorem DV.OX{k:Nat}{r:Rk}{o:Goroutine}{s:St}(h:DV P F main (.ph (.CC k)) r false o s):∃g v z,o=parked g #[scase F.ch v z] .send∧F.msg k v s.E∧s.q=false∧Way P false (Stop P F .Df) (served g undef) s:=by
 generalize K:Nx.ph (.CC k)=x at h;generalize hb:false=b at h;cases h with
 | walk _ _ _=>cases hb
 | again _ _=>cases K
 | FX _ _=>cases K
 | Ga _ O U V=>cases K;exact⟨_,_,_,rfl,O,U,V⟩
 | blk _ _=>cases K
 | gone _ _=>cases K
theorem DV.N9{x:Nx}{r:Rk}{b:Bool}{o:Goroutine}{s:St}(h:DV P F main x r b o s)(K:offersAt o F.ch true≠ []):∃k,x= .ph (.CC k)∧b=false:=by
 cases h with
 | walk _ _ O=>exact absurd (offersAt_of_not_blocked (by rw [O.running];simp) _ _) K
 | again _ _=>exact absurd (offersAt_of_not_blocked (by simp) _ _) K
 | FX V _=>exact absurd (offersAt_parked_recv' _ _ _ _ _) K
 | Ga _ _ _ _=>exact⟨_,rfl,rfl⟩
 | blk _ hs=>exact absurd (by simp [offersAt,hs.law.offers]) K
 | gone _ U=>exact absurd (offersAt_of_not_blocked (by rcases U.status with e | e <;> rw [e] <;> simp) _ _) K
theorem DV.receiver{p:Ph}{r:Rk}{b:Bool}{o:Goroutine}{s:St}(h:DV P F main (.ph p) r b o s)(hb:b=false)(hm:main=true):∃O vs g z,p= .Ci O vs∧o=parked g #[rcase F.ch z] (.recv true)∧Stop P F (.Ci O vs) g s:=by
 generalize U:Nx.ph p=x at h;cases h with
 | walk _ _ _=>cases hb
 | again _ _=>cases hb
 | FX _ V=>cases U;exact⟨_,_,_,_,rfl,rfl,V⟩
 | Ga K _ _ _=>rw [K] at hm;cases hm
 | blk K _=>rw [K] at hm;cases hm
 | gone _ _=>cases U
theorem TQ{g g':Goroutine}{cs K:Array CommCase}{sh O:CommShape}(h:parked g cs sh=parked g' K O):cs=K∧sh=O∧∀x,served g x=served g' x:=by
 obtain⟨a,b,c,d,e⟩:=g;obtain⟨U,V,W,Z,aa⟩:=g';simp only [parked,Goroutine.mk.injEq,Option.some.injEq,Prod.mk.injEq,true_and] at h;obtain⟨rfl,rfl,rfl,rfl,rfl⟩:=h;exact⟨rfl,rfl,fun _=>rfl⟩
theorem PZ(w:World)(c cap:Nat)(buf:AA)(cl:Bool)(s r:Nat)(K:Bool){b:Nat}(h:b≠c):(w.setChan c cap buf cl s r K).heap[b]? =w.heap[b]? :=by simp [World.setChan,Array.getElem?_setIfInBounds_ne (Ne.symm h)]
def Hu(E E':LH):LH:=fun b=>match E b with | some o=>some o | none=>E' b
def Gp(i s:Nat)(c:Nat)(f1 f2:FuncId)(p1 p2:String):Trace:=
 #[{g:=i,fn:=f1,pos:=p1,act:= .send c s},{g:=0,fn:=f2,pos:=p2,act:= .recv c s 0},{g:=i,fn:=f1,pos:=p1,act:= .sendDone c s},{g:=0,fn:=f2,pos:=p2,act:= .recvDone c s}]
theorem T0{i s K:Nat}{f1 f2:FuncId}{p1 p2:String}(hi:i≠0)(V:Deaf t i=0)(W:Deaf t 0=0){x:Nat}(Z:Knows t i x):Knows (t++Gp i s K f1 f2 p1 p2) 0 x:=by
 generalize hu:Gp i s K f1 f2 p1 p2=u;have O:(t++u)[t.size]? =some {g:=i,fn:=f1,pos:=p1,act:= .send K s}:=by subst hu;rw [Array.getElem?_append_right (by omega)];simp [Gp]
 have aa:(t++u)[t.size+1]? =some {g:=0,fn:=f2,pos:=p2,act:= .recv K s 0}:=by subst hu;rw [Array.getElem?_append_right (by omega)];simp [Gp]
 have ab:(t++u)[t.size+2]? =some {g:=i,fn:=f1,pos:=p1,act:= .sendDone K s}:=by subst hu;rw [Array.getElem?_append_right (by omega)];simp [Gp]
 have U:(t++u)[t.size+3]? =some {g:=0,fn:=f2,pos:=p2,act:= .recvDone K s}:=by subst hu;rw [Array.getElem?_append_right (by omega)];simp [Gp]
 have ae:=Z.hb_new (Nat.le_refl _) O rfl;have ag:(t++u).heard t.size:=⟨i,by simp [Trace.g?,O],by rw [deaf_old (Nat.le_refl _)];exact V⟩;have ah:(t++u).heard (t.size+3):=⟨0,by simp [Trace.g?,U],by
  rw [deaf_succ ab,deaf_succ aa,deaf_succ O,deaf_old (Nat.le_refl _)]
  simp only [deafStep];exact W⟩
 exact⟨t.size+3,_,U,rfl,.inr (ae.trans (.single (.inr ⟨.handOver (by rw [act?_of O]) (by rw [act?_of U]),ag,ah⟩)))⟩
theorem Inv.meet(h:Inv P F B gs w t φ r bt S Sh j c v wt' sm cl k)(aM:∀k v E E',Le E E'→F.msg k v E→F.msg k v E'){i k':Nat}(aj:k'<j)(ak:i=B.N0+k')(Z:φ i= .ph (.CC k')){U:List Nat}{vs:Lv_}(ah:φ 0= .ph (.Ci U vs))
  {aA aB:Goroutine} {s₀ K:St} (aC:Cv (S 0) s₀) (aN:Cv (S i) K) (aO:Stop P F (.Ci U vs) aA s₀) {x:Value} (aP:F.msg k' x K.E) (aQ:Way P false (Stop P F .Df) (served aB undef) K)
  (al:gs'.size=gs.size) (aR:gs'[0]? =some (served aA (.tuple #[x,.bool true]))) (hi:gs'[i]? =some (served aB undef)) (V:∀a,a≠0→a≠i→gs'[a]? =gs[a]?) (aS:cl=false) {f1 f2:FuncId} {p1 p2:String}:
  ∃aD aE aF S',Inv P F B gs' (w.setChan F.ch 0 #[] false (k+1) (k+1) false) (t++Gp i k F.ch f1 f2 p1 p2) aD aE aF S' Sh j c v wt' sm false (k+1)∧Mu.lt (mu F gs'.size aD aE aF) (mu F gs.size φ r bt):=by
 subst aS;have bd:=h.BC.pos;have be:=h.BC.size;have aa:i<gs.size:=by omega
 have ab:0<gs.size:=by omega
 have ai:i≠0:=by omega
 have aG:F.has k'=true:=by have:=h.BC.work k' aj;rw [← ak,Z] at this;exact this.2
 have aT:k' ∉ U:=by have:=(h.BC.Hf k' aj aG).1 (by rw [← ak];exact Z);rwa [ah] at this
 have aH:=h.BC.meet (x:=x) ah aj (by rw [← ak];exact Z);rw [← ak] at aH;have hu:∀op∈Gp i k F.ch f1 f2 p1 p2,op.act.touch? =none∧∀m,op.act≠ .mark m:=by
  intro op O;simp only [Gp,List.mem_toArray,List.mem_cons,List.not_mem_nil,or_false] at O;rcases O with rfl | rfl | rfl | rfl <;> exact⟨rfl,by simp⟩
 have aU:=h.EM.Dw h.BC hu;have aI:=h.CX.FD F.ch h.Gx;have am:Ck t w gs.size (upd (upd S i K) 0 s₀) Sh:=by
  have:=(h.CX.ghost aa aN).ghost (i:=0) (s₀:=s₀) ab (by rw [upd_ne _ _ (Ne.symm ai)];exact aC);exact this
 have ar:upd (upd S i K) 0 s₀ 0=s₀:=upd_same _ _ _;have au:upd (upd S i K) 0 s₀ i=K:=by rw [upd_ne _ _ ai,upd_same]
 have aV:Ck (t++Gp i k F.ch f1 f2 p1 p2) (w.setChan F.ch 0 #[] false (k+1) (k+1) false) gs.size (upd (upd S i K) 0 s₀) Sh:=by
  refine am.ext (fun said=>?_) (fun op O a an=>by rw [(hu op O).1] at an;cases an) (fun op O=>?_) (by simp [World.setChan]) (fun b hb=>PZ _ _ _ _ _ _ _ _ fun e=>hb (e▸h.Gx))
  ·have key:∀(l:List MemOp) (t:Trace),¬Race said t→(∀op∈l,op.act.touch? =none)→¬Race said (t++l.toArray):=by
    intro l
    induction l with
    | nil=>intro t ht _;simpa using ht
    | cons y l aW=>
     intro t ht ae;have e:t++(y::l).toArray=(t++ #[y])++l.toArray:=by apply Array.ext';simp
     rw [e];exact aW _ (noRace_append (g:=y.g) ht (by simp) fun z a _ op O b hb _=>by simp at O;subst O;rw [ae op (by simp)] at hb;cases hb) fun op O=>ae op (by simp [O])
   exact key _ t (h.CX.clean said) fun op O=>(hu op (by simpa [Gp] using O)).1
  ·simp only [Gp,List.mem_toArray,List.mem_cons,List.not_mem_nil,or_false] at O;rcases O with rfl | rfl | rfl | rfl <;> exact aI
 have aX:∀b o o',s₀.E b=some o→K.E b=some o'→o=o':=by
  intro b o o' av aw;have ay:=(am.fits 0 ab).e b o (by rw [ar];exact av);have ao:=(am.fits i aa).e b o' (by rw [au];exact aw);rw [ay] at ao;exact Option.some.inj ao
 have aJ:Le s₀.E (Hu s₀.E K.E):=fun b o V=>by simp [Hu,V]
 have aY:Le K.E (Hu s₀.E K.E):=fun b o V=>by
  unfold Hu;cases ap:s₀.E b with
  | none=>exact V
  | some o'=>simp only;rw [aX b o' o ap V]
 have aZ:Deaf t 0=0:=by rw [h.EM.deaf 0 ab,ah];rfl
 have a0:Deaf t i=0:=by rw [h.EM.deaf i aa,Z];rfl
 have aK:Ck (t++Gp i k F.ch f1 f2 p1 p2) (w.setChan F.ch 0 #[] false (k+1) (k+1) false) gs.size (upd (upd S i K) 0 ⟨Hu s₀.E K.E,s₀.H,false⟩) Sh:=by
  have:=aV.grow (i:=0) (E':=Hu s₀.E K.E) (q:=false) ab (fun b o hb=>by
   rw [ar]
   unfold Hu at hb
   cases ap:s₀.E b with
   | some o'=>rw [ap] at hb;exact .inl hb
   | none=>
    rw [ap] at hb
    have aL:K.E b=some o:=hb
    refine .inr ⟨i,aa,by rw [au];exact aL,fun y a a1 a2 a3=>?_⟩
    have hold:touchAt t y=some a:=by
     obtain⟨op,V,az⟩:=touch_of a1
     rcases getElem?_append_cases V with⟨_,a4⟩ | ⟨_,a5⟩
     ·rw [touchAt_of a4];exact az
     ·rw [(hu op a5).1] at az;cases az
    exact T0 ai a0 aZ (am.kE i aa b (by rw [au,aL];simp) y a hold a2 a3))
  rw [ar,OD] at this;exact this
 have a6:∀b,Hu s₀.E K.E b≠none→s₀.H b=none:=by
  intro b hb;have:=(aK.fits 0 ab).d b (by rw [upd_same];exact hb)
  rwa [upd_same] at this
 have a7:k'<F.n:=Nat.lt_of_lt_of_le aj h.BC.jn;obtain⟨z,_,a8,_⟩:=aO.law.recv U vs rfl;obtain⟨a9,ba⟩:=a8 k' x (Hu s₀.E K.E) a7 aG aT aJ a6 (aM _ _ _ _ aY aP);obtain⟨bb,bc⟩:=aQ;have f0:∀a,a≠0→a≠i→upd (upd φ i (.ph .Df)) 0 (.ph (.Ci (U++ [k']) (vs++ [x]))) a=φ a:=fun a av aw=>by rw [upd_ne _ _ av,upd_ne _ _ aw]
 have fi:upd (upd φ i (.ph .Df)) 0 (.ph (.Ci (U++ [k']) (vs++ [x]))) i= .ph .Df:=by rw [upd_ne _ _ ai,upd_same]
 refine⟨upd (upd φ i (.ph .Df)) 0 (.ph (.Ci (U++ [k']) (vs++ [x]))),upd (upd r i bb) 0 a9,upd (upd bt i true) 0 true,upd (upd S i K) 0 ⟨Hu s₀.E K.E,s₀.H,false⟩,⟨by rw [al];exact aH,?_,fun a o ag=>?_,by rw [al];exact aK,h.H3,h.Gx,h.ne,?_,?_,fun hb=>(by rw [upd_same] at hb;cases hb),fun aq hb=>?_,?_,h.tape,h.os,h.output⟩,?_⟩
 ·rw [al];refine aU.W5 (fun a an=>?_) (fun a an ae=>?_) (fun aq=>?_)
  ·by_cases q:a=0
   ·subst q;rw [upd_same,ah];rfl
   ·by_cases W:a=i
    ·subst W;rw [fi,Z];rfl
    ·rw [f0 a q W]
  ·by_cases q:B.N0+a=i
   ·rw [q,fi] at ae;exact ae.elim
   ·rwa [f0 _ (by omega) q] at ae
  ·have:=h.BC.cj aq;exact f0 _ (by omega) (by omega)
 ·by_cases q:a=0
  ·subst q;rw [aR] at ag;obtain rfl:=Option.some.inj ag;rw [upd_same,upd_same,upd_same,upd_same];exact .walk rfl (fun q=>by cases q) ba
  ·by_cases W:a=i
   ·subst W;rw [hi] at ag;obtain rfl:=Option.some.inj ag;rw [fi,upd_ne _ _ q,upd_same,upd_ne _ _ q,upd_same,upd_ne _ _ q,upd_same];have hm:(a==0)=false:=by simp [q]
    exact .walk (by rw [hm];rfl) (fun q=>by cases q) (by rw [hm];exact bc)
   ·rw [V a q W] at ag;rw [f0 a q W,upd_ne _ _ q,upd_ne _ _ W,upd_ne _ _ q,upd_ne _ _ W,upd_ne _ _ q,upd_ne _ _ W];exact h.ER a o ag
 ·show(w.setChan F.ch 0 #[] false (k+1) (k+1) false).heap[F.wg]? =_;rw [PZ _ _ _ _ _ _ _ _ h.ne];exact h.wg
 ·show(w.setChan F.ch 0 #[] false (k+1) (k+1) false).heap[F.ch]? =_;simp [World.setChan,aI]
 ·have bf:=h.BC.cj aq;rw [upd_ne _ _ (by omega),upd_ne _ _ (by omega)] at hb;exact h.blk aq hb
 ·rw [upd_same];exact(h.le.trans fun b o V=>aC.ext b o V).trans aJ
 ·rw [al];refine SZ ?_;have ay:=sumTo_upd (upd φ i (.ph .Df)) (.ph (.Ci (U++ [k']) (vs++ [x]))) (wt F.n) ab;have ao:=sumTo_upd φ (.ph .Df) (wt F.n) aa;rw [upd_ne _ _ (Ne.symm ai),ah] at ay;rw [Z] at ao;have bg:wt F.n (.ph (.Ci U vs))=2:=rfl;have bh:wt F.n (.ph (.Ci (U++ [k']) (vs++ [x])))=2:=rfl;have bi:wt F.n (.ph (.CC k'))=10:=rfl;have bj:wt F.n (.ph .Df)=9:=rfl;omega
theorem Inv.send(h:Inv P F B gs w t φ r bt S Sh j c v wt' sm cl k)(aw:∀k v E E',Le E E'→F.msg k v E→F.msg k v E'){i k':Nat}{g:Goroutine}(hi:gs[i]? =some g)(K:φ i= .ph (.CC k'))(ay:bt i=true)(aa:(i==0)=false){s₀:St}(hg:Cv (S i) s₀)(hs:Stop P F (.CC k') g s₀):
  Hv P F B gs w sl t i (mu F gs.size φ r bt):=by
 have V:i<gs.size:=(Array.getElem?_eq_some_iff.1 hi).1;have al:0<gs.size:=by omega
 have O:i≠0:=by simpa using aa
 have az:k'<j∧i=B.N0+k':=by
  rcases h.BC.FH V with rfl | ⟨a,b⟩ | ⟨aA,W,rfl⟩ | ⟨ab,rfl⟩
  ·exact absurd rfl O
  ·have:=h.BC.old i a b;rw [K] at this;exact this.elim
  ·have:=h.BC.work aA W;rw [K] at this;obtain⟨rfl,_⟩:=this;exact⟨W,rfl⟩
  ·have:=h.BC.cls ab;rw [K] at this;exact this.elim
 obtain⟨W,aB⟩:=az;have aC:cl=false:=by
  cases aD:cl with
  | false=>rfl
  | true=>exact absurd K (h.noSend aD i k' V)
 subst aC;obtain⟨x,z,am,aE,an⟩:=hs.law.send k' rfl;have ao:stepG P (i==0) g w= .comm g #[scase F.ch x z] true .send w #[]:=by rw [aa];exact aE w
 have ap:∀(a:Nat) (fn:FuncId) (pos:String),MemOp.ofEvents a fn pos #[]= #[]:=fun a fn pos=>by rw [ofEvents_eq];simp
 cases ae:bt 0 with
 | true=>
  have aF:partners (gs.setIfInBounds i ph) F.ch false= []:=by
   refine partners_nil fun a o ag=>?_;rcases getElem?_stand gs i a o ag with⟨_,rfl⟩ | ⟨_,ah⟩
   ·exact offersAt_ph _ _
   ·exact(h.ER a o ah).R7 fun e=>by
     have:a=0:=by simpa using e
     subst this;exact ae
  have Z:=crowd_waits (sl:=sl) hi ao fun aQ aq=>by
   simp at aq;subst aq;exact ways_send_none (v:=x) (z:=z) h.He (Nat.le_refl _) aF
  obtain⟨ar,ai,aj⟩:=h.rest (g':=parked g #[scase F.ch x z] .send) (u:=MemOp.ofEvents i g.frame.fn g.frame.place #[]) V ay hg (by rw [K];exact .Ga aa am (hs.law.live rfl) an) (ap _ _ _) (fun e=>absurd e O) (fun _ _=>ae) (fun ab e=>by have:=h.BC.cj ab;omega);exact⟨_,_,_,_,Z,.inl ⟨_,_,_,_,_,_,_,_,_,_,_,_,ai,aj⟩⟩
 | false=>
  obtain⟨aG,ak⟩:∃o,gs[0]? =some o:=⟨_,Array.getElem?_eq_getElem al⟩;obtain⟨p0,au,hm⟩:=h.BC.main;have av:=h.ER 0 aG ak;rw [ae,au] at av;obtain⟨aR,vs,U,aH,rfl,rfl,aI⟩:=av.receiver rfl rfl;have aJ:partners (gs.setIfInBounds i ph) F.ch false= [(0,0)]:=by
   rw [partners_one (j:=0) (g:=parked U #[rcase F.ch aH] (.recv true)) (stand_get (Ne.symm O) ak) fun a o aK ag=>?_]
   ·rw [offersAt_parked_recv];simp
   ·rcases getElem?_stand gs i a o ag with⟨_,rfl⟩ | ⟨_,ah⟩
    ·exact offersAt_ph _ _
    ·exact(h.ER a o ah).R7 fun e=>by
      have:a=0:=by simpa using e
      exact absurd this aK
  have Z:=crowd_send_meets (sl:=sl) hi ao h.He (Ne.symm O) ak aJ;rw [finishComm_recv,finishComm_send,ap] at Z;have aL:((gs.setIfInBounds 0 (served U (recvd true x true))).setIfInBounds i (served g undef)).size=gs.size:=by simp
  obtain⟨aM,aN,ar,S',ai,aj⟩:=h.meet aw W aB K au (.refl _) hg aI am an (gs':=(gs.setIfInBounds 0 (served U (recvd true x true))).setIfInBounds i (served g undef)) aL
   (by rw [Array.getElem?_setIfInBounds_ne O,Array.getElem?_setIfInBounds_self_of_lt al];rfl) (by rw [Array.getElem?_setIfInBounds_self_of_lt (by simpa using V)]) (fun a aO aP=>by rw [Array.getElem?_setIfInBounds_ne (Ne.symm aP),Array.getElem?_setIfInBounds_ne (Ne.symm aO)]) rfl
   (f1:=g.frame.fn) (f2:=U.frame.fn) (p1:=g.frame.place) (p2:=U.frame.place)
  refine⟨_,_,_,_,Z,.inl ⟨aM,aN,ar,S',Sh,j,c,v,wt',sm,false,k+1,?_,aj⟩⟩;rw [Array.empty_append];exact ai
end
end Pal
namespace Pal
open Go Go.Conc
open Go.ConcN (upd upd_same upd_ne sumTo sumTo_upd sumTo_upd_out sumTo_congr le_sumTo sumTo_le fork_knows RelBy)
section
variable {P:Program}{F:Fam}{B:Base}{gs gs':Array Goroutine}{w w':World}{sl:Option (Nat×Nat)}{t:Trace}{φ:Nat→Nx}{r:Nat→Rk}{bt:Nat→Bool}{S:Nat→St}{Sh:Nat→Prop}{j:Nat}{c:Bool}{v wt' sm v₁ wt₁ sm₁:Nat}{cl cl₁:Bool}{k k₁:Nat}{main:Bool}
theorem Inv.RM(h:Inv P F B gs w t φ r bt S Sh j c v wt' sm true k):c=true∧Fh (φ (B.N0+F.n))∧∀i,0<i→i<gs.size→∃d,φ i= .gone d:=by
 have hm:=h.BC.mode;have K:c=true∧Fh (φ (B.N0+F.n)):=by
  split at hm
  ·rename_i K;refine⟨K,?_⟩;cases O:φ (B.N0+F.n) with
   | gone d=>trivial
   | ph p=>rw [O] at hm;cases p <;> simp [Dd] at hm
  ·simp [Dd] at hm
 refine⟨K.1,K.2,fun i hi U=>?_⟩;have:Fh (φ i):=by
  rcases h.BC.FH U with rfl | ⟨a,b⟩ | ⟨k',V,rfl⟩ | ⟨_,rfl⟩
  ·omega
  ·exact h.BC.old i a b
  ·exact h.BC.OE K.1 (.inr (.inr (.inr (.inr K.2)))) k' V
  ·exact K.2
 cases O:φ i with
 | gone d=>exact⟨d,rfl⟩
 | ph p=>rw [O] at this;exact this.elim
theorem Inv.over(h:Inv P F B gs w t φ r bt S Sh j c v wt' sm true k){aB:List Nat}{vs:Lv_}(ao:φ 0= .ph (.Ci aB vs)){s₀:St}(ap:Cv (S 0) s₀){g':Goroutine}(aC:F.fin g' s₀)
  (aq:gs'.size=gs.size) (aD:gs'[0]? =some g') (Z:∀a,a≠0→gs'[a]? =gs[a]?) {f1:FuncId} {p1:String}:
  Over P F B gs' w (t++ #[{g:=0,fn:=f1,pos:=p1,act:= .recvClosed F.ch}]):=by
 obtain⟨ae,ar,aE⟩:=h.RM;have aW:=h.BC.pos;have au:=h.BC.size;have ai:0<gs.size:=by omega
 have aF:F.ch<w.heap.size:=h.CX.FD F.ch h.Gx;generalize hu:(#[{g:=0,fn:=f1,pos:=p1,act:= .recvClosed F.ch}]:Trace)=u;have av:∀op∈u,op.act.touch? =none∧∀m,op.act≠ .mark m:=by
  intro op K;subst hu;simp at K;subst K;exact⟨rfl,by simp⟩
 have aa:=h.EM.Dw h.BC av;have aG:Deaf t 0=0:=by rw [h.EM.deaf 0 ai,ao];rfl
 have aw:∀i g,0<i→gs[i]? =some g→∃q d,φ i= .gone d∧QuitsD P q d g∧S i= .quiet:=by
  intro i g hi hg;obtain⟨d,hd⟩:=aE i hi (Array.getElem?_eq_some_iff.1 hg).1;have hs:=h.ER i g hg;rw [hd] at hs;generalize U:Nx.gone d=x at hs;generalize S i=s at hs ⊢;generalize r i=ρ at hs;generalize bt i=aX at hs;cases hs with
  | gone _ ag=>cases U;exact⟨_,_,hd,ag,rfl⟩
  | _=>cases U
 have ag:∀i,∃q,∀g,0<i→gs[i]? =some g→QuitsD P q (Deaf t i) g:=by
  intro i;by_cases hi:0<i∧i<gs.size
  ·obtain⟨q,d,O,W,_⟩:=aw i _ hi.1 (Array.getElem?_eq_getElem hi.2);refine⟨q,fun g _ hg=>?_⟩;rw [Array.getElem?_eq_getElem hi.2] at hg;obtain rfl:=Option.some.inj hg;rw [h.EM.deaf i hi.2,O];exact W
  ·exact⟨0,fun g O W=>absurd ⟨O,(Array.getElem?_eq_some_iff.1 W).1⟩ hi⟩
 have ay:∀op∈u,op.g=0:=by intro op K;subst hu;simp at K;subst K;rfl
 have aH:Ck t w gs.size (lone s₀) Sh:=by
  have O:=h.CX.ghost ai ap;refine O.congr fun i hi=>?_;by_cases e:i=0
  ·subst e;rw [upd_same];exact⟨rfl,rfl⟩
  ·rw [upd_ne _ _ e];obtain⟨_,_,_,_,aI⟩:=aw i _ (by omega) (Array.getElem?_eq_getElem hi);rw [aI];simp [lone,e]
 have aJ:Ck (t++u) w gs.size (lone s₀) Sh:=aH.mute (g:=0) ay (fun op Z=>(av op Z).1) (fun op K=>by subst hu;simp at K;subst K;exact aF) rfl;refine⟨fun i=>Classical.choose (ag i),Sh,g',s₀,⟨aD,⟨fun i g hi hg=>?_,fun i hi=>?_⟩,by rw [aq];exact aJ,fun x g hg aK aj=>?_,?_⟩,aC,h.le.trans fun b o Z=>ap.ext b o Z,h.tape,h.os,h.output⟩
 ·rw [Deaf_other t (by omega) u ay];rw [Z i (by omega)] at hg;exact Classical.choose_spec (ag i) g hi hg
 ·exact aa.above i (by rw [← aq];exact hi)
 ·rcases aa.over x g hg aK aj with q | ⟨q1,q2⟩
  ·exact q
  obtain⟨p,V⟩:=aa.Kb ae ar;have aY:p<t.size:=by
   obtain⟨aZ,a0⟩:=h.EM.Kb ae ar;rcases Nat.lt_or_ge p t.size with q | q
   ·exact q
   ·have O:=V.1;obtain⟨op,K,aL⟩:=Option.map_eq_some_iff.1 O;rcases getElem?_append_cases K with⟨aM,_⟩ | ⟨_,hm⟩
    ·exact aM
    ·subst hu;simp at hm;subst hm;cases aL
  have ak:(t++u)[t.size]? =some {g:=0,fn:=f1,pos:=p1,act:= .recvClosed F.ch}:=by subst hu;simp
  have aN:(t++u).heard t.size:=⟨0,by simp [Trace.g?,ak],by rw [deaf_old (Nat.le_refl _)];exact aG⟩;have ah:HappensBefore (t++u) p t.size:= .single (.inr ⟨.closed V.1 (by rw [act?_of ak]),V.2.2.1,aN⟩);have az:(t++u).g? t.size=some 0:=by simp [Trace.g?,ak]
  have al:∀{a b:Nat} {g:Nat},a<b→(t++u).g? a=some g→(t++u).g? b=some g→HappensBefore (t++u) a b:=fun O W aO=> .single (.inl ⟨O,_,W,aO⟩);rcases Nat.lt_or_ge g (B.N0+F.n) with aP | aP
  ·
   obtain⟨q,aQ,aR,aS,aT,aU⟩:=V.2.2.2.1;obtain⟨ρ,a1,aV,ab⟩:=aU (g - B.N0) (by omega);have am:B.N0+(g - B.N0)=g:=by omega
   rw [am] at ab;have aA:HappensBefore (t++u) ρ q:= .single (.inr ⟨.marked aV (.inr ab.act) aR (fun z O W=>aa.norel z (by omega)),ab.heard,aT⟩);have e2:HappensBefore (t++u) q p:=al aQ aS V.2.1;have hle:x≤ρ:=Nat.le_of_not_lt fun an=>ab.after x an hg aj;refine⟨t.size,az,?_⟩;rcases Nat.lt_or_ge x ρ with U | U
   ·exact((al U hg ab.g).trans (aA.trans e2)).trans ah
   ·obtain rfl:x=ρ:=by omega
    exact(aA.trans e2).trans ah
  ·
   have am:g=B.N0+F.n:=by rw [ae] at au;have:=h.BC.cj ae;simp at au;omega
   subst am;have hle:x≤p:=Nat.le_of_not_lt fun an=>V.2.2.2.2 x an hg aj;refine⟨t.size,az,?_⟩;rcases Nat.lt_or_ge x p with U | U
   ·exact(al U hg V.2.1).trans ah
   ·obtain rfl:x=p:=by omega
    exact ah
 ·have:=aa.deaf 0 ai;rw [ao] at this;exact this
theorem Inv.recv(h:Inv P F B gs w t φ r bt S Sh j c v wt' sm cl k)(aJ:∀k v E E',Le E E'→F.msg k v E→F.msg k v E'){x:Goroutine}(hi:gs[0]? =some x){aj:List Nat}{vs:Lv_}(aa:φ 0= .ph (.Ci aj vs))(aK:bt 0=true)
  {O:Goroutine} {s₀:St} (hg:Cv (S 0) s₀) (hs:Stop P F (.Ci aj vs) O s₀) (ak:∀w,stepG P true x w=stepG P true O w) (a2:x.frame=O.frame):
  Hv P F B gs w sl t 0 (mu F gs.size φ r bt):=by
 have al:0<gs.size:=(Array.getElem?_eq_some_iff.1 hi).1;obtain⟨z,aL,_,aM⟩:=hs.law.recv aj vs rfl;have am:stepG P (0==0) x w= .comm O #[rcase F.ch z] true (.recv true) w #[]:=by rw [show((0:Nat)==0)=true from rfl,ak];exact aL w
 have an:∀(a:Nat) (fn:FuncId) (pos:String),MemOp.ofEvents a fn pos #[]= #[]:=fun a fn pos=>by rw [ofEvents_eq];simp
 by_cases ab:partners (gs.setIfInBounds 0 ph) F.ch true= []
 ·cases ae:cl with
  | false=>
   have W:=h.He;rw [ae] at W;have Z:=crowd_waits (sl:=sl) hi am fun a3 az=>by
    simp at az;subst az;exact ways_recv_none (z:=z) W ab
   have aN:∀a k',a<gs.size→φ a= .ph (.CC k')→bt a=true:=by
    intro a k' ah ao;cases hb:bt a with
    | true=>rfl
    | false=>
     have V:=h.ER a _ (Array.getElem?_eq_getElem ah);rw [ao,hb] at V;obtain⟨g,y,ap,hgo,_⟩:=V.OX;have ai:a≠0:=fun e=>by subst e;rw [aa] at ao;cases ao
     have:(a,0)∈partners (gs.setIfInBounds 0 ph) F.ch true:=mem_partners.2 ⟨gs[a],stand_get ai (Array.getElem?_eq_getElem ah),by rw [hgo,offersAt_parked_send];simp⟩;rw [ab] at this;cases this
   obtain⟨aA,aq,ar⟩:=h.rest (g':=parked O #[rcase F.ch z] (.recv true)) (u:=MemOp.ofEvents 0 x.frame.fn x.frame.place #[]) al aK hg (by rw [aa];exact .FX rfl hs) (an _ _ _) (fun _=>⟨ae,aN⟩) (fun k' e=>by rw [aa] at e;cases e) (fun W e=>by have:=h.BC.pos;omega);exact⟨_,_,_,_,Z,.inl ⟨_,_,_,_,_,_,_,_,_,_,_,_,aq,ar⟩⟩
  | true=>
   subst ae;have Z:=crowd_recv_closed (sl:=sl) hi am h.He ab;rw [finishComm_recv,an] at Z;obtain⟨W,a4,aO⟩:=h.RM;have aP:=aM fun k' U hh=>by
    have aQ:k'<j:=by rw [h.BC.cj W];exact U
    have aB:=h.BC.Hf k' aQ hh;rw [aa] at aB;have a5:=h.BC.size;have a6:=h.BC.pos;obtain⟨d,hd⟩:=aO (B.N0+k') (by omega) (by omega);apply Classical.byContradiction;intro aR;rw [aB.2 aR] at hd;cases hd
   have aS:=h.over (gs':=gs.setIfInBounds 0 (served O (recvd true z false))) aa hg aP (by simp) (by rw [Array.getElem?_setIfInBounds_self_of_lt al];rfl) (fun a ah=>by rw [Array.getElem?_setIfInBounds_ne (Ne.symm ah)]) (f1:=O.frame.fn) (p1:=O.frame.place);refine⟨_,_,_,_,Z,.inr ?_⟩;rw [Array.empty_append];exact aS
 ·have ae:cl=false:=by
   obtain⟨⟨a,b⟩,au⟩:=List.exists_mem_of_ne_nil _ ab;obtain⟨o,av,K⟩:=mem_partners.1 au;rcases getElem?_stand gs 0 a o av with⟨_,rfl⟩ | ⟨_,ag⟩
   ·rw [offersAt_ph] at K;cases K
   ·obtain⟨k',U,_⟩:=(h.ER a o ag).N9 fun e=>by rw [e] at K;cases K
    cases ak:cl with
    | false=>rfl
    | true=>exact absurd U (h.noSend ak a k' (Array.getElem?_eq_some_iff.1 ag).1)
  subst ae;obtain⟨a,aw,aC,a7,a8,d,ai,aD,Z⟩:=crowd_recv_meets_some (sl:=sl) hi am h.He ab fun a b au=>by
   obtain⟨o,av,K⟩:=mem_partners.1 au;rcases getElem?_stand gs 0 a o av with⟨_,rfl⟩ | ⟨aT,ag⟩
   ·rw [offersAt_ph] at K;cases K
   ·have V:=h.ER a o ag;obtain⟨k',U,ay⟩:=V.N9 fun e=>by rw [e] at K;cases K
    rw [U,ay] at V;obtain⟨g,y,ap,hgo,_⟩:=V.OX;rw [hgo,offersAt_parked_send] at K;simp at K;exact⟨K,aT,g,y,ap,_,by rw [ag,hgo]⟩
  have aE:a<gs.size:=(Array.getElem?_eq_some_iff.1 aD).1;have V:=h.ER a _ aD;obtain⟨k',U,ay⟩:=V.N9 (by rw [offersAt_parked_send];simp);rw [U,ay] at V;obtain⟨g,y,ap,hgo,aU,a9,aF⟩:=V.OX;obtain⟨aG,e2,aV⟩:=TQ hgo;have aW:aC=y:=by simp [scase] at aG;exact aG.1
  subst aW;subst e2;rw [finishComm_recv,finishComm_send,an] at Z;rw [← aV] at aF;have aH:k'<j∧a=B.N0+k':=by
   rcases h.BC.FH aE with rfl | ⟨q1,q2⟩ | ⟨aX,aI,rfl⟩ | ⟨W,rfl⟩
   ·exact absurd rfl ai
   ·have:=h.BC.old a q1 q2;rw [U] at this;exact this.elim
   ·have:=h.BC.work aX aI;rw [U] at this;obtain⟨rfl,_⟩:=this;exact⟨aI,rfl⟩
   ·have:=h.BC.cls W;rw [U] at this;exact this.elim
  obtain⟨aY,aZ,aA,S',aq,ar⟩:=(h.at_ d).meet aJ aH.1 aH.2 U aa hg (.refl _) hs aU aF (gs':=(gs.setIfInBounds a (served aw undef)).setIfInBounds 0 (served O (recvd true aC true))) (by simp)
   (by rw [Array.getElem?_setIfInBounds_self_of_lt (by simpa using al)];rfl) (by rw [Array.getElem?_setIfInBounds_ne (Ne.symm ai),Array.getElem?_setIfInBounds_self_of_lt aE]) (fun b a0 a1=>by rw [Array.getElem?_setIfInBounds_ne (Ne.symm a0),Array.getElem?_setIfInBounds_ne (Ne.symm a1)]) rfl
   (f1:=aw.frame.fn) (f2:=O.frame.fn) (p1:=aw.frame.place) (p2:=O.frame.place)
  refine⟨_,_,_,_,Z,.inl ⟨aY,aZ,aA,S',Sh,j,c,v,wt',sm,false,k+1,?_,ar⟩⟩;rw [Array.empty_append];exact aq
theorem Inv.spawn(h:Inv P F B gs w t φ r bt S Sh j c v wt' sm cl k){g g' child:Goroutine}(hi:gs[0]? =some g){p U O:Ph}(ah:φ 0= .ph p)(au:c=false){s₀:St}(hg:Cv (S 0) s₀)(av:stepG P true g w= .spawn g' child w #[])
  (aw:Way P true (Stop P F U) g' s₀) (ay:Way P false (Stop P F O) child ⟨s₀.E,fun _=>none,false⟩) (az:Fam.DT U=true) (aA:Fam.DT O=false) (aB:Fam.Ek U=false) (aC:Fam.Ek O=false) {ai:Nat} {aj:Bool}
  (aD:Cj F B.N0 (gs.size+1) ai aj (upd (upd φ gs.size (.ph O)) 0 (.ph U)) v wt' sm cl)
  (hd:Ez (.ph p)=0∧Ez (.ph U)=0∧Ez (.ph O)=0) (aE:∀k,k<ai→late (upd (upd φ gs.size (.ph O)) 0 (.ph U) (B.N0+k))→k<j∧late (φ (B.N0+k))) (an:aj=true→B.N0+F.n=gs.size∧O= .Dh)
  (hm:wt F.n (.ph U)+wt F.n (.ph O)<wt F.n (.ph p)) (aF:sm=0):
  Hv P F B gs w sl t 0 (mu F gs.size φ r bt):=by
 have W:0<gs.size:=(Array.getElem?_eq_some_iff.1 hi).1;have ak:=runT_crowd_spawn (P:=P) (sl:=sl) (i:=0) hi (show stepG P (0==0) g w=_ from av);have aG:∀(a:Nat) (fn:FuncId) (pos:String),MemOp.ofEvents a fn pos #[]= #[]:=fun a fn pos=>by rw [ofEvents_eq];simp
 rw [aG] at ak;generalize aH:({g:=0,fn:=g.frame.fn,pos:=g.frame.place,act:= .go gs.size}:MemOp)=x at ak;generalize aI:({g:=gs.size,fn:=child.frame.fn,pos:=g.frame.place,act:= .start}:MemOp)=y at ak;have aa:x.g=0∧x.act= .go gs.size:=by subst aH;exact⟨rfl,rfl⟩
 have ab:y.g=gs.size∧y.act= .start:=by subst aI;exact⟨rfl,rfl⟩
 have aJ:((#[]:Trace).push x).push y= #[x,y]:=rfl;have al:((gs.setIfInBounds 0 g').push child).size=gs.size+1:=by simp
 have f0:upd (upd φ gs.size (.ph O)) 0 (.ph U) 0= .ph U:=upd_same _ _ _;have am:upd (upd φ gs.size (.ph O)) 0 (.ph U) gs.size= .ph O:=by rw [upd_ne _ _ (by omega),upd_same]
 have aq:∀a,a≠0→a≠gs.size→upd (upd φ gs.size (.ph O)) 0 (.ph U) a=φ a:=fun a aK aL=>by rw [upd_ne _ _ aK,upd_ne _ _ aL]
 have hu:∀op∈(#[x,y]:Array MemOp),op.act.touch? =none∧∀m,op.act≠ .mark m:=by
  intro op K;simp only [List.mem_toArray,List.mem_cons,List.not_mem_nil,or_false] at K;rcases K with rfl | rfl
  ·rw [aa.2];exact⟨rfl,by simp⟩
  ·rw [ab.2];exact⟨rfl,by simp⟩
 have aM:Ee F B.N0 B.t0 (gs.size+1) ai aj (upd (upd φ gs.size (.ph O)) 0 (.ph U)) (t++ #[x,y]):=by
  refine h.EM.spawn h.BC au (fun a ao=>?_) (by rw [am];exact hd.2.2) (by rw [ah];exact hd.1) aE (fun e=>⟨(an e).1,by rw [(an e).1,am,(an e).2]⟩) aa ab;by_cases e:a=0
  ·subst e;rw [f0,ah,hd.1,hd.2.1]
  ·rw [aq a e (by omega)]
 have ar:Ck t w gs.size (upd S 0 s₀) Sh:=h.CX.ghost W hg;have aN:Ck (t++ #[x,y]) w gs.size (upd S 0 s₀) Sh:=by
  refine ar.ext (fun said=>?_) (fun op K a ao=>by rw [(hu op K).1] at ao;cases ao) (fun op K=>?_) rfl fun _ _=>rfl
  ·have e:t++ #[x,y]=(t++ #[x])++ #[y]:=by apply Array.ext';simp
   rw [e];exact noRace_append (g:=gs.size) (noRace_append (g:=0) (h.CX.clean said) (fun op K=>by simp at K;subst K;exact aa.1) fun z a _ op K b hb _=>by rw [(hu op (by simp at K ⊢;exact .inl K)).1] at hb;cases hb)
    (fun op K=>by simp at K;subst K;exact ab.1) fun z a _ op K b hb _=>by rw [(hu op (by simp at K ⊢;exact .inr K)).1] at hb;cases hb
  ·simp only [List.mem_toArray,List.mem_cons,List.not_mem_nil,or_false] at K;rcases K with rfl | rfl
   ·rw [aa.2];trivial
   ·rw [ab.2];trivial
 have aO:Ck (t++ #[x,y]) w (gs.size+1) (upd (upd S 0 s₀) gs.size ⟨s₀.E,fun _=>none,false⟩) Sh:=by
  refine aN.push (i:=0) W (E:=s₀.E) (fun b o ae=>by rw [upd_same];exact ae) fun b hb z a aP aQ aR=>?_;have hold:touchAt t z=some a:=by
   obtain⟨op,ae,ap⟩:=touch_of aP;rcases getElem?_append_cases ae with⟨_,aS⟩ | ⟨_,aT⟩
   ·rw [touchAt_of aS];exact ap
   ·rw [(hu op aT).1] at ap;cases ap
  exact fork_knows aa ab (by rw [h.EM.deaf 0 W,ah];exact hd.1) (h.EM.above _ (Nat.le_refl _)) (ar.kE 0 W b (by rw [upd_same];exact hb) z a hold aQ aR)
 obtain⟨aU,aV⟩:=aw;obtain⟨aW,aX⟩:=ay;have ag:∀{α:Type} (f:Nat→α) (a b:α),upd (upd f 0 a) gs.size b 0=a:=fun f a b=>by rw [upd_ne _ _ (by omega),upd_same]
 refine⟨_,_,_,_,ak,.inl ⟨upd (upd φ gs.size (.ph O)) 0 (.ph U),upd (upd r 0 aU) gs.size aW,upd (upd bt 0 true) gs.size true,upd (upd S 0 s₀) gs.size ⟨s₀.E,fun _=>none,false⟩,Sh,ai,aj,v,wt',sm,cl,k,?_,?_⟩⟩
 ·rw [aJ];refine⟨by rw [al];exact aD,by rw [al];exact aM,fun a o V=>?_,by rw [al];exact aO,h.H3,h.Gx,h.ne,h.wg,h.He,fun hb=>(by rw [ag] at hb;cases hb),fun _ _=>aF,?_,h.tape,h.os,h.output⟩
  ·by_cases e:a=0
   ·subst e;rw [Array.getElem?_push_lt (by simpa using W)] at V;simp at V;subst V;rw [f0,ag,ag,ag];exact .walk az.symm (fun q=>by rw [aB] at q;cases q) aV
   ·by_cases Z:a=gs.size
    ·subst Z;have:child=o:=by
      rw [show gs.size=(gs.setIfInBounds 0 g').size by simp,Array.getElem?_push_size] at V;exact Option.some.inj V
     subst this;rw [am,upd_same,upd_same,upd_same];have aY:(gs.size==0)=false:=by rw [beq_eq_false_iff_ne];omega
     rw [aY];exact .walk aA.symm (fun q=>by rw [aC] at q;cases q) aX
    ·rw [aq a e Z,upd_ne _ _ Z,upd_ne _ _ e,upd_ne _ _ Z,upd_ne _ _ e,upd_ne _ _ Z,upd_ne _ _ e];have:gs[a]? =some o:=by
      rw [Array.getElem?_push] at V;simp [Z] at V;simpa [Array.getElem?_setIfInBounds_ne (Ne.symm e)] using V
     exact h.ER a o this
  ·rw [ag];exact h.le.trans fun b o ae=>hg.ext b o ae
 ·rw [al];refine SZ ?_;simp only [sumTo];rw [am];have aZ:=sumTo_upd (upd φ gs.size (.ph O)) (.ph U) (wt F.n) W;rw [upd_ne _ _ (by omega),ah] at aZ;have a0:=sumTo_upd_out φ (.ph O) (wt F.n) (i:=gs.size) (j:=gs.size) (Nat.le_refl _);omega
theorem Inv.step(h:Inv P F B gs w t φ r bt S Sh j c v wt' sm cl k)(aB:∀k v E E',Le E E'→F.msg k v E→F.msg k v E'):
  ∃gs' w' aC u,stepT P (crowd gs w sl)=(.next (crowd gs' w' aC),u)∧
  ((∃aO aP aQ S' a0 O a1 v' a2 sm' cl' k',Inv P F B gs' w' (t++u) aO aP aQ S' a0 O a1 v' a2 sm' cl' k'∧Mu.lt (mu F gs'.size aO aP aQ) (mu F gs.size φ r bt))∨Over P F B gs' w' (t++u)):=by
 have bu:=h.BC.pos;have ai:=h.BC.size;have aD:0<gs.size:=by omega
 have a3:∀x∈gs,awake x:=by
  intro x K;obtain⟨i,hi,rfl⟩:=Array.mem_iff_getElem.1 K;exact(h.ER i _ (Array.getElem?_eq_getElem hi)).awake
 have aE:∀i (hi:i<gs.size) p,φ i= .ph p→bt i=true→(gs[i]).status= .running:=by
  intro i hi p a4 hb;have hs:=h.ER i _ (Array.getElem?_eq_getElem hi);rw [a4,hb] at hs;generalize K:Nx.ph p=x at hs;generalize Z:true=b at hs;generalize gs[i]=o at hs ⊢;generalize r i=ρ at hs;generalize S i=s at hs;cases hs with
  | walk _ _ am=>exact am.running
  | again _ _=>rfl
  | FX _ _=>cases Z
  | Ga _ _ _ _=>cases Z
  | blk _ _=>cases Z
  | gone _ _=>cases K
 have a5:∃(i:Nat) (g:Goroutine),gs[i]? =some g∧g.status= .running:=by
  obtain⟨p0,aa,an⟩:=h.BC.main;cases aF:bt 0 with
  | true=>exact⟨0,_,Array.getElem?_eq_getElem aD,aE 0 aD p0 aa aF⟩
  | false=>
   obtain⟨a6,a7⟩:=h.Nw aF;have aR:=h.ER 0 _ (Array.getElem?_eq_getElem aD);rw [aa,aF] at aR;obtain⟨aj,vs,aS,bv,rfl,_,_⟩:=aR.receiver rfl rfl;obtain⟨am,U⟩:=an;have aG:B.N0+F.n<gs.size:=by rw [U] at ai;simp at ai;omega
   have a8:=h.BC.cls U;have ab:=h.BC.mode;rw [if_pos U] at ab;cases aq:φ (B.N0+F.n) with
   | gone d=>rw [aq] at ab;have:=ab.2.2.2.2.2;rw [a6] at this;cases this
   | ph aH=>
    cases aI:bt (B.N0+F.n) with
    | true=>exact⟨_,_,Array.getElem?_eq_getElem aG,aE _ aG aH aq aI⟩
    | false=>
     have ar:=h.blk U aI;have ae:=h.ER _ _ (Array.getElem?_eq_getElem aG);have a9:aH= .DL:=by
      have au:=a8;rw [aq] at ae au;rw [aI] at ae;generalize gs[B.N0+F.n]=o at ae;generalize r (B.N0+F.n)=ρ at ae;generalize S (B.N0+F.n)=s at ae;generalize K:Nx.ph aH=x at ae au;generalize Z:false=b at ae;cases ae with
      | walk _ _ _=>cases Z
      | again _ _=>cases Z
      | FX _ _=>cases K;exact au.elim
      | Ga _ _ _ _=>cases K;exact au.elim
      | blk _ _=>cases K;rfl
      | gone _ _=>cases K
     subst a9;rw [aq] at ab;obtain⟨ba,_,_⟩:=ab;have aT:=h.BC.cnt;rw [aa] at aT;simp only [pend,Nat.add_zero] at aT;have hex:∃i,i<gs.size∧1≤cU (φ i)+cL (φ i)+cS (φ i):=by
      apply Classical.byContradiction;intro bb;have aJ:∀i,i<gs.size→cU (φ i)=0∧cL (φ i)=0∧cS (φ i)=0:=fun i hi=>by
       have:¬1≤cU (φ i)+cL (φ i)+cS (φ i):=fun q=>bb ⟨i,hi,q⟩;omega
      have zero:∀f:Nat→Nat,(∀i,i<gs.size→f i=0)→sumTo gs.size f=0:=fun f bc=>by
       have:=sumTo_le (f:=f) (c:=0) (j:=gs.size) (fun i hi=>by rw [bc i hi];exact Nat.le_refl _);omega
      have z1:=zero (fun i=>cU (φ i)) fun i hi=>(aJ i hi).1;have bw:=zero (fun i=>cL (φ i)) fun i hi=>(aJ i hi).2.1;have bx:=zero (fun i=>cS (φ i)) fun i hi=>(aJ i hi).2.2;omega
     obtain⟨i,hi,ak⟩:=hex;cases ao:φ i with
     | gone d=>rw [ao] at ak;simp [cU,cL,cS] at ak
     | ph pi=>
      have bd:bt i=true:=by
       cases hb:bt i with
       | true=>rfl
       | false=>
        have hs:=h.ER i _ (Array.getElem?_eq_getElem hi);rw [ao,hb] at hs;rw [ao] at ak;generalize gs[i]=o at hs;generalize r i=ρ at hs;generalize S i=s at hs;generalize K:Nx.ph pi=x at hs ak;generalize Z:false=b at hs;cases hs with
        | walk _ _ _=>cases Z
        | again _ _=>cases Z
        | FX _ _=>simp [cU,cL,cS] at ak
        | Ga _ _ _ _=>have:=a7 i _ hi (ao.trans K);rw [hb] at this;cases this
        | blk _ _=>simp [cU,cL,cS] at ak
        | gone _ _=>cases K
      exact⟨i,_,Array.getElem?_eq_getElem hi,aE i hi pi ao bd⟩
 obtain⟨i,g,d,aC,hi,av,be⟩:=crowd_pick (P:=P) (w:=w) (sl:=sl) a3 a5
 suffices Hv P F B gs (w.at d) aC t i (mu F gs.size φ r bt) by
  obtain⟨gs',w',bf,u,aK,aw⟩:=this;exact⟨gs',w',bf,u,be.trans aK,aw⟩
 have V:=h.at_ d;have aL:i<gs.size:=(Array.getElem?_eq_some_iff.1 hi).1;have hs:=h.ER i g hi;generalize K:φ i=x at hs;generalize aU:r i=ρ at hs;generalize hb:bt i=b at hs;generalize ay:S i=s at hs;cases hs with
 | FX _ _=>cases av
 | Ga _ _ _ _=>cases av
 | blk _ _=>cases av
 | gone hm al=>exact V.slip hi av K aU hm al ay
 | @again aj vs _ aS _ z hm W=>
  have ah:i=0:=by simpa using hm
  subst ah;refine V.recv aB hi K hb (by rw [ay];exact .refl _) W (fun w=>?_) rfl;rw [stepG_tries];congr 1;have:=W.law.run;obtain⟨a,b,c,d,e⟩:=aS;simp only at this;subst this;rfl
 | @walk p _ _ _ hm al am=>
  have bg:JQ (Stop P F p) g s∨∃f,ρ= .node f∧(∀w,Fits s w→∃g' s' w' es,stepG P (i==0) g w= .go g' w' es∧Jr P (i==0) (JQ (Stop P F p)) (f w) g' s'∧Fits s' w'∧Fr s w s' w'∧(∀e∈es,Ev s w w' e)∧(s= .quiet→s'= .quiet∧w'=w∧es= #[])):=by
   cases ρ with
   | leaf=>exact .inl am
   | node f=>
    rcases am with q | ⟨_,q⟩
    ·exact .inl q
    ·exact .inr ⟨f,rfl,q⟩
  rcases bg with⟨s₀,hg,W⟩ | ⟨f,rfl,hgo⟩
  ·subst ay;by_cases aV:∃k',p= .CC k'
   ·obtain⟨k',rfl⟩:=aV;exact V.send aB hi K hb hm hg W
   by_cases c2:∃O,p= .Fq O
   ·obtain⟨O,rfl⟩:=c2;have ah:i=0:=by simpa [Fam.DT] using hm
    subst ah;obtain⟨p0,aa,an⟩:=h.BC.main;have:p0= .Fq O:=by rw [K] at aa;exact(Nx.ph.inj aa).symm
    subst this;obtain⟨rfl,bh,U⟩:=an;obtain⟨g',child,_,_,hgo,aM,aN⟩:=W.law.go _ rfl;have ar:sm=0:=by have:=h.BC.mode;rw [U] at this;exact this.2.2.1
    have bi:=h.BC.spawn K;have az:F.D4 O= .FY∨F.D4 O= .FE (O+1):=by unfold Fam.D4;split;exact .inl rfl;exact .inr rfl
    have ap:F.start O= .CC O∨F.start O= .Df:=by unfold Fam.start;split;exact .inl rfl;exact .inr rfl
    have bj:gs.size=B.N0+O:=by rw [U] at ai;simpa using ai
    refine V.spawn hi K U hg (hgo _) aN aM ?_ ?_ ?_ ?_ bi ⟨rfl,?_,?_⟩ (fun k' aW ag=>?_) (fun e=>by rw [U] at e;cases e) ?_ ar
    ·rcases az with e | e <;> rw [e] <;> rfl
    ·rcases ap with e | e <;> rw [e] <;> rfl
    ·rcases az with e | e <;> rw [e] <;> rfl
    ·rcases ap with e | e <;> rw [e] <;> rfl
    ·rcases az with e | e <;> rw [e] <;> rfl
    ·rcases ap with e | e <;> rw [e] <;> rfl
    ·by_cases e:k'=O
     ·subst e;rw [upd_ne _ _ (by omega),show B.N0+k'=gs.size by omega,upd_same] at ag;rcases ap with e | e <;> rw [e] at ag <;> exact ag.elim
     ·rw [upd_ne _ _ (by omega),upd_ne _ _ (by omega)] at ag;exact⟨by omega,ag⟩
    ·have:wt F.n (.ph (F.start O))≤10:=by rcases ap with e | e <;> rw [e] <;> simp [wt]
     have aw:wt F.n (.ph (F.D4 O))+20≤5*F.n+60+20*(F.n - O):=by
      rcases az with e | e <;> rw [e] <;> simp only [wt] <;> omega
     have aX:wt F.n (.ph (.Fq O))=5*F.n+55+20*(F.n - O):=rfl;omega
   by_cases c3:p= .FY
   ·subst c3;have ah:i=0:=by simpa [Fam.DT] using hm
    subst ah;obtain⟨p0,aa,an⟩:=h.BC.main;have:p0= .FY:=by rw [K] at aa;exact(Nx.ph.inj aa).symm
    subst this;obtain⟨bh,U⟩:=an;obtain⟨g',child,_,_,hgo,aM,aN⟩:=W.law.GO rfl;have ar:sm=0:=by have:=h.BC.mode;rw [U] at this;exact this.2.2.1
    have bj:gs.size=B.N0+j:=by rw [U] at ai;simpa using ai
    refine V.spawn hi K U hg (hgo _) aN aM rfl rfl rfl rfl (h.BC.YI K) ⟨rfl,rfl,rfl⟩ (fun k' aW ag=>?_) (fun _=>⟨by omega,rfl⟩) (by simp only [wt];omega) ar;rw [upd_ne _ _ (by omega),upd_ne _ _ (by omega)] at ag;exact⟨aW,ag⟩
   by_cases c4:∃aj vs,p= .Ci aj vs
   ·obtain⟨aj,vs,rfl⟩:=c4;have ah:i=0:=by simpa [Fam.DT] using hm
    subst ah;exact V.recv aB hi K hb hg W (fun _=>rfl) rfl
   by_cases aY:p= .D3
   ·subst aY;exact V.close hi K hm W
   by_cases aA:p= .DL∧sm=0
   ·obtain⟨rfl,aA⟩:=aA;exact V.block hi K hb hm hg W aA
   obtain⟨v',w',sm',es,nx,bl⟩:=h.BC.enabled aL K (fun k e=>aV ⟨k,e⟩) (fun k e=>c2 ⟨k,e⟩) c3 (fun aj vs e=>c4 ⟨aj,vs,e⟩) aY (fun e=>by
    have ab:=h.BC.mode
    subst e
    have aZ:c=true∧i=B.N0+F.n:=by
     rcases h.BC.FH aL with rfl | ⟨a,b⟩ | ⟨k',bm,rfl⟩ | q
     ·obtain⟨q,al,bn⟩:=h.BC.main;rw [K] at al;cases al;exact bn.elim
     ·have:=h.BC.old i a b;rw [K] at this;exact this.elim
     ·have:=h.BC.work k' bm;rw [K] at this;exact this.elim
     ·exact q
    rw [if_pos aZ.1,← aZ.2,K] at ab
    obtain⟨ba,_⟩:=ab
    have:sm≠0:=fun q=>aA ⟨rfl,q⟩
    omega)
   exact V.act hi K hm hg W bl
  ·subst ay;have bo:Fits (S i) (w.at d):=V.CX.fits i aL;obtain⟨g',s',w',es,aK,aw,aX,bp,bq,br⟩:=hgo (w.at d) bo;exact V.own hi K hm al aK aw aX bp bq br (by rw [aU];exact⟨f,_,rfl,rfl⟩)
theorem Inv.run(W:∀k v E E',Le E E'→F.msg k v E→F.msg k v E'):∀(K:Mu) (gs:Array Goroutine) (w:World) (sl:Option (Nat×Nat)) (t:Trace) (φ:Nat→Nx) (r:Nat→Rk) (bt:Nat→Bool) (S:Nat→St) (Sh:Nat→Prop) (j:Nat) (c:Bool) (v wt' sm:Nat) (cl:Bool) (k:Nat),
  mu F gs.size φ r bt=K→Inv P F B gs w t φ r bt S Sh j c v wt' sm cl k→∃n gs' w' O U,runNT P n (crowd gs w sl) t=(.next (crowd gs' w' O),U)∧Over P F B gs' w' U:=by
 intro K
 induction K using Mu.wf.induction with
 | _ K Z=>
  intro gs w sl t φ r bt S Sh j c v wt' sm cl k aa h;obtain⟨gs',w',O,u,V,hh⟩:=h.step (sl:=sl) W;rcases hh with⟨ab,ae,ag,S',ah,ai,aj,v',ak,sm',cl',k',al,am⟩ | an
  ·obtain⟨n,ao,ap,aq,ar,au,av⟩:=Z _ (aa▸am) gs' w' O (t++u) ab ae ag S' ah ai aj v' ak sm' cl' k' rfl al;exact⟨n+1,ao,ap,aq,ar,L9 V au,av⟩
  ·exact⟨1,gs',w',O,t++u,L9 V rfl,an⟩
end
end Pal
namespace Pal
open Go Go.Conc
open Go.ConcN (upd upd_same upd_ne sumTo sumTo_upd sumTo_upd_out sumTo_congr le_sumTo sumTo_le)
def Io(H:LH)(a b:Nat):LH:=fun x=>if x=b then none else if x=a then none else H x
theorem Xf{P:Program}(F:Fam){Q:GP}{g:Goroutine}{s:St}(ae:1≤F.n)(am:F.n<2147483647)(an:∀k v E E',Le E E'→F.msg k v E→F.msg k v E')
  (V:F.wg≠F.ch) (W:s.H F.wg=some (F.GQ 0 0)) (Z:s.H F.ch=some (.chan 0 #[] false 0 0 false))
  (ao:Way P true (Stop P F (.FE 0)) g ⟨s.E,Io s.H F.wg F.ch,false⟩) (ap:∀g s,F.fin g s→(DR P).ok Q g s):(DR P).ok Q g s:=by
 intro gs w sl t q Sh hC;have O:0<gs.size:=(Array.getElem?_eq_some_iff.1 hC.main).1;let s1:St:={s with H:=fun b=>if b=F.wg then none else s.H b}
 have ag:lone s 0=s:=rfl;have aq:Ck t w gs.size (upd (lone s) 0 s1) (fun b=>Sh b∨b=F.wg):=by
  have:=hC.CX.share (i:=0) O (b₀:=F.wg) (o₀:=F.GQ 0 0) (by rw [ag];exact W);exact this
 have c2:Ck t w gs.size (upd (upd (lone s) 0 s1) 0 ⟨s.E,Io s.H F.wg F.ch,false⟩) (fun b=>(Sh b∨b=F.wg)∨b=F.ch):=by
  have:=aq.share (i:=0) O (b₀:=F.ch) (o₀:= .chan 0 #[] false 0 0 false) (by rw [upd_same];simp [s1,Ne.symm V,Z]);refine this.congr fun i hi=>?_;by_cases e:i=0
  ·subst e;rw [upd_same,upd_same,upd_same];exact⟨rfl,rfl⟩
  ·have h:∀(f:Nat→St) (x:St),upd f 0 x i=f i:=fun f x=>upd_ne f x e;constructor <;> simp only [h]
 have ah:∀b,s.H b≠none→∀x a,touchAt t x=some a→D2 a.loc=some b→Knows t 0 x:=fun b hb=>hC.CX.kH 0 O b (by rw [ag];exact hb);have ai:∀b,(b=F.wg∨b=F.ch)→s.H b≠none:=by rintro b (rfl | rfl) <;> simp [W,Z]
 have aj:=hC.CX.fits 0 O;obtain⟨ρ,ar⟩:=ao;let φ:Nat→Nx:=fun i=>if i=0 then .ph (.FE 0) else .gone (Deaf t i)
 have z:∀f:Nx→Nat,(∀d,f (.gone d)=0)→f (.ph (.FE 0))=0→(sumTo gs.size fun i=>f (φ i))=0:=by
  intro f ak al;have:=sumTo_le (f:=fun i=>f (φ i)) (c:=0) (j:=gs.size) fun i _=>by
   show f (φ i)≤0;by_cases e:i=0
   ·simp [φ,e,al]
   ·simp [φ,e,ak]
  omega
 have au:∀i,(upd (upd (lone s) 0 s1) 0 ⟨s.E,Io s.H F.wg F.ch,false⟩) i=if i=0 then⟨s.E,Io s.H F.wg F.ch,false⟩ else .quiet:=by
  intro i;by_cases e:i=0
  ·subst e;rw [upd_same];rfl
  ·rw [upd_ne _ _ e,upd_ne _ _ e];simp [lone,e]
 have av:F.GQ (Fam.word 0 0) (0:Nat)=F.GQ 0 0:=by simp [Fam.word]
 have aw:Inv P F ⟨gs.size,t.size,s.E,w⟩ gs w t φ (fun i=>if i=0 then ρ else chain (q i)) (fun _=>true) (upd (upd (lone s) 0 s1) 0 ⟨s.E,Io s.H F.wg F.ch,false⟩) (fun b=>(Sh b∨b=F.wg)∨b=F.ch) 0 false 0 0 0 false 0:=by
  refine⟨⟨O,ae,am,by simp,Nat.zero_le _,by simp,⟨.FE 0,rfl,rfl,ae,rfl⟩,fun i ak al=>?_,fun k K=>by omega,by simp,?_,by simp [φ,pend],?_,fun k K=>by omega,.nil,fun k K=>by cases K⟩,
   ⟨fun i hi=>?_,fun i hi=>hC.lv.above i hi,fun x a b U hb aa K i hi ay=>?_,fun x a b U hb aa K=>?_,fun x g hg V az=> .inl (hC.over x g hg V az),fun x U e=>?_,Nat.le_refl _,fun k K=>by omega,by simp,by simp⟩,fun i g' ab=>?_,c2,.inl (.inr rfl),.inr rfl,V,?_,?_,by simp,by simp,?_,rfl,rfl,rfl⟩
  ·have:i≠0:=by omega
   simp [φ,this,Fh]
  ·rw [z cU (fun _=>rfl) rfl];simp [φ,pend]
  ·simp only [Bool.false_eq_true,if_false,Dd];exact⟨z cL (fun _=>rfl) rfl,z cS (fun _=>rfl) rfl,trivial,trivial,trivial⟩
  ·by_cases e:i=0
   ·subst e;simp [φ,Ez];exact hC.hears
   ·simp [φ,e,Ez]
  ·have:i=0:=by
    rcases ay with e | e
    ·exact e
    ·exact absurd hi (Nat.not_lt.2 e)
   subst this;exact ah b (ai b aa) x a U hb
  ·exact ah b (ai b aa) x a U hb
  ·have:=lt_of_act? e;have aT:t.size≤x:=U;omega
  ·rw [au];by_cases e:i=0
   ·subst e;rw [hC.main] at ab;obtain rfl:=Option.some.inj ab;simp only [if_true,φ];exact .walk rfl (fun h=>by cases h) ar
   ·have hm:(i==0)=false:=by rw [beq_eq_false_iff_ne];exact e
    simp only [e,if_false,φ];exact .gone hm (hC.lv.old i g' (by omega) ab)
  ·show w.heap[F.wg]? =_;rw [av];exact aj.h _ _ W
  ·exact aj.h _ _ Z
  ·rw [upd_same];exact Le.refl _
 obtain⟨n,gs',w',aA,aB,aC,aD,aE,g',s',aF,aG,hle,aH,aI,aJ⟩:=Inv.run an _ _ _ sl _ _ _ _ _ _ _ _ _ _ _ _ _ rfl aw;obtain⟨n2,aK,w2,aL,t2,q2,aM,g2,s2,k1,aN,aO,aP,aQ,aR,aS⟩:=ap g' s' aG gs' w' aA aB aD aE aF;refine⟨n+n2,aK,w2,aL,t2,q2,aM,g2,s2,?_,aN,aO,fun b o h=>aP b o (hle b o h),aQ.trans aH,aR.trans aI,aS.trans aJ⟩;rw [runNT_add,aC];exact k1
end Pal
namespace Pal
open Go Go.Conc
section
variable {P:Program}{F:Fam}{J:Judge P}{Q:GP}{n:Nat}{L L':Env}{ds:Ld_}{k:Li_}{cs:Lf_}{s s':St}{b:Frame}{main:Bool}
theorem C6(hb:b.roundOf=none)(T:AA)(todo:Li_):fr b T ds todo=b.at ⟨T,ds⟩ todo:=by simp [fr,Frame.at,hb]
theorem Jp(hb:b.roundOf=none)(T:AA)(todo:Li_):ED b T ds todo={b.at ⟨T,ds⟩ todo with mode:= .returning}:=by simp [ED,Frame.at,hb]
theorem Ff(T:AA)(ds:Ld_)(x:Operand):(⟨T,ds⟩:Act).eval x=BO T x:=by cases x <;> rfl
theorem F9(T:AA)(ds:Ld_)(d:Option Tmp)(v:Value):(⟨T,ds⟩:Act).put d v=⟨CU T d v,ds⟩:=by cases d <;> rfl
def JO(J:Judge P)(Q:GP)(b:Frame)(n:Nat)(L:Env)(ds:Ld_)(cs:Lf_)(s:St):Prop:=
 ∀T,Has n L T→∀todo,J.ok Q (G (ED b T ds todo) cs) s
theorem JL.out(K:b.roundOf=none)(h:JO J Q b n L ds cs s):JL J Q b n L ds [] cs s:=fun T O=>
 Judge.Dw rfl (fun w=>by simp [G,stepG,stepG.exec,fr,ED,K]) (h T O [])
theorem Gn(K:b.roundOf=none)(h:JO J Q b n L ds cs s):JL J Q b n L ds (.code .ret::k) cs s:=fun T O=>
 Judge.Dw rfl (fun w=>by simp [G,stepG,stepG.exec,fr,ED,K]) (h T O (.code .ret::k))
theorem JO.leave{c:Frame}{v:Value}(O:b.kind= .normal)(K:B6 P b.fn L n s v)(h:J.ok Q (G (c.finish v) cs) s):JO J Q b n L [] (c::cs) s:=fun T U todo=>by
 obtain⟨fn,V,K⟩:=K
 exact Judge.leave O V (K T U) h
theorem JO.leaveD{c:Frame}{fn:Func}(O:b.kind= .deferred)(U:P.funcs[b.fn]? =some fn)(K:fn.results= #[])(V:c.mode= .returning∨c.mode= .panicking [goexitEntry])(h:J.ok Q (G c cs) s):JO J Q b n L [] (c::cs) s:=fun T Z todo=>by
 refine Judge.Dw rfl (fun w=>?_) h
 have W:=results_none K T P w
 have e2:=fun(x:Array Event)=>events_results_none (P:=P) (w:=w) K T x
 rcases V with e | e <;> simp [G,stepG,unwind,ED,U,W,e2,doReturn,O,GStep.after,seen_none,e,goexitEntry]
theorem JO.enter{f:FuncId}{fn:Func}{c:Code}{vs:Lv_}(O:b.roundOf=none)(V:P.funcs[f]? =some fn)(W:(fn.name== "runtime.NumGoroutine")=false)(hb:fn.body=some c)(ab:vs.length≤fn.ntmps)
  (h:∀T,Has n L T→∀todo,JL J Q (baseD f) fn.ntmps (FW 0 vs) [] [.code c] (ED b T ds todo::cs) s):JO J Q b n L (dcall f vs.toArray::ds) cs s:=fun T Z todo=>by
 refine Judge.Dw rfl (fun w=>?_) (h T Z todo (vs.toArray++Array.replicate (fn.ntmps - vs.length) undef) ⟨by simp;omega,fun t v ht=>?_⟩)
 ·rw [Jp O,stepG_unwind_enter (a:=⟨T,dcall f vs.toArray::ds⟩) rfl V W hb,Jp O]
  rw [C6 (b:=baseD f) rfl];simp
 ·obtain⟨_,K⟩:=Ji ht;have aa:t<vs.length:=by
   rcases Nat.lt_or_ge t vs.length with U | U
   ·exact U
   ·simp at K;have:=(List.getElem?_eq_some_iff.1 K).1;omega
  rw [Array.getD_eq_getD_getElem?,Array.getElem?_append_left (by simpa using aa)];simp at K;simp [K]
theorem JL.defer{ops:Ao_}{i:Nat}{rest:List Nat}{d:Option Tmp}{f:FuncId}{args:Array Operand}{ats:Array TypeId}{ty:TypeId}{p:String}{af:Ae_}{g:On_}{vs:Lv_}
  (U:ops[i]? =some ⟨d,.defer ⟨.value (.func f),args,ats⟩,ty,p,af,g⟩) (V:b.roundOf=none) (hw:Bi L ops ⟨d,.defer ⟨.value (.func f),args,ats⟩,ty,p,af,g⟩=some true) (K:((b.kind != .early)&&BE n d)=true)
  (W:evs L args.toList=some vs) (h:JL J Q b n (AF L d undef) (dcall f vs.toArray::ds) (.inRegion ops rest::k) cs s):
  JL J Q b n L ds (.inRegion ops (i::rest)::k) cs s:=fun T O=>by
 simp only [Bool.and_eq_true] at K
 have Z:args.map (BO T)=vs.toArray:=by
  rw [← Gy O.Gs W];apply Array.ext';simp
 refine Judge.oper U (Dj O hw) (by simpa using K.1) (.inl V) ?_;have hd:execOp (BO T) ⟨d,.defer ⟨.value (.func f),args,ats⟩,ty,p,af,g⟩= .pure (.defer (dcall f vs.toArray)):=by
  simp only [execOp,resolve,bind,Sem.bind,Deferred.ofValue,BO,pure,dcall];rw [Z];simp
 rw [hd];exact h _ (O.put K.2 undef)
def Jw:Ph→Bool
 | .CC _ | .Fq _ | .FY | .Ci _ _ | .D3 | .DL=>false
 | _=>true
theorem Hl{p:Ph}{g:Goroutine}(K:Jw p=true)(U:g.status= .running)(V:g.offers=none)(O:if Fam.Ek p=true then s= .quiet else s.q=false)(W:p= .EP→mayWake P g=true)
  (h:∀v wt sm v' wt' sm' es nx,F.act p v wt sm=some ((v',wt',sm'),es,nx)→∃g',(∀w,F.WG w v wt sm→stepG P (Fam.DT p) g w= .go g' (F.put w v' wt' sm') es)∧g'.status= .running∧LG P (Stop P F) (Fam.DT p) nx g' (Fam.GR p s)):Stop P F p g s:=
 FZ.stop {
  run:=U
  offers:=V
  quiet:=fun e=>by rw [if_pos e] at O;exact O
  live:=fun e=>by rw [if_neg (by rw [e];simp)] at O;exact O
  act:=h
  G8:=fun e=>by rcases e with e | e;exact W e;subst e;cases K
  ES:=fun e=>by subst e;cases K
  close:=fun e=>by subst e;cases K
  send:=fun k e=>by subst e;cases K
  go:=fun j e=>by subst e;cases K
  GO:=fun e=>by subst e;cases K
  recv:=fun Z vs e=>by subst e;cases K}
theorem Jt{w:World}{v wt sm:Nat}(h:F.WG w v wt sm):F.put w v wt sm=w:=by
 unfold Fam.put;have:w.heap.setIfInBounds F.wg (F.GQ (Fam.word v wt) sm)=w.heap:=by
  apply Array.ext_getElem?;intro i;by_cases e:F.wg=i
  ·subst e;unfold Fam.WG at h;have O:F.wg<w.heap.size:=by
    rcases Nat.lt_or_ge F.wg w.heap.size with K | K
    ·exact K
    ·simp [Array.getElem?_eq_none K] at h
   rw [Array.getElem?_setIfInBounds_self_of_lt O,h]
  ·rw [Array.getElem?_setIfInBounds_ne e]
 rw [this]
theorem Hn{w:World}{v wt sm:Nat}(h:F.WG w v wt sm):w.cell? F.sA=some (.int .u64 (Fam.word v wt))∧w.cell? F.mA=some (.int .u32 sm)∧w.frozen? F.sA=false∧w.frozen? F.mA=false:=by
 unfold Fam.WG Fam.GQ at h;refine⟨?_,?_,?_,?_⟩
 ·simp [World.cell?,Fam.sA,h]
 ·simp [World.cell?,Fam.mA,h]
 ·simp [World.frozen?,Fam.sA,h]
 ·simp [World.frozen?,Fam.mA,h]
theorem L8{w:World}{v wt sm v' wt':Nat}(h:F.WG w v wt sm):w.setCell F.sA (.int .u64 (Fam.word v' wt'))=F.put w v' wt' sm:=by
 unfold Fam.put World.setCell;congr 1;apply Array.ext_getElem?;intro i;unfold Fam.WG Fam.GQ at h;rw [Array.getElem?_modify];have O:F.wg<w.heap.size:=by
  rcases Nat.lt_or_ge F.wg w.heap.size with K | K
  ·exact K
  ·simp [Array.getElem?_eq_none K] at h
 by_cases e:F.wg=i
 ·subst e;rw [Array.getElem?_setIfInBounds_self_of_lt O,h];simp [Fam.sA,Fam.GQ]
 ·rw [Array.getElem?_setIfInBounds_ne e];simp [Fam.sA,e]
theorem PU{w:World}{v wt sm sm':Nat}(h:F.WG w v wt sm):w.setCell F.mA (.int .u32 sm')=F.put w v wt sm':=by
 unfold Fam.put World.setCell;congr 1;apply Array.ext_getElem?;intro i;unfold Fam.WG Fam.GQ at h;rw [Array.getElem?_modify];have O:F.wg<w.heap.size:=by
  rcases Nat.lt_or_ge F.wg w.heap.size with K | K
  ·exact K
  ·simp [Array.getElem?_eq_none K] at h
 by_cases e:F.wg=i
 ·subst e;rw [Array.getElem?_setIfInBounds_self_of_lt O,h];simp [Fam.mA,Fam.GQ]
 ·rw [Array.getElem?_setIfInBounds_ne e];simp [Fam.mA,e]
structure DM (P:Program) (f:FuncId) (e:AA→Sem Value):Prop where
 h:∃fn,P.funcs[f]? =some fn∧(fn.name== "runtime.NumGoroutine")=false∧fn.body.isNone=true∧Extern.findNext fn=none∧Extern.find fn=some e
section
variable {ops:Ao_}{i:Nat}{rest:List Nat}{d:Option Tmp}{f:FuncId}{args:Array Operand}{ats:Array TypeId}{ty:TypeId}{pp:String}{af:Ae_}{g:On_}{vs:Lv_}{p q:Ph}
theorem Pg{T:AA}(K:Has n L T)(O:evs L args.toList=some vs):args.map (⟨T,ds⟩:Act).eval=vs.toArray:=by
 have:(⟨T,ds⟩:Act).eval=BO T:=funext fun x=>Ff T ds x;rw [this,← Gy K.Gs O];apply Array.ext';simp
theorem Ky{m:Mark}(W:Jw p=true)(Z:if Fam.Ek p=true then s= .quiet else s.q=false)(aa:p≠ .EP)(ab:∀v wt sm,F.act p v wt sm=some ((v,wt,sm),#[Fam.EH m],.ph q))(ae:Fam.GR p s=s)
  (ag:ops[i]? =some ⟨d,.call ⟨.value (.func f),args,ats⟩,ty,pp,af,g⟩) (O:b.roundOf=none) (hw:Bi L ops ⟨d,.call ⟨.value (.func f),args,ats⟩,ty,pp,af,g⟩=some true) (K:((b.kind != .early)&&BE n d)=true)
  (hm:∀x,m≠ .extern x) (he:DM P f (fun _=>do mark m;pure Extern.Race.none_))
  (h:JL (BB P (Fam.DT p)) (Stop P F q) b n (AF L d (.tuple #[])) ds (.inRegion ops rest::k) cs s):
  JL (BB P (Fam.DT p)) (Stop P F p) b n L ds (.inRegion ops (i::rest)::k) cs s:=fun T U=>by
 simp only [Bool.and_eq_true] at K
 obtain⟨fn,ah,ai,hb,aj,he⟩:=he.h
 refine(BB P _).stop (Hl W rfl rfl Z (fun e=>absurd e aa) fun v wt sm v' wt' sm' es nx V=>?_)
 rw [ab] at V;cases V
 refine⟨_,fun w ak=>?_,rfl,by rw [ae];exact h _ (U.put K.2 _)⟩
 rw [C6 O,C6 O,stepG_mark0 (a:=⟨T,ds⟩) m hm ag (Dj U hw) (by simpa using K.1) rfl ah ai hb aj he,Jt ak,F9]
 rfl
theorem Kp{mk:Addr→Mark}{ad:Addr}(W:Jw p=true)(Z:if Fam.Ek p=true then s= .quiet else s.q=false)(aa:p≠ .EP)(ab:∀v wt sm,F.act p v wt sm=some ((v,wt,sm),#[Fam.EH (mk ad)],.ph q))
  (ae:ops[i]? =some ⟨d,.call ⟨.value (.func f),args,ats⟩,ty,pp,af,g⟩) (U:b.roundOf=none) (hw:Bi L ops ⟨d,.call ⟨.value (.func f),args,ats⟩,ty,pp,af,g⟩=some true) (K:((b.kind != .early)&&BE n d)=true)
  (hm:∀ad x,mk ad≠ .extern x) (he:DM P f (Extern.Race.marked mk)) (ag:evs L args.toList=some vs) (ah:vs[0]? =some (.pointer (some ad)))
  (h:JL (BB P (Fam.DT p)) (Stop P F q) b n (AF L d (.tuple #[])) ds (.inRegion ops rest::k) cs (Fam.GR p s)):
  JL (BB P (Fam.DT p)) (Stop P F p) b n L ds (.inRegion ops (i::rest)::k) cs s:=fun T O=>by
 simp only [Bool.and_eq_true] at K
 obtain⟨fn,ai,aj,hb,ak,he⟩:=he.h
 refine(BB P _).stop (Hl W rfl rfl Z (fun e=>absurd e aa) fun v wt sm v' wt' sm' es nx V=>?_)
 rw [ab] at V;cases V
 refine⟨_,fun w al=>?_,rfl,h _ (O.put K.2 _)⟩
 rw [C6 U,C6 U,stepG_markAt (a:=⟨T,ds⟩) mk hm ae (Dj O hw) (by simpa using K.1) rfl ai aj hb ak he (ad:=ad) (by rw [Pg O ag];simpa using ah),Jt al,F9]
 rfl
end
end
end Pal
namespace Pal
open Go Go.Conc
section
variable {E H:LH}{S:List Seg}{j l:Nat}{o o':Obj}
theorem Mz(ag:Au E H S)(V:S[j]? =some [(l,o)])(o':Obj):(Ak E H S).upd l o'=Ak E H (S.set j [(l,o')])∧Au E H (S.set j [(l,o')]):=by
 obtain⟨K,W⟩:=F8 ag V;have U:=Nd.iff.1 W;have Z:E l=none:=(U.2 (l,o) (by simp)).1;have ah:H l=none:=(U.2 (l,o) (by simp)).2;have aa:Nd E H (S.set j []).flatten:=Ih.Nd.left W;have ai:∀q∈(S.set j []).flatten,q.1≠l:=fun q O e=>by
  have:=U.1;rw [List.map_append,List.nodup_append] at this;exact this.2.2 q.1 (List.mem_map_of_mem O) l (by simp) e
 have ab:Bm (S.set j []).flatten H l=none:=by
  have key:∀(B:List (Nat×Obj)),(∀q∈B,q.1≠l)→Bm B H l=none:=by
   intro B
   induction B with
   | nil=>intro _;exact ah
   | cons q B aj=>
    intro O;obtain⟨c,ak⟩:=q;have ae:l≠c:=fun e=>O (c,ak) (by simp) e.symm;have K:=aj fun al am=>O al (List.mem_cons_of_mem _ am);simp only [Bm]
    first
    | rw [if_neg ae];exact K
    | rw [if_neg (Ne.symm ae)];exact K
  exact key _ ai
 have f1:=Ju (E:=E) (H:=H) (B:=(S.set j []).flatten) (r:=l) Z ab o aa;have f2:=Ju (E:=E) (H:=H) (B:=(S.set j []).flatten) (r:=l) Z ab o' aa;obtain⟨an,g2⟩:=Ho (seg:= [(l,o)]) V f2.1;refine⟨?_,g2⟩;rw [K,← an,← f1.2,← f2.2];unfold St.upd;congr 1;funext x;by_cases ao:x=l <;> simp [ao]
end
section
variable {P:Program}{J:Judge P}{Q:Gs_}{b:Frame}{n:Nat}{L:Env}{ds:Ld_}{k:Li_}{cs:Lf_}{E H:LH}{S:List Seg}{j l:Nat}
theorem Judge.ES{α:Type}{g:Goroutine}{g':α→Goroutine}{s:St}(x:Sem α)(Z:s.q=false)(aa:g.status= .running)
  (ab:∀w a w',x.run P w= .ok a w'→∃es,stepG P J.main g w= .go (g' a) w' es∧∀e∈es,e∈x.events P w #[])
  (h:lp P x s (fun a s'=>J.ok Q (g' a) s') (fun _ _=>False)):J.ok Q g s:=by
 refine J.step ⟨aa,fun w f=>?_,fun e=>by subst e;cases Z⟩;obtain⟨s',O,U,V,K⟩:=Mj _ h f;cases W:x.run P w with
 | ok a w'=>
  rw [W] at O U V K;simp only [I8] at O U V;obtain⟨es,he,hm⟩:=ab w a w' W;exact⟨g' a,s',w',es,he,K,O,U,fun e ae=>V e (hm e ae)⟩
 | halt a w'=>rw [W] at K;exact K.elim
theorem L6{r:Loop}{s:St}{K:Loop→St→Prop}{X:Halt→St→Prop}(h:s.get l=some (.loop r))(k:K r s):lp P (Instr.getLoop l) s K X:=by
 unfold Instr.getLoop getObj;simp only [bind,Sem.bind,lp];exact⟨_,h,rfl,k⟩
theorem PN{r:Loop}{T:AA}(j:Nat)(K:Au E H S)(O:S[j]? =some [(l,.loop r)])(hs:(r.state== .busy)=false)(U:r.pending=none)
  (h:Au E H (S.set j [(l,.loop {r with state:= .exhausted})])→J.ok Q (G (fr b T ds k) cs) (Ak E H (S.set j [(l,.loop {r with state:= .exhausted})]))):
  J.ok Q (G (fr b T ds (.endRangeFunc l::k)) cs) (Ak E H S):=by
 obtain⟨u1,u2⟩:=Mz K O (.loop {r with state:= .exhausted});have V:lp P (Instr.endLoop l) (Ak E H S) (fun a s'=>a=none∧s'=Ak E H (S.set j [(l,.loop {r with state:= .exhausted})])) (fun _ _=>False):=by
  unfold Instr.endLoop;refine AH _ _ (L6 (EN (i:=0) K O rfl) ?_);rw [if_neg (by rw [hs];simp)];have W:(Ak E H S).H l=some (.loop r):=by
   have:=EN (i:=0) K O rfl;have Z:E l=none:=MS K O;unfold St.get at this;rw [show(Ak E H S).E l=none from Z] at this;exact this
  simp only [bind,Sem.bind,lp,setObj,pure];refine⟨⟨_,W,rfl⟩,rfl,U,?_⟩;exact u1
 refine Judge.ES (g':=fun aa=>G (fr b T ds ((aa.map Item.code).toList++k)) cs) (Instr.endLoop l) rfl rfl (fun w a w' ab=>?_) (Dv _ V (fun a s' ⟨ae,ag⟩=>by subst ae ag;exact h u2) (fun _ _ h=>h));refine⟨seen P b.fn ((Instr.endLoop l).events P w #[])++ #[],?_,fun e he=>?_⟩
 ·simp [G,stepG,stepG.exec,fr,ab,GStep.after]
 ·exact mem_seen (by simpa using he)
def SK(l:Nat)(f:FuncId):Frame:={(default:Frame) with fn:=f,kind:= .normal,roundOf:=some l}
theorem EZ.yield{r:Loop}{t:Tmp}{v:Value}{B:Seg}{R:Value→LH→Seg→Prop}{i:Nat}(K:B[i]? =some (l,.loop r))(O:r.params= #[t])
  (h:∀(Q:Gs_) (U:Frame) (cs:Lf_) (H:LH),Au E H [B]→(∀w E' S' B',Le E E'→S'.flatten=B'→R w E' B'→Au E' H S'→J.ok Q (G (U.finish w) cs) (Ak E' H S'))→
   J.ok Q (G (fr (SK l r.fn) (r.tmps.setIfInBounds t v) [] [.code r.assign,.beginRound,.code r.body]) (U::cs)) (Ak E H [B])):
  EZ J (.func (.yield l) #[] #[]) [v] E B R:=fun H V Q c cs W=>by
 have hg:(mk E H B).get l=some (.loop r):=N2 V K
 simp only [Deferred.ofValue,bind,Sem.bind,pure,invoke]
 unfold Instr.yield
 refine AH _ _ (L6 hg ?_)
 have Z:¬((#[]:AA)++ [v].toArray).size≠r.params.size:=by rw [O];simp
 rw [if_neg Z];have e2:((r.params.zip ((#[]:AA)++ [v].toArray)).foldl (fun tmps (t,a)=>tmps.setIfInBounds t a) r.tmps)=r.tmps.setIfInBounds t v:=by rw [O];simp [Array.zip,Array.zipWith,Array.zipWithMAux]
 simp only [lp,pure];have aa:mk E H B=Ak E H [B]:=by unfold Ak;simp
 rw [e2,aa];exact h Q c cs H (by unfold Au;simpa using V) fun w E' S' B' hle K ab ae=>by
  subst K;exact W w _ ⟨E',S'.flatten,hle,ab,ae,rfl⟩
theorem JL.beginRound{r:Loop}(j:Nat)(U:b.roundOf=some l)(V:b.kind= .normal)(K:Au E H S)(O:S[j]? =some [(l,.loop r)])(hs:r.state= .ready)
  (h:Au E H (S.set j [(l,.loop {r with state:= .busy})])→JL J Q b n L ds k cs (Ak E H (S.set j [(l,.loop {r with state:= .busy})]))):
  JL J Q b n L ds (.beginRound::k) cs (Ak E H S):=fun T W=>by
 obtain⟨u1,u2⟩:=Mz K O (.loop {r with state:= .busy})
 have Z:lp P (Instr.beginRound l) (Ak E H S) (fun _ s'=>s'=Ak E H (S.set j [(l,.loop {r with state:= .busy})])) (fun _ _=>False):=by
  unfold Instr.beginRound;refine AH _ _ (L6 (EN (i:=0) K O rfl) ?_);have aa:(Ak E H S).H l=some (.loop r):=by
   have:=EN (i:=0) K O rfl;have ab:E l=none:=MS K O;unfold St.get at this;rw [show(Ak E H S).E l=none from ab] at this;exact this
  simp only [bind,Sem.bind,lp,setObj,pure,hs];exact⟨⟨_,aa,rfl⟩,rfl,u1⟩
 refine Judge.ES (g':=fun _=>G (fr b T ds k) cs) (Instr.beginRound l) rfl rfl (fun w a w' ae=>?_) (Dv _ Z (fun a s' ag=>by subst ag;exact h u2 T W) (fun _ _ h=>h));refine⟨seen P b.fn ((Instr.beginRound l).events P w #[])++ #[],?_,fun e he=>?_⟩
 ·simp [G,stepG,stepG.exec,fr,stepG.apply,U,V,ae,GStep.after,Frame.finish]
 ·exact mem_seen (by simpa using he)
theorem Nz{o:Obj}{seg:Seg}(K:Au E H S)(O:S[j]? =some ((l,o)::seg)):(Ak E H S).H l=some o:=by
 have:=EN (i:=0) K O rfl;have U:E l=none:=MS K O;unfold St.get at this;rw [show(Ak E H S).E l=none from U] at this;exact this
theorem JL.endRound{r:Loop}{c:Frame}(j:Nat)(U:b.roundOf=some l)(V:b.kind= .normal)(K:Au E H S)(O:S[j]? =some [(l,.loop r)])
  (h:Au E H (S.set j [(l,.loop {r with state:= .ready,pending:=none})])→J.ok Q (G (c.finish (.bool true)) cs) (Ak E H (S.set j [(l,.loop {r with state:= .ready,pending:=none})]))):
  JL J Q b n L [] [] (c::cs) (Ak E H S):=fun T ae=>by
 obtain⟨u1,u2⟩:=Mz K O (.loop {r with state:= .ready,pending:=none})
 have W:lp P (Instr.endRound l none) (Ak E H S) (fun a s'=>a= .bool true∧s'=Ak E H (S.set j [(l,.loop {r with state:= .ready,pending:=none})])) (fun _ _=>False):=by
  unfold Instr.endRound;refine AH _ _ (L6 (EN (i:=0) K O rfl) ?_);simp only [bind,Sem.bind,lp,setObj,pure];exact⟨⟨_,Nz K O,rfl⟩,rfl,rfl,u1⟩
 refine Judge.ES (g':=fun v=>G (c.finish v) cs) (Instr.endRound l none) rfl rfl (fun w a w' Z=>?_) (Dv _ W (fun a s' ⟨aa,ab⟩=>by subst aa ab;exact h u2) (fun _ _ h=>h));refine⟨seen P b.fn ((Instr.endRound l none).events P w #[])++ #[],?_,fun e he=>?_⟩
 ·simp [G,stepG,stepG.exec,fr,U,V,Z,GStep.after,doReturn]
 ·exact mem_seen (by simpa using he)
theorem JL.rangeFunc{x:Operand}{params:Array Tmp}{as O:Code}{f:FuncId}{caps:Lv_}(ah:b.roundOf=none)(ai:b.kind≠ .early)(aa:ev L x=some (.func (.func f) #[] caps.toArray))(hb:D9 P f=true)(aj:Au E H S)
  (h:∀K l T,Has n L T→Au E H (S++ [[(K,.deferred (some []))]]++ [[(l,.loop ⟨.ready,none,b.fn,T,params,as,O,K⟩)]])→
   J.ok Q (G (Frame.enter P f (.func (.yield l) #[] #[]::caps).toArray .normal) (fr b T (⟨.collected K,#[]⟩::ds) (.inRangeFunc l::k)::cs)) (Ak E H (S++ [[(K,.deferred (some []))]]++ [[(l,.loop ⟨.ready,none,b.fn,T,params,as,O,K⟩)]]))):
  JL J Q b n L ds (.code (.rangeFunc x params as O)::k) cs (Ak E H S):=fun T ab=>by
 have ak:lp P (Instr.enterLoop b.fn T params as O b.roundOf) (Ak E H S) (fun q s'=>∃K,q.2= [⟨.collected K,#[]⟩]∧Au E H (S++ [[(K,.deferred (some []))]]++ [[(q.1,.loop ⟨.ready,none,b.fn,T,params,as,O,K⟩)]])∧s'=Ak E H (S++ [[(K,.deferred (some []))]]++ [[(q.1,.loop ⟨.ready,none,b.fn,T,params,as,O,K⟩)]])) (fun _ _=>False):=by
  unfold Instr.enterLoop;rw [ah];simp only [newObj,bind,Sem.bind,lp,pure];refine⟨rfl,fun K V W=>?_⟩;obtain⟨Z,al⟩:=Ju V W (.deferred (some [])) aj;obtain⟨p1,p2⟩:=EB Z;have am:(Ak E H S).upd K (.deferred (some []))=Ak E H (S++ [[(K,.deferred (some []))]]):=by rw [← p1,← al];rfl
  rw [am];refine⟨rfl,fun l an ao=>?_⟩;obtain⟨ap,aq⟩:=Ju an ao (.loop ⟨.ready,none,b.fn,T,params,as,O,K⟩) p2;obtain⟨p3,p4⟩:=EB ap;exact⟨K,rfl,p4,by rw [← p3,← aq];rfl⟩
 refine Judge.ES (g':=fun q=>G (Frame.enter P f (.func (.yield q.1) #[] #[]::caps).toArray .normal) (fr b T (q.2++ds) (.inRangeFunc q.1::k)::cs)) (Instr.enterLoop b.fn T params as O b.roundOf) rfl rfl (fun w a w' ar=>?_) (Dv _ ak (fun a s' ⟨K,V,W,Z⟩=>by subst Z;simp only [V];exact h K a.1 T ab W) (fun _ _ h=>h));obtain⟨l,mk⟩:=a;have au:BO T x= .func (.func f) #[] caps.toArray:=ab.ev aa;obtain⟨fn,U,av,ae⟩:∃fn,P.funcs[f]? =some fn∧(fn.name== "runtime.NumGoroutine")=false∧fn.body.isNone=false:=by
  unfold D9 at hb;cases U:P.funcs[f]? with
  | none=>rw [U] at hb;cases hb
  | some fn=>
   rw [U] at hb;simp only [Bool.and_eq_true,Bool.not_eq_true'] at hb;exact⟨fn,rfl,hb.1,by cases aa:fn.body <;> simp_all⟩
 refine⟨seen P b.fn ((Instr.enterLoop b.fn T params as O b.roundOf).events P w #[])++ #[],?_,fun e he=>?_⟩
 ·have ag:=QR (b:=b) (ds:=mk++ds) T (.inRangeFunc l::k);simp only [fr] at ag;have aw:¬fn.name= "runtime.NumGoroutine" :=by simpa using av
  have ay:¬fn.body=none:=by intro e;rw [e] at ae;cases ae
  have az:BO T (.const (.func (.yield l) #[] #[]))= .func (.yield l) #[] #[]:=rfl;simp [G,stepG,stepG.exec,fr,ar,GStep.after,stepG.apply,resolve,ag,au,Deferred.ofValue,invoke,callFunc,U,aw,ay,ai,az,seen_none]
 ·exact mem_seen (by simpa using he)
theorem JO.collected{K:Nat}(j:Nat)(ae:b.roundOf=none)(O:Au E H S)(U:S[j]? =some [(K,.deferred (some []))])
  (h:Au E H (S.set j [(K,.deferred none)])→JO J Q b n L ds cs (Ak E H (S.set j [(K,.deferred none)]))):JO J Q b n L (⟨.collected K,#[]⟩::ds) cs (Ak E H S):=fun T V todo=>by
 obtain⟨u1,u2⟩:=Mz O U (.deferred none)
 have W:lp P (Instr.takeDeferred K) (Ak E H S) (fun a s'=>a= []∧s'=Ak E H (S.set j [(K,.deferred none)])) (fun _ _=>False):=by
  unfold Instr.takeDeferred getObj;simp only [bind,Sem.bind,lp,setObj,pure];exact⟨_,EN (i:=0) O U rfl,rfl,⟨_,Nz O U,rfl⟩,rfl,rfl,u1⟩
 refine Judge.ES (g':=fun l=>G (ED b T (l++ds) todo) cs) (Instr.takeDeferred K) rfl rfl (fun w a w' Z=>?_) (Dv _ W (fun a s' ⟨aa,ab⟩=>by subst aa ab;exact h u2 T V todo) (fun _ _ h=>h));refine⟨seen P b.fn ((Instr.takeDeferred K).events P w #[])++ #[],?_,fun e he=>?_⟩
 ·simp [G,stepG,unwind,ED,Z,GStep.after]
 ·exact mem_seen (by simpa using he)
def Lt(f:FuncId)(args caps:AA):Deferred:={target:= .fn (.func f) caps,args:=args}
theorem JO.SA{f:FuncId}{fn:Func}{c:Code}{vs caps:Lv_}(ae:b.roundOf=none)(O:P.funcs[f]? =some fn)(V:(fn.name== "runtime.NumGoroutine")=false)(hb:fn.body=some c)(W:(vs++caps).length≤fn.ntmps){s:St}
  (h:∀T,Has n L T→∀todo,JL J Q (baseD f) fn.ntmps (FW 0 (vs++caps)) [] [.code c] (ED b T ds todo::cs) s):JO J Q b n L (Lt f vs.toArray caps.toArray::ds) cs s:=fun T Z todo=>by
 have aa:¬fn.name= "runtime.NumGoroutine" :=by simpa using V
 refine Judge.Dw rfl (fun w=>?_) (h T Z todo ((vs++caps).toArray++Array.replicate (fn.ntmps - (vs++caps).length) undef) ⟨by simp;simp at W;omega,fun t v ht=>?_⟩)
 ·rw [C6 (b:=baseD f) rfl];have:=enter_atD (P:=P) (vs++caps).toArray O hb;simp only [List.size_toArray] at this;rw [← this];simp [G,stepG,unwind,callDeferred,ED,Lt,invoke,callFunc,O,aa,hb,GStep.after,seen_none]
 ·obtain⟨_,K⟩:=Ji ht;have ab:t<(vs++caps).length:=by
   rcases Nat.lt_or_ge t (vs++caps).length with U | U
   ·exact U
   ·simp only [Nat.sub_zero] at K;have:=(List.getElem?_eq_some_iff.1 K).1;omega
  rw [Array.getD_eq_getD_getElem?,Array.getElem?_append_left (by simpa using ab)];simp only [Nat.sub_zero] at K;rw [List.getElem?_toArray,K];rfl
theorem Qo{ops:Ao_}{i:Nat}{rest:List Nat}{d:Option Tmp}{x:Operand}{f:FuncId}{caps:Lv_}{args:Array Operand}{ats:Array TypeId}{ty:TypeId}{p:String}{af:Ae_}{g:On_}{vs:Lv_}{s:St}
  (U:ops[i]? =some ⟨d,.defer ⟨.value x,args,ats⟩,ty,p,af,g⟩) (V:b.roundOf=none) (hw:Bi L ops ⟨d,.defer ⟨.value x,args,ats⟩,ty,p,af,g⟩=some true) (O:((b.kind != .early)&&BE n d)=true)
  (W:ev L x=some (.func (.func f) #[] caps.toArray)) (Z:evs L args.toList=some vs) (h:JL J Q b n (AF L d undef) (Lt f vs.toArray caps.toArray::ds) (.inRegion ops rest::k) cs s):
  JL J Q b n L ds (.inRegion ops (i::rest)::k) cs s:=fun T K=>by
 simp only [Bool.and_eq_true] at O
 have aa:args.map (BO T)=vs.toArray:=by
  rw [← Gy K.Gs Z];apply Array.ext';simp
 refine Judge.oper U (Dj K hw) (by simpa using O.1) (.inl V) ?_;have hd:execOp (BO T) ⟨d,.defer ⟨.value x,args,ats⟩,ty,p,af,g⟩= .pure (.defer (Lt f vs.toArray caps.toArray)):=by
  simp only [execOp,resolve,bind,Sem.bind,Deferred.ofValue,K.ev W,pure,Lt];rw [aa];simp
 rw [hd];exact h _ (K.put O.2 undef)
end
end Pal
namespace Pal
open Go Go.Conc
section
variable {P:Program}{s:St}{ρ:Operand→Value}{x y z:Operand}{d:Option Tmp}{t u ty e:TypeId}{p:String}{af:Ae_}{g:On_}{a:Option Addr}{l c:Nat}
theorem Mb(ht:P.underlying t=some (.slice e))(K:ρ x= .slice a l c)(O:ρ (.const (.slice none 0 0))= .slice none 0 0):Yl P ⟨d,.binOp .eql t x (.const (.slice none 0 0)) u,ty,p,af,g⟩ ρ s (.bool a.isNone):=by
 refine Fx (sm:=do eqGuard .eql t x (.const (.slice none 0 0)) (ρ x) (ρ (.const (.slice none 0 0)));binOp .eql t (ρ x) (ρ (.const (.slice none 0 0)))) rfl ?_
 rw [K,O];have hg:lp P (eqGuard .eql t x (.const (.slice none 0 0)) (.slice a l c) (.slice none 0 0)) s (fun _ s'=>s'=s) (fun _ _=>False):=by
  simp [eqGuard,lp,pure]
 refine AH _ _ (Dv _ hg ?_ (fun _ _ h=>h));rintro _ _ rfl;have hb:binOp .eql t (.slice a l c) (.slice none 0 0)=(do pure (.bool (← Op.equal t (.slice a l c) (.slice none 0 0)))):=rfl
 rw [hb];refine AH (x:=Op.equal t (.slice a l c) (.slice none 0 0)) _ ?_;unfold Op.equal Op.maxDepth Op.equalIn;refine AH _ _ (Di ht ?_);cases a <;> exact⟨rfl,rfl⟩
end
def FB{α B:Type}(step:B→α→Option B):List α→B→Option B
 | [],b=>some b
 | x::l,b=>(step b x).bind fun K=>FB step l K
section
variable {P:Program}{J:Judge P}{Q:Gs_}{b:Frame}{n:Nat}{L:Env}{ds:Ld_}{k:Li_}{cs:Lf_}{s:St}
theorem TD{α B:Type}{c:Code}{l:List α}{step:B→α→Option B}{acc acc':B}(ab:FB step l acc=some acc')(I:Env→St→Nat→B→Prop)(ae:I L s 0 acc)
  (round:∀L s i K x O,I L s i K→l[i]? =some x→i<l.length→step K x=some O→(∀L' s',I L' s' (i+1) O→JL J Q b n L' ds (.inLoop c::k) cs s')→JL J Q b n L ds (.code c:: .inLoop c::k) cs s)
  (exit:∀L s,I L s l.length acc'→JL J Q b n L ds (.code c:: .inLoop c::k) cs s):JL J Q b n L ds (.code (.loop c)::k) cs s:=by
 refine Jl ?_;have key:∀(rest:List α) (i:Nat) (K:B),l.drop i=rest→FB step rest K=some acc'→∀L s,I L s i K→i≤l.length→JL J Q b n L ds (.code c:: .inLoop c::k) cs s:=by
  intro rest
  induction rest with
  | nil=>
   intro i K hd U L s V hle;have:l.length≤i:=by simpa using hd
   obtain rfl:i=l.length:=by omega
   obtain rfl:K=acc':=Option.some.inj U;exact exit L s V
  | cons x rest ag=>
   intro i K hd U L s V hle;have Z:l[i]? =some x:=by
    have W:(l.drop i)[0]? =some x:=by rw [hd];rfl
    simpa using W
   have aa:i<l.length:=(List.getElem?_eq_some_iff.1 Z).1;obtain⟨O,W,ah⟩:=Option.bind_eq_some_iff.1 U;refine round L s i K x O V Z aa W fun L' s' ai=>JL.again (ag (i+1) O ?_ ah L' s' ai aa);rw [← List.drop_drop,hd];rfl
 exact key l 0 acc rfl ab L s ae (Nat.zero_le _)
end
section
variable {P:Program}{J:Judge P}{Q:Gs_}{b:Frame}{n:Nat}{ds:Ld_}{ops:Ao_}{k:Li_}{cs:Lf_}{m fuel:Nat}{listed:Array Bool}{L:Env}{E H:LH}{S:List Seg}
variable {d:Option Tmp}{x y:Operand}{t u ty e:TypeId}{p:String}{af:Ae_}{g:On_}{v:Value}{i:Nat}
theorem Take.S6(O:Au E H S)(U:ops[i]? =some ⟨d,.box e x,ty,p,af,g⟩)(hw:Bi L ops ⟨d,.box e x,ty,p,af,g⟩=some true)(V:BE n d=true)(W:ev L x=some v)
  (h:∀r,Au E H (S++ [[(r,.cells v.cells e (0,0))]])→AV J Q b n ds ops k cs m C9 fuel (Bg listed i) (AF L d (.pointer (some ⟨r,0,none⟩))) (Ak E H (S++ [[(r,.cells v.cells e (0,0))]]))):
  Take J Q b n ds ops k cs m C9 fuel listed L (Ak E H S) i:=
 Take.Ka U (by simp [Dx,V]) hw fun ρ Z=>by
  show lp P (do pure (Next.value (← Instr.box e (ρ x)))) _ _ _
  rw [Z x v W]
  refine AH _ _ ?_
  unfold Instr.box
  refine AH _ _ (G2 O fun r K=>?_)
  rw [(EB K).1]
  exact h r (EB K).2
end
end Pal
namespace Pal
open Go Go.Conc
def G9(P:Program)(d:Nat):GP:=fun g _=>∃q,QuitsD P q d g
def HX(P:Program):Frame:={(default:Frame) with fn:=P.funcs.size,defers:= [],mode:= .panicking [goexitEntry]}
section
variable {P:Program}{F:Fam}{J:Judge P}{Q:GP}{n:Nat}{L L':Env}{ds:Ld_}{k:Li_}{cs:Lf_}{s s':St}{b:Frame}{main:Bool}
theorem Lv.quits{d:Nat}:∀{m:Nat} {g:Goroutine},Lv P (G9 P d) m g→∃q,QuitsD P q d g
 | 0,_,h=>h
 | m+1,_,h=>by
  rcases h with h | ⟨K,g',O,h⟩
  ·exact h
  ·obtain⟨q,U⟩:=h.quits;exact⟨q+1,.ctl K O U⟩
theorem L4{d:Nat}{g:Goroutine}(h:(Gz P).ok (G9 P d) g .quiet):∃q,QuitsD P q d g:=by
 obtain⟨m,hm⟩:=h rfl;exact hm.quits
theorem Ko:(Gz P).ok (G9 P 0) (G (HX P) []) .quiet:=by
 refine Judge.Dw (g':={frame:=HX P,callers:= [],status:= .finished,dying:=none}) rfl (fun w=>?_) ((Gz P).stop ⟨0,rfl,rfl⟩);have K:(default:Frame).todo= []:=rfl;have O:∀(m:FrameMode),Frame.catches P {fn:=P.funcs.size,tmps:=(default:Frame).tmps,todo:= [],defers:= [],mode:=m,kind:=(default:Frame).kind,roundOf:=(default:Frame).roundOf}=false:=fun m=>by simp [Frame.catches]
 simp [G,stepG,unwind,HX,goexitEntry,K,O]
theorem VP{ops:Ao_}{i:Nat}{rest:List Nat}{d:Option Tmp}{f:FuncId}{args:Array Operand}{ats:Array TypeId}{ty:TypeId}{pp:String}{af:Ae_}{g:On_}{T:AA}{e:AA→Sem Value}
  (K:ops[i]? =some ⟨d,.call ⟨.value (.func f),args,ats⟩,ty,pp,af,g⟩) (he:DM P f e):mayWake P (G (fr b T ds (.inRegion ops (i::rest)::k)) cs)=true:=by
 obtain⟨fn,O,_,hb,_⟩:=he.h;have U:fn.body.isSome=false:=by cases h:fn.body <;> simp_all
 simp [mayWake,G,fr,K,Frame.eval,O,U]
theorem U5{v wt:Nat}(K:1≤v)(O:v<2147483648)(U:wt≤1):IntKind.u64.wrap (Fam.word v wt+18446744069414584320)=Fam.word (v - 1) wt:=by
 simp only [Fam.word,Fam.KK,IntKind.wrap,IntKind.bits,IntKind.signed];simp;omega
theorem Vm{v:Nat}(h:v<2147483647):IntKind.u64.wrap (Fam.word v 0+4294967296)=Fam.word (v+1) 0:=by
 simp only [Fam.word,Fam.KK,IntKind.wrap,IntKind.bits,IntKind.signed];simp;omega
theorem word_inj{v v' wt:Nat}(h:Fam.word v wt=Fam.word v' wt):v=v':=by
 simp only [Fam.word,Fam.KK] at h;omega
section
variable {ops:Ao_}{i:Nat}{rest:List Nat}{d:Option Tmp}{f:FuncId}{x y z:Operand}{ats:Array TypeId}{ty:TypeId}{pp:String}{af:Ae_}{g:On_}{p q:Ph}
theorem WY(aa:ops[i]? =some ⟨d,.call ⟨.value (.func f),#[x,y],ats⟩,ty,pp,af,g⟩)(W:b.roundOf=none)(hw:Bi L ops ⟨d,.call ⟨.value (.func f),#[x,y],ats⟩,ty,pp,af,g⟩=some true)(O:((b.kind != .early)&&BE n d)=true)
  (he:DM P f (Extern.Atomic.update (Op.intArith .add) .u64 true)) (ab:ev L x=some (.pointer (some F.sA))) (ae:ev L y=some (.int .u64 18446744069414584320))
  (ag:JL (BB P false) (Stop P F .Gt) b n (AF L d (.int .u64 (Fam.word 0 1))) ds (.inRegion ops rest::k) cs .quiet)
  (ah:∀v wt:Nat,v<2147483647→wt≤1→¬(v=0∧wt=1)→JL (Gz P) (G9 P 1) b n (AF L d (.int .u64 (Fam.word v wt))) ds (.inRegion ops rest::k) cs .quiet):
  JL (BB P false) (Stop P F .Ha) b n L ds (.inRegion ops (i::rest)::k) cs .quiet:=fun T K=>by
 simp only [Bool.and_eq_true] at O
 obtain⟨fn,ai,aj,hb,ak,he⟩:=he.h
 refine(BB P _).stop (Hl rfl rfl rfl rfl (by simp) fun v wt sm v' wt' sm' es nx U=>?_)
 simp only [Fam.act] at U
 split at U
 ·rename_i V
  cases U;refine⟨G (fr b (CU T d (.int .u64 (Fam.word (v - 1) wt))) ds (.inRegion ops rest::k)) cs,fun w Z=>?_,rfl,?_⟩
  ·obtain⟨al,_,c3,_⟩:=Hn Z;rw [C6 W,C6 W];show stepG P false _ w=_;rw [stepG_add_atomic (a:=⟨T,ds⟩) aa (Dj K hw) (by simpa using O.1) rfl ai aj hb ak .u64 he (by rw [Ff];exact K.ev ab) (by rw [Ff];exact K.ev ae) al c3,U5 V.1 V.2.1 V.2.2,L8 Z,F9]
   rfl
  ·split
   ·rename_i e;obtain⟨rfl,rfl⟩:=e;exact ag _ (K.put O.2 _)
   ·rename_i e;exact L4 (ah (v - 1) wt (by omega) V.2.2 (by omega) _ (K.put O.2 _))
 ·cases U
theorem WV{j:Nat}(aa:s.q=false)(ab:ops[i]? =some ⟨d,.call ⟨.value (.func f),#[x,y],ats⟩,ty,pp,af,g⟩)(W:b.roundOf=none)(hw:Bi L ops ⟨d,.call ⟨.value (.func f),#[x,y],ats⟩,ty,pp,af,g⟩=some true)(O:((b.kind != .early)&&BE n d)=true)
  (he:DM P f (Extern.Atomic.update (Op.intArith .add) .u64 true)) (ae:ev L x=some (.pointer (some F.sA))) (ag:ev L y=some (.int .u64 4294967296))
  (ah:JL (BB P true) (Stop P F (.Hc j)) b n (AF L d (.int .u64 (Fam.word 1 0))) ds (.inRegion ops rest::k) cs s)
  (ai:∀v:Nat,1≤v→v<2147483647→JL (BB P true) (Stop P F (.Gg j)) b n (AF L d (.int .u64 (Fam.word (v+1) 0))) ds (.inRegion ops rest::k) cs s):
  JL (BB P true) (Stop P F (.Hy j)) b n L ds (.inRegion ops (i::rest)::k) cs s:=fun T K=>by
 simp only [Bool.and_eq_true] at O
 obtain⟨fn,aj,ak,hb,al,he⟩:=he.h
 refine(BB P _).stop (Hl rfl rfl rfl aa (by simp) fun v wt sm v' wt' sm' es nx U=>?_)
 simp only [Fam.act] at U
 split at U
 ·rename_i V
  obtain⟨V,rfl⟩:=V;cases U;refine⟨G (fr b (CU T d (.int .u64 (Fam.word (v+1) 0))) ds (.inRegion ops rest::k)) cs,fun w Z=>?_,rfl,?_⟩
  ·obtain⟨am,_,c3,_⟩:=Hn Z;rw [C6 W,C6 W];show stepG P true _ w=_;rw [stepG_add_atomic (a:=⟨T,ds⟩) ab (Dj K hw) (by simpa using O.1) rfl aj ak hb al .u64 he (by rw [Ff];exact K.ev ae) (by rw [Ff];exact K.ev ag) am c3,Vm V,L8 Z,F9]
   rfl
  ·split
   ·rename_i e;subst e;exact ah _ (K.put O.2 _)
   ·rename_i e;exact ai v (by omega) V _ (K.put O.2 _)
 ·cases U
theorem XC(ab:Jw p=true)(ae:if Fam.Ek p=true then s= .quiet else s.q=false)(ag:p≠ .EP)(ah:Fam.GR p s=s)(ai:∀v wt sm r,F.act p v wt sm=some r→r.1=(v,wt,sm)∧r.2.1= #[Fam.Fs F.sA])
  (aj:ops[i]? =some ⟨d,.call ⟨.value (.func f),#[x],ats⟩,ty,pp,af,g⟩) (U:b.roundOf=none) (hw:Bi L ops ⟨d,.call ⟨.value (.func f),#[x],ats⟩,ty,pp,af,g⟩=some true) (K:((b.kind != .early)&&BE n d)=true)
  (he:DM P f (Extern.Atomic.loadT (.int .u64))) (ak:ev L x=some (.pointer (some F.sA)))
  (h:∀v wt sm r,F.act p v wt sm=some r→∃q,r.2.2= .ph q∧JL (BB P (Fam.DT p)) (Stop P F q) b n (AF L d (.int .u64 (Fam.word v wt))) ds (.inRegion ops rest::k) cs s):
  JL (BB P (Fam.DT p)) (Stop P F p) b n L ds (.inRegion ops (i::rest)::k) cs s:=fun T O=>by
 simp only [Bool.and_eq_true] at K
 obtain⟨fn,al,am,hb,an,he⟩:=he.h
 refine(BB P _).stop (Hl ab rfl rfl ae (fun e=>absurd e ag) fun v wt sm v' wt' sm' es nx V=>?_)
 obtain⟨W,e2⟩:=ai _ _ _ _ V
 obtain⟨q,Z,ao⟩:=h _ _ _ _ V
 simp only at W e2 Z
 cases W
 subst e2 Z
 refine⟨_,fun w aa=>?_,rfl,by rw [ah];exact ao _ (O.put K.2 _)⟩
 obtain⟨ap,_,_,_⟩:=Hn aa
 rw [C6 U,C6 U,stepG_load_atomic (a:=⟨T,ds⟩) aj (Dj O hw) (by simpa using K.1) rfl al am hb an .u64 he (by rw [Ff];exact O.ev ak) ap,Jt aa,F9]
 rfl
theorem Xx(Z:ops[i]? =some ⟨d,.call ⟨.value (.func f),#[x,y],ats⟩,ty,pp,af,g⟩)(V:b.roundOf=none)(hw:Bi L ops ⟨d,.call ⟨.value (.func f),#[x,y],ats⟩,ty,pp,af,g⟩=some true)(U:((b.kind != .early)&&BE n d)=true)
  (he:DM P f Extern.Atomic.storeT) (aa:ev L x=some (.pointer (some F.sA))) (ab:ev L y=some (.int .u64 0))
  (h:JL (BB P false) (Stop P F .EP) b n (AF L d (.tuple #[])) ds (.inRegion ops rest::k) cs .quiet):
  JL (BB P false) (Stop P F .GF) b n L ds (.inRegion ops (i::rest)::k) cs .quiet:=fun T K=>by
 simp only [Bool.and_eq_true] at U
 obtain⟨fn,ae,ag,hb,ah,he⟩:=he.h
 refine(BB P _).stop (Hl rfl rfl rfl rfl (by simp) fun v wt sm v' wt' sm' es nx O=>?_)
 simp only [Fam.act] at O
 split at O
 ·rename_i ai
  obtain⟨rfl,rfl⟩:=ai;cases O;refine⟨_,fun w W=>?_,rfl,h _ (K.put U.2 _)⟩;obtain⟨aj,_,c3,_⟩:=Hn W;have ak:(.int .u64 0:Value)= .int .u64 (Fam.word 0 0):=by simp [Fam.word]
  rw [C6 V,C6 V];show stepG P false _ w=_;rw [stepG_store_atomic (a:=⟨T,ds⟩) Z (Dj K hw) (by simpa using U.1) rfl ae ag hb ah he (by rw [Ff];exact K.ev aa) (by rw [Ff];exact K.ev ab) aj c3,ak,L8 W,F9]
  rfl
 ·cases O
theorem XM{m:Nat}(ak:s.q=false)(aa:ops[i]? =some ⟨d,.call ⟨.value (.func f),#[x,y,z],ats⟩,ty,pp,af,g⟩)(W:b.roundOf=none)(hw:Bi L ops ⟨d,.call ⟨.value (.func f),#[x,y,z],ats⟩,ty,pp,af,g⟩=some true)(U:((b.kind != .early)&&BE n d)=true)
  (he:DM P f (Extern.Atomic.casT (.int .u64))) (ab:ev L x=some (.pointer (some F.sA))) (ae:ev L y=some (.int .u64 (Fam.word m 0))) (ag:ev L z=some (.int .u64 (Fam.word m 1)))
  (al:JL (BB P false) (Stop P F .HC) b n (AF L d (.bool true)) ds (.inRegion ops rest::k) cs s)
  (am:JL (BB P false) (Stop P F (.FV (m - 1))) b n (AF L d (.bool false)) ds (.inRegion ops rest::k) cs s):
  JL (BB P false) (Stop P F (.Hb m)) b n L ds (.inRegion ops (i::rest)::k) cs s:=fun T K=>by
 simp only [Bool.and_eq_true] at U
 obtain⟨fn,ah,ai,hb,aj,he⟩:=he.h
 refine(BB P _).stop (Hl rfl rfl rfl ak (by simp) fun v wt sm v' wt' sm' es nx O=>?_)
 simp only [Fam.act] at O
 split at O
 ·rename_i an
  obtain⟨_,_,rfl⟩:=an;split at O
  ·rename_i e;subst e;cases O;refine⟨_,fun w V=>?_,rfl,al _ (K.put U.2 _)⟩;obtain⟨Z,_,c3,_⟩:=Hn V;rw [C6 W,C6 W];show stepG P false _ w=_;rw [stepG_cas_hit (a:=⟨T,ds⟩) aa (Dj K hw) (by simpa using U.1) rfl ah ai hb aj .u64 he (by rw [Ff];exact K.ev ab) (by rw [Ff];exact K.ev ae) (by rw [Ff];exact K.ev ag) Z c3,L8 V,F9]
   rfl
  ·rename_i e;cases O;refine⟨_,fun w V=>?_,rfl,am _ (K.put U.2 _)⟩;obtain⟨Z,_,c3,_⟩:=Hn V;rw [C6 W,C6 W];show stepG P false _ w=_;rw [stepG_cas_miss (a:=⟨T,ds⟩) aa (Dj K hw) (by simpa using U.1) rfl ah ai hb aj .u64 he (by rw [Ff];exact K.ev ab) (by rw [Ff];exact K.ev ae) (by rw [Ff];exact K.ev ag) Z c3 (fun q=>e (word_inj q)),Jt V,F9]
   rfl
 ·cases O
theorem VU{args:Array Operand}{vs:Lv_}(V:ops[i]? =some ⟨d,.call ⟨.value (.func f),args,ats⟩,ty,pp,af,g⟩)(W:b.roundOf=none)(hw:Bi L ops ⟨d,.call ⟨.value (.func f),args,ats⟩,ty,pp,af,g⟩=some true)(O:((b.kind != .early)&&BE n d)=true)
  (he:DM P f Extern.Sync.semrelease) (aa:evs L args.toList=some vs) (ab:vs[0]? =some (.pointer (some F.mA)))
  (h:JL (Gz P) (G9 P 1) b n (AF L d (.tuple #[])) ds (.inRegion ops rest::k) cs .quiet):
  JL (BB P false) (Stop P F .EP) b n L ds (.inRegion ops (i::rest)::k) cs .quiet:=fun T U=>by
 simp only [Bool.and_eq_true] at O
 have ae:=VP (P:=P) (b:=b) (ds:=ds) (k:=k) (cs:=cs) (rest:=rest) (T:=T) V he
 obtain⟨fn,ag,ah,hb,ai,he⟩:=he.h
 refine(BB P _).stop (Hl rfl rfl rfl rfl (fun _=>ae) fun v wt sm v' wt' sm' es nx K=>?_)
 simp only [Fam.act] at K
 split at K
 ·rename_i aj
  subst aj;cases K;refine⟨_,fun w Z=>?_,rfl,L4 (h _ (U.put O.2 _))⟩;obtain⟨_,c2,_,c4⟩:=Hn Z;rw [C6 W,C6 W];show stepG P false _ w=_;rw [stepG_semrelease (a:=⟨T,ds⟩) V (Dj U hw) (by simpa using O.1) rfl ag ah hb ai he (ad:=F.mA) (by rw [Pg U aa];simpa using ab) c2 c4,F9];have ak:IntKind.u32.wrap (((0:Nat):Int)+1)=((1:Nat):Int):=by decide
  rw [ak,PU Z]
 ·cases K
theorem T6{args:Array Operand}{vs:Lv_}(ah:s.q=false)(Z:ops[i]? =some ⟨d,.call ⟨.value (.func f),args,ats⟩,ty,pp,af,g⟩)(V:b.roundOf=none)(hw:Bi L ops ⟨d,.call ⟨.value (.func f),args,ats⟩,ty,pp,af,g⟩=some true)(W:((b.kind != .early)&&BE n d)=true)
  (he:DM P f Extern.Sync.semacquire) (ai:evs L args.toList=some vs) (aj:vs[0]? =some (.pointer (some F.mA)))
  (h:JL (BB P false) (Stop P F .GG) b n (AF L d (.tuple #[])) ds (.inRegion ops rest::k) cs s):
  JL (BB P false) (Stop P F .DL) b n L ds (.inRegion ops (i::rest)::k) cs s:=fun T K=>by
 simp only [Bool.and_eq_true] at W
 obtain⟨fn,aa,ab,hb,ae,he⟩:=he.h
 have ag:(args.map (⟨T,ds⟩:Act).eval)[0]? =some (.pointer (some F.mA)):=by rw [Pg K ai];simpa using aj
 refine(BB P _).stop (FZ.stop {
  run:=rfl,offers:=rfl,quiet:=(by simp [Fam.Ek]),live:=fun _=>ah,act:=?_,G8:=(by simp),ES:=?_,close:=(by simp),send:=(by simp),go:=(by simp),GO:=(by simp),recv:=(by simp)})
 ·intro v wt sm v' wt' sm' es nx O;simp only [Fam.act] at O;split at O
  ·rename_i ak;subst ak;cases O;refine⟨_,fun w U=>?_,rfl,h _ (K.put W.2 _)⟩;obtain⟨_,c2,_,c4⟩:=Hn U;rw [C6 V,C6 V];show stepG P false _ w=_;rw [stepG_semacquire (a:=⟨T,ds⟩) Z (Dj K hw) (by simpa using W.1) rfl aa ab hb ae he (ad:=F.mA) ag c2 (by decide) c4,F9];have al:(((1:Nat):Int) - 1)=((0:Nat):Int):=by decide
   rw [al,PU U]
  ·cases O
 ·intro _ w v wt U;obtain⟨_,c2,_,c4⟩:=Hn U;rw [C6 V];exact stepG_semacquire_wait (a:=⟨T,ds⟩) Z (Dj K hw) rfl aa ab hb ae he (ad:=F.mA) ag c2
theorem UB(W:s.q=false)(U:ops[i]? =some ⟨d,.call ⟨.builtin .close,#[x],ats⟩,ty,pp,af,g⟩)(V:b.roundOf=none)(hw:Bi L ops ⟨d,.call ⟨.builtin .close,#[x],ats⟩,ty,pp,af,g⟩=some true)(K:((b.kind != .early)&&BE n d)=true)
  (Z:ev L x=some (.chan (some F.ch))) (aa:(P.funcs[b.fn]?).any (·.norace)=false)
  (h:JL (Gz P) (G9 P 0) b n (AF L d (.tuple #[])) ds (.inRegion ops rest::k) cs .quiet):
  JL (BB P false) (Stop P F .D3) b n L ds (.inRegion ops (i::rest)::k) cs s:=fun T O=>by
 simp only [Bool.and_eq_true] at K
 refine(BB P _).stop (FZ.stop {
  run:=rfl,offers:=rfl,quiet:=(by simp [Fam.Ek]),live:=fun _=>W,act:=(by simp [Fam.act]),G8:=fun _=>(by simp [mayWake,G,fr,U]),ES:=(by simp),close:=fun _=>?_,send:=(by simp),go:=(by simp),GO:=(by simp),recv:=(by simp)})
 refine⟨_,?_,fun w k' ab=>?_,L4 (h _ (O.put K.2 _))⟩
 ·rfl
 ·rw [C6 V,C6 V,stepG_close (a:=⟨T,ds⟩) U (Dj O hw) (by simpa using K.1) rfl (by rw [Ff];exact O.ev Z) ab aa,F9]
theorem Q4{kk:Nat}{v:Value}(W:s.q=false)(U:ops[i]? =some ⟨d,.send x y,ty,pp,af,g⟩)(Z:b.roundOf=none)(hw:Bi L ops ⟨d,.send x y,ty,pp,af,g⟩=some true)(O:((b.kind != .early)&&BE n d)=true)
  (aa:ev L x=some (.chan (some F.ch))) (ab:ev L y=some v) (hm:F.msg kk v s.E)
  (h:JL (BB P false) (Stop P F .Df) b n (AF L d undef) ds (.inRegion ops rest::k) cs s):
  JL (BB P false) (Stop P F (.CC kk)) b n L ds (.inRegion ops (i::rest)::k) cs s:=fun T K=>by
 simp only [Bool.and_eq_true] at O
 have V:execOp (BO T) ⟨d,.send x y,ty,pp,af,g⟩= .pure (.comm #[scase F.ch v (.tuple #[])] true .send):=by
  simp [execOp,K.ev aa,K.ev ab,scase,pure]
 refine(BB P _).stop (FZ.stop {
  run:=rfl,offers:=rfl,quiet:=(by simp [Fam.Ek]),live:=fun _=>W,act:=(by simp [Fam.act]),G8:=(by simp),ES:=(by simp),close:=(by simp),send:=fun k' e=>?_,go:=(by simp),GO:=(by simp),recv:=(by simp)})
 cases e;refine⟨v,.tuple #[],hm,fun w=>?_,?_⟩
 ·have he:(⟨T,ds⟩:Act).eval=BO T:=funext fun x=>Ff T ds x;rw [C6 Z,stepG_comm (a:=⟨T,ds⟩) (w':=w) U (Dj K hw) (by simpa using O.1) (by rw [he,V];rfl),listed_none (by rw [he,V];simp [Sem.events_pure'])]
 ·have:Conc.served (G (fr b T ds (.inRegion ops (i::rest)::k)) cs) undef=G (fr b (CU T d undef) ds (.inRegion ops rest::k)) cs:=by
   have:=Gm (b:=b) (ds:=ds) (k:=k) T ops i rest undef _ U;simp only [Conc.served,G,this]
  rw [this];exact h _ (K.put O.2 _)
end
end
end Pal
namespace Pal
open Go Go.Conc
section
variable {P:Program}{F:Fam}{J:Judge P}{Q:GP}{n:Nat}{L L':Env}{ds:Ld_}{k:Li_}{cs:Lf_}{s s':St}{b:Frame}{main:Bool}
variable {ops:Ao_}{i:Nat}{rest:List Nat}{d:Option Tmp}{f:FuncId}{x y z:Operand}{ats:Array TypeId}{ty t e:TypeId}{pp:String}{af:Ae_}{g:On_}{p q:Ph}
theorem Qd{T:AA}{o:Oper}(K:ops[i]? =some o)(v:Value):Conc.served (G (fr b T ds (.inRegion ops (i::rest)::k)) cs) v=G (fr b (CU T o.dst v) ds (.inRegion ops rest::k)) cs:=by
 have:=Gm (b:=b) (ds:=ds) (k:=k) T ops i rest v _ K;simp only [Conc.served,G,this]
theorem IS(T:AA)(ds:Ld_):(⟨T,ds⟩:Act).eval=BO T:=funext fun x=>Ff T ds x
theorem VI{O:List Nat}{vs:Lv_}{K:Value}{dir:ChanDir}(ae:s.q=false)(W:ops[i]? =some ⟨d,.recv t x true,ty,pp,af,g⟩)(ag:b.roundOf=none)(hw:Bi L ops ⟨d,.recv t x true,ty,pp,af,g⟩=some true)(U:((b.kind != .early)&&BE n d)=true)
  (ah:ev L x=some (.chan (some F.ch))) (ht:P.underlying t=some (.chan dir e)) (ai:zeroOf P e=some K)
  (Z:∀kk v E',kk<F.n→F.has kk=true→kk ∉ O→Le s.E E'→(∀b,E' b≠none→s.H b=none)→F.msg kk v E'→JL (BB P true) (Stop P F (.Ci (O++ [kk]) (vs++ [v]))) b n (AF L d (.tuple #[v,.bool true])) ds (.inRegion ops rest::k) cs ⟨E',s.H,false⟩)
  (aa:(∀kk,kk<F.n→F.has kk=true→kk∈O)→∀T,Has n (AF L d (.tuple #[K,.bool false])) T→F.fin (G (fr b T ds (.inRegion ops rest::k)) cs) s):
  JL (BB P true) (Stop P F (.Ci O vs)) b n L ds (.inRegion ops (i::rest)::k) cs s:=fun T V=>by
 simp only [Bool.and_eq_true] at U
 have ab:∀w,(execOp (BO T) ⟨d,.recv t x true,ty,pp,af,g⟩).run P w= .ok (.comm #[rcase F.ch K] true (.recv true)) w∧listed P b.fn ⟨T,ds⟩ ⟨d,.recv t x true,ty,pp,af,g⟩ w= #[]:=by
  have aj:∀s,lp P (execOp (BO T) ⟨d,.recv t x true,ty,pp,af,g⟩) s (fun nx s'=>nx= .comm #[rcase F.ch K] true (.recv true)∧s'=s) (fun _ _=>False):=by
   intro s;unfold execOp;simp only;refine AH (x:=underlying t) _ (Di ht ?_);simp only;refine AH (x:=zeroValue e) _ (F5 ai ?_);rw [V.ev ah];exact⟨rfl,rfl⟩
  obtain⟨es,Z,aa,ak⟩:=Oj _ (aj .quiet);rcases ak with⟨a,⟨rfl,_⟩,al⟩ | ⟨_,am,_⟩
  ·intro w;refine⟨al w,?_⟩;unfold listed;rw [IS,Z];exact NT aa
  ·exact am.elim
 refine(BB P _).stop (FZ.stop {
  run:=rfl,offers:=rfl,quiet:=(by simp [Fam.Ek]),live:=fun _=>ae,act:=(by simp [Fam.act]),G8:=(by simp),ES:=(by simp),close:=(by simp),send:=(by simp),go:=(by simp),GO:=(by simp),recv:=fun ay az an=>?_})
 cases an;refine⟨K,fun w=>?_,fun kk v E' ao ap aq ar au av=>?_,fun aw=>?_⟩
 ·rw [C6 ag,stepG_comm (a:=⟨T,ds⟩) (w':=w) W (Dj V hw) (by simpa using U.1) (by rw [IS];exact(ab w).1),(ab w).2]
 ·rw [Qd W];exact Z kk v E' ao ap aq ar au av _ (V.put U.2 _)
 ·rw [Qd W];exact aa aw _ (V.put U.2 _)
theorem Qu{X:GP}{fn:Func}{c:Code}{vs:Lv_}{caps:AA}{args:AA}(O:P.funcs[f]? =some fn)(W:(fn.name== "runtime.NumGoroutine")=false)(hb:fn.body=some c)(Z:args++caps=vs.toArray)(ae:vs.length≤fn.ntmps)
  (h:JL (BB P false) X (baseD f) fn.ntmps (FW 0 vs) [] [.code c] [HX P] s):Way P false X (born P {target:= .fn (.func f) caps,args:=args}) s:=by
 have aa:¬fn.name= "runtime.NumGoroutine" :=by simpa using W
 refine Judge.Dw (J:=BB P false) rfl (fun w=>?_) (h (vs.toArray++Array.replicate (fn.ntmps - vs.length) undef) ⟨by simp;omega,fun t v ht=>?_⟩)
 ·show stepG P false _ w=_;have U:=enter_atD (P:=P) vs.toArray O hb;rw [C6 (b:=baseD f) rfl];simp only [List.size_toArray] at U;simp [G,born,stepG,unwind,callDeferred,invoke,callFunc,O,aa,hb,GStep.after,seen_none,Z,HX,U]
 ·obtain⟨_,K⟩:=Ji ht;have ab:t<vs.length:=by
   rcases Nat.lt_or_ge t vs.length with V | V
   ·exact V
   ·simp at K;have:=(List.getElem?_eq_some_iff.1 K).1;omega
  rw [Array.getD_eq_getD_getElem?,Array.getElem?_append_left (by simpa using ab)];simp at K;simp [K]
theorem Sa{T:AA}{args:Array Operand}{K:Go.Fn}{fi O:AA}{as:Lv_}(U:Has n L T)(V:ev L x=some (.func K fi O))(W:evs L args.toList=some as):
  execOp (BO T) ⟨d,.go ⟨.value x,args,ats⟩,ty,pp,af,g⟩= .pure (.spawn {target:= .fn K O,args:=fi++as.toArray}):=by
 have Z:args.map (BO T)=as.toArray:=by
  rw [← Gy U.Gs W];apply Array.ext';simp
 simp only [execOp,resolve,bind,Sem.bind,Deferred.ofValue,U.ev V,pure,Z]
theorem XE{j:Nat}{args:Array Operand}{fi U:AA}{as:Lv_}{V:FuncId}(aa:s.q=false)(ab:ops[i]? =some ⟨d,.go ⟨.value x,args,ats⟩,ty,pp,af,g⟩)(W:b.roundOf=none)(hw:Bi L ops ⟨d,.go ⟨.value x,args,ats⟩,ty,pp,af,g⟩=some true)(K:((b.kind != .early)&&BE n d)=true)
  (ae:ev L x=some (.func (.func V) fi U)) (ag:evs L args.toList=some as)
  (ah:Way P false (Stop P F (F.start j)) (born P {target:= .fn (.func V) U,args:=fi++as.toArray}) ⟨s.E,fun _=>none,false⟩)
  (ai:JL (BB P true) (Stop P F (F.D4 j)) b n (AF L d undef) ds (.inRegion ops rest::k) cs s):
  JL (BB P true) (Stop P F (.Fq j)) b n L ds (.inRegion ops (i::rest)::k) cs s:=fun T O=>by
 simp only [Bool.and_eq_true] at K
 have Z:=Sa (d:=d) (ats:=ats) (ty:=ty) (pp:=pp) (af:=af) (g:=g) O ae ag
 refine(BB P _).stop (FZ.stop {
  run:=rfl,offers:=rfl,quiet:=(by simp [Fam.Ek]),live:=fun _=>aa,act:=(by simp [Fam.act]),G8:=(by simp),ES:=(by simp),close:=(by simp),send:=(by simp),go:=fun aj e=>?_,GO:=(by simp),recv:=(by simp)})
 cases e
 refine⟨G (fr b (CU T d undef) ds (.inRegion ops rest::k)) cs,_,rfl,rfl,fun w=>?_,ah,ai _ (O.put K.2 _)⟩
 rw [C6 W,C6 W,stepG_spawn (a:=⟨T,ds⟩) (w':=w) ab (Dj O hw) (by simpa using K.1) (by rw [IS,Z];rfl) rfl,listed_none (by rw [IS,Z];simp [Sem.events_pure']),F9]
theorem JL.GO{args:Array Operand}{fi U:AA}{as:Lv_}{V:FuncId}(aa:s.q=false)(ab:ops[i]? =some ⟨d,.go ⟨.value x,args,ats⟩,ty,pp,af,g⟩)(W:b.roundOf=none)(hw:Bi L ops ⟨d,.go ⟨.value x,args,ats⟩,ty,pp,af,g⟩=some true)(K:((b.kind != .early)&&BE n d)=true)
  (ae:ev L x=some (.func (.func V) fi U)) (ag:evs L args.toList=some as)
  (ah:Way P false (Stop P F .Dh) (born P {target:= .fn (.func V) U,args:=fi++as.toArray}) ⟨s.E,fun _=>none,false⟩)
  (ai:JL (BB P true) (Stop P F (.Ci [] [])) b n (AF L d undef) ds (.inRegion ops rest::k) cs s):
  JL (BB P true) (Stop P F .FY) b n L ds (.inRegion ops (i::rest)::k) cs s:=fun T O=>by
 simp only [Bool.and_eq_true] at K
 have Z:=Sa (d:=d) (ats:=ats) (ty:=ty) (pp:=pp) (af:=af) (g:=g) O ae ag
 refine(BB P _).stop (FZ.stop {
  run:=rfl,offers:=rfl,quiet:=(by simp [Fam.Ek]),live:=fun _=>aa,act:=(by simp [Fam.act]),G8:=(by simp),ES:=(by simp),close:=(by simp),send:=(by simp),go:=(by simp),GO:=fun _=>?_,recv:=(by simp)})
 refine⟨G (fr b (CU T d undef) ds (.inRegion ops rest::k)) cs,_,rfl,rfl,fun w=>?_,ah,ai _ (O.put K.2 _)⟩
 rw [C6 W,C6 W,stepG_spawn (a:=⟨T,ds⟩) (w':=w) ab (Dj O hw) (by simpa using K.1) (by rw [IS,Z];rfl) rfl,listed_none (by rw [IS,Z];simp [Sem.events_pure']),F9]
theorem JO.RI{j:Nat}(V:s.q=false)(K:b.roundOf=none)(he:DM P f (fun _=>do mark .enable;pure Extern.Race.none_))
  (h:JO (BB P true) (Stop P F (.Fq j)) b n L ds cs s):JO (BB P true) (Stop P F (.Gg j)) b n L (dcall f #[]::ds) cs s:=fun T W todo=>by
 obtain⟨fn,Z,aa,hb,ab,he⟩:=he.h
 refine(BB P _).stop (Hl rfl rfl rfl V (by simp) fun v wt sm v' wt' sm' es nx O=>?_)
 simp only [Fam.act] at O
 cases O
 refine⟨G (ED b T ds todo) cs,fun w ae=>?_,rfl,h T W todo⟩
 rw [Jp K,Jp K,Jt ae]
 exact stepG_unwind_entry (a:=⟨T,dcall f #[]::ds⟩) (v:= .tuple #[]) (evs:= #[Fam.EH .enable]) rfl Z aa hb ab he (by simp [Extern.Race.none_]) (by simp;rfl) (by
  intro x U
  simp at U
  subst U
  exact⟨rfl,fun g h=>by cases h⟩)
theorem JO.MJ(K:b.roundOf=none)(he:DM P f (fun _=>do mark .enable;pure Extern.Race.none_))
  (h:JO (Gz P) (G9 P 0) b n L ds cs .quiet):JO (Gz P) (G9 P 1) b n L (dcall f #[]::ds) cs .quiet:=fun T U todo=>by
 obtain⟨fn,V,W,hb,Z,he⟩:=he.h
 refine(Gz P).stop ?_
 obtain⟨q,O⟩:=L4 (h T U todo)
 rw [Jp K] at O
 rw [Jp K]
 exact⟨q+1,QuitsD.unwind_mark (a:=⟨T,dcall f #[]::ds⟩) .enable rfl (by simp) rfl V W hb Z he O⟩
end
end Pal
namespace Pal
open Go Go.Conc
def S9:BinOp→Int→Int→Option Bool
 | .lss,m,m'=>some (decide (m<m'))
 | .leq,m,m'=>some (decide (m≤m'))
 | .gtr,m,m'=>some (decide (m'<m))
 | .geq,m,m'=>some (decide (m'≤m))
 | .eql,m,m'=>some (decide (m=m'))
 | .neq,m,m'=>some (decide (m≠m'))
 | _,_,_=>none
def Ja(L:Env):Op→Option Value
 | .move x=>ev L x
 | .assign x=>ev L x
 | .pick z x y=>match ev L z with
  | some (.bool true)=>ev L x
  | some (.bool false)=>ev L y
  | _=>none
 | .extract x i=>match ev L x with
  | some (.tuple vs)=>vs[i]?
  | _=>none
 | .nilCheck x=>match ev L x with
  | some (.pointer (some a))=>some (.pointer (some a))
  | _=>none
 | .binOp op _ x y _=>match ev L x with
  | some (.int kd m)=>match ev L y with
   | some (.int kd' m')=>if kd=kd' then(match S9 op m m' with | some t=>some (.bool t) | none=>none) else none
   | _=>none
  | _=>none
 | _=>none
theorem W2{P:Program}{s:St}{ρ:Operand→Value}{d:Option Tmp}{x y:Operand}{t u ty:TypeId}{p:String}{af:Ae_}{g:On_}{kd:IntKind}{m m':Int}(K:ρ x= .int kd m)(O:ρ y= .int kd m'):Yl P ⟨d,.binOp .neq t x y u,ty,p,af,g⟩ ρ s (.bool (decide (m≠m'))):=by
 have h:=Yl.neq (P:=P) (s:=s) (d:=d) (t:=t) (u:=u) (ty:=ty) (p:=p) (af:=af) (g:=g) K O;simpa using h
theorem Mx{P:Program}{L:Env}{ρ:Operand→Value}{s:St}{o:Oper}{v:Value}(K:EL L ρ)(h:Ja L o.op=some v):Yl P o ρ s v:=by
 obtain⟨d,op,ty,p,af,g⟩:=o;simp only at h;unfold Ja at h;split at h
 ·exact Yl.move (K _ _ h)
 ·exact Yl.assign (K _ _ h)
 ·split at h
  ·rename_i e;exact Uz (K _ _ e) (K _ _ h)
  ·rename_i e;exact UT (K _ _ e) (K _ _ h)
  ·cases h
 ·split at h
  ·rename_i e;exact Yl.extract (K _ _ e) h
  ·cases h
 ·split at h
  ·rename_i e;cases h;exact Yl.nilCheck (K _ _ e)
  ·cases h
 ·split at h
  ·rename_i O;split at h
   ·rename_i U;split at h
    ·rename_i e;subst e;split at h
     ·rename_i e;cases h;unfold S9 at e;split at e
      ·cases e;exact Yl.lss (K _ _ O) (K _ _ U)
      ·cases e;exact Yl.leq (K _ _ O) (K _ _ U)
      ·cases e;exact Yl.gtr (K _ _ O) (K _ _ U)
      ·cases e;exact Yl.geq (K _ _ O) (K _ _ U)
      ·cases e;exact Yl.eql (K _ _ O) (K _ _ U)
      ·cases e;exact W2 (K _ _ O) (K _ _ U)
      ·cases e
     ·cases h
    ·cases h
   ·cases h
  ·cases h
 ·cases h
def HZ:List Oper→Nat→Option Oper
 | [],_=>none
 | o::_,0=>some o
 | _::os,i+1=>HZ os i
theorem Jy:∀(os:List Oper) (i:Nat),HZ os i=os[i]?
 | [],i=>by simp [HZ]
 | _::_,0=>rfl
 | _::os,i+1=>by simp [HZ,Jy os i]
def Pc(b:Frame)(n:Nat)(L:Env):Li_→Option (Li_×Env)
 | .code (.seq x y)::k=>some (.code x:: .code y::k,L)
 | .code (.block i c)::k=>some (.code c:: .inBlock i::k,L)
 | .code (.scope c)::k=>some (.code c:: .inScope c::k,L)
 | .code .skip::k=>some (k,L)
 | .code (.exit i)::k=>match exitTo i k with
  | some k'=>some (k',L)
  | none=>none
 | .code (.cond c x y)::k=>match ev L c with
  | some (.bool true)=>some (.code x::k,L)
  | some (.bool false)=>some (.code y::k,L)
  | _=>none
 | .code (.region _ ops false)::k=>some (.inRegion ops (List.range ops.size)::k,L)
 | .inBlock _::k=>some (k,L)
 | .inScope _::k=>some (k,L)
 | .inRegion _ []::k=>some (k,L)
 | .inRegion ops (i::rest)::k=>match HZ ops.toList i with
  | some ⟨d,op,ty,p,af,g⟩=>match Bi L ops ⟨d,op,ty,p,af,g⟩ with
   | some true=>match CZ b n ⟨d,op,ty,p,af,g⟩ with
    | true=>match Ja L op with
     | some v=>match d with
      | some d=>some (.inRegion ops rest::k,(d,v)::L)
      | none=>some (.inRegion ops rest::k,L)
     | none=>none
    | false=>none
   | some false=>match BE n d with
    | true=>match d with
     | some d=>some (.inRegion ops rest::k,(d,undef)::L)
     | none=>some (.inRegion ops rest::k,L)
    | false=>none
   | none=>none
  | none=>none
 | _=>none
def MU(b:Frame)(n:Nat):Nat→Li_→Env→Option (Li_×Env)
 | 0,k,L=>some (k,L)
 | m+1,k,L=>match Pc b n L k with
  | some (k',L')=>MU b n m k' L'
  | none=>none
section
variable {P:Program}{J:Judge P}{Q:Gs_}{b:Frame}{n:Nat}{L L':Env}{ds:Ld_}{k k':Li_}{cs:Lf_}{s:St}
theorem Yu(h:Pc b n L k=some (k',L'))(K:JL J Q b n L' ds k' cs s):JL J Q b n L ds k cs s:=by
 unfold Pc at h;split at h
 ·cases h;exact JL.seq K
 ·cases h;exact JL.block K
 ·cases h;exact JL.scope K
 ·cases h;exact JL.skip K
 ·split at h
  ·rename_i e;cases h;exact JL.exit e K
  ·cases h
 ·split at h
  ·rename_i e;cases h;exact UQ e K
  ·rename_i e;cases h;exact UR e K
  ·cases h
 ·cases h;exact JL.region K
 ·cases h;exact NZ K
 ·cases h;exact TG K
 ·cases h;exact JL.done K
 ·split at h
  ·rename_i d op ty p af g O;rw [Jy,Array.getElem?_toList] at O;split at h
   ·rename_i hw;split at h
    ·rename_i U;split at h
     ·rename_i v W;cases d with
      | none=>cases h;exact Bc O hw U (fun ρ V=>Mx V W) K
      | some d=>cases h;exact Bc O hw U (fun ρ V=>Mx V W) K
     ·cases h
    ·cases h
   ·rename_i hw;split at h
    ·rename_i U;cases d with
     | none=>cases h;exact S2 O hw U K
     | some d=>cases h;exact S2 O hw U K
    ·cases h
   ·cases h
  ·cases h
 ·cases h
theorem JL.go(m:Nat)(h:MU b n m k L=some (k',L'))(K:JL J Q b n L' ds k' cs s):JL J Q b n L ds k cs s:=by
 induction m generalizing k L with
 | zero=>cases h;exact K
 | succ m O=>
  unfold MU at h;split at h
  ·rename_i e;exact Yu e (O h)
  ·cases h
end
abbrev pV(a o:Nat):Value:= .pointer (some ⟨a,o,none⟩)
abbrev sV{α:Type}(a:Option Addr)(l:List α)(c:Nat):Value:= .slice a l.length c
abbrev fV(n:Nat):Value:= .func (.func n) #[] #[]
abbrev nS:Value:= .slice none 0 0
abbrev A2(r:Nat):Option Addr:=some ⟨r,0,none⟩
abbrev uV(n:Nat):Value:= .int .u16 ((n:Nat):Int)
end Pal
namespace Pal
open Go Go.Conc Go.Conc.Lib
open Go.ConcR.Gen
theorem Fy{P:Program}{t:TypeId}{n:Nat}(h:∀w,Sem.run P (Go.sizeOf t) w= .ok n w):BA P t=some n:=by
 have K:=h default;unfold BA;simp only [Go.sizeOf,typeInfo,bind,Sem.bind,program,Sem.run] at K;cases hi:P.info? t with
 | none=>rw [hi] at K;simp [stuck,Sem.run,Sem.bind] at K
 | some i=>
  rw [hi] at K;simp [pure,Sem.bind,Sem.run] at K;simp [K]
section
variable {P:Program}{L:WgLink}(H:WgLib P L)
include H
theorem NW:DM P L.disable (fun _=>do mark .disable;pure Extern.Race.none_):=⟨⟨_,H.f_disable,x_disable_n L,x_disable_b L,x_disable_x L,x_disable_f L⟩⟩
theorem Ig:DM P L.enable (fun _=>do mark .enable;pure Extern.Race.none_):=⟨⟨_,H.f_enable,x_enable_n L,x_enable_b L,x_enable_x L,x_enable_f L⟩⟩
theorem Ty:DM P L.relMerge (Extern.Race.marked .releaseMerge):=⟨⟨_,H.f_relMerge,x_relMerge_n L,x_relMerge_b L,x_relMerge_x L,x_relMerge_f L⟩⟩
theorem PK:DM P L.acquire (Extern.Race.marked .acquire):=⟨⟨_,H.f_acquire,x_acquire_n L,x_acquire_b L,x_acquire_x L,x_acquire_f L⟩⟩
theorem V2:DM P L.raceRead (Extern.Race.marked .read):=⟨⟨_,H.f_raceRead,x_raceRead_n L,x_raceRead_b L,x_raceRead_x L,x_raceRead_f L⟩⟩
theorem Uq:DM P L.raceWrite (Extern.Race.marked .write):=⟨⟨_,H.f_raceWrite,x_raceWrite_n L,x_raceWrite_b L,x_raceWrite_x L,x_raceWrite_f L⟩⟩
theorem Rv:DM P L.addU64 (Extern.Atomic.update (Op.intArith .add) .u64 true):=⟨⟨_,H.f_addU64,x_addU64_n L,x_addU64_b L,x_addU64_x L,x_addU64_f L⟩⟩
theorem U7:DM P L.loadU64 (Extern.Atomic.loadT (.int .u64)):=⟨⟨_,H.f_loadU64,x_loadU64_n L,x_loadU64_b L,x_loadU64_x L,x_loadU64_f L⟩⟩
theorem Ut:DM P L.storeU64 Extern.Atomic.storeT:=⟨⟨_,H.f_storeU64,x_storeU64_n L,x_storeU64_b L,x_storeU64_x L,x_storeU64_f L⟩⟩
theorem V4:DM P L.casU64 (Extern.Atomic.casT (.int .u64)):=⟨⟨_,H.f_casU64,x_casU64_n L,x_casU64_b L,x_casU64_x L,x_casU64_f L⟩⟩
theorem UI:DM P L.semrelease Extern.Sync.semrelease:=⟨⟨_,H.f_semrelease,x_semrelease_n L,x_semrelease_b L,x_semrelease_x L,x_semrelease_f L⟩⟩
theorem TO:DM P L.semacquire Extern.Sync.semacquire:=⟨⟨_,H.f_semacquire,x_semacquire_n L,x_semacquire_b L,x_semacquire_x L,x_semacquire_f L⟩⟩
theorem PQ:DM P L.inBubble (fun _=>pure (.bool false)):=⟨⟨_,H.f_inBubble,x_inBubble_n L,x_inBubble_b L,x_inBubble_x L,x_inBubble_f L⟩⟩
end
section
variable {P:Program}{F:Fam}{J:Judge P}{Q:GP}{n:Nat}{L L':Env}{ds:Ld_}{k:Li_}{cs:Lf_}{s s':St}{b:Frame}{main:Bool}
variable {ops:Ao_}{i:Nat}{rest:List Nat}{d:Option Tmp}{f:FuncId}{x y z:Operand}{ats:Array TypeId}{ty t u e tw:TypeId}{pp:String}{af:Ae_}{g:On_}{p q:Ph}
theorem Yl.to{o:Oper}{ρ:Operand→Value}{v v':Value}(h:Yl P o ρ s v)(e:v=v'):Yl P o ρ s v':=e▸h
theorem KG{ad:Addr}(ah:Jw p=true)(ai:if Fam.Ek p=true then s= .quiet else s.q=false)(aj:p≠ .EP)(ak:∀v wt sm,F.act p v wt sm=some ((v,wt,sm),#[],.ph q))(al:Fam.GR p s=s)
  (am:ops[i]? =some ⟨d,.convert t u x,ty,pp,af,g⟩) (U:b.roundOf=none) (hw:Bi L ops ⟨d,.convert t u x,ty,pp,af,g⟩=some true) (K:((b.kind != .early)&&BE n d)=true)
  (ht:P.underlying t=some (.pointer tw)) (hu:P.underlying u=some .unsafePointer) (V:(P.info? tw).map (fun i=>decide (i.size=0))=some false) (an:ev L x=some (.pointer (some ad))) (hb:ad=F.sA∨ad=F.mA)
  (h:JL (BB P (Fam.DT p)) (Stop P F q) b n (AF L d (.pointer (some ad))) ds (.inRegion ops rest::k) cs s):
  JL (BB P (Fam.DT p)) (Stop P F p) b n L ds (.inRegion ops (i::rest)::k) cs s:=fun T O=>by
 simp only [Bool.and_eq_true] at K
 refine(BB P _).stop (Hl ah rfl rfl ai (fun e=>absurd e aj) fun v wt sm v' wt' sm' es nx W=>?_)
 rw [ak] at W;cases W
 refine⟨_,fun w Z=>?_,rfl,by rw [al];exact h _ (O.put K.2 _)⟩
 obtain⟨aa,ab⟩:∃aa,w.cell? ad=some aa:=by
  obtain⟨ao,c2,_,_⟩:=Hn Z;rcases hb with e | e <;> rw [e]
  ·exact⟨_,ao⟩
  ·exact⟨_,c2⟩
 have ae:=run_convert_to_unsafe (P:=P) (w:=w) ht hu V ab;have ap:=events_convert_to_unsafe (P:=P) (w:=w) ht hu V ab;have ag:execOp (⟨T,ds⟩:Act).eval ⟨d,.convert t u x,ty,pp,af,g⟩=(do pure (Next.value (← Go.convert t u (.pointer (some ad))))):=by
  rw [IS];simp only [execOp,O.ev an]
 rw [C6 U,C6 U,stepG_value (a:=⟨T,ds⟩) (v:= .pointer (some ad)) (w':=w) am (Dj O hw) (by simpa using K.1) (by rw [ag];simp [ae,Result.andThen]),Jt Z,F9];have e2:listed P b.fn ⟨T,ds⟩ ⟨d,.convert t u x,ty,pp,af,g⟩ w= #[]:=by
  unfold listed;rw [ag];simp [ae,ap,Result.evThen,seen_none]
 rw [e2]
end
end Pal
namespace Pal
open Go Go.Conc Go.Conc.Lib
open Go.ConcR.Gen
section
variable {P:Program}{F:Fam}{J:Judge P}{Q:GP}{n:Nat}{L L':Env}{ds:Ld_}{k:Li_}{cs:Lf_}{s s':St}{b:Frame}{main:Bool}
variable {ops:Ao_}{i:Nat}{rest:List Nat}{d:Option Tmp}{f:FuncId}{x y z:Operand}{args:Array Operand}{ats:Array TypeId}{ty t u e tw:TypeId}{pp:String}{af:Ae_}{g:On_}{p q:Ph}{vs:Lv_}
def Zk(P:Program)(b:Frame)(n:Nat)(L:Env)(d:Option Tmp)(ds:Ld_)(todo:Li_)(cs:Lf_)(U:Frame):Prop:=
 ∀(K:Judge P) (O:GP) (v:Value) (s':St),JL K O b n (AF L d v) ds todo cs s'→K.ok O (G (U.finish v) cs) s'
theorem Ip{fn:Func}{c:Code}(V:ops[i]? =some ⟨d,.call ⟨.value (.func f),args,ats⟩,ty,pp,af,g⟩)(hw:Bi L ops ⟨d,.call ⟨.value (.func f),args,ats⟩,ty,pp,af,g⟩=some true)(O:((b.kind != .early)&&BE n d)=true)
  (W:P.funcs[f]? =some fn) (ab:(fn.name== "runtime.NumGoroutine")=false) (hb:fn.body=some c) (ae:evs L args.toList=some vs) (al:vs.length≤fn.ntmps)
  (h:∀Z:Frame,Zk P b n L d ds (.inRegion ops rest::k) cs Z→JL J Q (base f) fn.ntmps (FW 0 vs) [] [.code c] (Z::cs) s):
  JL J Q b n L ds (.inRegion ops (i::rest)::k) cs s:=fun T U=>by
 simp only [Bool.and_eq_true] at O
 have ag:args.map (BO T)=vs.toArray:=by
  rw [← Gy U.Gs ae];apply Array.ext';simp
 refine Judge.oper V (Dj U hw) (by simpa using O.1) (.inr fun c ah=>by cases ah) ?_;have ai:D9 P f=true:=by unfold D9;rw [W];simp [ab,hb]
 have hd:lp P (execOp (BO T) ⟨d,.call ⟨.value (.func f),args,ats⟩,ty,pp,af,g⟩) s (upon J Q b T ds ops i rest k cs d) (Nk J Q b T ds ops i rest k cs):=by
  simp only [execOp,resolve,bind,Sem.bind,Deferred.ofValue,BO,pure,invoke];have e: #[]++args.map (BO T)++ #[]=vs.toArray:=by rw [ag];simp
  rw [e];refine Jh ai ?_;have he:Frame.enter P f vs.toArray .normal=fr (base f) (vs.toArray++Array.replicate (fn.ntmps - vs.length) undef) [] [.code c]:=by
   simp [Frame.enter,fr,W,hb,base];rfl
  show J.ok Q (G (Frame.enter P f vs.toArray .normal) _) s;rw [he];refine h _ (fun am an v s' aj=>?_) _ ⟨by simp;omega,fun t v ht=>?_⟩
  ·rw [Gm (o:=⟨d,.call ⟨.value (.func f),args,ats⟩,ty,pp,af,g⟩) _ _ _ _ _ V];exact aj _ (U.put O.2 v)
  ·obtain⟨_,K⟩:=Ji ht;have ak:t<vs.length:=by
    rcases Nat.lt_or_ge t vs.length with aa | aa
    ·exact aa
    ·simp at K;have:=(List.getElem?_eq_some_iff.1 K).1;omega
   rw [Array.getD_eq_getD_getElem?,Array.getElem?_append_left (by simpa using ak)];simp at K;simp [K]
 exact hd
theorem Yl.ext{e:AA→Sem Value}{v:Value}{ρ:Operand→Value}(he:DM P f e)(O:args.map ρ=vs.toArray)(h:e vs.toArray= .pure v):Yl P ⟨d,.call ⟨.value (.func f),args,ats⟩,ty,pp,af,g⟩ ρ s v∨ρ (.func f)≠ .func (.func f) #[] #[]:=by
 by_cases K:ρ (.func f)= .func (.func f) #[] #[]
 ·left;obtain⟨fn,U,V,W,Z,aa⟩:=he.h;unfold Yl;simp only [execOp,resolve,bind,Sem.bind,Deferred.ofValue,K,pure,invoke];have ab: #[]++args.map ρ++ #[]=vs.toArray:=by rw [O];simp
  rw [ab];have ae:fn.body=none:=by simpa using W
  simp only [callFunc,bind,Sem.bind,program,lp,U,V,ae,Option.isNone_none,Bool.false_eq_true,if_false,if_true,mark,Z,aa,h,pure];exact⟨.inr ⟨f,rfl⟩,trivial,trivial⟩
 ·exact .inr K
theorem JL.ext{e:AA→Sem Value}{v:Value}(O:ops[i]? =some ⟨d,.call ⟨.value (.func f),args,ats⟩,ty,pp,af,g⟩)(hw:Bi L ops ⟨d,.call ⟨.value (.func f),args,ats⟩,ty,pp,af,g⟩=some true)(U:CZ b n ⟨d,.call ⟨.value (.func f),args,ats⟩,ty,pp,af,g⟩=true)
  (he:DM P f e) (V:evs L args.toList=some vs) (W:e vs.toArray= .pure v) (h:JL J Q b n (AF L d v) ds (.inRegion ops rest::k) cs s):JL J Q b n L ds (.inRegion ops (i::rest)::k) cs s:=
 Bc O hw U (fun ρ K=>by
  have Z:args.map ρ=vs.toArray:=by
   rw [← Gy K V]
   apply Array.ext';simp
  rcases Yl.ext (s:=s) (d:=d) (ats:=ats) (ty:=ty) (pp:=pp) (af:=af) (g:=g) he Z W with q | q
  ·exact q
  ·exact absurd (K (.func f) _ rfl) q) h
end
section
variable {P:Program}{L:WgLink}(H:WgLib P L){F:Fam}{n:Nat}{M:Env}{ds:Ld_}{k:Li_}{cs:Lf_}{s:St}{b:Frame}
variable {ops:Ao_}{i:Nat}{rest:List Nat}{d:Option Tmp}{x y z:Operand}{ats:Array TypeId}{ty:TypeId}{pp:String}{af:Ae_}{g:On_}{p q:Ph}
include H
theorem VQ(K:ops[i]? =some ⟨d,.call ⟨.value (.func L.uAdd),#[x,y],ats⟩,ty,pp,af,g⟩)(hw:Bi M ops ⟨d,.call ⟨.value (.func L.uAdd),#[x,y],ats⟩,ty,pp,af,g⟩=some true)(O:((b.kind != .early)&&BE n d)=true)
  (U:ev M x=some (.pointer (some F.sA))) (V:ev M y=some (.int .u64 18446744069414584320))
  (W:JL (BB P false) (Stop P F .Gt) b n (AF M d (.int .u64 (Fam.word 0 1))) ds (.inRegion ops rest::k) cs .quiet)
  (Z:∀v wt:Nat,v<2147483647→wt≤1→¬(v=0∧wt=1)→JL (Gz P) (G9 P 1) b n (AF M d (.int .u64 (Fam.word v wt))) ds (.inRegion ops rest::k) cs .quiet):
  JL (BB P false) (Stop P F .Ha) b n M ds (.inRegion ops (i::rest)::k) cs .quiet:=by
 refine Ip (vs:= [.pointer (some F.sA),.int .u64 18446744069414584320]) K hw O H.f_uAdd (nm_uAdd L) rfl (by simp [evs,U,V]) (Nat.le_of_ble_eq_true rfl) fun ag back=>JL.go 8 rfl (Bc rfl rfl rfl (fun ρ h=>Yl.fieldAddr H.underlying_tAU rfl (Fy H.sizeOf_tU64) (h _ _ rfl)) ?_);refine JL.go 1 rfl (WY rfl rfl rfl rfl (Rv H) rfl rfl ?_ fun v wt aa ab ae=>?_)
 ·refine Bc rfl rfl rfl (fun ρ h=>Yl.assign (h _ _ rfl)) (JL.done ?_);exact JL.ret rfl rfl (B6.one H.f_uAdd rfl rfl) (back _ _ _ _ W)
 ·refine Bc rfl rfl rfl (fun ρ h=>Yl.assign (h _ _ rfl)) (JL.done ?_);exact JL.ret rfl rfl (B6.one H.f_uAdd rfl rfl) (back _ _ _ _ (Z v wt aa ab ae))
theorem U3{j:Nat}(K:s.q=false)(O:ops[i]? =some ⟨d,.call ⟨.value (.func L.uAdd),#[x,y],ats⟩,ty,pp,af,g⟩)(hw:Bi M ops ⟨d,.call ⟨.value (.func L.uAdd),#[x,y],ats⟩,ty,pp,af,g⟩=some true)(U:((b.kind != .early)&&BE n d)=true)
  (V:ev M x=some (.pointer (some F.sA))) (W:ev M y=some (.int .u64 4294967296))
  (Z:JL (BB P true) (Stop P F (.Hc j)) b n (AF M d (.int .u64 (Fam.word 1 0))) ds (.inRegion ops rest::k) cs s)
  (aa:∀v:Nat,1≤v→v<2147483647→JL (BB P true) (Stop P F (.Gg j)) b n (AF M d (.int .u64 (Fam.word (v+1) 0))) ds (.inRegion ops rest::k) cs s):
  JL (BB P true) (Stop P F (.Hy j)) b n M ds (.inRegion ops (i::rest)::k) cs s:=by
 refine Ip (vs:= [.pointer (some F.sA),.int .u64 4294967296]) O hw U H.f_uAdd (nm_uAdd L) rfl (by simp [evs,V,W]) (Nat.le_of_ble_eq_true rfl) fun ag back=>JL.go 8 rfl (Bc rfl rfl rfl (fun ρ h=>Yl.fieldAddr H.underlying_tAU rfl (Fy H.sizeOf_tU64) (h _ _ rfl)) ?_);refine JL.go 1 rfl (WV K rfl rfl rfl rfl (Rv H) rfl rfl ?_ fun v ab ae=>?_)
 ·refine Bc rfl rfl rfl (fun ρ h=>Yl.assign (h _ _ rfl)) (JL.done ?_);exact JL.ret rfl rfl (B6.one H.f_uAdd rfl rfl) (back _ _ _ _ Z)
 ·refine Bc rfl rfl rfl (fun ρ h=>Yl.assign (h _ _ rfl)) (JL.done ?_);exact JL.ret rfl rfl (B6.one H.f_uAdd rfl rfl) (back _ _ _ _ (aa v ab ae))
theorem JL.uLoad(K:Jw p=true)(O:if Fam.Ek p=true then s= .quiet else s.q=false)(U:p≠ .EP)(V:Fam.GR p s=s)(W:∀v wt sm r,F.act p v wt sm=some r→r.1=(v,wt,sm)∧r.2.1= #[Fam.Fs F.sA])(Z:ops[i]? =some ⟨d,.call ⟨.value (.func L.uLoad),#[x],ats⟩,ty,pp,af,g⟩)(hw:Bi M ops ⟨d,.call ⟨.value (.func L.uLoad),#[x],ats⟩,ty,pp,af,g⟩=some true)(aa:((b.kind != .early)&&BE n d)=true)
  (ab:ev M x=some (.pointer (some F.sA)))
  (h:∀v wt sm r,F.act p v wt sm=some r→∃q,r.2.2= .ph q∧JL (BB P (Fam.DT p)) (Stop P F q) b n (AF M d (.int .u64 (Fam.word v wt))) ds (.inRegion ops rest::k) cs s):
  JL (BB P (Fam.DT p)) (Stop P F p) b n M ds (.inRegion ops (i::rest)::k) cs s:=by
 refine Ip (vs:= [.pointer (some F.sA)]) Z hw aa H.f_uLoad (nm_uLoad L) rfl (by simp [evs,ab]) (Nat.le_of_ble_eq_true rfl) fun ai back=>JL.go 8 rfl (Bc rfl rfl rfl (fun ρ h=>Yl.fieldAddr H.underlying_tAU rfl (Fy H.sizeOf_tU64) (h _ _ rfl)) ?_);refine XC K O U V W rfl rfl rfl rfl (U7 H) rfl fun v wt sm r ae=>?_;obtain⟨q,ag,ah⟩:=h v wt sm r ae;refine⟨q,ag,?_⟩
 ·refine Bc rfl rfl rfl (fun ρ h=>Yl.assign (h _ _ rfl)) (JL.done ?_);exact JL.ret rfl rfl (B6.one H.f_uLoad rfl rfl) (back _ _ _ _ ah)
theorem JL.uStore(K:ops[i]? =some ⟨d,.call ⟨.value (.func L.uStore),#[x,y],ats⟩,ty,pp,af,g⟩)(hw:Bi M ops ⟨d,.call ⟨.value (.func L.uStore),#[x,y],ats⟩,ty,pp,af,g⟩=some true)(O:((b.kind != .early)&&BE n d)=true)
  (U:ev M x=some (.pointer (some F.sA))) (V:ev M y=some (.int .u64 0))
  (h:JL (BB P false) (Stop P F .EP) b n (AF M d (.tuple #[])) ds (.inRegion ops rest::k) cs .quiet):
  JL (BB P false) (Stop P F .GF) b n M ds (.inRegion ops (i::rest)::k) cs .quiet:=by
 refine Ip (vs:= [.pointer (some F.sA),.int .u64 0]) K hw O H.f_uStore (nm_uStore L) rfl (by simp [evs,U,V]) (Nat.le_of_ble_eq_true rfl) fun W back=>JL.go 3 rfl (Bc rfl rfl rfl (fun ρ h=>Yl.fieldAddr H.underlying_tAU rfl (Fy H.sizeOf_tU64) (h _ _ rfl)) ?_);refine JL.go 1 rfl (Xx rfl rfl rfl rfl (Ut H) rfl rfl ?_);exact JL.done (JL.fin rfl rfl (B6.none H.f_uStore rfl) (back _ _ _ _ h))
theorem JL.uCas{m:Nat}(K:s.q=false)(O:ops[i]? =some ⟨d,.call ⟨.value (.func L.uCas),#[x,y,z],ats⟩,ty,pp,af,g⟩)(hw:Bi M ops ⟨d,.call ⟨.value (.func L.uCas),#[x,y,z],ats⟩,ty,pp,af,g⟩=some true)(U:((b.kind != .early)&&BE n d)=true)
  (V:ev M x=some (.pointer (some F.sA))) (W:ev M y=some (.int .u64 (Fam.word m 0))) (Z:ev M z=some (.int .u64 (Fam.word m 1)))
  (aa:JL (BB P false) (Stop P F .HC) b n (AF M d (.bool true)) ds (.inRegion ops rest::k) cs s)
  (ab:JL (BB P false) (Stop P F (.FV (m - 1))) b n (AF M d (.bool false)) ds (.inRegion ops rest::k) cs s):
  JL (BB P false) (Stop P F (.Hb m)) b n M ds (.inRegion ops (i::rest)::k) cs s:=by
 refine Ip (vs:= [.pointer (some F.sA),.int .u64 (Fam.word m 0),.int .u64 (Fam.word m 1)]) O hw U H.f_uCas (nm_uCas L) rfl (by simp [evs,V,W,Z]) (Nat.le_of_ble_eq_true rfl) fun ae back=>JL.go 8 rfl (Bc rfl rfl rfl (fun ρ h=>Yl.fieldAddr H.underlying_tAU rfl (Fy H.sizeOf_tU64) (h _ _ rfl)) ?_);refine JL.go 2 rfl (XM (m:=m) K rfl rfl rfl rfl (V4 H) rfl rfl rfl ?_ ?_)
 ·refine Bc rfl rfl rfl (fun ρ h=>Yl.assign (h _ _ rfl)) (JL.done ?_);exact JL.ret rfl rfl (B6.one H.f_uCas rfl rfl) (back _ _ _ _ aa)
 ·refine Bc rfl rfl rfl (fun ρ h=>Yl.assign (h _ _ rfl)) (JL.done ?_);exact JL.ret rfl rfl (B6.one H.f_uCas rfl rfl) (back _ _ _ _ ab)
end
end Pal
namespace Pal
open Go Go.Conc Go.Conc.Lib
open Go.ConcR.Gen
theorem JN{v wt:Nat}(K:v<2147483648)(O:wt≤1):IntKind.u64.wrap (BitVec.ofInt IntKind.u64.bits (Fam.word v wt)&&& BitVec.ofInt IntKind.u64.bits 2147483648).toNat=0:=by
 have:=Go.ConcN.st_flag v wt K O;simpa [bits,Fam.word,Fam.KK] using this
theorem J0{v wt:Nat}(K:v<2147483648)(O:wt≤1):IntKind.u64.wrap (BitVec.ofInt IntKind.u64.bits (Fam.word v wt)&&& BitVec.ofInt IntKind.u64.bits 2147483647).toNat=(wt:Int):=by
 have:=Go.ConcN.st_waiters v wt K O;simpa [bits,Fam.word,Fam.KK] using this
theorem Js{v wt:Nat}(K:wt≤1):(Fam.word v wt).fdiv (2 ^ (min (32:Int).toNat IntKind.u64.bits))=(v:Int):=by
 have e:(2:Int) ^ (min (32:Int).toNat IntKind.u64.bits)=4294967296:=by decide
 rw [e,Int.fdiv_eq_ediv_of_nonneg _ (by decide)];simp only [Fam.word,Fam.KK];omega
theorem wrap_i32{v:Nat}(K:v<2147483648):IntKind.i32.wrap (v:Int)=v:=by
 simp only [IntKind.wrap,IntKind.bits,IntKind.signed];simp;split <;> omega
theorem wrap_u32{v:Nat}(K:v≤1):IntKind.u32.wrap (v:Int)=v:=by
 simp only [IntKind.wrap,IntKind.bits,IntKind.signed];simp;omega
theorem Um{F:Fam}:∀v wt sm r,F.act .Gt v wt sm=some r→r.1=(v,wt,sm)∧r.2.1= #[Fam.Fs F.sA]:=by
 intro v wt sm r h;simp only [Fam.act] at h;split at h
 ·rename_i K;obtain⟨rfl,rfl⟩:=K;cases h;exact⟨rfl,rfl⟩
 ·cases h
theorem Vo{F:Fam}{v wt sm:Nat}{r}(h:F.act .Gt v wt sm=some r):v=0∧wt=1∧r.2.2= .ph .GF:=by
 simp only [Fam.act] at h;split at h
 ·rename_i K;cases h;exact⟨K.1,K.2,rfl⟩
 ·cases h
section
variable {P:Program}{L:WgLink}(H:WgLib P L){F:Fam}{n:Nat}{M:Env}{ds:Ld_}{k:Li_}{cs:Lf_}{s:St}{b:Frame}
variable {ops:Ao_}{i:Nat}{rest:List Nat}{d:Option Tmp}{x y z:Operand}{ats:Array TypeId}{ty:TypeId}{pp:String}{af:Ae_}{g:On_}{p q:Ph}
include H
theorem Ul(U:s.q=false)(V:ops[i]? =some ⟨d,.call ⟨.value (.func L.add),#[x,y],ats⟩,ty,pp,af,g⟩)(hw:Bi M ops ⟨d,.call ⟨.value (.func L.add),#[x,y],ats⟩,ty,pp,af,g⟩=some true)(W:((b.kind != .early)&&BE n d)=true)
  (Z:ev M x=some (.pointer (some F.sA))) (aa:ev M y=some (.int .i64 (-1)))
  (h:JL (Gz P) (G9 P 0) b n (AF M d (.tuple #[])) ds (.inRegion ops rest::k) cs .quiet):
  JL (BB P false) (Stop P F .Df) b n M ds (.inRegion ops (i::rest)::k) cs s:=by
 refine Ip (vs:= [.pointer (some F.sA),.int .i64 (-1)]) V hw W H.f_add (nm_add L) rfl (by simp [evs,Z,aa]) (Nat.le_of_ble_eq_true rfl) fun ae back=>JL.go 11 rfl (KG (p:= .Df) (q:= .Gv) (ad:=F.sA) rfl U (by simp) (fun _ _ _=>rfl) rfl rfl rfl rfl rfl H.underlying_tWgP H.underlying_tUP H.room_tWg rfl (.inl rfl) ?_)
 refine Kp (p:= .Gv) (q:= .H0) (mk:= .releaseMerge) (ad:=F.sA) (vs:= [.pointer (some F.sA)]) rfl U (by simp) (fun _ _ _=>rfl) rfl rfl rfl rfl (by simp) (Ty H) rfl rfl (JL.go 3 rfl ?_);refine Ky (p:= .H0) (q:= .Ha) rfl rfl (by simp) (fun _ _ _=>rfl) rfl rfl rfl rfl rfl (by simp) (NW H) (JL.go 2 rfl ?_);refine JL.defer (vs:= []) rfl rfl rfl rfl rfl (JL.go 8 rfl ?_);refine JL.ext (vs:= []) rfl rfl rfl (PQ H) rfl rfl (JL.go 7 rfl ?_);refine Bc rfl rfl rfl (fun ρ h=>Yl.fieldAddr H.underlying_tWg rfl (Fy H.sizeOf_tAU) (h _ _ rfl)) (JL.go 1 rfl ?_);refine Bc rfl rfl rfl (fun ρ h=>EC H.underlying_t3 H.underlying_tU64 (h _ _ rfl)) ?_
 refine Bc (v:= .int .u64 18446744069414584320) rfl rfl rfl (fun ρ h=>(Yl.shl (h _ _ rfl) (h _ _ rfl) (by decide)).to (congrArg _ (by decide))) (VQ H rfl rfl rfl rfl rfl ?_ fun v wt ag K ah=>?_)
 ·refine Bc rfl rfl rfl (fun ρ h=>Yl.assign (h _ _ rfl)) (JL.go 5 rfl ?_);refine Bc (v:= .int .u64 0) rfl rfl rfl (fun ρ h=>(Yl.and (h _ _ rfl) (h _ _ rfl)).to (congrArg _ (JN (v:=0) (wt:=1) (by decide) (by decide)))) (Bc rfl rfl rfl (fun ρ h=>Yl.neq (h _ _ rfl) (h _ _ rfl)) ?_);refine JL.go 10 rfl (Bc (v:= .int .u64 (0:Nat)) rfl rfl rfl (fun ρ h=>(Yl.shr (h _ _ rfl) (h _ _ rfl) (by decide)).to (congrArg _ (Js (v:=0) (wt:=1) (by decide)))) ?_);refine Bc (v:= .int .i32 (0:Nat)) rfl rfl rfl (fun ρ h=>(EC H.underlying_tU64 H.underlying_t21 (h _ _ rfl)).to (congrArg _ (wrap_i32 (by decide)))) ?_
  refine JL.go 5 rfl (Bc (v:= .int .u64 (1:Nat)) rfl rfl rfl (fun ρ h=>(Yl.and (h _ _ rfl) (h _ _ rfl)).to (congrArg _ (J0 (v:=0) (wt:=1) (by decide) (by decide)))) ?_);refine Bc (v:= .int .u32 (1:Nat)) rfl rfl rfl (fun ρ h=>(EC H.underlying_tU64 H.underlying_tU32 (h _ _ rfl)).to (congrArg _ (wrap_u32 (by decide)))) ?_
  refine JL.go 30 rfl (Bc rfl rfl rfl (fun ρ h=>Yl.neq (h _ _ rfl) (h _ _ rfl)) ?_);refine JL.go 30 rfl (Bc rfl rfl rfl (fun ρ h=>Yl.fieldAddr H.underlying_tWg rfl (Fy H.sizeOf_tAU) (h _ _ rfl)) ?_);refine JL.uLoad H (p:= .Gt) rfl rfl (by simp) rfl Um rfl rfl rfl rfl fun v wt sm r ab=>?_;obtain⟨rfl,rfl,e⟩:=Vo ab;refine⟨.GF,e,?_⟩;refine JL.go 1 rfl (Bc (v:= .bool false) rfl rfl rfl (fun ρ h=>(Yl.neq (h _ _ rfl) (h _ _ rfl)).to (by simp)) ?_);refine JL.go 7 rfl (Bc rfl rfl rfl (fun ρ h=>Yl.fieldAddr H.underlying_tWg rfl (Fy H.sizeOf_tAU) (h _ _ rfl)) ?_);refine JL.uStore H rfl rfl rfl rfl rfl (JL.go 9 rfl ?_);refine Jl (JL.go 4 rfl ?_);refine Bc rfl rfl rfl (fun ρ h=>Yl.neq (h _ _ rfl) (h _ _ rfl)) (JL.go 8 rfl ?_);refine Bc rfl rfl rfl (fun ρ h=>Yl.fieldAddr H.underlying_tWg rfl (Fy H.sizeOf_tU32) (h _ _ rfl)) (VU (vs:= [.pointer (some F.mA),.bool false,.int .i64 0]) rfl rfl rfl rfl (UI H) rfl rfl ?_);refine JL.go 4 rfl (Bc (v:= .int .u32 ((0:Nat):Int)) rfl rfl rfl (fun ρ h=>(Yl.sub (h _ _ rfl) (h _ _ rfl)).to (congrArg _ (by decide))) ?_);refine JL.go 2 rfl (JL.again ?_);refine JL.go 4 rfl (Bc rfl rfl rfl (fun ρ h=>Yl.neq (h _ _ rfl) (h _ _ rfl)) ?_);refine JL.go 3 rfl (JL.out rfl (JO.MJ rfl (Ig H) (JO.leave rfl (B6.none H.f_add rfl) (back _ _ _ _ h))))
 ·refine Bc rfl rfl rfl (fun ρ h=>Yl.assign (h _ _ rfl)) (JL.go 5 rfl ?_);refine Bc (v:= .int .u64 0) rfl rfl rfl (fun ρ h=>(Yl.and (h _ _ rfl) (h _ _ rfl)).to (congrArg _ (JN (v:=v) (wt:=wt) (by omega) K))) (Bc rfl rfl rfl (fun ρ h=>Yl.neq (h _ _ rfl) (h _ _ rfl)) ?_);refine JL.go 10 rfl (Bc (v:= .int .u64 (v:Nat)) rfl rfl rfl (fun ρ h=>(Yl.shr (h _ _ rfl) (h _ _ rfl) (by decide)).to (congrArg _ (Js (v:=v) (wt:=wt) K))) ?_);refine Bc (v:= .int .i32 (v:Nat)) rfl rfl rfl (fun ρ h=>(EC H.underlying_tU64 H.underlying_t21 (h _ _ rfl)).to (congrArg _ (wrap_i32 (by omega)))) ?_
  refine JL.go 5 rfl (Bc (v:= .int .u64 (wt:Nat)) rfl rfl rfl (fun ρ h=>(Yl.and (h _ _ rfl) (h _ _ rfl)).to (congrArg _ (J0 (v:=v) (wt:=wt) (by omega) K))) ?_);refine Bc (v:= .int .u32 (wt:Nat)) rfl rfl rfl (fun ρ h=>(EC H.underlying_tU64 H.underlying_tU32 (h _ _ rfl)).to (congrArg _ (wrap_u32 K))) ?_
  refine JL.go 22 rfl (Bc (v:= .bool false) rfl rfl rfl (fun ρ h=>(Yl.lss (h _ _ rfl) (h _ _ rfl)).to (by simp)) ?_);refine JL.go 6 rfl ?_;by_cases O:wt=0
  ·refine Bc rfl rfl rfl (fun ρ h=>Yl.move (h _ _ rfl)) (Bc (v:= .bool false) rfl rfl rfl (fun ρ h=>(Yl.neq (h _ _ rfl) (h _ _ rfl)).to (by simp [O])) ?_);refine JL.go 16 rfl ?_;by_cases ai:0<v
   ·refine Bc rfl rfl rfl (fun ρ h=>Yl.move (h _ _ rfl)) (Bc (v:= .bool true) rfl rfl rfl (fun ρ h=>(Yl.gtr (h _ _ rfl) (h _ _ rfl)).to (by simp <;> omega)) ?_);refine JL.go 6 rfl (Gn rfl (JO.MJ rfl (Ig H) (JO.leave rfl (B6.none H.f_add rfl) (back _ _ _ _ h))))
   ·refine Bc rfl rfl rfl (fun ρ h=>Yl.move (h _ _ rfl)) (Bc (v:= .bool false) rfl rfl rfl (fun ρ h=>(Yl.gtr (h _ _ rfl) (h _ _ rfl)).to (by simp <;> omega)) ?_);refine JL.go 2 rfl (Bc (v:= .bool true) rfl rfl rfl (fun ρ h=>(Yl.eql (h _ _ rfl) (h _ _ rfl)).to (by simp [O])) ?_);refine JL.go 3 rfl (Gn rfl (JO.MJ rfl (Ig H) (JO.leave rfl (B6.none H.f_add rfl) (back _ _ _ _ h))))
  ·refine Bc rfl rfl rfl (fun ρ h=>Yl.move (h _ _ rfl)) (Bc (v:= .bool true) rfl rfl rfl (fun ρ h=>(Yl.neq (h _ _ rfl) (h _ _ rfl)).to (by simp [O])) ?_);refine JL.go 17 rfl (Bc (v:= .bool true) rfl rfl rfl (fun ρ h=>(Yl.gtr (h _ _ rfl) (h _ _ rfl)).to (by simp <;> omega)) ?_);refine JL.go 6 rfl (Gn rfl (JO.MJ rfl (Ig H) (JO.leave rfl (B6.none H.f_add rfl) (back _ _ _ _ h))))
theorem Un{j:Nat}(K:s.q=false)(O:ops[i]? =some ⟨d,.call ⟨.value (.func L.add),#[x,y],ats⟩,ty,pp,af,g⟩)(hw:Bi M ops ⟨d,.call ⟨.value (.func L.add),#[x,y],ats⟩,ty,pp,af,g⟩=some true)(U:((b.kind != .early)&&BE n d)=true)
  (V:ev M x=some (.pointer (some F.sA))) (W:ev M y=some (.int .i64 1))
  (h:JL (BB P true) (Stop P F (.Fq j)) b n (AF M d (.tuple #[])) ds (.inRegion ops rest::k) cs s):
  JL (BB P true) (Stop P F (.FE j)) b n M ds (.inRegion ops (i::rest)::k) cs s:=by
 refine Ip (vs:= [.pointer (some F.sA),.int .i64 1]) O hw U H.f_add (nm_add L) rfl (by simp [evs,V,W]) (Nat.le_of_ble_eq_true rfl) fun Z back=>JL.go 12 rfl (Ky (p:= .FE j) (q:= .Hy j) rfl K (by simp) (fun _ _ _=>rfl) rfl rfl rfl rfl rfl (by simp) (NW H) ?_);refine JL.go 2 rfl (JL.defer (vs:= []) rfl rfl rfl rfl rfl ?_);refine JL.go 8 rfl (JL.ext (vs:= []) rfl rfl rfl (PQ H) rfl rfl ?_);refine JL.go 7 rfl (Bc rfl rfl rfl (fun ρ h=>Yl.fieldAddr H.underlying_tWg rfl (Fy H.sizeOf_tAU) (h _ _ rfl)) ?_);refine JL.go 1 rfl (Bc rfl rfl rfl (fun ρ h=>EC H.underlying_t3 H.underlying_tU64 (h _ _ rfl)) ?_)
 refine Bc (v:= .int .u64 4294967296) rfl rfl rfl (fun ρ h=>(Yl.shl (h _ _ rfl) (h _ _ rfl) (by decide)).to (congrArg _ (by decide))) (U3 H K rfl rfl rfl rfl rfl ?_ fun v aa ab=>?_)
 ·refine Bc rfl rfl rfl (fun ρ h=>Yl.assign (h _ _ rfl)) (JL.go 5 rfl ?_);refine Bc (v:= .int .u64 0) rfl rfl rfl (fun ρ h=>(Yl.and (h _ _ rfl) (h _ _ rfl)).to (congrArg _ (JN (v:=1) (wt:=0) (by decide) (by decide)))) (Bc rfl rfl rfl (fun ρ h=>Yl.neq (h _ _ rfl) (h _ _ rfl)) ?_);refine JL.go 10 rfl (Bc (v:= .int .u64 (1:Nat)) rfl rfl rfl (fun ρ h=>(Yl.shr (h _ _ rfl) (h _ _ rfl) (by decide)).to (congrArg _ (Js (v:=1) (wt:=0) (by decide)))) ?_);refine Bc (v:= .int .i32 (1:Nat)) rfl rfl rfl (fun ρ h=>(EC H.underlying_tU64 H.underlying_t21 (h _ _ rfl)).to (congrArg _ (wrap_i32 (by decide)))) ?_
  refine JL.go 5 rfl (Bc (v:= .int .u64 (0:Nat)) rfl rfl rfl (fun ρ h=>(Yl.and (h _ _ rfl) (h _ _ rfl)).to (congrArg _ (J0 (v:=1) (wt:=0) (by decide) (by decide)))) ?_);refine Bc (v:= .int .u32 (0:Nat)) rfl rfl rfl (fun ρ h=>(EC H.underlying_tU64 H.underlying_tU32 (h _ _ rfl)).to (congrArg _ (wrap_u32 (by decide)))) ?_
  refine JL.go 12 rfl (Bc (v:= .int .i32 1) rfl rfl rfl (fun ρ h=>(EC H.underlying_t3 H.underlying_t21 (h _ _ rfl)).to (congrArg _ (by decide))) ?_)
  refine Bc (v:= .bool true) rfl rfl rfl (fun ρ h=>(Yl.eql (h _ _ rfl) (h _ _ rfl)).to (by simp)) (JL.go 6 rfl ?_);refine Bc rfl rfl rfl (fun ρ h=>Yl.fieldAddr H.underlying_tWg rfl (Fy H.sizeOf_tU32) (h _ _ rfl)) (KG (p:= .Hc j) (q:= .GK j) (ad:=F.mA) rfl K (by simp) (fun _ _ _=>rfl) rfl rfl rfl rfl rfl H.underlying_tPU32 H.underlying_tUP H.room_tU32 rfl (.inr rfl) ?_)
  refine Kp (p:= .GK j) (q:= .Gg j) (mk:= .read) (ad:=F.mA) (vs:= [.pointer (some F.mA)]) rfl K (by simp) (fun _ _ _=>rfl) rfl rfl rfl rfl (by simp) (V2 H) rfl rfl (JL.go 5 rfl ?_);refine Bc (v:= .bool false) rfl rfl rfl (fun ρ h=>(Yl.lss (h _ _ rfl) (h _ _ rfl)).to (by simp)) (JL.go 7 rfl ?_);refine Bc (v:= .bool false) rfl rfl rfl (fun ρ h=>(Yl.neq (h _ _ rfl) (h _ _ rfl)).to (by simp)) (JL.go 17 rfl ?_);refine Bc (v:= .bool true) rfl rfl rfl (fun ρ h=>(Yl.gtr (h _ _ rfl) (h _ _ rfl)).to (by simp)) (JL.go 6 rfl ?_);exact Gn rfl (JO.RI K rfl (Ig H) (JO.leave rfl (B6.none H.f_add rfl) (back _ _ _ _ h)))
 ·refine Bc rfl rfl rfl (fun ρ h=>Yl.assign (h _ _ rfl)) (JL.go 5 rfl ?_);refine Bc (v:= .int .u64 0) rfl rfl rfl (fun ρ h=>(Yl.and (h _ _ rfl) (h _ _ rfl)).to (congrArg _ (JN (v:=(v+1)) (wt:=0) (by omega) (by decide)))) (Bc rfl rfl rfl (fun ρ h=>Yl.neq (h _ _ rfl) (h _ _ rfl)) ?_);refine JL.go 10 rfl (Bc (v:= .int .u64 ((v+1):Nat)) rfl rfl rfl (fun ρ h=>(Yl.shr (h _ _ rfl) (h _ _ rfl) (by decide)).to (congrArg _ (Js (v:=(v+1)) (wt:=0) (by decide)))) ?_);refine Bc (v:= .int .i32 ((v+1):Nat)) rfl rfl rfl (fun ρ h=>(EC H.underlying_tU64 H.underlying_t21 (h _ _ rfl)).to (congrArg _ (wrap_i32 (by omega)))) ?_
  refine JL.go 5 rfl (Bc (v:= .int .u64 (0:Nat)) rfl rfl rfl (fun ρ h=>(Yl.and (h _ _ rfl) (h _ _ rfl)).to (congrArg _ (J0 (v:=(v+1)) (wt:=0) (by omega) (by decide)))) ?_);refine Bc (v:= .int .u32 (0:Nat)) rfl rfl rfl (fun ρ h=>(EC H.underlying_tU64 H.underlying_tU32 (h _ _ rfl)).to (congrArg _ (wrap_u32 (by decide)))) ?_
  refine JL.go 12 rfl (Bc (v:= .int .i32 1) rfl rfl rfl (fun ρ h=>(EC H.underlying_t3 H.underlying_t21 (h _ _ rfl)).to (congrArg _ (by decide))) ?_)
  refine Bc (v:= .bool false) rfl rfl rfl (fun ρ h=>(Yl.eql (h _ _ rfl) (h _ _ rfl)).to (by simp <;> omega)) (JL.go 8 rfl ?_);refine Bc (v:= .bool false) rfl rfl rfl (fun ρ h=>(Yl.lss (h _ _ rfl) (h _ _ rfl)).to (by simp <;> omega)) (JL.go 7 rfl ?_);refine Bc (v:= .bool false) rfl rfl rfl (fun ρ h=>(Yl.neq (h _ _ rfl) (h _ _ rfl)).to (by simp)) (JL.go 17 rfl ?_);refine Bc (v:= .bool true) rfl rfl rfl (fun ρ h=>(Yl.gtr (h _ _ rfl) (h _ _ rfl)).to (by simp <;> omega)) (JL.go 6 rfl ?_);exact Gn rfl (JO.RI K rfl (Ig H) (JO.leave rfl (B6.none H.f_add rfl) (back _ _ _ _ h)))
omit H in
theorem U0{m:Nat}:∀v wt sm r,F.act (.FV m) v wt sm=some r→r.1=(v,wt,sm)∧r.2.1= #[Fam.Fs F.sA]:=by
 intro v wt sm r h;simp only [Fam.act] at h;split at h
 ·rename_i K;obtain⟨_,rfl⟩:=K;cases h;exact⟨rfl,rfl⟩
 ·cases h
omit H in
theorem VF{m v wt sm:Nat}{r}(h:F.act (.FV m) v wt sm=some r):v≤m∧wt=0∧r.2.2=if v=0 then .ph .FG else .ph (.Hb v):=by
 simp only [Fam.act] at h;split at h
 ·rename_i K;cases h;exact⟨K.1,K.2,rfl⟩
 ·cases h
omit H in
theorem TW:∀v wt sm r,F.act .GG v wt sm=some r→r.1=(v,wt,sm)∧r.2.1= #[Fam.Fs F.sA]:=by
 intro v wt sm r h;simp only [Fam.act] at h;split at h
 ·rename_i K;obtain⟨rfl,rfl⟩:=K;cases h;exact⟨rfl,rfl⟩
 ·cases h
omit H in
theorem Uy{v wt sm:Nat}{r}(h:F.act .GG v wt sm=some r):v=0∧wt=0∧r.2.2= .ph .FG:=by
 simp only [Fam.act] at h;split at h
 ·rename_i K;cases h;exact⟨K.1,K.2,rfl⟩
 ·cases h
omit H in
theorem Ug{v:Nat}(K:v<2147483648):IntKind.u64.wrap (Fam.word v 0+1)=Fam.word v 1:=by
 simp only [Fam.word,Fam.KK,IntKind.wrap,IntKind.bits,IntKind.signed];simp;omega
theorem JL.wait(W:F.n<2147483648)(K:s.q=false)(Z:ops[i]? =some ⟨d,.call ⟨.value (.func L.wait),#[x],ats⟩,ty,pp,af,g⟩)(hw:Bi M ops ⟨d,.call ⟨.value (.func L.wait),#[x],ats⟩,ty,pp,af,g⟩=some true)(aa:((b.kind != .early)&&BE n d)=true)
  (ab:ev M x=some (.pointer (some F.sA)))
  (h:JL (BB P false) (Stop P F .D3) b n (AF M d (.tuple #[])) ds (.inRegion ops rest::k) cs s):
  JL (BB P false) (Stop P F .Dh) b n M ds (.inRegion ops (i::rest)::k) cs s:=by
 refine Ip (vs:= [.pointer (some F.sA)]) Z hw aa H.f_wait (nm_wait L) rfl (by simp [evs,ab]) (Nat.le_of_ble_eq_true rfl) fun ag back=>JL.go 3 rfl (Ky (p:= .Dh) (q:= .FV F.n) rfl K (by simp) (fun _ _ _=>rfl) rfl rfl rfl rfl rfl (by simp) (NW H) ?_);refine JL.go 2 rfl (Jl ?_);refine Fg (L':= [(0,.pointer (some F.sA))]) ⟨rfl,trivial⟩ ?_;generalize F.n=m at W ⊢
 induction m using Nat.strongRecOn with
 | _ m ae=>?_
 refine JL.go 5 rfl (Bc rfl rfl rfl (fun ρ h=>Yl.fieldAddr H.underlying_tWg rfl (Fy H.sizeOf_tAU) (h _ _ rfl)) ?_);refine JL.uLoad H (p:= .FV m) rfl K (by simp) rfl U0 rfl rfl rfl rfl fun v wt sm r U=>?_;obtain⟨ah,rfl,e⟩:=VF U;have O:v<2147483648:=by omega
 by_cases V:v=0
 ·subst V;refine⟨.FG,e,?_⟩;refine JL.go 5 rfl (Bc (v:= .int .u64 (0:Nat)) rfl rfl rfl (fun ρ h=>(Yl.shr (h _ _ rfl) (h _ _ rfl) (by decide)).to (congrArg _ (Js (v:=0) (wt:=0) (by decide)))) ?_);refine Bc (v:= .int .i32 (0:Nat)) rfl rfl rfl (fun ρ h=>(EC H.underlying_tU64 H.underlying_t21 (h _ _ rfl)).to (congrArg _ (wrap_i32 (by decide)))) ?_
  refine JL.go 5 rfl (Bc (v:= .int .u64 ((0:Nat):Int)) rfl rfl rfl (fun ρ h=>(Yl.and (h _ _ rfl) (h _ _ rfl)).to (congrArg _ (J0 (v:=0) (wt:=0) (by decide) (by decide)))) ?_);refine Bc (v:= .int .u32 ((0:Nat):Int)) rfl rfl rfl (fun ρ h=>(EC H.underlying_tU64 H.underlying_tU32 (h _ _ rfl)).to (congrArg _ (wrap_u32 (by decide)))) ?_
  refine JL.go 6 rfl (Bc (v:= .bool true) rfl rfl rfl (fun ρ h=>(Yl.eql (h _ _ rfl) (h _ _ rfl)).to (by simp)) ?_);refine JL.go 6 rfl (Ky (p:= .FG) (q:= .Hx) rfl K (by simp) (fun _ _ _=>rfl) rfl rfl rfl rfl rfl (by simp) (Ig H) ?_);refine JL.go 3 rfl (KG (p:= .Hx) (q:= .GL) (ad:=F.sA) rfl K (by simp) (fun _ _ _=>rfl) rfl rfl rfl rfl rfl H.underlying_tWgP H.underlying_tUP H.room_tWg rfl (.inl rfl) ?_)
  refine Kp (p:= .GL) (q:= .D3) (mk:= .acquire) (ad:=F.sA) (vs:= [.pointer (some F.sA)]) rfl K (by simp) (fun _ _ _=>rfl) rfl rfl rfl rfl (by simp) (PK H) rfl rfl (JL.go 5 rfl ?_);refine Bc (v:= .bool true) rfl rfl rfl (fun ρ h=>(Yl.eql (h _ _ rfl) (h _ _ rfl)).to (by simp)) (JL.go 2 rfl ?_);refine Bc (v:= .int .u64 0) rfl rfl rfl (fun ρ h=>(Yl.and (h _ _ rfl) (h _ _ rfl)).to (congrArg _ (JN (v:=0) (wt:=0) (by decide) (by decide)))) (Bc (v:= .bool false) rfl rfl rfl (fun ρ h=>(Yl.neq (h _ _ rfl) (h _ _ rfl)).to (by simp)) ?_);exact JL.go 8 rfl (JL.ret rfl rfl (B6.none H.f_wait rfl) (back _ _ _ _ h))
 ·refine⟨.Hb v,by rw [e,if_neg V],?_⟩;refine JL.go 5 rfl (Bc (v:= .int .u64 (v:Nat)) rfl rfl rfl (fun ρ h=>(Yl.shr (h _ _ rfl) (h _ _ rfl) (by decide)).to (congrArg _ (Js (v:=v) (wt:=0) (by decide)))) ?_);refine Bc (v:= .int .i32 (v:Nat)) rfl rfl rfl (fun ρ h=>(EC H.underlying_tU64 H.underlying_t21 (h _ _ rfl)).to (congrArg _ (wrap_i32 O))) ?_
  refine JL.go 5 rfl (Bc (v:= .int .u64 ((0:Nat):Int)) rfl rfl rfl (fun ρ h=>(Yl.and (h _ _ rfl) (h _ _ rfl)).to (congrArg _ (J0 (v:=v) (wt:=0) O (by decide)))) ?_);refine Bc (v:= .int .u32 ((0:Nat):Int)) rfl rfl rfl (fun ρ h=>(EC H.underlying_tU64 H.underlying_tU32 (h _ _ rfl)).to (congrArg _ (wrap_u32 (by decide)))) ?_
  refine JL.go 6 rfl (Bc (v:= .bool false) rfl rfl rfl (fun ρ h=>(Yl.eql (h _ _ rfl) (h _ _ rfl)).to (by simp <;> omega)) ?_);refine JL.go 7 rfl (Bc rfl rfl rfl (fun ρ h=>Yl.fieldAddr H.underlying_tWg rfl (Fy H.sizeOf_tAU) (h _ _ rfl)) ?_);refine JL.go 2 rfl (Bc (v:= .int .u64 (Fam.word v 1)) rfl rfl rfl (fun ρ h=>(Yl.add (h _ _ rfl) (h _ _ rfl)).to (congrArg _ (Ug O))) ?_);refine JL.uCas H (m:=v) K rfl rfl rfl rfl rfl rfl ?_ ?_
  ·refine JL.done (JL.go 6 rfl ?_);refine Bc (v:= .bool true) rfl rfl rfl (fun ρ h=>(Yl.eql (h _ _ rfl) (h _ _ rfl)).to (by simp)) (JL.go 6 rfl ?_);refine Bc rfl rfl rfl (fun ρ h=>Yl.fieldAddr H.underlying_tWg rfl (Fy H.sizeOf_tU32) (h _ _ rfl)) (KG (p:= .HC) (q:= .Hd) (ad:=F.mA) rfl K (by simp) (fun _ _ _=>rfl) rfl rfl rfl rfl rfl H.underlying_tPU32 H.underlying_tUP H.room_tU32 rfl (.inr rfl) ?_)
   refine Kp (p:= .Hd) (q:= .DL) (mk:= .write) (ad:=F.mA) (vs:= [.pointer (some F.mA)]) rfl K (by simp) (fun _ _ _=>rfl) rfl rfl rfl rfl (by simp) (Uq H) rfl rfl (JL.go 9 rfl ?_);refine Bc (v:= .int .u64 0) rfl rfl rfl (fun ρ h=>(Yl.and (h _ _ rfl) (h _ _ rfl)).to (congrArg _ (JN (v:=v) (wt:=0) O (by decide)))) (Bc (v:= .bool false) rfl rfl rfl (fun ρ h=>(Yl.neq (h _ _ rfl) (h _ _ rfl)).to (by simp)) ?_);refine JL.go 10 rfl (Bc rfl rfl rfl (fun ρ h=>Yl.fieldAddr H.underlying_tWg rfl (Fy H.sizeOf_tU32) (h _ _ rfl)) ?_);refine JL.go 1 rfl (T6 (vs:= [.pointer (some F.mA),.bool false]) K rfl rfl rfl rfl (TO H) rfl rfl ?_);refine JL.go 5 rfl (Bc rfl rfl rfl (fun ρ h=>Yl.fieldAddr H.underlying_tWg rfl (Fy H.sizeOf_tAU) (h _ _ rfl)) ?_);refine JL.uLoad H (p:= .GG) rfl K (by simp) rfl TW rfl rfl rfl rfl fun v wt sm r U=>?_;obtain⟨rfl,rfl,e⟩:=Uy U;refine⟨.FG,e,?_⟩;refine Bc (v:= .bool false) rfl rfl rfl (fun ρ h=>(Yl.neq (h _ _ rfl) (h _ _ rfl)).to (by simp [Fam.word])) (JL.go 6 rfl ?_);refine Ky (p:= .FG) (q:= .Hx) rfl K (by simp) (fun _ _ _=>rfl) rfl rfl rfl rfl rfl (by simp) (Ig H) (JL.go 3 rfl ?_);refine KG (p:= .Hx) (q:= .GL) (ad:=F.sA) rfl K (by simp) (fun _ _ _=>rfl) rfl rfl rfl rfl rfl H.underlying_tWgP H.underlying_tUP H.room_tWg rfl (.inl rfl) ?_
   refine Kp (p:= .GL) (q:= .D3) (mk:= .acquire) (ad:=F.sA) (vs:= [.pointer (some F.sA)]) rfl K (by simp) (fun _ _ _=>rfl) rfl rfl rfl rfl (by simp) (PK H) rfl rfl (JL.go 8 rfl ?_);exact JL.ret rfl rfl (B6.none H.f_wait rfl) (back _ _ _ _ h)
  ·refine JL.done (JL.go 3 rfl ?_);refine JL.again (Fg (L':= [(0,.pointer (some F.sA))]) ⟨rfl,trivial⟩ ?_);exact ae (v - 1) (by omega) (by omega)
theorem JO.Nv(K:b.roundOf=none)(O:s.q=false)(h:JO (Gz P) (G9 P 0) b n M ds cs .quiet):
  JO (BB P false) (Stop P F .Df) b n M (dcall L.done #[.pointer (some F.sA)]::ds) cs s:=by
 refine JO.enter (vs:= [.pointer (some F.sA)]) K H.f_done (nm_done L) rfl (Nat.le_of_ble_eq_true rfl) fun T U todo=>JL.go 2 rfl (Ul H O rfl rfl rfl rfl rfl ?_);exact JL.done (JL.out rfl (JO.leaveD rfl H.f_done rfl (.inl rfl) (h T U todo)))
end
end Pal
namespace Pal
open Go Go.Conc
section
variable {P:Program}{J:Judge P}{Q:Gs_}{g:Goroutine}{cs:Lf_}{c:Frame}{E H:LH}{S S':List Seg}
theorem Ou(K:S.flatten.Perm S'.flatten)(O:Au E H S)(h:Au E H S'→J.ok Q g (Ak E H S')):J.ok Q g (Ak E H S):=by
 have U:Ak E H S=Ak E H S':=EX O K;rw [U];exact h (Nd.perm O K)
theorem RL(K:S'.flatten=S.flatten)(O:Au E H S)(h:Au E H S'→J.ok Q g (Ak E H S')):J.ok Q g (Ak E H S):=Ou (by rw [K]) O h
theorem Qy{f:FuncId}{vs:Lv_}{seg:Seg}{R:Value→LH→Seg→Prop}(j:Nat)(ab:AU J f vs E seg R)(K:Au E H S)(O:S[j]? =some seg)
  (ae:∀v E' seg',Le E E'→R v E' seg'→Au E' H (S.set j seg')→J.ok Q (G (c.finish v) cs) (Ak E' H (S.set j seg'))):
  J.ok Q (G (Frame.enter P f vs.toArray .normal) (c::cs)) (Ak E H S):=by
 have U:S.flatten.Perm (seg++(S.set j []).flatten):=(Du (seg':=seg) O).1.trans List.perm_append_comm;have V:Nd E H (seg++(S.set j []).flatten):=Nd.perm K U;have ag:Ak E H S=mk E (Bm (S.set j []).flatten H) seg:=by
  rw [show Ak E H S=mk E H S.flatten from rfl,EX K U];unfold mk;rw [F6]
 have W:=Ei.J7 (ab (Bm (S.set j []).flatten H) (Nd.front V)) (by rintro v s' ⟨E',B',_,_,_,rfl⟩;rfl);rw [← ag] at W;refine W Q c cs ?_;rintro v aq ⟨⟨E',B',hle,ah,ai,rfl⟩,w,aj⟩;have e2:mk E' (Bm (S.set j []).flatten H) B'=mk E' H (B'++(S.set j []).flatten):=by unfold mk;rw [F6]
 have ak:Nd E H (S.set j []).flatten:=by
  have:=V;rw [Nd.iff] at this ⊢;rw [List.map_append,List.nodup_append] at this;exact⟨this.1.2.1,fun q al=>this.2 q (List.mem_append_right _ al)⟩
 have am:Nd E' H (S.set j []).flatten:=ak.grow fun x an=>by
  have ao:=aj.d x an;have ap:Bm B' (Bm (S.set j []).flatten H) x=none:=ao;exact(GZ ap).1
 have Z:Nd E' H (B'++(S.set j []).flatten):=Nd.glue ai am;rw [e2];have aa:(B'++(S.set j []).flatten).Perm (S.set j B').flatten:=List.perm_append_comm.trans (Du O).2.symm;rw [EX Z aa];exact ae v E' B' hle ah (Nd.perm Z aa)
theorem SG{e p d l:Seg}:([e,p]++ [d]++ [l]:List Seg).flatten.Perm ([e++(l++p),d]:List Seg).flatten:=by
 simp only [List.cons_append,List.nil_append,List.flatten_cons,List.flatten_nil,List.append_nil,List.append_assoc];refine List.Perm.append_left e ?_;rw [← List.append_assoc];exact List.perm_append_comm
end
section
variable {P:Program}{J:Judge P}{Q:Gs_}{b:Frame}{n:Nat}{L:Env}{ds:Ld_}{k:Li_}{cs:Lf_}{E H:LH}{S:List Seg}{ops:Ao_}{i:Nat}{rest:List Nat}{d:Option Tmp}{t ty e:TypeId}{p:String}{af:Ae_}{g:On_}
theorem JS.makeChan{dir:ChanDir}{K:Nat}(O:ops[i]? =some ⟨d,.makeChan t (.const (.int .i64 0)),ty,p,af,g⟩)(hw:Bi L ops ⟨d,.makeChan t (.const (.int .i64 0)),ty,p,af,g⟩=some true)(U:CZ b n ⟨d,.makeChan t (.const (.int .i64 0)),ty,p,af,g⟩=true)
  (ht:P.underlying t=some (.chan dir e)) (hb:Ey P e=some K) (V:Au E H S)
  (h:∀r,Au E H (S++ [[(r,.chan 0 #[] false 0 0 false)]])→JL J Q b n (AF L d (.chan (some r))) ds (.inRegion ops rest::k) cs (Ak E H (S++ [[(r,.chan 0 #[] false 0 0 false)]]))):
  JL J Q b n L ds (.inRegion ops (i::rest)::k) cs (Ak E H S):=
 JL.op O hw U fun ρ W=>by
  show lp P (do pure (Next.value (← Instr.makeChan t (ρ (.const (.int .i64 0)))))) _ _ _
  rw [W _ _ rfl]
  obtain⟨inf,hi,ai⟩:=Kv hb
  refine AH _ _ ?_
  unfold Instr.makeChan
  simp only [asInt,bind,Sem.bind,pure]
  refine AH (x:=underlying t) _ (Di ht ?_)
  simp only
  refine AH (x:=typeInfo e) _ (HH hi ?_)
  have Z:¬((0:Int)<0∨(0:Int)>IntKind.i64.max∨(inf.bytes:Int)*0>2 ^ 48 - 112):=by
   simp [IntKind.max,IntKind.signed,IntKind.bits]
  rw [if_neg Z];simp only [newObj,Sem.bind,lp];refine⟨rfl,fun r aa ab=>?_⟩;obtain⟨ae,ag⟩:=Ju aa ab (.chan 0 #[] false 0 0 false) V;obtain⟨p1,p2⟩:=EB ae;have ah:(Ak E H S).upd r (.chan 0 #[] false 0 0 false)=Ak E H (S++ [[(r,.chan 0 #[] false 0 0 false)]]):=by rw [← p1,← ag];rfl
  show JL J Q b n (AF L d (.chan (some r))) ds (.inRegion ops rest::k) cs ((Ak E H S).upd r (.chan 0 #[] false 0 0 false));rw [ah];exact h r p2
end
theorem TP{E H:LH}{a b:Nat}{K O:Obj}(V:Au E H [[(a,K)],[(b,O)]]):(⟨E,Io (Ak E H [[(a,K)],[(b,O)]]).H b a,false⟩:St)=Ak E H []:=by
 have h:=Nd.iff.1 V;have W:H a=none:=(h.2 (a,K) (by simp)).2;have Z:H b=none:=(h.2 (b,O) (by simp)).2;unfold Ak mk;congr 1;funext x;simp only [Io,Ak,mk,List.flatten_cons,List.flatten_nil,List.append_nil,List.cons_append,List.nil_append,Bm];by_cases U:x=a
 ·subst U;simp [W]
 ·by_cases e2:x=b
  ·subst e2;simp [U,Z]
  ·simp [U,e2]
theorem Au.up{E E' H:LH}{S:List Seg}(U:Au E H S)(h:∀x,E' x≠none→(Ak E H S).H x=none):Au E' H S:=by
 have K:=Nd.iff.1 U;refine Nd.iff.2 ⟨K.1,fun q O=>⟨?_,(K.2 q O).2⟩⟩;cases V:E' q.1 with
 | none=>rfl
 | some o=>
  have W:=h q.1 (by rw [V];simp);have Z:Bm S.flatten H q.1=none:=W;exact absurd rfl ((GZ Z).2 q O)
end Pal
namespace Pal
open Go Go.Conc
theorem Kz{P:Program}{J:Judge P}{Q:Gs_}{b:Frame}{n:Nat}{L:Env}{ds:Ld_}{cs:Lf_}{E H:LH}{S:List Seg}{todo:Li_}{A B:Seg}(j K:Nat)(O:S[j]? =some A)(W:(S.set j [])[K]? =some B)(Z:Au E H S)
  (h:Au E H (((S.set j []).set K []).set j (A++B))→JL J Q b n L ds todo cs (Ak E H (((S.set j []).set K []).set j (A++B)))):JL J Q b n L ds todo cs (Ak E H S):=by
 refine JS.perm ?_ Z h;have U:j<S.length:=(List.getElem?_eq_some_iff.1 O).1;have aa:=(Du (seg':=A) O).1;have ab:=(Du (seg':=B) W).1;have ae:((S.set j []).set K [])[j]? =some []:=by
  by_cases e:K=j
  ·subst e;rw [List.getElem?_set_self (by simpa using U)]
  ·rw [List.getElem?_set_ne e,List.getElem?_set_self U]
 have V:=(Du (seg':=A++B) ae).2;have ag:(((S.set j []).set K []).set j [])=(S.set j []).set K []:=by
  by_cases e:K=j
  ·subst e;simp
  ·rw [List.set_comm _ _ e];simp
 rw [ag] at V;refine aa.trans (List.Perm.trans ?_ V.symm);refine(List.Perm.append_right A ab).trans ?_;rw [List.append_assoc];exact List.Perm.append_left _ List.perm_append_comm
end Pal
namespace Pal
open Go Go.Conc
def WL{α:Type}(e:TypeId)(pp:Rp α)(E:LH)(bk c n:Nat)(f:AA)(xs:List α):Prop:=
 OL e pp E (some ⟨bk,0,none⟩) c [(bk,.cells f e (0,0))] xs∧xs.length=n
theorem WL.Ai{α:Type}{e:TypeId}{pp:Rp α}{E E':LH}{bk c n:Nat}{f:AA}{xs:List α}(h:WL e pp E bk c n f xs)(hle:Le E E'):WL e pp E' bk c n f xs:=⟨h.1.Ai hle,h.2⟩
theorem WL.at{α:Type}{e:TypeId}{pp:Rp α}{E:LH}{bk c n:Nat}{f:AA}{xs:List α}{m:Int}{x:α}(h:WL e pp E bk c n f xs)(hm:ix xs m=some x):
  ∃ws,pp.r E ws x∧(∀j w,ws[j]? =some w→f[m.toNat*pp.n+j]? =some w):=by
 obtain⟨ws,K,O,_,_⟩:=OL.again h.1 hm rfl;exact⟨ws,K,O⟩
theorem WL.put{α:Type}{e:TypeId}{pp:Rp α}{E:LH}{bk c n:Nat}{f:AA}{xs O:List α}{m:Int}{U x':α}{ws':Lv_}(h:WL e pp E bk c n f xs)(V:O.length=n)(hm:ix O m=some U)(W:pp.r E ws' x'):
  WL e pp E bk c n (A4 f (m.toNat*pp.n) ws') (xs.set m.toNat x')∧m.toNat*pp.n+pp.n≤f.size:=by
 obtain⟨K,rfl,Z⟩:=GH hm;have aa:K<xs.length:=by rw [h.2,← V];exact(List.getElem?_eq_some_iff.1 Z).1
 have ab:ix xs (K:Int)=some xs[K]:=by simp [ix,aa]
 obtain⟨ws,ah,ai,ae,ag⟩:=OL.again h.1 ab rfl;exact⟨⟨ag x' ws' W,by rw [List.length_set];exact h.2⟩,ae⟩
theorem OL.cases{α:Type}{e:TypeId}{pp:Rp α}{E:LH}{a:Option Addr}{c:Nat}{seg:Seg}{xs:List α}(h:OL e pp E a c seg xs):
  (a=none∧c=0∧seg= []∧xs= [])∨∃bk f,a=some ⟨bk,0,none⟩∧seg= [(bk,.cells f e (0,0))]∧WL e pp E bk c xs.length f xs:=by
 have V:=h;obtain⟨wss,hg,Z,aa⟩:=h;rcases hg with⟨K,O,U,W,ab⟩ | ⟨bk,f,K,O,U⟩
 ·exact .inl ⟨K,U,W,List.length_eq_zero_iff.1 O⟩
 ·subst K O;exact .inr ⟨bk,f,rfl,rfl,V,rfl⟩
theorem GA{P:Program}{s:St}{ρ:Operand→Value}{x y:Operand}{d:Option Tmp}{t ty e:TypeId}{p:String}{af:Ae_}{g:On_}{kd:IntKind}{α:Type}{xs:List α}{xv:α}{m:Int}{bk c sz n:Nat}(K:xs.length=n)(hm:ix xs m=some xv)(ht:P.underlying t=some (.slice e))(O:BA P e=some sz)(U:ρ x= .slice (some ⟨bk,0,none⟩) n c)(V:ρ y= .int kd m):
  Yl P ⟨d,.indexAddr t x y,ty,p,af,g⟩ ρ s (.pointer (some ⟨bk,m.toNat*sz,none⟩)):=by
 subst K;exact QA hm ht O U V
theorem RA{P:Program}{s:St}{ρ:Operand→Value}{x:Operand}{d:Option Tmp}{t ty e:TypeId}{p:String}{af:Ae_}{g:On_}{α:Type}{xs:List α}{a:Option Addr}{n c:Nat}{ats:Array TypeId}(K:xs.length=n)(O:ats[0]? =some t)(ht:P.underlying t=some (.slice e))(U:ρ x= .slice a n c):
  Yl P ⟨d,.call ⟨.builtin .len,#[x],ats⟩,ty,p,af,g⟩ ρ s (.int .i64 (xs.length:Int)):=by
 subst K;exact Yl.len O ht U
section
variable {P:Program}{J:Judge P}{Q:Gs_}{b:Frame}{n:Nat}{ds:Ld_}{ops:Ao_}{k:Li_}{cs:Lf_}{m fuel:Nat}{D:Nat→Bool}{listed:Array Bool}{L:Env}{s:St}{E E' H:LH}{S:List Seg}
variable {d:Option Tmp}{x y:Operand}{t u ty e:TypeId}{p:String}{af:Ae_}{g:On_}{v:Value}{i:Nat}{kd:IntKind}
theorem UX{f:FuncId}{args:Array Operand}{ats:Array TypeId}{vs:Lv_}{R:Value→St→Prop}(U:s.q=false)(V:Region.ready .any ops listed= [i])
  (W:ops[i]? =some ⟨d,.call ⟨.value x,args,ats⟩,ty,p,af,g⟩) (Z:ev L x=some (.func (.func f) #[] #[])) (aa:BE n d=true) (hw:Bi L ops ⟨d,.call ⟨.value x,args,ats⟩,ty,p,af,g⟩=some true) (hb:D9 P f=true) (ab:evs L args.toList=some vs)
  (ae:Ei J f vs.toArray s R) (h:∀v K,R v K→K.q=false∧(∀x o,(BF D s).E x=some o→(BF D K).E x=some o)∧AV J Q b n ds ops k cs m D fuel (Bg listed i) (AF L d v) K):
  AV J Q b n ds ops k cs m D (fuel+1) listed L s:=by
 refine AV.one U V W (by simp [Dx,aa]) hw fun ρ O=>?_;have ag:args.map ρ=vs.toArray:=by
  rw [← Gy O ab];apply Array.ext';simp
 have ah:ρ x= .func (.func f) #[] #[]:=O _ _ Z;simp only [execOp,resolve,bind,Sem.bind,Deferred.ofValue,ah,pure,invoke];have e: #[]++args.map ρ++ #[]=vs.toArray:=by rw [ag];simp
 rw [e];refine Jh hb ?_;rw [Ku];exact⟨R,ae,h⟩
theorem HM{bks:List Nat}{f:FuncId}{args:Array Operand}{ats:Array TypeId}{vs:Lv_}{R:Value→LH→Seg→Prop}(ae:Gu S bks)(ag:AU J f vs E [] R)(ah:Region.ready .any ops listed= [i])
  (ai:ops[i]? =some ⟨d,.call ⟨.value x,args,ats⟩,ty,p,af,g⟩) (K:ev L x=some (.func (.func f) #[] #[])) (aj:BE n d=true) (hw:Bi L ops ⟨d,.call ⟨.value x,args,ats⟩,ty,p,af,g⟩=some true) (hb:D9 P f=true) (ak:evs L args.toList=some vs) (W:Au E H S)
  (al:∀v E' seg',Le E E'→R v E' seg'→Au E' H (S++ [seg'])→AV J Q b n ds ops k cs m (Bb bks) fuel (Bg listed i) (AF L d v) (Ak E' H (S++ [seg']))):
  AV J Q b n ds ops k cs m (Bb bks) (fuel+1) listed L (Ak E H S):=by
 have am:=Ei.J7 (ag (Bm S.flatten H) trivial) (by rintro v s' ⟨E',B',_,_,_,rfl⟩;rfl);refine UX rfl ah ai K aj hw hb ak am ?_;rintro v aw ⟨⟨E',B',hle,an,ao,rfl⟩,w,ap⟩;have e2:mk E' (Bm S.flatten H) B'=mk E' H (B'++S.flatten):=by unfold mk;rw [F6]
 have aq:Nd E' H S.flatten:=Nd.grow W fun x K=>by
  have ar:=ap.d x K;have U:Bm B' (Bm S.flatten H) x=none:=ar;exact(GZ U).1
 have Z:Nd E' H (B'++S.flatten):=Nd.glue ao aq;have aa:(B'++S.flatten).Perm (S++ [B']).flatten:=by rw [FT];exact List.perm_append_comm
 have ab:Au E' H (S++ [B']):=Nd.perm Z aa;rw [e2,EX Z aa];refine⟨rfl,fun x o K=>?_,al v E' B' hle an ab⟩;by_cases hd:Bb bks x=true
 ·obtain⟨j,o',V⟩:=ae.mem x (by simpa [Bb] using hd);have U:(Ak E H S).get x=some o':=EN (i:=0) W V rfl;have au:j<S.length:=(List.getElem?_eq_some_iff.1 V).1;have av:(Ak E' H (S++ [B'])).get x=some o':=EN (i:=0) ab (by rw [List.getElem?_append_left au];exact V) rfl;have O:(if Bb bks x then(Ak E H S).get x else E x)=some o:=K
  show(if Bb bks x then(Ak E' H (S++ [B'])).get x else E' x)=some o
  rw [if_pos hd] at O ⊢;rw [av,← U];exact O
 ·have O:(if Bb bks x then(Ak E H S).get x else E x)=some o:=K
  show(if Bb bks x then(Ak E' H (S++ [B'])).get x else E' x)=some o
  rw [if_neg hd] at O ⊢;exact hle _ _ O
end
section
variable {P:Program}{J:Judge P}{Q:Gs_}{b:Frame}{n:Nat}{ds:Ld_}{ops:Ao_}{k:Li_}{cs:Lf_}{L:Env}{s:St}{E E' H:LH}{S:List Seg}
variable {d:Option Tmp}{x y:Operand}{t u ty e:TypeId}{p:String}{af:Ae_}{g:On_}{v:Value}{i:Nat}{rest:List Nat}{kd:IntKind}
theorem Kx{f:FuncId}{args:Array Operand}{ats:Array TypeId}{vs:Lv_}{R:Value→LH→Seg→Prop}
  (O:AU J f vs E [] R) (U:ops[i]? =some ⟨d,.call ⟨.value x,args,ats⟩,ty,p,af,g⟩) (V:ev L x=some (.func (.func f) #[] ([]:Lv_).toArray)) (hw:Bi L ops ⟨d,.call ⟨.value x,args,ats⟩,ty,p,af,g⟩=some true) (W:((b.kind != .early)&&BE n d)=true) (hb:D9 P f=true)
  (Z:evs L args.toList=some vs) (aa:Au E H S) (ab:∀v E' seg',Le E E'→R v E' seg'→Au E' H (S++ [seg'])→JL J Q b n (AF L d v) ds (.inRegion ops rest::k) cs (Ak E' H (S++ [seg']))):
  JL J Q b n L ds (.inRegion ops (i::rest)::k) cs (Ak E H S):=by
 have ae:EZ J (.func (.func f) #[] ([]:Lv_).toArray) vs E [] R:=EZ.ofFn hb (by rw [List.append_nil];exact O);have ag:Au E H (S++ [[]]):=by unfold Au at*;rw [FT,List.append_nil];exact aa
 have ah:Ak E H S=Ak E H (S++ [[]]):=by unfold Ak;rw [FT,List.append_nil]
 rw [ah];refine Jo (seg:= []) S.length ae U hw W V Z ag (by simp) fun v E' seg' hle ai K=>?_;have aj:(S++ [([]:Seg)]).set S.length seg'=S++ [seg']:=GD _ _ _ _;rw [aj] at K ⊢;exact ab v E' seg' hle ai K
end
def HA(a b:Int):Option Int:=if b=0 then none else Av (a.tdiv b)
def LA(l:List Nat)(i:Int):Option Nat:=if 0≤i then l[i.toNat]? else none
section
variable {P:Program}{s:St}{ρ:Operand→Value}{x y z:Operand}{d:Option Tmp}{t u ty e:TypeId}{p:String}{af:Ae_}{g:On_}{v:Value}{kd kd':IntKind}{m m':Int}{a b:Nat}
theorem KV{r:Int}(K:ρ x=iV m)(O:ρ y=iV m')(h:HA m m'=some r):Yl P ⟨d,.binOp .quo t x y u,ty,p,af,g⟩ ρ s (iV r):=by
 unfold HA at h;split at h
 ·cases h
 ·rename_i U;obtain⟨rfl,hb⟩:=Kr h;have:=Yl.quo (P:=P) (s:=s) (d:=d) (t:=t) (u:=u) (ty:=ty) (p:=p) (af:=af) (g:=g) K O U
  rwa [Ii hb] at this
theorem Td{a:Nat}:IntKind.u8.wrap (a:Int)=((a % 256:Nat):Int):=by
 simp only [IntKind.wrap,IntKind.bits,IntKind.signed];simp
theorem VC(K:ρ x= .int .u8 (a:Int))(O:ρ y= .int .u8 (b:Int)):Yl P ⟨d,.binOp .add t x y u,ty,p,af,g⟩ ρ s (.int .u8 (((a+b) % 256:Nat):Int)):=by
 have h:=Yl.add (P:=P) (s:=s) (d:=d) (t:=t) (u:=u) (ty:=ty) (p:=p) (af:=af) (g:=g) K O;rw [← Int.natCast_add,Td] at h;exact h
theorem WJ(ht:P.underlying t=some (.int .u64))(hu:P.underlying u=some (.int .u8))(K:ρ x= .int .u64 (a:Int)):Yl P ⟨d,.convert t u x,ty,p,af,g⟩ ρ s (.int .u8 ((a % 256:Nat):Int)):=by
 have h:=EC (P:=P) (s:=s) (d:=d) (ty:=ty) (p:=p) (af:=af) (g:=g) ht hu K
 rw [Td] at h;exact h
theorem RZ{r:Int}(ht:P.underlying t=some (.int .u8))(hu:P.underlying u=some (.int .i64))(K:ρ x= .int .u8 (a:Int))(h:Av ((a:Nat):Int)=some r):Yl P ⟨d,.convert t u x,ty,p,af,g⟩ ρ s (iV r):=by
 obtain⟨rfl,hb⟩:=Kr h;have h:=EC (P:=P) (s:=s) (d:=d) (ty:=ty) (p:=p) (af:=af) (g:=g) ht hu K
 rwa [Ii hb] at h
theorem VV(c:Nat)(K:ρ x= .int .u16 (a:Int))(O:ρ y= .int .u64 (c:Int))(U:c≤16):Yl P ⟨d,.binOp .shr t x y u,ty,p,af,g⟩ ρ s (.int .u16 ((a>>>c:Nat):Int)):=by
 have h:=Yl.shr (P:=P) (s:=s) (d:=d) (t:=t) (u:=u) (ty:=ty) (p:=p) (af:=af) (g:=g) K O (by omega);have e:min (c:Int).toNat IntKind.u16.bits=c:=by simp [IntKind.bits];omega
 rw [e,Int.fdiv_eq_ediv_of_nonneg _ (Int.pow_nonneg (by decide))] at h;have e2:(a:Int) / 2 ^ c=((a>>>c:Nat):Int):=by rw [Nat.shiftRight_eq_div_pow,Int.natCast_ediv];rfl
 rw [e2] at h;exact h
theorem N7{l:List Nat}{bs:ByteArray}{r:Nat}(O:(bs.data.toList.map UInt8.toNat==l)=true)(ht:P.underlying t=some .string)(U:ρ y= .int kd m)(V:ρ (.const (.string bs))= .string bs)(h:LA l m=some r):Yl P ⟨d,.index t (.const (.string bs)) y,ty,p,af,g⟩ ρ s (.int .u8 (r:Int)):=by
 unfold LA at h;split at h
 ·rename_i W;have Z:=eq_of_beq O;rw [← Z,List.getElem?_map] at h;obtain⟨K,hb,rfl⟩:=Option.map_eq_some_iff.1 h;have aa:bs[m.toNat]? =some K:=by
   have ab:bs.data[m.toNat]? =some K:=by rw [← Array.getElem?_toList];exact hb
   obtain⟨ae,ag⟩:=Array.getElem?_eq_some_iff.1 ab;rw [getElem?_pos bs m.toNat ae];exact congrArg some ag
  simp [Yl,execOp,lp,pure,bind,Sem.bind,V,U,Instr.index,underlying,program,ht,W,aa,asIntOf]
 ·cases h
end
end Pal
