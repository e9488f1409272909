/- ToothSettles. Part 2 of 8. -/
import Derived.Test.YtboibffcmhheiaaGreatDoorTqa
import Derived.Conc.Beside
import Derived.Conc.CrowdComm
import Derived.Conc.TokenWalk
import Derived.Conc.MarkLaws
import Derived.Conc.AtomicLaws2
import Derived.Conc.WgLib
import Derived.Conc.WgArith
import Derived.Conc.WgGenW
set_option linter.all false
set_option maxRecDepth 100000
namespace Pal
open Go Go.Conc
open Go.ConcN (upd upd_same upd_ne)
def DT:Loc→Option Nat | .cell a=>some a.block | .obj r=>some r | _=>none
structure Ct (t:Trace) (w:World) (N:Nat) (S:Nat→St) (Sh:Nat→Prop):Prop where
 fits:∀i,i<N→Fits (S i) w
 hh:∀i j,i<N→j<N→i≠j→∀b,(S i).H b≠none→(S j).H b=none∧(S j).E b=none
 sh:∀i,i<N→∀b,Sh b→(S i).H b=none∧(S i).E b=none
 FC:∀b,Sh b→b<w.heap.size
 clean:∀said,¬Race said t
 low:∀op∈t,op.act.low w.heap.size
 kH:∀i,i<N→∀b,(S i).H b≠none→∀x a,touchAt t x=some a→DT a.loc=some b→Knows t i x
 kE:∀i,i<N→∀b,(S i).E b≠none→∀x a,touchAt t x=some a→DT a.loc=some b→a.write=true→Knows t i x
theorem O5{t:Trace}{x:Nat}{a:Touch}{b n:Nat}(Y:∀op∈t,op.act.low n)(h:touchAt t x=some a)(hb:DT a.loc=some b):b<n:=by
 obtain⟨op,Z,K⟩:=touch_of h;have O:=Y op (mem_of_getElem? Z);cases U:op.act with
 | access e=>
  rw [U] at K O;simp only [MemAct.touch?,Option.some.injEq] at K;subst K;simp only [MemAct.low] at O;cases V:e.loc with
  | cell ad=>rw [V] at O hb;simp only [DT,Option.some.injEq] at hb;subst hb;exact O
  | obj r=>rw [V] at O hb;simp only [DT,Option.some.injEq] at hb;subst hb;exact O
  | _=>rw [V] at hb;simp [DT] at hb
 | mark m=>
  rw [U] at K O;cases m <;> simp only [MemAct.touch?] at K <;> first
   | (simp at K;done)
   | (simp only [Option.some.injEq] at K;subst K;simp only [DT,Option.some.injEq] at hb;subst hb;exact O)
 | _=>rw [U] at K;simp [MemAct.touch?] at K
theorem MH{s:St}{w w':World}{e:Event}{a:Touch}{b:Nat}(h:Ev s w w' e)(K:(MemAct.ofEvent e).touch? =some a)(hb:DT a.loc=some b):
  F6 s w w' b a.write:=by
 obtain⟨loc,wr,V⟩:=e;cases loc with
 | cell ad=>
  obtain⟨O,U⟩:=h;simp only at O;subst O;simp only [MemAct.ofEvent,MemAct.touch?,Option.some.injEq] at K;subst K;simp only [DT,Option.some.injEq] at hb;subst hb;exact U
 | obj r=>
  obtain⟨O,U⟩:=h;simp only at O;subst O;simp only [MemAct.ofEvent,MemAct.touch?,Option.some.injEq] at K;subst K;simp only [DT,Option.some.injEq] at hb;subst hb;exact U
 | mark m=>
  cases m <;> simp only [Ev] at h <;> first | exact h.elim | simp [MemAct.ofEvent,MemAct.touch?] at K
 | _=>exact h.elim
theorem ZH{s:St}{w w':World}{e:Event}(h:Ev s w w' e):(MemAct.ofEvent e).low w'.heap.size:=by
 obtain⟨loc,wr,U⟩:=e;cases loc with
 | cell ad=>obtain⟨K,O⟩:=h;simp only at K;subst K;exact O.1
 | obj r=>obtain⟨K,O⟩:=h;simp only at K;subst K;cases wr <;> exact O.1
 | mark m=>cases m <;> simp only [Ev] at h <;> first | exact h.elim | exact trivial
 | _=>exact h.elim
theorem Uw{l:Loc}(h:l.isMemory=true):∃b,DT l=some b:=by
 cases l <;> simp [Loc.isMemory] at h <;> exact⟨_,rfl⟩
theorem Ct.own{t:Trace}{w w':World}{N:Nat}{S:Nat→St}{Sh:Nat→Prop}(h:Ct t w N S Sh){i:Nat}(hi:i<N){s':St}{fn:FuncId}{pos:String}{es:Array Event}
  (bo:Fits s' w') (V:Fr (S i) w s' w') (a2:∀e∈es,Ev (S i) w w' e):Ct (t++MemOp.ofEvents i fn pos es) w' N (upd S i s') Sh:=by
 have a9:∀j,j<N→j≠i→∀b o,((S j).H b=some o∨(S j).E b=some o)→w'.heap[b]? =some o∧(S i).H b=none:=by
  intro j U Y b o K;have hw:w.heap[b]? =some o:=K.elim ((h.fits j U).h b o) ((h.fits j U).e b o);have al:b<w.heap.size:=by
   rcases Nat.lt_or_ge b w.heap.size with a5 | a5
   ·exact a5
   ·simp [Array.getElem?_eq_none a5] at hw
  have bb:(S i).H b=none:=by
   cases bv:(S i).H b with
   | none=>rfl
   | some u=>
    have:=h.hh i j hi U (Ne.symm Y) b (by rw [bv];simp);rcases K with K | K
    ·rw [this.1] at K;cases K
    ·rw [this.2] at K;cases K
  exact⟨by rw [V.keep b al bb,hw],bb⟩
 have a3:∀j,j<N→∀b,w.heap.size≤b→(S j).H b=none∧(S j).E b=none:=by
  intro j U b hb;constructor
  ·cases O:(S j).H b with
   | none=>rfl
   | some o=>have:=(h.fits j U).h b o O;simp [Array.getElem?_eq_none hb] at this
  ·cases O:(S j).E b with
   | none=>rfl
   | some o=>have:=(h.fits j U).e b o O;simp [Array.getElem?_eq_none hb] at this
 have am:∀op∈MemOp.ofEvents i fn pos es,op.g=i∧∃e∈es,op.act=MemAct.ofEvent e:=by
  intro op am;obtain⟨e,he,rfl⟩:=mem_ofEvents am;exact⟨rfl,e,he,rfl⟩
 have hold:∀x a,touchAt t x=some a→touchAt (t++MemOp.ofEvents i fn pos es) x=some a:=by
  intro x a O;obtain⟨op,K,_⟩:=touch_of O;rw [touchAt_old (lt_size_of_getElem? K)];exact O
 have a4:∀x a,touchAt (t++MemOp.ofEvents i fn pos es) x=some a→touchAt t x=some a∨(Knows (t++MemOp.ofEvents i fn pos es) i x∧∃e∈es,(MemAct.ofEvent e).touch? =some a):=by
  intro x a O;obtain⟨op,K,bd⟩:=touch_of O;rcases getElem?_append_cases K with⟨al,bw⟩ | ⟨_,bU⟩
  ·left;rw [touchAt_of bw];exact bd
  ·right;obtain⟨hg,e,he,av⟩:=am op bU;exact⟨by have:=knows_own K;rwa [hg] at this,e,he,by rw [← av];exact bd⟩
 have bV:∀j,j<N→j≠i→∀b,s'.H b≠none→(S j).H b=none∧(S j).E b=none:=by
  intro j U Y b hb;rcases V.own b hb with O | O
  ·exact h.hh i j hi U (Ne.symm Y) b O
  ·exact a3 j U b O
 have bW:∀j,j<N→j≠i→∀b,(S j).H b≠none→s'.H b=none∧s'.E b=none:=by
  intro j U Y b hb;have Z:=h.hh j i U hi Y b hb;have al:¬w.heap.size≤b:=fun O=>hb (a3 j U b O).1;constructor
  ·cases O:s'.H b with
   | none=>rfl
   | some o=>
    rcases V.own b (by rw [O];simp) with y | y
    ·exact absurd Z.1 y
    ·exact absurd y al
  ·cases O:s'.E b with
   | none=>rfl
   | some o=>
    rcases V.EF b (by rw [O];simp) with y | y | y
    ·exact absurd Z.2 y
    ·exact absurd Z.1 y
    ·exact absurd y al
 constructor
 ·intro j U;by_cases e:j=i
  ·subst e;rw [upd_same];exact bo
  ·rw [upd_ne _ _ e];exact⟨fun b o K=>(a9 j U e b o (.inr K)).1,fun b o K=>(a9 j U e b o (.inl K)).1,(h.fits j U).d⟩
 ·intro a c be a0 Y b hb;by_cases e:a=i
  ·subst e;rw [upd_same] at hb;rw [upd_ne _ _ (Ne.symm Y)];exact bV c a0 (Ne.symm Y) b hb
  ·rw [upd_ne _ _ e] at hb;by_cases bi:c=i
   ·subst bi;rw [upd_same];exact bW a be Y b hb
   ·rw [upd_ne _ _ bi];exact h.hh a c be a0 Y b hb
 ·intro j U b hb;by_cases e:j=i
  ·subst e;rw [upd_same];have Z:=h.sh j U b hb;have al:=h.FC b hb;constructor
   ·cases O:s'.H b with
    | none=>rfl
    | some o=>
     rcases V.own b (by rw [O];simp) with y | y
     ·exact absurd Z.1 y
     ·omega
   ·cases O:s'.E b with
    | none=>rfl
    | some o=>
     rcases V.EF b (by rw [O];simp) with y | y | y
     ·exact absurd Z.2 y
     ·exact absurd Z.1 y
     ·omega
  ·rw [upd_ne _ _ e];exact h.sh j U b hb
 ·exact fun b hb=>Nat.lt_of_lt_of_le (h.FC b hb) V.size
 ·intro said;refine noRace_append (g:=i) (h.clean said) (fun op K=>(am op K).1) fun x a O op K c a0 bY=>?_;obtain⟨_,e,he,av⟩:=am op K;rw [av] at a0;obtain⟨bZ,hm,ap,_⟩:=bY;obtain⟨b,hb⟩:=Uw hm;have b0:DT c.loc=some b:=by rw [← bZ];exact hb
  have a1:=MH (a2 e he) a0 b0;rcases a1.2 with y | y | ⟨y,a6⟩
  ·exact h.kH i hi b y x a O hb
  ·have:=O5 h.low O hb;omega
  ·rcases ap with z | z
   ·exact h.kE i hi b y x a O hb z
   ·rw [a6] at z;cases z
 ·intro op K;rcases Array.mem_append.1 K with K | K
  ·exact MemAct.low_mono V.size (h.low op K)
  ·obtain⟨_,e,he,av⟩:=am op K;rw [av];exact ZH (a2 e he)
 ·intro j U b hb x a O ag;by_cases e:j=i
  ·subst e;rw [upd_same] at hb;rcases a4 x a O with K | ⟨a7,_⟩
   ·rcases V.own b hb with y | y
    ·exact(h.kH j U b y x a K ag).app _
    ·have:=O5 h.low K ag;omega
   ·exact a7
  ·rw [upd_ne _ _ e] at hb;rcases a4 x a O with K | ⟨_,ev,he,a8⟩
   ·exact(h.kH j U b hb x a K ag).app _
   ·have a1:=MH (a2 ev he) a8 ag;have Z:=h.hh j i U hi e b hb;rcases a1.2 with y | y | ⟨y,_⟩
    ·exact absurd Z.1 y
    ·exact absurd (a3 j U b y).1 hb
    ·exact absurd Z.2 y
 ·intro j U b hb x a O ag ap;by_cases e:j=i
  ·subst e;rw [upd_same] at hb;rcases a4 x a O with K | ⟨a7,_⟩
   ·rcases V.EF b hb with y | y | y
    ·exact(h.kE j U b y x a K ag ap).app _
    ·exact(h.kH j U b y x a K ag).app _
    ·have:=O5 h.low K ag;omega
   ·exact a7
  ·rw [upd_ne _ _ e] at hb;rcases a4 x a O with K | ⟨_,ev,he,a8⟩
   ·exact(h.kE j U b hb x a K ag ap).app _
   ·have a1:=MH (a2 ev he) a8 ag;rcases a1.2 with y | y | ⟨_,a6⟩
    ·exact absurd ((h.hh i j hi U (Ne.symm e) b y).2) hb
    ·exact absurd (a3 j U b y).2 hb
    ·rw [a6] at ap;cases ap
theorem Ct.mute{t u:Trace}{w w':World}{N:Nat}{S:Nat→St}{Sh:Nat→Prop}(h:Ct t w N S Sh){g:Nat}(hu:∀op∈u,op.g=g)(Y:∀op∈u,op.act.touch? =none)(al:∀op∈u,op.act.low w'.heap.size)(hw:w'.heap=w.heap):Ct (t++u) w' N S Sh:=by
 have Z:∀x a,touchAt (t++u) x=some a→touchAt t x=some a:=by
  intro x a O;obtain⟨op,K,U⟩:=touch_of O;rcases getElem?_append_cases K with⟨a0,am⟩ | ⟨_,ap⟩
  ·rw [touchAt_of am];exact U
  ·rw [Y op ap] at U;cases U
 exact⟨fun i hi=>⟨fun b o K=>by rw [hw];exact(h.fits i hi).e b o K,fun b o K=>by rw [hw];exact(h.fits i hi).h b o K,(h.fits i hi).d⟩,h.hh,h.sh,fun b hb=>by rw [hw];exact h.FC b hb,
  fun said=>noRace_append (g:=g) (h.clean said) hu (fun x a _ op K c ag _=>by rw [Y op K] at ag;cases ag),
  fun op K=>(Array.mem_append.1 K).elim (fun K=>by rw [hw];exact h.low op K) (al op),
  fun i hi b hb x a O V=>(h.kH i hi b hb x a (Z x a O) V).app _,fun i hi b hb x a O V av=>(h.kE i hi b hb x a (Z x a O) V av).app _⟩
theorem Ct.ghost{t:Trace}{w:World}{N:Nat}{S:Nat→St}{Sh:Nat→Prop}(h:Ct t w N S Sh){i:Nat}(hi:i<N){s₀:St}(hg:Dj (S i) s₀):Ct t w N (upd S i s₀) Sh:=by
 have Y:∀b,s₀.H b≠none→(S i).H b≠none:=fun b hb=>by obtain⟨o,ag⟩:=Ho hb;rw [hg.own b o ag];simp
 have al:∀b,s₀.E b≠none→(S i).E b≠none∨(S i).H b≠none:=fun b hb=>by
  obtain⟨o,ag⟩:=Ho hb;rcases hg.EF b o ag with x | x
  ·exact .inl (by rw [x];simp)
  ·exact .inr (by rw [x.1];simp)
 have F8:∀{x:Option Obj},¬x≠none→x=none:=fun h=>Classical.not_not.1 h;constructor
 ·intro j K;by_cases e:j=i
  ·subst e;rw [upd_same];exact hg.fits (h.fits j K)
  ·rw [upd_ne _ _ e];exact h.fits j K
 ·intro a c am ap Z b hb;by_cases e:a=i
  ·subst e;rw [upd_same] at hb;rw [upd_ne _ _ (Ne.symm Z)];exact h.hh a c am ap Z b (Y b hb)
  ·rw [upd_ne _ _ e] at hb;by_cases av:c=i
   ·subst av;rw [upd_same];have O:=h.hh a c am ap Z b hb;exact⟨F8 fun x=>Y b x O.1,F8 fun x=>(al b x).elim (fun y=>y O.2) fun y=>y O.1⟩
   ·rw [upd_ne _ _ av];exact h.hh a c am ap Z b hb
 ·intro j K b hb;by_cases e:j=i
  ·subst e;rw [upd_same];have O:=h.sh j K b hb;exact⟨F8 fun x=>Y b x O.1,F8 fun x=>(al b x).elim (fun y=>y O.2) fun y=>y O.1⟩
  ·rw [upd_ne _ _ e];exact h.sh j K b hb
 ·exact h.FC
 ·exact h.clean
 ·exact h.low
 ·intro j K b hb x a U V;by_cases e:j=i
  ·subst e;rw [upd_same] at hb;exact h.kH j K b (Y b hb) x a U V
  ·rw [upd_ne _ _ e] at hb;exact h.kH j K b hb x a U V
 ·intro j K b hb x a U V a0;by_cases e:j=i
  ·subst e;rw [upd_same] at hb;rcases al b hb with y | y
   ·exact h.kE j K b y x a U V a0
   ·exact h.kH j K b y x a U V
  ·rw [upd_ne _ _ e] at hb;exact h.kE j K b hb x a U V a0
end Pal
namespace Pal
open Go Go.Conc
open Go.ConcN (sumTo upd sumTo_upd upd_ne upd_same)
abbrev St.none:St:=St.quiet
def lone(s:St):Nat→St:=fun i=>if i=0 then s else St.none
structure Gy (P:Program) (gs:Array Goroutine) (w:World) (t:Trace) (q:Nat→Nat) (Sh:Nat→Prop) (g:Goroutine) (s:St):Prop where
 main:gs[0]? =some g
 lv:Leavers P t gs q
 C4:Ct t w gs.size (lone s) Sh
 over:t.HandedOver
 hears:Deaf t 0=0
def Reaches(P:Program)(gs:Array Goroutine)(w:World)(sl:Option (Nat×Nat))(t:Trace)(s:St)(K:Gs_):Prop:=
 ∃(n:Nat) (gs':Array Goroutine) (w':World) (U:Option (Nat×Nat)) (O:Trace) (V:Nat→Nat) (Y:Nat→Prop) (g':Goroutine) (s':St),
  runNT P n (crowd gs w sl) t=(.next (crowd gs' w' U),O)∧Gy P gs' w' O V Y g' s'∧K g' s'∧Le' s s'∧w'.tape=w.tape∧w'.os=w.os∧w'.output=w.output
 where
  Le' (s s' : St) : Prop := ∀ b o, s.E b = some o → s'.E b = some o
theorem RG{s s':St}:upd (lone s) 0 s'=lone s':=by
 funext i;unfold upd lone;split <;> rfl
theorem Mw{P:Program}{m m':Machine}{t ops:Trace}{k:Nat}{r:Stepped×Trace}(h:stepT P m=(.next m',ops))(K:runNT P k m' (t++ops)=r):runNT P (k+1) m t=r:=by
 simp only [runNT,h];exact K
theorem Gy.at_{P:Program}{gs:Array Goroutine}{w:World}{t:Trace}{q:Nat→Nat}{Sh:Nat→Prop}{g:Goroutine}{s:St}(h:Gy P gs w t q Sh g s)(d:Nat):Gy P gs (w.at d) t q Sh g s:=
 ⟨h.main,h.lv,by
  have:=h.C4.mute (u:= #[]) (w':=w.at d) (g:=0) (by simp) (by simp) (by simp) rfl
  simpa using this,h.over,h.hears⟩
theorem Vb{P:Program}{g:Goroutine}{s:St}{K:Gs_}(be:SW P true g s K):
  ∀(M:Nat) (gs:Array Goroutine) (w:World) (sl:Option (Nat×Nat)) (t:Trace) (q:Nat→Nat) (Sh:Nat→Prop),sumTo gs.size q≤M→Gy P gs w t q Sh g s→Reaches P gs w sl t s K:=by
 intro M
 induction M with
 | zero=>?_
 | succ M bU=>?_
 all_goals
  intro gs w sl t q Sh cb hC;have a1:=be.1;have bV:∀x∈gs,awake x:=by
   intro x al;obtain⟨i,hi,rfl⟩:=Array.mem_iff_getElem.1 al;rcases Nat.eq_zero_or_pos i with rfl | a2
   ·have:gs[0]=g:=by simpa [Array.getElem?_eq_getElem hi] using hC.main
    rw [this];exact awake_of (.inl a1)
   ·exact awake_of ((hC.lv.old i _ a2 (Array.getElem?_eq_getElem hi)).status.elim .inl fun x=> .inr (.inr x))
  obtain⟨i,x,d,am,hi,al,bi⟩:=crowd_pick (P:=P) (w:=w) (sl:=sl) bV ⟨0,g,hC.main,a1⟩;have a3:=hC.at_ d;have a4:0<gs.size:=(Array.getElem?_eq_some_iff.1 hC.main).1;rcases Nat.eq_zero_or_pos i with rfl | a2
  ·obtain rfl:x=g:=by rw [hC.main] at hi;exact(Option.some.inj hi).symm
   have bW:Fits s (w.at d):=a3.C4.fits 0 a4;obtain⟨g',s',w',es,a5,a6,a7,Y,ap⟩:=be.2.1 (w.at d) bW;have a8:=runT_crowd_go (P:=P) (sl:=am) (i:=0) hi (show stepG P (0==0) x (w.at d)=_ from a5);have av:((gs.map (woken P x g' w')).setIfInBounds 0 g').size=gs.size:=by simp
   have V:∀op∈MemOp.ofEvents 0 x.frame.fn x.frame.place es,op.g=0:=fun op O=>by obtain⟨e,_,rfl⟩:=mem_ofEvents O;rfl
   have bY:deafBehind (Deaf t 0) es=Deaf t 0:=deafBehind_still (fun e he=>by
    have:=ap e he
    unfold Ev at this
    constructor <;> intro bZ <;> rw [bZ] at this <;> exact this) _
   refine⟨1,_,w',am,t++MemOp.ofEvents 0 x.frame.fn x.frame.place es,q,Sh,g',s',Mw (bi.trans a8) rfl,⟨by simp [a4],⟨fun j y U Z=>?_,fun j U=>?_⟩,?_,?_,?_⟩,a6,Y.ext,Y.tape,Y.os,Y.output⟩
   ·have a9:0≠j:=by omega
    rw [Array.getElem?_setIfInBounds_ne a9,Array.getElem?_map] at Z;obtain⟨z,bb,rfl⟩:=Option.map_eq_some_iff.1 Z;have ag:=hC.lv.old j z U bb;rw [woken_quitsD ag,Deaf_other t (by omega) _ V];exact ag
   ·rw [Deaf_other t (g':=0) (by simp at U;omega) _ V];exact hC.lv.above j (by simpa using U)
   ·rw [av,← RG (s:=s)];exact a3.C4.own a4 a7 (by simpa [lone] using Y) (by simpa [lone] using ap)
   ·exact handedOver_app hC.over fun op O=> .inl (V op O)
   ·rw [Deaf_own,bY];exact hC.hears
  ·
   have ag:=hC.lv.old i x a2 hi;have b0:(i==0)=false:=by simp;omega
   have bo:i<gs.size:=(Array.getElem?_eq_some_iff.1 hi).1;cases bd:q i with
   | zero=>rw [bd] at ag;rw [ag.1] at al;cases al
   | succ k=>
    rw [bd] at ag;rcases ag with⟨b1,_⟩ | ⟨_,x',es,hm,b2,b3⟩
    ·rw [b1] at al;cases al
    have cc:sumTo gs.size (upd q i k)+(k+1)=sumTo gs.size q+k:=by
     have:=sumTo_upd q k id bo;simpa [bd] using this
    first
     | (exfalso;omega)
     | (
      have a8:=runT_crowd_go (P:=P) (sl:=am) (i:=i) hi (by rw [b0];exact b2 (w.at d))
      have av:((gs.map (woken P x x' (w.at d))).setIfInBounds i x').size=gs.size:=by simp
      have V:∀op∈MemOp.ofEvents i x.frame.fn x.frame.place es,op.g=i:=fun op O=>by obtain⟨e,_,rfl⟩:=mem_ofEvents O;rfl
      have bv:∀op∈MemOp.ofEvents i x.frame.fn x.frame.place es,op.act.touch? =none:=fun op O=>by obtain⟨e,he,rfl⟩:=mem_ofEvents O;exact touch_mute (hm e he)
      have b4:Gy P ((gs.map (woken P x x' (w.at d))).setIfInBounds i x') (w.at d) (t++MemOp.ofEvents i x.frame.fn x.frame.place es) (upd q i k) Sh g s:=by
       refine⟨?_,⟨fun j y U Z=>?_,fun j U=>?_⟩,?_,?_,?_⟩
       ·have a9:i≠0:=by omega
        rw [Array.getElem?_setIfInBounds_ne a9,Array.getElem?_map,hC.main]
        simp [woken_run a1]
       ·by_cases a0:i=j
        ·subst a0
         rw [Array.getElem?_setIfInBounds_self_of_lt (by simpa using bo)] at Z
         obtain rfl:=Option.some.inj Z
         rw [upd_same,Deaf_own]
         exact b3
        ·rw [Array.getElem?_setIfInBounds_ne a0,Array.getElem?_map] at Z
         obtain⟨z,bb,rfl⟩:=Option.map_eq_some_iff.1 Z
         have bw:=hC.lv.old j z U bb
         rw [woken_quitsD bw,upd_ne q k (Ne.symm a0),Deaf_other t a0 _ V]
         exact bw
       ·rw [Deaf_other t (g':=i) (by simp at U;omega) _ V]
        exact hC.lv.above j (by simpa using U)
       ·rw [av]
        exact a3.C4.mute V bv (fun op O=>by obtain⟨e,he,rfl⟩:=mem_ofEvents O;exact low_mute (hm e he) _) rfl
       ·exact handedOver_app hC.over fun op O=> .inr (bv op O)
       ·rw [Deaf_other t (by omega) _ V];exact hC.hears
      obtain⟨n,gs',w',b5,b6,b7,b8,g',s',a5,a6,a7,Y,ap,b9,ca⟩:=bU _ (w.at d) am _ _ Sh (by rw [av];omega) b4
      exact⟨n+1,gs',w',b5,b6,b7,b8,g',s',Mw (bi.trans a8) a5,a6,a7,Y,ap,b9,ca⟩)
def D4(P:Program):Judge P where
 main:=true
 ok Q g s:=∀gs w sl t q Sh,Gy P gs w t q Sh g s→Reaches P gs w sl t s Q
 stop {Q g s} h:=fun gs w sl t q Sh hC=>⟨0,gs,w,sl,t,q,Sh,g,s,rfl,hC,h,fun _ _ h=>h,rfl,rfl,rfl⟩
 step {Q g s} h:=fun gs w sl t q Sh hC=>by
  obtain⟨n,gs',w',K,O,U,V,g',s',Y,Z,ag,al,am,ap,av⟩:=Vb h _ gs w sl t q Sh (Nat.le_refl _) hC
  obtain⟨a0,a1,a2,a3,a4,a5,a6,a7,a8,k1,a9,bb,bd,be,bi,bo⟩:=ag gs' w' K O U V Z
  refine⟨n+a0,a1,a2,a3,a4,a5,a6,a7,a8,?_,a9,bb,fun b o h=>bd b o (al b o h),be.trans am,bi.trans ap,bo.trans av⟩
  rw [runNT_add,Y];exact k1
 trans {Q R g s} h k:=fun gs w sl t q Sh hC=>by
  obtain⟨n,gs',w',K,O,U,V,g',s',Y,Z,ag,al,am,ap,av⟩:=h gs w sl t q Sh hC
  obtain⟨a0,a1,a2,a3,a4,a5,a6,a7,a8,k1,a9,bb,bd,be,bi,bo⟩:=k g' s' ag gs' w' K O U V Z
  refine⟨n+a0,a1,a2,a3,a4,a5,a6,a7,a8,?_,a9,bb,fun b o h=>bd b o (al b o h),be.trans am,bi.trans ap,bo.trans av⟩
  rw [runNT_add,Y];exact k1
 ghost {Q g s s₀} hg h:=fun gs w sl t q Sh hC=>by
  have bv:0<gs.size:=(Array.getElem?_eq_some_iff.1 hC.main).1
  have bw:Gy P gs w t q Sh g s₀:=⟨hC.main,hC.lv,by
   rw [← RG (s:=s)];exact hC.C4.ghost bv (by simpa [lone] using hg),hC.over,hC.hears⟩
  obtain⟨n,gs',w',K,O,U,V,g',s',Y,Z,ag,al,am,ap,av⟩:=h gs w sl t q Sh bw
  exact⟨n,gs',w',K,O,U,V,g',s',Y,Z,ag,fun b o h=>al b o (hg.ext b o h),am,ap,av⟩
end Pal
namespace Pal
open Go Go.Conc
open Go.ConcN (upd upd_same upd_ne)
section
variable {t u:Trace}{w w':World}{N:Nat}{S:Nat→St}{Sh:Nat→Prop}
theorem Ct.ext(h:Ct t w N S Sh)(Z:∀said,¬Race said (t++u))(hu:∀op∈u,∀a,op.act.touch? =some a→∀b,DT a.loc=some b→Sh b)
  (ag:∀op∈u,op.act.low w.heap.size) (hs:w'.heap.size=w.heap.size) (hw:∀b,¬Sh b→w'.heap[b]? =w.heap[b]?):Ct (t++u) w' N S Sh:=by
 have hold:∀x a b,touchAt (t++u) x=some a→DT a.loc=some b→¬Sh b→touchAt t x=some a:=by
  intro x a b U hb O;obtain⟨op,K,Y⟩:=touch_of U;rcases getElem?_append_cases K with⟨a0,al⟩ | ⟨_,am⟩
  ·rw [touchAt_of al];exact Y
  ·exact absurd (hu op am a Y b hb) O
 have O:∀i,i<N→∀b,((S i).H b≠none∨(S i).E b≠none)→¬Sh b:=by
  intro i hi b hb ap;have:=h.sh i hi b ap;exact hb.elim (fun x=>x this.1) (fun x=>x this.2)
 refine⟨fun i hi=>⟨fun b o K=>?_,fun b o K=>?_,(h.fits i hi).d⟩,h.hh,h.sh,fun b hb=>by rw [hs];exact h.FC b hb,Z,fun op K=>?_,fun i hi b hb x a U V=>?_,fun i hi b hb x a U V av=>?_⟩
 ·rw [hw b (O i hi b (.inr (by rw [K];simp)))];exact(h.fits i hi).e b o K
 ·rw [hw b (O i hi b (.inl (by rw [K];simp)))];exact(h.fits i hi).h b o K
 ·rcases Array.mem_append.1 K with K | K
  ·rw [hs];exact h.low op K
  ·rw [hs];exact ag op K
 ·exact(h.kH i hi b hb x a (hold x a b U V (O i hi b (.inl hb))) V).app _
 ·exact(h.kE i hi b hb x a (hold x a b U V (O i hi b (.inr hb))) V av).app _
theorem Ct.congr{S':Nat→St}(h:Ct t w N S Sh)(K:∀i,i<N→(S' i).E=(S i).E∧(S' i).H=(S i).H):Ct t w N S' Sh:=by
 refine⟨fun i hi=>⟨by rw [(K i hi).1];exact(h.fits i hi).e,by rw [(K i hi).2];exact(h.fits i hi).h,by rw [(K i hi).1,(K i hi).2];exact(h.fits i hi).d⟩,fun i j hi O U b=>?_,fun i hi b=>?_,h.FC,h.clean,h.low,fun i hi b=>?_,fun i hi b=>?_⟩
 ·rw [(K i hi).2,(K j O).1,(K j O).2];exact h.hh i j hi O U b
 ·rw [(K i hi).1,(K i hi).2];exact h.sh i hi b
 ·rw [(K i hi).2];exact h.kH i hi b
 ·rw [(K i hi).1];exact h.kE i hi b
theorem Ct.less(h:Ct t w N S Sh){i:Nat}{s':St}(am:∀b o,s'.E b=some o→(S i).E b=some o)(ap:∀b o,s'.H b=some o→(S i).H b=some o):Ct t w N (upd S i s') Sh:=by
 have V:∀j b o,(upd S i s' j).E b=some o→(S j).E b=some o:=by
  intro j b o K;by_cases e:j=i
  ·subst e;rw [upd_same] at K;exact am b o K
  ·rwa [upd_ne _ _ e] at K
 have Y:∀j b o,(upd S i s' j).H b=some o→(S j).H b=some o:=by
  intro j b o K;by_cases e:j=i
  ·subst e;rw [upd_same] at K;exact ap b o K
  ·rwa [upd_ne _ _ e] at K
 have n1:∀j b,(S j).E b=none→(upd S i s' j).E b=none:=by
  intro j b hb;cases U:(upd S i s' j).E b with
  | none=>rfl
  | some o=>rw [V j b o U] at hb;cases hb
 have n2:∀j b,(S j).H b=none→(upd S i s' j).H b=none:=by
  intro j b hb;cases U:(upd S i s' j).H b with
  | none=>rfl
  | some o=>rw [Y j b o U] at hb;cases hb
 have p1:∀j b,(upd S i s' j).E b≠none→(S j).E b≠none:=fun j b hb x=>hb (n1 j b x);have p2:∀j b,(upd S i s' j).H b≠none→(S j).H b≠none:=fun j b hb x=>hb (n2 j b x);exact⟨fun j O=>⟨fun b o K=>(h.fits j O).e b o (V j b o K),fun b o K=>(h.fits j O).h b o (Y j b o K),fun b hb=>n2 j b ((h.fits j O).d b (p1 j b hb))⟩,
  fun a c Z ag al b hb=>⟨n2 c b (h.hh a c Z ag al b (p2 a b hb)).1,n1 c b (h.hh a c Z ag al b (p2 a b hb)).2⟩,
  fun j O b hb=>⟨n2 j b (h.sh j O b hb).1,n1 j b (h.sh j O b hb).2⟩,h.FC,h.clean,h.low,
  fun j O b hb=>h.kH j O b (p2 j b hb),fun j O b hb=>h.kE j O b (p1 j b hb)⟩
theorem Ct.grow(h:Ct t w N S Sh){i:Nat}(hi:i<N){E':LH}{q:Bool}
  (ag:∀b o,E' b=some o→(S i).E b=some o∨∃j,j<N∧(S j).E b=some o∧∀x a,touchAt t x=some a→DT a.loc=some b→a.write=true→Knows t i x):
  Ct t w N (upd S i ⟨E',(S i).H,q⟩) Sh:=by
 have av:∀{b},E' b≠none→∃j,j<N∧∃o,(S j).E b=some o:=by
  intro b hb;obtain⟨o,V⟩:=Ho hb;rcases ag b o V with x | ⟨j,K,x,_⟩
  ·exact⟨i,hi,o,x⟩
  ·exact⟨j,K,o,x⟩
 have a0:∀a,a<N→∀b,(S a).H b≠none→E' b=none:=by
  intro a U b hb;cases O:E' b with
  | none=>rfl
  | some o=>
   obtain⟨j,K,o',Y⟩:=av (b:=b) (by rw [O];simp);by_cases e:a=j
   ·subst e;have:=(h.fits a U).d b (by rw [Y];simp);exact absurd this hb
   ·have:=(h.hh a j U K e b hb).2;rw [Y] at this;cases this
 constructor
 ·intro j K;by_cases e:j=i
  ·subst e;rw [upd_same];refine⟨fun b o V=>?_,(h.fits j K).h,fun b hb=>?_⟩
   ·rcases ag b o V with x | ⟨k,Z,x,_⟩
    ·exact(h.fits j K).e b o x
    ·exact(h.fits k Z).e b o x
   ·cases O:(S j).H b with
    | none=>rfl
    | some o=>exact absurd (a0 j K b (by rw [O];simp)) hb
  ·rw [upd_ne _ _ e];exact h.fits j K
 ·intro a c U a1 a2 b hb;have al:(S a).H b≠none:=by
   by_cases e:a=i
   ·subst e;rwa [upd_same] at hb
   ·rwa [upd_ne _ _ e] at hb
  by_cases e:c=i
  ·subst e;rw [upd_same];exact⟨(h.hh a c U a1 a2 b al).1,a0 a U b al⟩
  ·rw [upd_ne _ _ e];exact h.hh a c U a1 a2 b al
 ·intro j K b hb;by_cases e:j=i
  ·subst e;rw [upd_same];refine⟨(h.sh j K b hb).1,?_⟩;cases O:E' b with
   | none=>exact O
   | some o=>
    obtain⟨k,Z,o',Y⟩:=av (b:=b) (by rw [O];simp);rw [(h.sh k Z b hb).2] at Y;cases Y
  ·rw [upd_ne _ _ e];exact h.sh j K b hb
 ·exact h.FC
 ·exact h.clean
 ·exact h.low
 ·intro j K b hb;by_cases e:j=i
  ·subst e;rw [upd_same] at hb;exact h.kH j K b hb
  ·rw [upd_ne _ _ e] at hb;exact h.kH j K b hb
 ·intro j K b hb x a O am ap;by_cases e:j=i
  ·subst e;rw [upd_same] at hb;obtain⟨o,V⟩:=Ho hb;rcases ag b o V with y | ⟨k,Z,y,a3⟩
   ·exact h.kE j K b (by rw [y];simp) x a O am ap
   ·exact a3 x a O am ap
  ·rw [upd_ne _ _ e] at hb;exact h.kE j K b hb x a O am ap
theorem Ct.push(h:Ct t w N S Sh){i:Nat}(hi:i<N){E:LH}(Z:∀b o,E b=some o→(S i).E b=some o)
  (am:∀b,E b≠none→∀x a,touchAt t x=some a→DT a.loc=some b→a.write=true→Knows t N x):Ct t w (N+1) (upd S N ⟨E,fun _=>none,false⟩) Sh:=by
 have O:∀j,j<N→upd S N ⟨E,fun _=>none,false⟩ j=S j:=fun j K=>upd_ne _ _ (by omega);have av:∀b,E b≠none→(S i).E b≠none:=fun b hb=>by obtain⟨o,V⟩:=Ho hb;rw [Z b o V];simp
 have al:∀b,(S i).E b=none→E b=none:=fun b hb=>by
  cases ag:E b with
  | none=>rfl
  | some o=>rw [Z b o ag] at hb;cases hb
 have cs:∀j,j<N+1→j<N∨j=N:=fun j K=>by omega
 constructor
 ·intro j K;rcases cs j K with K | rfl
  ·rw [O j K];exact h.fits j K
  ·rw [upd_same];exact⟨fun b o V=>(h.fits i hi).e b o (Z b o V),fun b o V=>(by cases V),fun b _=>rfl⟩
 ·intro a c U Y ap b hb;rcases cs a U with U | rfl
  ·rw [O a U] at hb;rcases cs c Y with Y | rfl
   ·rw [O c Y];exact h.hh a c U Y ap b hb
   ·rw [upd_same];refine⟨rfl,al b ?_⟩;by_cases e:a=i
    ·subst e;cases ag:(S a).E b with
     | none=>rfl
     | some o=>exact absurd ((h.fits a U).d b (by rw [ag];simp)) hb
    ·exact(h.hh a i U hi e b hb).2
  ·rw [upd_same] at hb;exact absurd rfl hb
 ·intro j K b hb;rcases cs j K with K | rfl
  ·rw [O j K];exact h.sh j K b hb
  ·rw [upd_same];exact⟨rfl,al b (h.sh i hi b hb).2⟩
 ·exact h.FC
 ·exact h.clean
 ·exact h.low
 ·intro j K b hb;rcases cs j K with K | rfl
  ·rw [O j K] at hb;exact h.kH j K b hb
  ·rw [upd_same] at hb;exact absurd rfl hb
 ·intro j K b hb;rcases cs j K with K | rfl
  ·rw [O j K] at hb;exact h.kE j K b hb
  ·rw [upd_same] at hb;exact am b hb
theorem Ct.share(h:Ct t w N S Sh){i:Nat}(hi:i<N){b₀:Nat}{o₀:Obj}(U:(S i).H b₀=some o₀):
  Ct t w N (upd S i {S i with H:=fun b=>if b=b₀ then none else(S i).H b}) (fun b=>Sh b∨b=b₀):=by
 have K:Ct t w N (upd S i {S i with H:=fun b=>if b=b₀ then none else(S i).H b}) Sh:=
  h.less (fun b o O=>O) (fun b o O=>by simp only at O;split at O <;> first | (cases O;done) | exact O)
 have Z:b₀<w.heap.size:=by
  have:=(h.fits i hi).h b₀ o₀ U;rcases Nat.lt_or_ge b₀ w.heap.size with V | V
  ·exact V
  ·simp [Array.getElem?_eq_none V] at this
 refine⟨K.fits,K.hh,fun j Y b hb=>?_,fun b hb=>hb.elim (K.FC b) (fun e=>e▸Z),K.clean,K.low,K.kH,K.kE⟩;rcases hb with hb | rfl
 ·exact K.sh j Y b hb
 ·by_cases e:j=i
  ·subst e;rw [upd_same];refine⟨by simp,?_⟩;cases ag:(S j).E b with
   | none=>rfl
   | some o=>have:=(h.fits j Y).d b (by rw [ag];simp);rw [U] at this;cases this
  ·rw [upd_ne _ _ e];exact h.hh i j hi Y (Ne.symm e) b (by rw [U];simp)
end
end Pal
namespace Pal
open Go Go.Conc
open Go.ConcN (upd upd_same upd_ne sumTo sumTo_upd)
abbrev GP:=Gs_
inductive Ph where
 | CI (k:Nat) | Gv | H4 | Hd | Gs | GH | EN
 | De | FU (m:Nat) | Hc (v:Nat) | Hf | DC | GF | FH | GN | DO
 | FE (j:Nat) | HB (j:Nat) | GI (j:Nat) | Gf (j:Nat) | Fq (j:Nat) | FV | Cr (K:List Nat) (vs:Lv_)
 | Dd | HF | HC | Hg (j:Nat)
inductive Nx where
 | ph (p:Ph) | gone (d:Nat)
structure Fam where
 wg:Nat
 ch:Nat
 ty:TypeId
 n:Nat
 has:Nat→Bool
 msg:Nat→Value→LH→Prop
 fin:GP
namespace Fam
variable (F:Fam)
def KK:Int:=4294967296
def GQ(st sm:Int):Obj:= .cells #[.int .u64 st,.int .u32 sm] F.ty (0,0)
def word(v wt:Nat):Int:=(v:Int)*KK+wt
def WG(w:World)(v wt sm:Nat):Prop:=w.heap[F.wg]? =some (F.GQ (word v wt) sm)
def put(w:World)(v wt sm:Nat):World:={w with heap:=w.heap.setIfInBounds F.wg (F.GQ (word v wt) sm)}
def sA:Addr:=⟨F.wg,0,none⟩
def mA:Addr:=⟨F.wg,1,none⟩
def Fs(a:Addr):Event:=⟨.cell a,false,true⟩
def IS(a:Addr):Event:=⟨.cell a,true,true⟩
def EI(m:Mark):Event:=⟨.mark m,false,true⟩
def ChanAt(w:World)(closed:Bool)(k:Nat):Prop:=w.heap[F.ch]? =some (.chan 0 #[] closed k k false)
def act:Ph→Nat→Nat→Nat→Option ((Nat×Nat×Nat)×Array Event×Nx)
 | .Gv,v,wt,sm=>some ((v,wt,sm),#[EI (.releaseMerge F.sA)],.ph .H4)
 | .H4,v,wt,sm=>some ((v,wt,sm),#[EI .disable],.ph .Hd)
 | .Hd,v,wt,sm=>if 1≤v∧v<2147483648∧wt≤1 then some ((v - 1,wt,sm),#[Fs F.sA,IS F.sA],if v=1∧wt=1 then .ph .Gs else .gone 1) else none
 | .Gs,v,wt,sm=>if v=0∧wt=1 then some ((0,1,sm),#[Fs F.sA],.ph .GH) else none
 | .GH,v,wt,sm=>if v=0∧wt=1 then some ((0,0,sm),#[IS F.sA],.ph .EN) else none
 | .EN,v,wt,sm=>if sm=0 then some ((v,wt,1),semEvents F.mA,.gone 1) else none
 | .De,v,wt,sm=>some ((v,wt,sm),#[EI .disable],.ph (.FU F.n))
 | .FU m,v,wt,sm=>if v≤m∧wt=0 then some ((v,0,sm),#[Fs F.sA],if v=0 then .ph .FH else .ph (.Hc v)) else none
 | .Hc m,v,wt,sm=>if v≤m∧1≤m∧wt=0 then some (if v=m then((v,1,sm),#[Fs F.sA,IS F.sA],.ph .HF) else((v,0,sm),#[Fs F.sA],.ph (.FU (m - 1)))) else none
 | .Hf,v,wt,sm=>some ((v,wt,sm),#[EI (.write F.mA)],.ph .DC)
 | .DC,v,wt,sm=>if sm=1 then some ((v,wt,0),semEvents F.mA,.ph .GF) else none
 | .GF,v,wt,sm=>if v=0∧wt=0 then some ((0,0,sm),#[Fs F.sA],.ph .FH) else none
 | .FH,v,wt,sm=>some ((v,wt,sm),#[EI .enable],.ph .HC)
 | .Dd,v,wt,sm=>some ((v,wt,sm),#[],.ph .Gv)
 | .HF,v,wt,sm=>some ((v,wt,sm),#[],.ph .Hf)
 | .HC,v,wt,sm=>some ((v,wt,sm),#[],.ph .GN)
 | .Hg j,v,wt,sm=>some ((v,wt,sm),#[],.ph (.GI j))
 | .GN,v,wt,sm=>some ((v,wt,sm),#[EI (.acquire F.sA)],.ph .DO)
 | .FE j,v,wt,sm=>some ((v,wt,sm),#[EI .disable],.ph (.HB j))
 | .HB j,v,wt,sm=>if v<2147483647∧wt=0 then some ((v+1,0,sm),#[Fs F.sA,IS F.sA],if v=0 then .ph (.Hg j) else .ph (.Gf j)) else none
 | .GI j,v,wt,sm=>some ((v,wt,sm),#[EI (.read F.mA)],.ph (.Gf j))
 | .Gf j,v,wt,sm=>some ((v,wt,sm),#[EI .enable],.ph (.Fq j))
 | _,_,_,_=>none
def DJ:Ph→Bool
 | .FE _ | .HB _ | .GI _ | .Gf _ | .Fq _ | .FV | .Cr _ _ | .Hg _=>true
 | _=>false
def Eh:Ph→Bool
 | .H4 | .Hd | .Gs | .GH | .EN=>true
 | _=>false
def GR:Ph→St→St
 | .Gv,_=> .quiet
 | _,s=>s
def start(k:Nat):Ph:=if F.has k then .CI k else .Dd
def DV(j:Nat):Ph:=if j+1=F.n then .FV else .FE (j+1)
end Fam
def Way(P:Program)(main:Bool)(X:GP):GP:=(BB P main).ok X
theorem Jr.Ai{P:Program}{main:Bool}{Q K:GP}(h:∀g s,Q g s→K g s):∀{r:Rk} {g:Goroutine} {s:St},Jr P main Q r g s→Jr P main K r g s
 | .leaf,_,_,x=>h _ _ x
 | .node _,_,_,.inl x=> .inl (h _ _ x)
 | .node _,_,_,.inr ⟨O,x⟩=> .inr ⟨O,fun w f=>let ⟨g',s',w',es,U,V,Y⟩:=x w f;⟨g',s',w',es,U,Jr.Ai h V,Y⟩⟩
theorem Way.Ai{P:Program}{main:Bool}{Q K:GP}(h:∀g s,Q g s→K g s){g:Goroutine}{s:St}(x:Way P main Q g s):Way P main K g s:=
 let ⟨r,O⟩:=x;⟨r,Jr.Ai (fun g s ⟨s₀,a,b⟩=>⟨s₀,a,h g s₀ b⟩) O⟩
section
variable (P:Program)(F:Fam)
def LW(X:Ph→GP)(main:Bool):Nx→GP
 | .ph p,g,s=>Way P main (X p) g s
 | .gone d,g,_=>∃q,QuitsD P q d g
structure FX (X:Ph→GP) (p:Ph) (g:Goroutine) (s:St):Prop where
 run:g.status= .running
 offers:g.offers=none
 quiet:Fam.Eh p=true→s= .quiet
 live:Fam.Eh p=false→s.q=false
 act:∀v wt sm v' wt' sm' es nx,F.act p v wt sm=some ((v',wt',sm'),es,nx)→
  ∃g',(∀w,F.WG w v wt sm→stepG P (Fam.DJ p) g w= .go g' (F.put w v' wt' sm') es)∧g'.status= .running∧LW P X (Fam.DJ p) nx g' (Fam.GR p s)
 He:p= .EN∨p= .DO→mayWake P g=true
 ER:p= .DC→∀w v wt,F.WG w v wt 0→stepG P false g w= .go {g with status:= .blocked} w #[]
 close:p= .DO→∃g',g'.status= .running∧(∀w k,F.ChanAt w false k→stepG P false g w= .go g' (w.setChan F.ch 0 #[] true k k false) (closeEvents F.ch))∧∃q,QuitsD P q 0 g'
 send:∀k,p= .CI k→∃v z,F.msg k v s.E∧(∀w,stepG P false g w= .comm g #[scase F.ch v z] true .send w #[])∧Way P false (X .Dd) (served g undef) s
 go:∀j,p= .Fq j→∃g' child,g'.status= .running∧child.status= .running∧(∀w,stepG P true g w= .spawn g' child w #[])∧Way P false (X (F.start j)) child ⟨s.E,fun _=>none,false⟩∧Way P true (X (F.DV j)) g' s
 GU:p= .FV→∃g' child,g'.status= .running∧child.status= .running∧(∀w,stepG P true g w= .spawn g' child w #[])∧Way P false (X .De) child ⟨s.E,fun _=>none,false⟩∧Way P true (X (.Cr [] [])) g' s
 recv:∀K vs,p= .Cr K vs→∃z,(∀w,stepG P true g w= .comm g #[rcase F.ch z] true (.recv true) w #[])∧
  (∀k v E',k<F.n→F.has k=true→k ∉ K→Le s.E E'→(∀b,E' b≠none→s.H b=none)→F.msg k v E'→Way P true (X (.Cr (K++ [k]) (vs++ [v]))) (served g (.tuple #[v,.bool true])) ⟨E',s.H,false⟩)∧
  ((∀k,k<F.n→F.has k=true→k∈K)→F.fin (served g (.tuple #[z,.bool false])) s)
theorem LW.Ai{X K:Ph→GP}(h:∀p g s,X p g s→K p g s){main:Bool}{nx:Nx}{g:Goroutine}{s:St}(x:LW P X main nx g s):LW P K main nx g s:=by
 cases nx with
 | ph p=>exact Way.Ai (h p) x
 | gone d=>exact x
theorem FX.Ai{X Z:Ph→GP}(h:∀p g s,X p g s→Z p g s){p:Ph}{g:Goroutine}{s:St}(x:FX P F X p g s):FX P F Z p g s where
 run:=x.run
 offers:=x.offers
 quiet:=x.quiet
 live:=x.live
 act v wt sm v' wt' sm' es nx e:=let ⟨g',K,O,U⟩:=x.act v wt sm v' wt' sm' es nx e;⟨g',K,O,U.Ai P h⟩
 He:=x.He
 ER:=x.ER
 close:=x.close
 send k e:=let ⟨v,z,K,O,U⟩:=x.send k e;⟨v,z,K,O,U.Ai (h _)⟩
 go j e:=let ⟨g',c,K,O,U,V,Y⟩:=x.go j e;⟨g',c,K,O,U,V.Ai (h _),Y.Ai (h _)⟩
 GU e:=let ⟨g',c,K,O,U,V,Y⟩:=x.GU e;⟨g',c,K,O,U,V.Ai (h _),Y.Ai (h _)⟩
 recv ag vs e:=let ⟨z,K,O,U⟩:=x.recv ag vs e;⟨z,K,fun k v E' a b c d e f=>(O k v E' a b c d e f).Ai (h _),U⟩
def Stop(p:Ph)(g:Goroutine)(s:St):Prop:=∃X:Ph→GP,(∀p g s,X p g s→FX P F X p g s)∧X p g s
variable {P F}
theorem Stop.law{p:Ph}{g:Goroutine}{s:St}(h:Stop P F p g s):FX P F (Stop P F) p g s:=by
 obtain⟨X,O,K⟩:=h;exact(O p g s K).Ai P F fun p g s K=>⟨X,O,K⟩
theorem FX.stop{p:Ph}{g:Goroutine}{s:St}(h:FX P F (Stop P F) p g s):Stop P F p g s:=
 ⟨fun p g s=>FX P F (Stop P F) p g s,fun _ _ _ x=>x.Ai P F fun _ _ _ y=>y.law,h⟩
end
end Pal
namespace Pal
open Go Go.Conc
open Go.ConcN (upd upd_same upd_ne sumTo sumTo_upd sumTo_upd_out sumTo_congr le_sumTo sumTo_le)
def cU:Nx→Nat
 | .ph (.CI _) | .ph .Dd | .ph .Gv | .ph .H4 | .ph .Hd=>1
 | _=>0
def cL:Nx→Nat
 | .ph .Gs | .ph .GH=>1
 | _=>0
def cS:Nx→Nat
 | .ph .EN=>1
 | _=>0
def pend:Nx→Nat
 | .ph (.Hg _) | .ph (.GI _) | .ph (.Gf _) | .ph (.Fq _)=>1
 | _=>0
def got:Nx→List Nat
 | .ph (.Cr K _)=>K
 | _=> []
def Fh:Nx→Prop
 | .gone _=>True
 | _=>False
def Hu(n j:Nat)(c:Bool):Ph→Prop
 | .FE K | .HB K | .Hg K | .GI K | .Gf K | .Fq K=>K=j∧j<n∧c=false
 | .FV=>j=n∧c=false
 | .Cr _ _=>j=n∧c=true
 | _=>False
def HW(F:Fam)(k:Nat):Nx→Prop
 | .gone _=>True
 | .ph (.CI k')=>k'=k∧F.has k=true
 | .ph .Dd | .ph .Gv | .ph .H4 | .ph .Hd | .ph .Gs | .ph .GH | .ph .EN=>True
 | _=>False
def Hy:Nx→Prop
 | .gone _=>True
 | .ph .De | .ph (.FU _) | .ph (.Hc _) | .ph .HF | .ph .Hf | .ph .DC | .ph .GF | .ph .FH | .ph .HC | .ph .GN | .ph .DO=>True
 | _=>False
def Db(x:Nx)(v wt sm L S:Nat)(cl:Bool):Prop:=
 match x with
 | .ph .De=>L=0∧S=0∧sm=0∧wt=0∧cl=false
 | .ph (.FU m)=>L=0∧S=0∧sm=0∧wt=0∧cl=false∧v≤m
 | .ph (.Hc m)=>L=0∧S=0∧sm=0∧wt=0∧cl=false∧v≤m∧1≤m
 | .ph .HF | .ph .Hf | .ph .DC=>L+S+sm+min v 1=1∧wt=L+min v 1∧cl=false
 | .ph .GF | .ph .FH | .ph .HC | .ph .GN | .ph .DO=>L=0∧S=0∧sm=0∧wt=0∧v=0∧cl=false
 | .gone _=>L=0∧S=0∧sm=0∧wt=0∧v=0∧cl=true
 | _=>False
structure Cs (F:Fam) (N0 N j:Nat) (c:Bool) (φ:Nat→Nx) (v wt sm:Nat) (cl:Bool):Prop where
 pos:0<N0
 n1:1≤F.n
 IN:F.n<2147483647
 size:N=N0+j+c.toNat
 jn:j≤F.n
 cj:c=true→j=F.n
 main:∃p,φ 0= .ph p∧Hu F.n j c p
 old:∀i,0<i→i<N0→Fh (φ i)
 work:∀k,k<j→HW F k (φ (N0+k))
 cls:c=true→Hy (φ (N0+F.n))
 cnt:v=sumTo N (fun i=>cU (φ i))+pend (φ 0)
 Ic:v≤j+pend (φ 0)
 mode:Db (if c=true then φ (N0+F.n) else .ph .De) v wt sm (sumTo N fun i=>cL (φ i)) (sumTo N fun i=>cS (φ i)) cl
 Hh:∀k,k<j→F.has k=true→(φ (N0+k)= .ph (.CI k)↔k ∉ got (φ 0))
 nd:(got (φ 0)).Nodup
 sub:∀k∈got (φ 0),k<j∧F.has k=true
section
variable {F:Fam}{N0 N j:Nat}{c:Bool}{φ:Nat→Nx}{v wt sm v' wt' sm':Nat}{cl cl':Bool}
theorem Cs.FJ(h:Cs F N0 N j c φ v wt sm cl){i:Nat}(hi:i<N):i=0∨(0<i∧i<N0)∨(∃k,k<j∧i=N0+k)∨(c=true∧i=N0+F.n):=by
 have:=h.size;rcases Nat.eq_zero_or_pos i with K | K
 ·exact .inl K
 rcases Nat.lt_or_ge i N0 with U | U
 ·exact .inr (.inl ⟨K,U⟩)
 rcases Nat.lt_or_ge i (N0+j) with V | V
 ·exact .inr (.inr (.inl ⟨i - N0,by omega,by omega⟩))
 ·cases O:c with
  | false=>rw [O] at this;simp at this;omega
  | true=>have e:=h.cj O;rw [O] at this;simp at this;exact .inr (.inr (.inr ⟨rfl,by omega⟩))
theorem Cs.TX(h:Cs F N0 N j c φ v wt sm cl):v≤F.n:=by
 have K:=h.Ic;obtain⟨p,O,hm⟩:=h.main;have:=h.jn;rw [O] at K;cases p <;> simp [Hu] at hm <;> simp [pend] at K <;> omega
theorem Cs.H5(h:Cs F N0 N j c φ v wt sm cl){k:Nat}(al:k<j){x:Nx}(am:HW F k x)(hs:∀k',φ (N0+k)≠ .ph (.CI k'))(ap:∀k',x≠ .ph (.CI k'))
  (a6:v'+cU (φ (N0+k))=v+cU x)
  (hm:∀L S,L+cL (φ (N0+k))=(sumTo N fun i=>cL (φ i))+cL x→S+cS (φ (N0+k))=(sumTo N fun i=>cS (φ i))+cS x→Db (if c=true then φ (N0+F.n) else .ph .De) v' wt' sm' L S cl'):
  Cs F N0 N j c (upd φ (N0+k) x) v' wt' sm' cl':=by
 have a7:=h.size;have a8:=h.jn;have a9:=h.pos;have V:N0+k<N:=by omega
 have K:upd φ (N0+k) x 0=φ 0:=upd_ne _ _ (by omega);have av:(if c=true then upd φ (N0+k) x (N0+F.n) else .ph .De)=(if c=true then φ (N0+F.n) else .ph .De):=by
  cases O:c with
  | false=>rfl
  | true=>have:=h.cj O;simp only [if_true];exact upd_ne _ _ (by omega)
 have s1:=sumTo_upd φ x cU V;have s2:=sumTo_upd φ x cL V;have a0:=sumTo_upd φ x cS V;have bb:=h.cnt;have bd:=h.Ic;refine⟨h.pos,h.n1,h.IN,h.size,h.jn,h.cj,by rw [K];exact h.main,fun i a1 a2=>by rw [upd_ne _ _ (by omega)];exact h.old i a1 a2,fun k' U=>?_,fun O=>?_,by rw [K];omega,?_,?_,fun k' U hh=>?_,by rw [K];exact h.nd,by rw [K];exact h.sub⟩
 ·by_cases e:k'=k
  ·subst e;rw [upd_same];exact am
  ·rw [upd_ne _ _ (by omega)];exact h.work k' U
 ·have:=h.cj O;rw [upd_ne _ _ (by omega)];exact h.cls O
 ·rw [K];have:cU x≤1:=by cases x with
   | gone d=>simp [cU]
   | ph p=>cases p <;> simp [cU]
  have hw:=h.work k al;have key:cU x≤cU (φ (N0+k))∨cU (φ (N0+k))<cU x:=by omega
  rcases key with hle | be
  ·omega
  ·
   have:(sumTo N fun a=>cU (upd φ (N0+k) x a))≤j:=by
    have hb:∀M,M≤N→(sumTo M fun a=>cU (upd φ (N0+k) x a))≤min (M - N0) j:=by
     intro M
     induction M with
     | zero=>intro _;simp [sumTo]
     | succ M a3=>
      intro bi;have:=a3 (by omega);simp only [sumTo];have bo:cU (upd φ (N0+k) x M)≤1:=by
       generalize upd φ (N0+k) x M=y;cases y with
       | gone d=>simp [cU]
       | ph p=>cases p <;> simp [cU]
      have Z:(M<N0∨N0+j≤M)→cU (upd φ (N0+k) x M)=0:=by
       intro bv;rw [upd_ne _ _ (by omega)];rcases h.FJ (i:=M) (by omega) with rfl | ⟨a,b⟩ | ⟨k',a,rfl⟩ | ⟨a,rfl⟩
       ·obtain⟨p,a4,hm⟩:=h.main;rw [a4];cases p <;> simp [Hu] at hm <;> rfl
       ·have:=h.old M a b;cases Y:φ M with
        | gone d=>rfl
        | ph p=>rw [Y] at this;exact this.elim
       ·omega
       ·have:=h.cls a;cases Y:φ (N0+F.n) with
        | gone d=>rfl
        | ph p=>rw [Y] at this;cases p <;> simp [Hy] at this <;> rfl
      rcases Nat.lt_or_ge M N0 with q | q
      ·rw [Z (.inl q)];omega
      ·rcases Nat.lt_or_ge M (N0+j) with ag | ag
       ·omega
       ·rw [Z (.inr ag)];omega
    have:=hb N (Nat.le_refl _);omega
   omega
 ·rw [av];exact hm _ _ s2 a0
 ·rw [K];by_cases e:k'=k
  ·subst e;rw [upd_same];have:=h.Hh k' U hh;constructor
   ·intro a5;exact absurd a5 (ap k')
   ·intro hg;exact absurd (this.2 hg) (hs k')
  ·rw [upd_ne _ _ (by omega)];exact h.Hh k' U hh
theorem Cs.Gd(h:Cs F N0 N j c φ v wt sm cl)(O:c=true){x:Nx}(Y:Hy x)
  (hm:Db x v wt' sm' (sumTo N fun i=>cL (φ i)) (sumTo N fun i=>cS (φ i)) cl'):
  Cs F N0 N j c (upd φ (N0+F.n) x) v wt' sm' cl':=by
 have Z:=h.size;have a0:=h.pos;have a1:=h.cj O;have U:N0+F.n<N:=by rw [O] at Z;simp at Z;omega
 have K:upd φ (N0+F.n) x 0=φ 0:=upd_ne _ _ (by omega);have z:∀y,Hy y→cU y=0∧cL y=0∧cS y=0:=by
  intro y ag;cases y with
  | gone d=>exact⟨rfl,rfl,rfl⟩
  | ph p=>cases p <;> simp [Hy] at ag <;> exact⟨rfl,rfl,rfl⟩
 have z1:=z _ (h.cls O);have a2:=z x Y;have s1:=sumTo_upd φ x cU U;have s2:=sumTo_upd φ x cL U;have a3:=sumTo_upd φ x cS U;have a4:=h.cnt;refine⟨h.pos,h.n1,h.IN,h.size,h.jn,h.cj,by rw [K];exact h.main,fun i al am=>by rw [upd_ne _ _ (by omega)];exact h.old i al am,fun k' V=>?_,fun O=>?_,by rw [K];omega,by rw [K];exact h.Ic,?_,fun k' V hh=>?_,by rw [K];exact h.nd,by rw [K];exact h.sub⟩
 ·rw [upd_ne _ _ (by omega)];exact h.work k' V
 ·rw [upd_same];exact Y
 ·rw [if_pos O,upd_same];have ap:(sumTo N fun i=>cL (upd φ (N0+F.n) x i))=sumTo N fun i=>cL (φ i):=by omega
  have av:(sumTo N fun i=>cS (upd φ (N0+F.n) x i))=sumTo N fun i=>cS (φ i):=by omega
  rw [ap,av];exact hm
 ·rw [K,upd_ne _ _ (by omega)];exact h.Hh k' V hh
theorem QR{n j:Nat}{c:Bool}{p:Ph}(h:Hu n j c p):cU (.ph p)=0∧cL (.ph p)=0∧cS (.ph p)=0:=by
 cases p <;> simp [Hu] at h <;> exact⟨rfl,rfl,rfl⟩
theorem Cs.Kl(h:Cs F N0 N j c φ v wt sm cl){p:Ph}(U:Hu F.n j c p)(hg:got (.ph p)=got (φ 0))(a1:v'+pend (φ 0)=v+pend (.ph p))(V:v'≤j+pend (.ph p))
  (hm:Db (if c=true then φ (N0+F.n) else .ph .De) v' wt' sm' (sumTo N fun i=>cL (φ i)) (sumTo N fun i=>cS (φ i)) cl'):
  Cs F N0 N j c (upd φ 0 (.ph p)) v' wt' sm' cl':=by
 have a2:=h.size;have a3:=h.pos;have K:0<N:=by omega
 obtain⟨a4,Y,Z⟩:=h.main;have z1:=QR Z;have a5:=QR U;rw [← Y] at z1;have s1:=sumTo_upd φ (.ph p) cU K;have s2:=sumTo_upd φ (.ph p) cL K;have a6:=sumTo_upd φ (.ph p) cS K;have a7:=h.cnt;have ag:(if c=true then upd φ 0 (.ph p) (N0+F.n) else .ph .De)=(if c=true then φ (N0+F.n) else .ph .De):=by rw [upd_ne _ _ (by omega)]
 refine⟨h.pos,h.n1,h.IN,h.size,h.jn,h.cj,⟨p,upd_same _ _ _,U⟩,fun i al am=>by rw [upd_ne _ _ (by omega)];exact h.old i al am,fun k' O=>by rw [upd_ne _ _ (by omega)];exact h.work k' O,fun ap=>by rw [upd_ne _ _ (by omega)];exact h.cls ap,by rw [upd_same];omega,by rw [upd_same];exact V,?_,fun k' O hh=>?_,by rw [upd_same,hg];exact h.nd,by rw [upd_same,hg];exact h.sub⟩
 ·rw [ag];have av:(sumTo N fun i=>cL (upd φ 0 (.ph p) i))=sumTo N fun i=>cL (φ i):=by omega
  have a0:(sumTo N fun i=>cS (upd φ 0 (.ph p) i))=sumTo N fun i=>cS (φ i):=by omega
  rw [av,a0];exact hm
 ·rw [upd_same,hg,upd_ne _ _ (by omega)];exact h.Hh k' O hh
theorem Cs.act(h:Cs F N0 N j c φ v wt sm cl){i:Nat}(hi:i<N){p:Ph}(U:φ i= .ph p){es:Array Event}{nx:Nx}(K:F.act p v wt sm=some ((v',wt',sm'),es,nx)):
  Cs F N0 N j c (upd φ i nx) v' wt' sm' cl:=by
 have O:=h.mode;have a9:=h.TX;rcases h.FJ hi with rfl | ⟨a,b⟩ | ⟨k,a0,rfl⟩ | ⟨Z,rfl⟩
 ·
  obtain⟨a4,a8,a1⟩:=h.main;have:a4=p:=by rw [a8] at U;exact Nx.ph.inj U
  subst this;have bd:∀q,Hu F.n j c q→(∀bb vs,q≠ .Cr bb vs)→c=false:=by
   intro q a5 a6;cases q <;> simp [Hu] at a5 <;> first | exact a5.2.2 | exact a5.2 | exact absurd rfl (a6 _ _)
  have ap:=h.Ic;cases a4 <;> simp only [Hu] at a1 <;> (try exact a1.elim) <;> simp only [Fam.act] at K <;> (try (cases K;done))
  ·cases K;obtain⟨rfl,av,rfl⟩:=a1;exact h.Kl (p:= .HB _) ⟨rfl,av,rfl⟩ (by rw [U];rfl) (by rw [U];rfl) (by rw [U] at ap;exact ap) (by simpa [Db] using O)
  ·split at K
   ·rename_i ag;cases K;obtain⟨rfl,av,rfl⟩:=a1;rw [U] at ap;simp only [pend,Nat.add_zero] at ap;simp only [Bool.false_eq_true,if_false,Db] at O;split
    ·exact h.Kl (p:= .Hg _) ⟨rfl,av,rfl⟩ (by rw [U];rfl) (by rw [U];simp [pend]) (by simp [pend];omega) ⟨O.1,O.2.1,O.2.2.1,rfl,O.2.2.2.2⟩
    ·exact h.Kl (p:= .Gf _) ⟨rfl,av,rfl⟩ (by rw [U];rfl) (by rw [U];simp [pend]) (by simp [pend];omega) ⟨O.1,O.2.1,O.2.2.1,rfl,O.2.2.2.2⟩
   ·cases K
  ·cases K;obtain⟨rfl,av,rfl⟩:=a1;exact h.Kl (p:= .Gf _) ⟨rfl,av,rfl⟩ (by rw [U];rfl) (by rw [U];rfl) (by rw [U] at ap;exact ap) (by simpa [Db] using O)
  ·cases K;obtain⟨rfl,av,rfl⟩:=a1;exact h.Kl (p:= .Fq _) ⟨rfl,av,rfl⟩ (by rw [U];rfl) (by rw [U];rfl) (by rw [U] at ap;exact ap) (by simpa [Db] using O)
  ·cases K;obtain⟨rfl,av,rfl⟩:=a1;exact h.Kl (p:= .GI _) ⟨rfl,av,rfl⟩ (by rw [U];rfl) (by rw [U];rfl) (by rw [U] at ap;exact ap) (by simpa [Db] using O)
 ·have:=h.old i a b;rw [U] at this;exact this.elim
 ·
  have hw:=h.work k a0;rw [U] at hw;have be:∀q k',q=Nx.ph p→(∀k',p≠ .CI k')→q≠ .ph (.CI k'):=by
   rintro q k' rfl a6 e;exact a6 k' (Nx.ph.inj e)
  cases p <;> simp only [HW] at hw <;> (try exact hw.elim) <;> simp only [Fam.act] at K <;> (try (cases K;done))
  ·cases K;refine h.H5 a0 (x:= .ph .H4) trivial (fun k'=>by rw [U];simp) (by simp) (by rw [U];rfl) fun L S V Y=>?_;rw [U] at V Y;simp only [cL,cS,Nat.add_zero] at V Y;subst V Y;exact O
  ·cases K;refine h.H5 a0 (x:= .ph .Hd) trivial (fun k'=>by rw [U];simp) (by simp) (by rw [U];rfl) fun L S V Y=>?_;rw [U] at V Y;simp only [cL,cS,Nat.add_zero] at V Y;subst V Y;exact O
  ·split at K
   ·rename_i ag;cases K;have a3:∀y al am L S,y=(if c=true then φ (N0+F.n) else .ph .De)→Db y v wt sm al am cl→(if v=1∧wt=1 then L=al+1 else L=al)→S=am→Db y (v - 1) wt sm L S cl:=by
     intro y al am L S bi hm V Y;cases y with
     | gone d=>simp only [Db] at hm ⊢;split at V <;> omega
     | ph q=>
      cases q <;> simp only [Db] at hm ⊢ <;> (try exact hm) <;> (try (split at V <;> omega))
      ·split at V
       ·exfalso;omega
       ·exact⟨by omega,by omega,by omega,by omega,hm.2.2.2.2⟩
      ·split at V
       ·exfalso;omega
       ·exact⟨by omega,by omega,by omega,by omega,hm.2.2.2.2.1,by omega⟩
      ·split at V
       ·exfalso;omega
       ·exact⟨by omega,by omega,by omega,by omega,hm.2.2.2.2.1,by omega,by omega⟩
      ·split at V
       ·exact⟨by omega,by omega,hm.2.2⟩
       ·exact⟨by omega,by omega,hm.2.2⟩
      ·split at V
       ·exact⟨by omega,by omega,hm.2.2⟩
       ·exact⟨by omega,by omega,hm.2.2⟩
      ·split at V
       ·exact⟨by omega,by omega,hm.2.2⟩
       ·exact⟨by omega,by omega,hm.2.2⟩
    split
    ·rename_i a2;refine h.H5 a0 (x:= .ph .Gs) trivial (fun k'=>by rw [U];simp) (by simp) (by rw [U];simp [cU];omega) fun L S V Y=>?_;rw [U] at V Y;simp only [cL,cS,Nat.add_zero] at V Y;exact a3 _ _ _ L S rfl O (by rw [if_pos a2];exact V) Y
    ·rename_i a2;refine h.H5 a0 (x:= .gone 1) trivial (fun k'=>by rw [U];simp) (by simp) (by rw [U];simp [cU];omega) fun L S V Y=>?_;rw [U] at V Y;simp only [cL,cS,Nat.add_zero] at V Y;exact a3 _ _ _ L S rfl O (by rw [if_neg a2];exact V) Y
   ·cases K
  ·split at K
   ·rename_i ag;cases K;refine h.H5 a0 (x:= .ph .GH) trivial (fun k'=>by rw [U];simp) (by simp) (by rw [U];simp [cU];omega) fun L S V Y=>?_;rw [U] at V Y;simp only [cL,cS,Nat.add_zero] at V Y;have e:L=sumTo N fun i=>cL (φ i):=by
     have bo:L+1=(sumTo N fun i=>cL (φ i))+1:=V;omega
    obtain⟨a2,a7⟩:=ag;subst e Y a2 a7;exact O
   ·cases K
  ·split at K
   ·rename_i ag;cases K;obtain⟨a2,a7⟩:=ag;subst a2 a7;refine h.H5 a0 (x:= .ph .EN) trivial (fun k'=>by rw [U];simp) (by simp) (by rw [U];simp [cU]) fun L S V Y=>?_;rw [U] at V Y;simp only [cL,cS,Nat.add_zero] at V Y;have a3:∀y al am,Db y 0 1 sm al am cl→L+1=al→S=am+1→Db y 0 0 sm L S cl:=by
     intro y al am hm V Y;cases y with
     | gone d=>simp only [Db] at hm ⊢;omega
     | ph q=>
      cases q <;> simp only [Db] at hm ⊢ <;> (try exact hm) <;> (try (exfalso;omega))
      ·exact⟨by omega,by omega,hm.2.2⟩
      ·exact⟨by omega,by omega,hm.2.2⟩
      ·exact⟨by omega,by omega,hm.2.2⟩
    exact a3 _ _ _ O V Y
   ·cases K
  ·split at K
   ·rename_i ag;cases K;subst ag;refine h.H5 a0 (x:= .gone 1) trivial (fun k'=>by rw [U];simp) (by simp) (by rw [U];simp [cU]) fun L S V Y=>?_;rw [U] at V Y;simp only [cL,cS,Nat.add_zero] at V Y;have a3:∀y al am,Db y v wt 0 al am cl→L=al→S+1=am→Db y v wt 1 L S cl:=by
     intro y al am hm V Y;cases y with
     | gone d=>simp only [Db] at hm ⊢;omega
     | ph q=>
      cases q <;> simp only [Db] at hm ⊢ <;> (try exact hm) <;> (try (exfalso;omega))
      ·exact⟨by omega,by omega,hm.2.2⟩
      ·exact⟨by omega,by omega,hm.2.2⟩
      ·exact⟨by omega,by omega,hm.2.2⟩
    exact a3 _ _ _ O V Y
   ·cases K
  ·cases K;refine h.H5 a0 (x:= .ph .Gv) trivial (fun k'=>by rw [U];simp) (by simp) (by rw [U];rfl) fun L S V Y=>?_;rw [U] at V Y;simp only [cL,cS,Nat.add_zero] at V Y;subst V Y;exact O
 ·
  have hw:=h.cls Z;rw [if_pos Z,U] at O;rw [U] at hw;obtain⟨a4,a8,a1⟩:=h.main;cases p <;> simp only [Hy] at hw <;> (try exact hw.elim) <;> simp only [Fam.act] at K <;> (try (cases K;done)) <;> simp only [Db] at O
  ·cases K;exact h.Gd Z (x:= .ph (.FU F.n)) trivial ⟨O.1,O.2.1,O.2.2.1,O.2.2.2.1,O.2.2.2.2,a9⟩
  ·split at K
   ·rename_i m ag;cases K;split
    ·exact h.Gd Z (x:= .ph .FH) trivial ⟨O.1,O.2.1,O.2.2.1,rfl,by assumption,O.2.2.2.2.1⟩
    ·exact h.Gd Z (x:= .ph (.Hc _)) trivial ⟨O.1,O.2.1,O.2.2.1,rfl,O.2.2.2.2.1,Nat.le_refl _,by omega⟩
   ·cases K
  ·split at K
   ·rename_i m ag;split at K
    ·cases K;exact h.Gd Z (x:= .ph .HF) trivial ⟨by omega,by omega,O.2.2.2.2.1⟩
    ·cases K;exact h.Gd Z (x:= .ph (.FU _)) trivial ⟨O.1,O.2.1,O.2.2.1,rfl,O.2.2.2.2.1,by omega⟩
   ·cases K
  ·cases K;exact h.Gd Z (x:= .ph .DC) trivial O
  ·split at K
   ·rename_i ag;cases K;exact h.Gd Z (x:= .ph .GF) trivial ⟨by omega,by omega,rfl,by omega,by omega,O.2.2⟩
   ·cases K
  ·split at K
   ·rename_i ag;obtain⟨rfl,rfl⟩:=ag;cases K;exact h.Gd Z (x:= .ph .FH) trivial O
   ·cases K
  ·cases K;exact h.Gd Z (x:= .ph .HC) trivial O
  ·cases K;exact h.Gd Z (x:= .ph .DO) trivial O
  ·cases K;exact h.Gd Z (x:= .ph .Hf) trivial O
  ·cases K;exact h.Gd Z (x:= .ph .GN) trivial O
end
end Pal
namespace Pal
open Go Go.Conc
open Go.ConcN (upd upd_same upd_ne sumTo sumTo_upd sumTo_upd_out sumTo_congr le_sumTo sumTo_le fork_knows)
section
variable {F:Fam}{N0 N j:Nat}{c:Bool}{φ:Nat→Nx}{v wt sm:Nat}{cl:Bool}
theorem Cs.spawn(h:Cs F N0 N j c φ v wt sm cl)(U:φ 0= .ph (.Fq j)):
  Cs F N0 (N+1) (j+1) c (upd (upd φ N (.ph (F.start j))) 0 (.ph (F.DV j))) v wt sm cl:=by
 obtain⟨a1,a2,a3⟩:=h.main;obtain rfl:a1= .Fq j:=by rw [a2] at U;exact Nx.ph.inj U
 obtain⟨_,a9,rfl⟩:=a3;have a4:=h.size;have bb:=h.pos;simp only [Bool.toNat_false,Nat.add_zero] at a4;have Y:cU (.ph (F.start j))=1∧cL (.ph (F.start j))=0∧cS (.ph (F.start j))=0:=by
  unfold Fam.start;split <;> exact⟨rfl,rfl,rfl⟩
 have K:cU (.ph (F.DV j))=0∧cL (.ph (F.DV j))=0∧cS (.ph (F.DV j))=0∧pend (.ph (F.DV j))=0∧got (.ph (F.DV j))= []:=by
  unfold Fam.DV;split <;> exact⟨rfl,rfl,rfl,rfl,rfl⟩
 have Z:cU (φ 0)=0∧cL (φ 0)=0∧cS (φ 0)=0:=by rw [U];exact⟨rfl,rfl,rfl⟩
 let V:Nat→Nx:=upd (upd φ N (.ph (F.start j))) 0 (.ph (F.DV j));have O:V 0= .ph (F.DV j):=upd_same _ _ _;have ag:V N= .ph (F.start j):=by show upd _ _ _ _=_;rw [upd_ne _ _ (by omega),upd_same]
 have al:∀i,0<i→i≠N→V i=φ i:=fun i am ap=>by show upd _ _ _ _=_;rw [upd_ne _ _ (by omega),upd_ne _ _ ap]
 have sum:∀f:Nx→Nat,f (φ 0)=0→f (.ph (F.DV j))=0→(sumTo (N+1) fun i=>f (V i))=(sumTo N fun i=>f (φ i))+f (.ph (F.start j)):=by
  intro f f0 f1;simp only [sumTo,ag];congr 1;have a5:0<N:=by omega
  have:=sumTo_upd (upd φ N (.ph (F.start j))) (.ph (F.DV j)) f a5;have a6:upd φ N (.ph (F.start j)) 0=φ 0:=upd_ne _ _ (by omega);rw [a6,f0,f1] at this;have bd:=sumTo_upd_out φ (.ph (F.start j)) f (i:=N) (j:=N) (Nat.le_refl _);show sumTo N (fun i=>f (upd (upd φ N (.ph (F.start j))) 0 (.ph (F.DV j)) i))=_;omega
 have av:=h.cnt;have a0:=h.Ic;rw [U] at av a0;simp only [pend] at av a0;show Cs F N0 (N+1) (j+1) false V v wt sm cl;have a7:got (φ 0)= []:=by rw [U];rfl
 refine⟨h.pos,h.n1,h.IN,by simp;omega,by omega,by simp,⟨F.DV j,O,?_⟩,fun i am ap=>by rw [al i am (by omega)];exact h.old i am ap,fun k a8=>?_,by simp,?_,?_,?_,fun k a8 hh=>?_,by rw [O,K.2.2.2.2];exact .nil,by rw [O,K.2.2.2.2];simp⟩
 ·unfold Fam.DV;split
  ·exact⟨by assumption,rfl⟩
  ·exact⟨rfl,by omega,rfl⟩
 ·by_cases e:k=j
  ·subst e;rw [show N0+k=N by omega,ag];unfold Fam.start;split
   ·exact⟨rfl,by assumption⟩
   ·trivial
  ·rw [al _ (by omega) (by omega)];exact h.work k (by omega)
 ·rw [O,K.2.2.2.1,sum cU Z.1 K.1,Y.1];exact av
 ·rw [O,K.2.2.2.1];exact a0
 ·have hm:=h.mode;simp only [Bool.false_eq_true,if_false] at hm ⊢;rw [sum cL Z.2.1 K.2.1,sum cS Z.2.2 K.2.2.1,Y.2.1,Y.2.2];exact hm
 ·rw [O,K.2.2.2.2];by_cases e:k=j
  ·subst e;rw [show N0+k=N by omega,ag];unfold Fam.start;simp [hh]
  ·rw [al _ (by omega) (by omega)];have:=h.Hh k (by omega) hh
   rwa [a7] at this
theorem Cs.aJ(h:Cs F N0 N j c φ v wt sm cl)(O:φ 0= .ph .FV):
  Cs F N0 (N+1) j true (upd (upd φ N (.ph .De)) 0 (.ph (.Cr [] []))) v wt sm cl:=by
 obtain⟨a1,a2,a3⟩:=h.main;obtain rfl:a1= .FV:=by rw [a2] at O;exact Nx.ph.inj O
 obtain⟨a0,rfl⟩:=a3;have a4:=h.size;have a8:=h.pos;simp only [Bool.toNat_false,Nat.add_zero] at a4;have V:cU (φ 0)=0∧cL (φ 0)=0∧cS (φ 0)=0:=by rw [O];exact⟨rfl,rfl,rfl⟩
 let U:Nat→Nx:=upd (upd φ N (.ph .De)) 0 (.ph (.Cr [] []));have K:U 0= .ph (.Cr [] []):=upd_same _ _ _;have Y:U N= .ph .De:=by show upd _ _ _ _=_;rw [upd_ne _ _ (by omega),upd_same]
 have Z:∀i,0<i→i≠N→U i=φ i:=fun i ag al=>by show upd _ _ _ _=_;rw [upd_ne _ _ (by omega),upd_ne _ _ al]
 have sum:∀f:Nx→Nat,f (φ 0)=0→f (.ph (.Cr [] []))=0→f (.ph .De)=0→(sumTo (N+1) fun i=>f (U i))=(sumTo N fun i=>f (φ i)):=by
  intro f f0 f1 f2;simp only [sumTo,Y,f2];have a5:0<N:=by omega
  have:=sumTo_upd (upd φ N (.ph .De)) (.ph (.Cr [] [])) f a5;have a6:upd φ N (.ph .De) 0=φ 0:=upd_ne _ _ (by omega);rw [a6,f0,f1] at this;have a9:=sumTo_upd_out φ (.ph .De) f (i:=N) (j:=N) (Nat.le_refl _);show sumTo N (fun i=>f (upd (upd φ N (.ph .De)) 0 (.ph (.Cr [] [])) i))+0=_;omega
 have am:=h.cnt;have ap:=h.Ic;rw [O] at am ap;simp only [pend] at am ap;show Cs F N0 (N+1) j true U v wt sm cl;have a7:got (φ 0)= []:=by rw [O];rfl
 refine⟨h.pos,h.n1,h.IN,by simp;omega,h.jn,fun _=>a0,⟨.Cr [] [],K,a0,rfl⟩,fun i ag al=>by rw [Z i ag (by omega)];exact h.old i ag al,fun k av=>?_,fun _=>by rw [show N0+F.n=N by omega,Y];trivial,?_,?_,?_,fun k av hh=>?_,by rw [K];exact .nil,by rw [K];simp [got]⟩
 ·rw [Z _ (by omega) (by omega)];exact h.work k av
 ·rw [K,sum cU V.1 rfl rfl];exact am
 ·rw [K];exact ap
 ·have hm:=h.mode;simp only [Bool.false_eq_true,if_false,if_true] at hm ⊢;rw [show N0+F.n=N by omega,Y,sum cL V.2.1 rfl rfl,sum cS V.2.2 rfl rfl];exact hm
 ·rw [K];rw [Z _ (by omega) (by omega)];have:=h.Hh k av hh
  rwa [a7] at this
theorem Cs.meet(h:Cs F N0 N j c φ v wt sm cl){K:List Nat}{vs:Lv_}{k:Nat}{x:Value}(O:φ 0= .ph (.Cr K vs))(am:k<j)(hw:φ (N0+k)= .ph (.CI k)):
  Cs F N0 N j c (upd (upd φ (N0+k) (.ph .Dd)) 0 (.ph (.Cr (K++ [k]) (vs++ [x])))) v wt sm cl:=by
 obtain⟨a2,a3,a4⟩:=h.main;obtain rfl:a2= .Cr K vs:=by rw [a3] at O;exact Nx.ph.inj O
 obtain⟨a5,rfl⟩:=a4;have a6:=h.size;have be:=h.pos;have ap:F.has k=true:=by have:=h.work k am;rw [hw] at this;exact this.2
 have a7:k ∉ K:=by have:=(h.Hh k am ap).1 hw;rwa [O] at this
 let V:Nat→Nx:=upd (upd φ (N0+k) (.ph .Dd)) 0 (.ph (.Cr (K++ [k]) (vs++ [x])));have U:V 0= .ph (.Cr (K++ [k]) (vs++ [x])):=upd_same _ _ _;have av:V (N0+k)= .ph .Dd:=by show upd _ _ _ _=_;rw [upd_ne _ _ (by omega),upd_same]
 have Y:∀i,0<i→i≠N0+k→V i=φ i:=fun i Z ag=>by show upd _ _ _ _=_;rw [upd_ne _ _ (by omega),upd_ne _ _ ag]
 have sum:∀f:Nx→Nat,f (φ 0)=f (.ph (.Cr (K++ [k]) (vs++ [x])))→f (.ph (.CI k))=f (.ph .Dd)→(sumTo N fun i=>f (V i))=(sumTo N fun i=>f (φ i)):=by
  intro f f0 f1;have a8:0<N:=by omega
  have Z:=sumTo_upd (upd φ (N0+k) (.ph .Dd)) (.ph (.Cr (K++ [k]) (vs++ [x]))) f a8;have a9:upd φ (N0+k) (.ph .Dd) 0=φ 0:=upd_ne _ _ (by omega);have ag:=sumTo_upd φ (.ph .Dd) f (show N0+k<N by omega);rw [a9] at Z;rw [hw] at ag;show sumTo N (fun i=>f (upd (upd φ (N0+k) (.ph .Dd)) 0 (.ph (.Cr (K++ [k]) (vs++ [x]))) i))=_;omega
 have a0:=h.cnt;have a1:=h.Ic;rw [O] at a0 a1;show Cs F N0 N j true V v wt sm cl;refine⟨h.pos,h.n1,h.IN,a6,h.jn,h.cj,⟨_,U,a5,rfl⟩,fun i Z ag=>by rw [Y i Z (by omega)];exact h.old i Z ag,fun k' al=>?_,fun bb=>?_,?_,?_,?_,fun k' al hh=>?_,?_,?_⟩
 ·by_cases e:k'=k
  ·subst e;rw [av];trivial
  ·rw [Y _ (by omega) (by omega)];exact h.work k' al
 ·rw [Y _ (by omega) (by omega)];exact h.cls bb
 ·rw [U,sum cU (by rw [O];rfl) rfl];exact a0
 ·rw [U];exact a1
 ·have hm:=h.mode;simp only [if_true] at hm ⊢;rw [Y _ (by omega) (by omega),sum cL (by rw [O];rfl) rfl,sum cS (by rw [O];rfl) rfl];exact hm
 ·rw [U];show _↔k' ∉ K++ [k];by_cases e:k'=k
  ·subst e;rw [av];simp
  ·rw [Y _ (by omega) (by omega)];have:=h.Hh k' al hh;rw [O] at this;rw [this];show k' ∉ K↔_;simp [e]
 ·rw [U];have:=h.nd;rw [O] at this;show(K++ [k]).Nodup;rw [List.nodup_append];exact⟨this,by simp,fun a bd b hb=>by simp at hb;subst hb;exact fun e=>a7 (e▸bd)⟩
 ·rw [U];intro k' al;have hs:=h.sub;rw [O] at hs;rcases List.mem_append.1 al with q | q
  ·exact hs k' q
  ·simp at q;subst q;exact⟨am,ap⟩
theorem Cs.close(h:Cs F N0 N j c φ v wt sm cl)(K:c=true)(O:φ (N0+F.n)= .ph .DO):Cs F N0 N j c (upd φ (N0+F.n) (.gone 0)) v wt sm true:=by
 have hm:=h.mode;rw [if_pos K,O] at hm;exact h.Gd K (x:= .gone 0) trivial ⟨hm.1,hm.2.1,hm.2.2.1,hm.2.2.2.1,hm.2.2.2.2.1,rfl⟩
theorem Cs.leave(h:Cs F N0 N j c φ v wt sm cl){i d K:Nat}(hi:i<N)(O:φ i= .gone d):Cs F N0 N j c (upd φ i (.gone K)) v wt sm cl:=by
 rcases h.FJ hi with rfl | ⟨a,b⟩ | ⟨k,V,rfl⟩ | ⟨Y,rfl⟩
 ·obtain⟨p,Z,_⟩:=h.main;rw [O] at Z;cases Z
 ·have ap:=hi;have z:∀f:Nx→Nat,f (.gone d)=0→f (.gone K)=0→(sumTo N fun a=>f (upd φ i (.gone K) a))=sumTo N fun a=>f (φ a):=by
   intro f f0 f1;have:=sumTo_upd φ (.gone K) f ap;rw [O] at this;omega
  have a3:=h.size;have U:upd φ i (.gone K) 0=φ 0:=upd_ne _ _ (by omega);refine⟨h.pos,h.n1,h.IN,h.size,h.jn,h.cj,by rw [U];exact h.main,fun ag av a0=>?_,fun k V=>by rw [upd_ne _ _ (by omega)];exact h.work k V,fun Y=>by rw [upd_ne _ _ (by omega)];exact h.cls Y,by rw [U,z cU rfl rfl];exact h.cnt,by rw [U];exact h.Ic,?_,fun k V hh=>by rw [U,upd_ne _ _ (by omega)];exact h.Hh k V hh,by rw [U];exact h.nd,by rw [U];exact h.sub⟩
  ·by_cases e:ag=i
   ·subst e;rw [upd_same];trivial
   ·rw [upd_ne _ _ e];exact h.old ag av a0
  ·rw [z cL rfl rfl,z cS rfl rfl,upd_ne _ _ (by omega)];exact h.mode
 ·refine h.H5 V (x:= .gone K) trivial (by rw [O];simp) (by simp) (by rw [O];rfl) fun L S al am=>?_;rw [O] at al am;have a1:L=sumTo N fun i=>cL (φ i):=al;have a2:S=sumTo N fun i=>cS (φ i):=am;subst a1 a2;exact h.mode
 ·have hm:=h.mode;rw [if_pos Y,O] at hm;exact h.Gd Y (x:= .gone K) trivial hm
theorem Cs.Pc(h:Cs F N0 N j c φ v wt sm cl)(O:c=true)(U:φ (N0+F.n)= .ph .GF∨φ (N0+F.n)= .ph .FH∨φ (N0+F.n)= .ph .GN∨φ (N0+F.n)= .ph .DO∨Fh (φ (N0+F.n))):∀k,k<j→Fh (φ (N0+k)):=by
 intro k V;have hm:=h.mode;rw [if_pos O] at hm;have Y:=h.size;have Z:=h.cnt;have ag:cU (φ (N0+k))≤sumTo N fun i=>cU (φ i):=le_sumTo (f:=fun i=>cU (φ i)) (show N0+k<N by omega);have al:cL (φ (N0+k))≤sumTo N fun i=>cL (φ i):=le_sumTo (f:=fun i=>cL (φ i)) (show N0+k<N by omega);have am:cS (φ (N0+k))≤sumTo N fun i=>cS (φ i):=le_sumTo (f:=fun i=>cS (φ i)) (show N0+k<N by omega);have ap:v=0∧(sumTo N fun i=>cL (φ i))=0∧(sumTo N fun i=>cS (φ i))=0:=by
  rcases U with e | e | e | e | e
  ·rw [e] at hm;exact⟨hm.2.2.2.2.1,hm.1,hm.2.1⟩
  ·rw [e] at hm;exact⟨hm.2.2.2.2.1,hm.1,hm.2.1⟩
  ·rw [e] at hm;exact⟨hm.2.2.2.2.1,hm.1,hm.2.1⟩
  ·rw [e] at hm;exact⟨hm.2.2.2.2.1,hm.1,hm.2.1⟩
  ·cases K:φ (N0+F.n) with
   | gone d=>rw [K] at hm;exact⟨hm.2.2.2.2.1,hm.1,hm.2.1⟩
   | ph p=>rw [K] at e;exact e.elim
 have hw:=h.work k V;cases K:φ (N0+k) with
 | gone d=>trivial
 | ph p=>
  have av:1≤cU (φ (N0+k))+cL (φ (N0+k))+cS (φ (N0+k)):=by
   rw [K] at hw ⊢;cases p <;> simp only [HW] at hw <;> simp [cU,cL,cS]
  exfalso;omega
end
open Go.ConcN (RelBy)
def Ey:Nx→Nat
 | .gone d=>d
 | .ph .Hd | .ph .Gs | .ph .GH | .ph .EN=>1
 | .ph (.FU _) | .ph (.Hc _) | .ph .HF | .ph .Hf | .ph .DC | .ph .GF | .ph .FH=>1
 | .ph (.HB _) | .ph (.Hg _) | .ph (.GI _) | .ph (.Gf _)=>1
 | _=>0
def late:Nx→Prop
 | .ph (.CI _) | .ph .Dd | .ph .Gv=>False
 | _=>True
def Jl(F:Fam)(N0 t0:Nat)(t:Trace)(q:Nat):Prop:=
 t.act? q=some (.mark (.acquire F.sA))∧t.g? q=some (N0+F.n)∧t.heard q∧∀k,k<F.n→∃ρ,t0≤ρ∧ρ<q∧RelBy F.sA t (N0+k) ρ
def LV(F:Fam)(N0 t0:Nat)(t:Trace)(p:Nat):Prop:=
 t.act? p=some (.close F.ch)∧t.g? p=some (N0+F.n)∧t.heard p∧(∃q,q<p∧Jl F N0 t0 t q)∧∀x,p<x→t.g? x=some (N0+F.n)→¬t.counts x
structure D7 (F:Fam) (N0 t0 N j:Nat) (c:Bool) (φ:Nat→Nx) (t:Trace):Prop where
 deaf:∀i,i<N→Deaf t i=Ey (φ i)
 above:∀i,N≤i→Deaf t i=0
 plain:∀x a b,touchAt t x=some a→DT a.loc=some b→(b=F.wg∨b=F.ch)→a.kind= .plain→∀i,i<N→(i=0∨N0≤i)→Knows t i x
 said:∀x a b,touchAt t x=some a→DT a.loc=some b→(b=F.wg∨b=F.ch)→a.kind= .said→Knows t (if c=true then N0+F.n else 0) x
 over:∀x g,t.g? x=some g→g≠0→t.counts x→(∃y,t.g? y=some 0∧HappensBefore t x y)∨(N0≤g∧g<N)
 norel:∀x,t0≤x→t.act? x≠some (.mark (.release F.sA))
 LM:t0≤t.size
 rel:∀k,k<j→late (φ (N0+k))→∃ρ,t0≤ρ∧RelBy F.sA t (N0+k) ρ
 acq:c=true→(φ (N0+F.n)= .ph .DO∨Fh (φ (N0+F.n)))→∃q,Jl F N0 t0 t q
 Ks:c=true→Fh (φ (N0+F.n))→∃p,LV F N0 t0 t p
section
variable {F:Fam}{N0 t0 N j:Nat}{c:Bool}{φ:Nat→Nx}{t u:Trace}
def EvS(F:Fam)(K:Prop)(e:Event):Prop:=
 (∀a,(MemAct.ofEvent e).touch? =some a→(∃b,DT a.loc=some b∧(b=F.wg∨b=F.ch))∧a.kind≠ .plain∧(a.kind= .said→K))∧e.loc≠ .mark (.release F.sA)
theorem D7.noRace(h:D7 F N0 t0 N j c φ t)(Y:∀said,¬Race said t){i:Nat}(hi:i<N)(Z:i=0∨N0≤i){fn:FuncId}{pos:String}{es:Array Event}
  (ag:∀e∈es,EvS F (i=if c=true then N0+F.n else 0) e):∀said,¬Race said (t++MemOp.ofEvents i fn pos es):=by
 intro said;refine noRace_append (g:=i) (Y said) (fun op K=>by obtain⟨e,_,rfl⟩:=mem_ofEvents K;rfl) fun x a O op K d al am=>?_;obtain⟨e,he,rfl⟩:=mem_ofEvents K;obtain⟨⟨b,hb,U⟩,ap,hs⟩:=(ag e he).1 d al;obtain⟨av,hm,a2,a0⟩:=am;have V:DT a.loc=some b:=by rw [av];exact hb
 rcases a0 with q | q | ⟨_,q,a1⟩
 ·exact h.plain x a b O V U q i hi Z
 ·exact absurd q ap
 ·have:=h.said x a b O V U q
  rwa [← hs a1] at this
theorem Jl.app{q:Nat}(h:Jl F N0 t0 t q)(V:∀k ρ,k<F.n→RelBy F.sA t (N0+k) ρ→RelBy F.sA (t++u) (N0+k) ρ):Jl F N0 t0 (t++u) q:=by
 obtain⟨O,Y,Z,ag⟩:=h;have K:=lt_of_act? O;exact⟨by rw [act?_old K];exact O,by rw [g?_old K];exact Y,(heard_old K).2 Z,fun k U=>let ⟨ρ,a,b,d⟩:=ag k U;⟨ρ,a,b,V k ρ U d⟩⟩
theorem LV.app{p:Nat}(h:LV F N0 t0 t p)(V:∀k ρ,k<F.n→RelBy F.sA t (N0+k) ρ→RelBy F.sA (t++u) (N0+k) ρ)(Y:∀x,t.size≤x→(t++u).g? x=some (N0+F.n)→¬(t++u).counts x):LV F N0 t0 (t++u) p:=by
 obtain⟨O,Z,ag,⟨q,al,am⟩,ap⟩:=h;have K:=lt_of_act? O;refine⟨by rw [act?_old K];exact O,by rw [g?_old K];exact Z,(heard_old K).2 ag,⟨q,al,am.app V⟩,fun x av hg U=>?_⟩;rcases Nat.lt_or_ge x t.size with q | q
 ·exact ap x av (by rw [← g?_old (u:=u) q];exact hg) ((counts_old q).1 U)
 ·exact Y x q hg U
theorem RF(h:∀x g,t.g? x=some g→g≠0→t.counts x→(∃y,t.g? y=some 0∧HappensBefore t x y)∨(N0≤g∧g<N))(hu:∀op∈u,op.g=0∨(N0≤op.g∧op.g<N)∨op.act.touch? =none):
  ∀x g,(t++u).g? x=some g→g≠0→(t++u).counts x→(∃y,(t++u).g? y=some 0∧HappensBefore (t++u) x y)∨(N0≤g∧g<N):=by
 intro x g hg O U;rcases Nat.lt_or_ge x t.size with q | q
 ·rcases h x g (by rw [← g?_old (u:=u) q];exact hg) O ((counts_old q).1 U) with⟨y,K,hb⟩ | hh
  ·have ag:y<t.size:=by
    unfold Trace.g? at K;obtain⟨z,al,_⟩:=Option.map_eq_some_iff.1 K;exact lt_size_of_getElem? al
   exact .inl ⟨y,by rw [g?_old ag];exact K,hb_app u hb⟩
  ·exact .inr hh
 ·obtain⟨a,am,_⟩:=U;obtain⟨op,V,Y⟩:=touch_of am;have Z:op.g=g:=by simpa [Trace.g?,V] using hg
  rcases getElem?_append_cases V with⟨av,_⟩ | ⟨_,ap⟩
  ·omega
  ·rcases hu op ap with z | z | z
   ·exact absurd (Z▸z) O
   ·exact .inr (Z▸z)
   ·rw [z] at Y;cases Y
theorem QU(h:∀x,t0≤x→t.act? x≠some (.mark (.release F.sA)))(hu:∀op∈u,op.act≠ .mark (.release F.sA)):∀x,t0≤x→(t++u).act? x≠some (.mark (.release F.sA)):=by
 intro x O e;obtain⟨op,U,K⟩:=Option.map_eq_some_iff.1 e;rcases getElem?_append_cases U with⟨_,V⟩ | ⟨_,Y⟩
 ·exact h x O (by rw [act?_of V,K])
 ·exact hu op Y K
theorem T7{i g:Nat}(hu:∀op∈u,op.g=i)(K:i≠g):∀x,t.size≤x→(t++u).g? x=some g→¬(t++u).counts x:=by
 intro x Y hg;obtain⟨op,O,U⟩:=Option.map_eq_some_iff.1 hg;rcases getElem?_append_cases O with⟨Z,_⟩ | ⟨_,V⟩
 ·omega
 ·exact absurd ((hu op V).symm.trans U) K
theorem Qn{g:Nat}(hu:∀op∈u,op.g=g→op.act.touch? =none):∀x,t.size≤x→(t++u).g? x=some g→¬(t++u).counts x:=by
 intro x Z hg U;obtain⟨a,V,_⟩:=U;obtain⟨op,K,O⟩:=touch_of V;rcases getElem?_append_cases K with⟨ag,_⟩ | ⟨_,Y⟩
 ·omega
 ·rw [hu op Y (by simpa [Trace.g?,K] using hg)] at O;cases O
theorem D7.app(h:D7 F N0 t0 N j c φ t){i:Nat}(hi:i<N){x:Nx}{fn:FuncId}{pos:String}{es:Array Event}(bZ:j≤F.n)
  (bd:deafBehind (Ey (φ i)) es=Ey x)
  (a3:∀e∈es,(∀a b,(MemAct.ofEvent e).touch? =some a→DT a.loc=some b→(b=F.wg∨b=F.ch)→a.kind≠ .plain∧(a.kind= .said→i=if c=true then N0+F.n else 0))∧e.loc≠ .mark (.release F.sA))
  (be:(i=0∨N0≤i)∨∀e∈es,(MemAct.ofEvent e).touch? =none)
  (a4:c=true→(φ (N0+F.n)= .ph .DO∨Fh (φ (N0+F.n)))→∀k,k<F.n→late (φ (N0+k)))
  (bi:∀k,k<F.n→i=N0+k→late (φ i)→∀ρ,RelBy F.sA t i ρ→RelBy F.sA (t++MemOp.ofEvents i fn pos es) i ρ)
  (bo:∀k,k<j→i=N0+k→late x→¬late (φ i)→∃ρ,t0≤ρ∧RelBy F.sA (t++MemOp.ofEvents i fn pos es) i ρ)
  (bv:c=true→i=N0+F.n→(x= .ph .DO∨Fh x)→(∃q,Jl F N0 t0 (t++MemOp.ofEvents i fn pos es) q)∨(φ i= .ph .DO∨Fh (φ i)))
  (bw:c=true→i=N0+F.n→Fh x→(∃p,LV F N0 t0 (t++MemOp.ofEvents i fn pos es) p)∨(Fh (φ i)∧∀e∈es,(MemAct.ofEvent e).touch? =none)):
  D7 F N0 t0 N j c (upd φ i x) (t++MemOp.ofEvents i fn pos es):=by
 generalize hu:MemOp.ofEvents i fn pos es=u at*;have Z:∀op∈u,op.g=i:=fun op O=>by rw [← hu] at O;obtain⟨e,_,rfl⟩:=mem_ofEvents O;rfl
 have a1:∀op∈u,∃e∈es,op.act=MemAct.ofEvent e:=fun op O=>by rw [← hu] at O;obtain⟨e,he,rfl⟩:=mem_ofEvents O;exact⟨e,he,rfl⟩
 have hold:∀{y a},touchAt (t++u) y=some a→touchAt t y=some a∨(Knows (t++u) i y∧∃e∈es,(MemAct.ofEvent e).touch? =some a):=by
  intro y a U;obtain⟨op,O,a9⟩:=touch_of U;rcases getElem?_append_cases O with⟨b0,bU⟩ | ⟨_,bb⟩
  ·left;rw [touchAt_of bU];exact a9
  ·right;obtain⟨e,he,ag⟩:=a1 op bb;exact⟨by have:=knows_own O;rwa [Z op bb] at this,e,he,by rw [← ag];exact a9⟩
 have a2:∀k ρ,k<F.n→late (φ (N0+k))→RelBy F.sA t (N0+k) ρ→RelBy F.sA (t++u) (N0+k) ρ:=by
  intro k ρ K am Y;by_cases e:i=N0+k
  ·have:=bi k K e (e▸am) ρ (e▸Y)
   rwa [e] at this
  ·exact Y.appOther Z e
 refine⟨fun al ap=>?_,fun al ap=>?_,fun y a b a5 hb av K al ap a0=>?_,fun y a b a5 hb av K=>?_,RF h.over fun op O=>?_,QU h.norel fun op O e=>?_,by simp;have:=h.LM;omega,fun k K am=>?_,fun V U=>?_,fun V U=>?_⟩
 ·by_cases e:al=i
  ·subst e;rw [upd_same,← hu,Deaf_own,h.deaf al hi,bd]
  ·rw [upd_ne _ _ e,Deaf_other t (Ne.symm e) u Z];exact h.deaf al ap
 ·rw [Deaf_other t (by omega) u Z];exact h.above al ap
 ·rcases hold a5 with q | ⟨_,e,he,a6⟩
  ·exact(h.plain y a b q hb av K al ap a0).app _
  ·exact absurd K ((a3 e he).1 a b a6 hb av).1
 ·rcases hold a5 with q | ⟨bV,e,he,a6⟩
  ·exact(h.said y a b q hb av K).app _
  ·rw [← ((a3 e he).1 a b a6 hb av).2 K];exact bV
 ·rw [Z op O];rcases be with(q | q) | q
  ·exact .inl q
  ·exact .inr (.inl ⟨q,hi⟩)
  ·obtain⟨e,he,ag⟩:=a1 op O;rw [ag];exact .inr (.inr (q e he))
 ·obtain⟨ev,a7,ag⟩:=a1 op O;rw [ag] at e;exact(a3 ev a7).2 (by
   obtain⟨loc,wr,bW⟩:=ev
   cases loc with
   | mark m=>simp only [MemAct.ofEvent,MemAct.mark.injEq] at e;rw [e]
   | obj r=>cases wr <;> cases bW <;> simp [MemAct.ofEvent] at e
   | _=>simp [MemAct.ofEvent] at e)
 ·by_cases e:i=N0+k
  ·subst e;rw [upd_same] at am;by_cases a8:late (φ (N0+k))
   ·obtain⟨ρ,a,b⟩:=h.rel k K a8;exact⟨ρ,a,a2 k ρ (by omega) a8 b⟩
   ·exact bo k K rfl am a8
  ·rw [upd_ne _ _ (Ne.symm e)] at am;obtain⟨ρ,a,b⟩:=h.rel k K am;exact⟨ρ,a,b.appOther Z e⟩
 ·have old:(φ (N0+F.n)= .ph .DO∨Fh (φ (N0+F.n)))→∃q,Jl F N0 t0 (t++u) q:=by
   intro U;obtain⟨q,bY⟩:=h.acq V U;exact⟨q,bY.app fun k ρ K Y=>a2 k ρ K (a4 V U k K) Y⟩
  by_cases e:i=N0+F.n
  ·subst e;rw [upd_same] at U;rcases bv V rfl U with q | q
   ·exact q
   ·exact old q
  ·rw [upd_ne _ _ (Ne.symm e)] at U;exact old U
 ·by_cases e:i=N0+F.n
  ·subst e;rw [upd_same] at U;rcases bw V rfl U with q | ⟨q,hm⟩
   ·exact q
   ·obtain⟨p,a0⟩:=h.Ks V q;exact⟨p,a0.app (fun k ρ K Y=>a2 k ρ K (a4 V (.inr q) k K) Y) (Qn fun op O _=>by obtain⟨ev,a7,ag⟩:=a1 op O;rw [ag];exact hm ev a7)⟩
  ·rw [upd_ne _ _ (Ne.symm e)] at U;obtain⟨p,a0⟩:=h.Ks V U;exact⟨p,a0.app (fun k ρ K Y=>a2 k ρ K (a4 V (.inr U) k K) Y) (T7 Z e)⟩
end
end Pal
namespace Pal
open Go Go.Conc
open Go.ConcN (upd upd_same upd_ne sumTo sumTo_upd sumTo_upd_out sumTo_congr le_sumTo sumTo_le fork_knows RelBy)
section
variable {F:Fam}{N0 t0 N j:Nat}{c:Bool}{φ:Nat→Nx}{t u:Trace}{v wt sm v' wt' sm':Nat}{cl:Bool}
theorem Qv{x:Nx}(h:Fh x):late x:=by
 cases x with
 | gone d=>trivial
 | ph p=>exact h.elim
theorem OZ{α:Type}(f:Nat→α)(i:Nat):upd f i (f i)=f:=by
 funext a;unfold upd;split
 ·rename_i e;rw [e]
 ·rfl
theorem Cs.M7(K:Cs F N0 N j c φ v wt sm cl)(O:c=true)(h:φ (N0+F.n)= .ph .DO∨Fh (φ (N0+F.n))):∀k,k<F.n→late (φ (N0+k)):=fun k U=>
 Qv (K.Pc O (h.elim (fun e=> .inr (.inr (.inr (.inl e)))) fun e=> .inr (.inr (.inr (.inr e)))) k (by rw [K.cj O];exact U))
theorem VW{m:Mark}(K:∀a,m≠ .read a)(O:∀a,m≠ .write a):(MemAct.ofEvent (Fam.EI m)).touch? =none:=by
 cases m <;> first | rfl | exact absurd rfl (K _) | exact absurd rfl (O _)
theorem Tj(p:Ph){es:Array Event}{nx:Nx}(K:F.act p v wt sm=some ((v',wt',sm'),es,nx)):
  (∀e∈es,EvS F (p= .Hf∨∃j,p= .GI j) e)∧deafBehind (Ey (.ph p)) es=Ey nx∧(∀e∈es,∀B,F.wg<B→(MemAct.ofEvent e).low B):=by
 have a4:∀b w,(MemAct.ofEvent ⟨.cell F.sA,w,b⟩).touch? =some ⟨.cell F.sA,w,if b then .atomic else .plain⟩:=by intro b w;cases b <;> cases w <;> rfl
 have ag:∀(a:Addr) w (T:Prop),a.block=F.wg→EvS F T ⟨.cell a,w,true⟩:=by
  intro a w T hb;refine⟨fun x U=>?_,by simp⟩;have:x=⟨.cell a,w,.atomic⟩:=by cases w <;> (simp [MemAct.ofEvent,MemAct.touch?] at U;exact U.symm)
  subst this;exact⟨⟨F.wg,by simp [DT,hb],.inl rfl⟩,by simp,by simp⟩
 have al:∀(a:Addr) w B,a.block=F.wg→F.wg<B→(MemAct.ofEvent ⟨.cell a,w,true⟩).low B:=by
  intro a w B hb O;cases w <;> simp [MemAct.ofEvent,MemAct.low,Loc.low,hb,O]
 have Z:∀(m:Mark) (T:Prop),(∀a,m≠ .read a)→(∀a,m≠ .write a)→(∀a,m≠ .release a)→EvS F T (Fam.EI m):=by
  intro m T a1 a2 a3;exact⟨fun x U=>(by rw [VW a1 a2] at U;cases U),fun e=>a3 _ (Loc.mark.inj e)⟩
 have am:F.mA.block=F.wg:=rfl;have Y:F.sA.block=F.wg:=rfl;have ER:∀(T:Prop),∀e∈semEvents F.mA,EvS F T e:=by
  intro T e he;simp only [semEvents,List.mem_toArray,List.mem_cons,List.not_mem_nil,or_false] at he;rcases he with rfl | rfl | rfl | rfl
  ·exact Z .disable T (by simp) (by simp) (by simp)
  ·exact ag _ _ _ am
  ·exact ag _ _ _ am
  ·exact Z .enable T (by simp) (by simp) (by simp)
 have a0:∀e∈semEvents F.mA,∀B,F.wg<B→(MemAct.ofEvent e).low B:=by
  intro e he B O;simp only [semEvents,List.mem_toArray,List.mem_cons,List.not_mem_nil,or_false] at he;rcases he with rfl | rfl | rfl | rfl
  ·trivial
  ·exact al _ _ _ am O
  ·exact al _ _ _ am O
  ·trivial
 have ap:∀(T:Prop),∀e∈(#[Fam.Fs F.sA,Fam.IS F.sA]:Array Event),EvS F T e:=by
  intro T e he;simp only [List.mem_toArray,List.mem_cons,List.not_mem_nil,or_false] at he;rcases he with rfl | rfl <;> exact ag _ _ _ Y
 have av:∀e∈(#[Fam.Fs F.sA,Fam.IS F.sA]:Array Event),∀B,F.wg<B→(MemAct.ofEvent e).low B:=by
  intro e he B O;simp only [List.mem_toArray,List.mem_cons,List.not_mem_nil,or_false] at he;rcases he with rfl | rfl <;> exact al _ _ _ Y O
 have one:∀{e:Event} {T:Prop},EvS F T e→∀x∈(#[e]:Array Event),EvS F T x:=by
  intro e T h x U;simp at U;subst U;exact h
 have V:∀{e:Event},(∀B,F.wg<B→(MemAct.ofEvent e).low B)→∀x∈(#[e]:Array Event),∀B,F.wg<B→(MemAct.ofEvent x).low B:=by
  intro e h x U;simp at U;subst U;exact h
 cases p <;> simp only [Fam.act] at K <;> (try (cases K;done))
 ·cases K;exact⟨one (Z _ _ (by simp) (by simp) (by simp)),rfl,V fun B O=>O⟩
 ·cases K;exact⟨one (Z _ _ (by simp) (by simp) (by simp)),rfl,V fun B O=>trivial⟩
 ·split at K
  ·cases K;exact⟨ap _,by split <;> rfl,av⟩
  ·cases K
 ·split at K
  ·cases K;exact⟨one (ag _ _ _ Y),rfl,V fun B O=>al _ _ _ Y O⟩
  ·cases K
 ·split at K
  ·cases K;exact⟨one (ag _ _ _ Y),rfl,V fun B O=>al _ _ _ Y O⟩
  ·cases K
 ·split at K
  ·cases K;exact⟨ER _,rfl,a0⟩
  ·cases K
 ·cases K;exact⟨one (Z _ _ (by simp) (by simp) (by simp)),rfl,V fun B O=>trivial⟩
 ·split at K
  ·cases K;exact⟨one (ag _ _ _ Y),by split <;> rfl,V fun B O=>al _ _ _ Y O⟩
  ·cases K
 ·split at K
  ·split at K
   ·cases K;exact⟨ap _,rfl,av⟩
   ·cases K;exact⟨one (ag _ _ _ Y),rfl,V fun B O=>al _ _ _ Y O⟩
  ·cases K
 ·cases K;refine⟨one ⟨fun x U=>?_,by simp [Fam.EI]⟩,rfl,V fun B O=>O⟩;simp [Fam.EI,MemAct.ofEvent,MemAct.touch?] at U;subst U;exact⟨⟨F.wg,rfl,.inl rfl⟩,by simp,fun _=> .inl rfl⟩
 ·split at K
  ·cases K;exact⟨ER _,rfl,a0⟩
  ·cases K
 ·split at K
  ·cases K;exact⟨one (ag _ _ _ Y),rfl,V fun B O=>al _ _ _ Y O⟩
  ·cases K
 ·cases K;exact⟨one (Z _ _ (by simp) (by simp) (by simp)),rfl,V fun B O=>trivial⟩
 ·cases K;exact⟨one (Z _ _ (by simp) (by simp) (by simp)),rfl,V fun B O=>O⟩
 ·cases K;exact⟨one (Z _ _ (by simp) (by simp) (by simp)),rfl,V fun B O=>trivial⟩
 ·split at K
  ·cases K;exact⟨ap _,by split <;> rfl,av⟩
  ·cases K
 ·cases K;refine⟨one ⟨fun x U=>?_,by simp [Fam.EI]⟩,rfl,V fun B O=>O⟩;simp [Fam.EI,MemAct.ofEvent,MemAct.touch?] at U;subst U;exact⟨⟨F.wg,rfl,.inl rfl⟩,by simp,fun _=> .inr ⟨_,rfl⟩⟩
 ·cases K;exact⟨one (Z _ _ (by simp) (by simp) (by simp)),rfl,V fun B O=>trivial⟩
 all_goals
  cases K;exact⟨by simp,rfl,by simp⟩
theorem WI(p:Ph){es:Array Event}{nx:Nx}(K:F.act p v wt sm=some ((v',wt',sm'),es,nx)){k:Nat}(hw:HW F k (.ph p))(O:late (.ph p)):
  ∀m e,es[m]? =some e→(MemAct.ofEvent e).touch? =none∨((∃ad wr,e=⟨.cell ad,wr,true⟩)∧0<deafBehind (Ey (.ph p)) (es.extract 0 m)):=by
 have two:∀m e,(#[Fam.Fs F.sA,Fam.IS F.sA]:Array Event)[m]? =some e→(∃ad wr,e=⟨.cell ad,wr,true⟩)∧0<deafBehind 1 ((#[Fam.Fs F.sA,Fam.IS F.sA]:Array Event).extract 0 m):=by
  intro m e h
  match m with
  | 0=>simp at h;subst h;exact⟨⟨_,_,rfl⟩,by simp [deafBehind]⟩
  | 1=>simp at h;subst h;exact⟨⟨_,_,rfl⟩,by simp [deafBehind,Fam.Fs]⟩
  | m+2=>simp at h
 cases p <;> simp only [HW] at hw <;> (try exact hw.elim) <;> simp only [late] at O <;> (try exact O.elim) <;> simp only [Fam.act] at K <;> (try (cases K;done))
 ·cases K;intro m e h
  match m with
  | 0=>simp at h;subst h;exact .inl rfl
  | m+1=>simp at h
 ·split at K
  ·cases K;exact fun m e h=> .inr (two m e h)
  ·cases K
 ·split at K
  ·cases K;intro m e h
   match m with
   | 0=>simp at h;subst h;exact .inr ⟨⟨_,_,rfl⟩,by simp [deafBehind,Ey]⟩
   | m+1=>simp at h
  ·cases K
 ·split at K
  ·cases K;intro m e h
   match m with
   | 0=>simp at h;subst h;exact .inr ⟨⟨_,_,rfl⟩,by simp [deafBehind,Ey]⟩
   | m+1=>simp at h
  ·cases K
 ·split at K
  ·cases K;intro m e h
   match m with
   | 0=>simp [semEvents] at h;subst h;exact .inl rfl
   | 1=>simp [semEvents] at h;subst h;exact .inr ⟨⟨_,_,rfl⟩,by simp [deafBehind,Ey,semEvents]⟩
   | 2=>simp [semEvents] at h;subst h;exact .inr ⟨⟨_,_,rfl⟩,by simp [deafBehind,Ey,semEvents]⟩
   | 3=>simp [semEvents] at h;subst h;exact .inl rfl
   | m+4=>simp [semEvents] at h
  ·cases K
theorem D7.act(h:D7 F N0 t0 N j c φ t)(O:Cs F N0 N j c φ v wt sm cl){i:Nat}(hi:i<N){p:Ph}(U:φ i= .ph p){es:Array Event}{nx:Nx}(K:F.act p v wt sm=some ((v',wt',sm'),es,nx))(fn:FuncId)(pos:String):
  D7 F N0 t0 N j c (upd φ i nx) (t++MemOp.ofEvents i fn pos es)∧(∀e∈es,EvS F (i=if c=true then N0+F.n else 0) e)∧(i=0∨N0≤i):=by
 obtain⟨av,a3,_⟩:=Tj p K;have be:=O.size;have a4:=O.jn;have a5:(p= .Hf∨∃j,p= .GI j)→i=if c=true then N0+F.n else 0:=by
  rintro(rfl | ⟨bi,rfl⟩)
  ·rcases O.FJ hi with rfl | ⟨a,b⟩ | ⟨k,Y,rfl⟩ | ⟨V,rfl⟩
   ·obtain⟨q,al,hm⟩:=O.main;rw [U] at al;cases al;exact hm.elim
   ·have:=O.old i a b;rw [U] at this;exact this.elim
   ·have:=O.work k Y;rw [U] at this;exact this.elim
   ·rw [if_pos V]
  ·rcases O.FJ hi with rfl | ⟨a,b⟩ | ⟨k,Y,rfl⟩ | ⟨V,rfl⟩
   ·obtain⟨q,al,hm⟩:=O.main;rw [U] at al;cases al;obtain⟨_,_,rfl⟩:=hm;rfl
   ·have:=O.old i a b;rw [U] at this;exact this.elim
   ·have:=O.work k Y;rw [U] at this;exact this.elim
   ·have:=O.cls V;rw [U] at this;exact this.elim
 have a0:∀e∈es,EvS F (i=if c=true then N0+F.n else 0) e:=fun e he=>⟨fun a am=>let ⟨x,y,z⟩:=(av e he).1 a am;⟨x,y,fun q=>a5 (z q)⟩,(av e he).2⟩
 have a1:i=0∨N0≤i:=by
  rcases O.FJ hi with rfl | ⟨a,b⟩ | ⟨k,Y,rfl⟩ | ⟨V,rfl⟩
  ·exact .inl rfl
  ·have:=O.old i a b;rw [U] at this;exact this.elim
  ·exact .inr (by omega)
  ·exact .inr (by omega)
 refine⟨h.app hi a4 (by rw [U];exact a3) (fun e he=>⟨fun a b am hb bo=>⟨((a0 e he).1 a am).2.1,((a0 e he).1 a am).2.2⟩,(av e he).2⟩) (.inl a1) (fun V Z=>O.M7 V Z) (fun k Y e ap ρ a6=>?_) (fun k Y e ap a2=>?_) (fun V e Z=>?_) (fun V e Z=>?_),a0,a1⟩
 ·subst e;rw [U] at ap;refine a6.appOwn fn pos es fun m e he=>?_;have ag:k<j∨(c=true∧F.n=k):=by
   rcases O.FJ hi with q | ⟨a,b⟩ | ⟨k',bv,q⟩ | ⟨V,q⟩
   ·have:=O.pos;omega
   ·omega
   ·left;omega
   ·omega
  rcases ag with ag | ⟨_,q⟩
  ·have hw:=O.work k ag;rw [U] at hw;rw [h.deaf _ hi,U];exact WI p K hw ap m e he
  ·omega
 ·subst e;rw [U] at a2;have hw:=O.work k Y;rw [U] at hw;have a7:p= .Gv:=by
   cases p <;> simp only [HW] at hw <;> (try exact hw.elim) <;> simp [late] at a2
   ·simp [Fam.act] at K
   ·rfl
   ·simp only [Fam.act] at K;cases K;exact ap.elim
  subst a7;simp only [Fam.act] at K;cases K;exact⟨t.size,h.LM,.new (by rw [h.deaf _ hi,U];rfl) fn pos⟩
 ·subst e;left;have hw:=O.cls V;rw [U] at hw;have a8:p= .GN∧nx= .ph .DO:=by
   rcases Z with rfl | Z
   ·cases p <;> simp only [Hy] at hw <;> (try exact hw.elim) <;> simp only [Fam.act] at K <;> (try (cases K;done))
    ·split at K
     ·split at K <;> cases K
     ·cases K
    ·split at K
     ·split at K <;> cases K
     ·cases K
    ·split at K <;> cases K
    ·split at K <;> cases K
    ·exact⟨rfl,rfl⟩
   ·cases nx with
    | ph q=>exact Z.elim
    | gone d=>
     exfalso;cases p <;> simp only [Hy] at hw <;> (try exact hw.elim) <;> simp only [Fam.act] at K <;> (try (cases K;done))
     ·split at K
      ·split at K <;> cases K
      ·cases K
     ·split at K
      ·split at K <;> cases K
      ·cases K
     ·split at K <;> cases K
     ·split at K <;> cases K
  obtain⟨rfl,rfl⟩:=a8;simp only [Fam.act] at K;cases K;have a9:MemOp.ofEvents (N0+F.n) fn pos #[Fam.EI (.acquire F.sA)]= #[{g:=N0+F.n,fn,pos,act:= .mark (.acquire F.sA)}]:=by rw [ofEvents_eq];simp [Fam.EI,MemAct.ofEvent]
  rw [a9];have bb:(t++ #[({g:=N0+F.n,fn,pos,act:= .mark (.acquire F.sA)}:MemOp)])[t.size]? =some {g:=N0+F.n,fn,pos,act:= .mark (.acquire F.sA)}:=by simp
  refine⟨t.size,by rw [act?_of bb],by simp [Trace.g?],⟨N0+F.n,by simp [Trace.g?],by rw [deaf_old (Nat.le_refl _)];have:=h.deaf _ hi;rw [U] at this;exact this⟩,fun k Y=>?_⟩;have bd:=O.Pc V (.inr (.inr (.inl U)));have ag:k<j:=by rw [O.cj V];exact Y
  obtain⟨ρ,a,b⟩:=h.rel k ag (Qv (bd k ag));exact⟨ρ,a,lt_of_act? b.act,b.appOther (g:=N0+F.n) (by simp) (by omega)⟩
 ·subst e;exfalso;have hw:=O.cls V;rw [U] at hw;cases nx with
  | ph q=>exact Z.elim
  | gone d=>
   cases p <;> simp only [Hy] at hw <;> (try exact hw.elim) <;> simp only [Fam.act] at K <;> (try (cases K;done))
   ·split at K
    ·split at K <;> cases K
    ·cases K
   ·split at K
    ·split at K <;> cases K
    ·cases K
   ·split at K <;> cases K
   ·split at K <;> cases K
theorem D7.Dt(h:D7 F N0 t0 N j c φ t)(a8:Cs F N0 N j c φ v wt sm cl)(hu:∀op∈u,op.act.touch? =none∧∀m,op.act≠ .mark m):D7 F N0 t0 N j c φ (t++u):=by
 have av:∀g,Deaf (t++u) g=Deaf t g:=by
  intro g;obtain⟨l⟩:=u;rw [Deaf_append]
  induction l generalizing t with
  | nil=>rfl
  | cons y l a9=>
   have U:=(hu y (by simp)).2;have a1:deafStep g (Deaf t g) y=Deaf t g:=by
    unfold deafStep;split <;> first | (rename_i e;exact absurd e (U _)) | rfl
   rw [List.foldl_cons,a1];have key:∀(l:List MemOp) (d:Nat),(∀op∈l,∀m,op.act≠ .mark m)→l.foldl (deafStep g) d=d:=by
    intro l
    induction l with
    | nil=>intro d _;rfl
    | cons z l a2=>
     intro d Z;have a3:=Z z (by simp);have a4:deafStep g d z=d:=by
      unfold deafStep;split <;> first | (rename_i e;exact absurd e (a3 _)) | rfl
     rw [List.foldl_cons,a4];exact a2 d fun op K=>Z op (by simp [K])
   exact key l _ fun op K=>(hu op (by simp at K ⊢;exact .inr K)).2
 have hold:∀{y a},touchAt (t++u) y=some a→touchAt t y=some a:=by
  intro y a O;obtain⟨op,K,ag⟩:=touch_of O;rcases getElem?_append_cases K with⟨bb,a5⟩ | ⟨_,a6⟩
  ·rw [touchAt_of a5];exact ag
  ·rw [(hu op a6).1] at ag;cases ag
 have a0:∀g x,t.size≤x→(t++u).g? x=some g→¬(t++u).counts x:=fun g=>Qn fun op K _=>(hu op K).1;have V:∀g ρ,RelBy F.sA t g ρ→RelBy F.sA (t++u) g ρ:=fun g ρ V=>V.app fun x O hg=>a0 g x O hg;refine⟨fun i hi=>by rw [av];exact h.deaf i hi,fun i hi=>by rw [av];exact h.above i hi,fun y a b U hb al Y i hi am=>(h.plain y a b (hold U) hb al Y i hi am).app _,fun y a b U hb al Y=>(h.said y a b (hold U) hb al Y).app _,
  RF h.over fun op K=> .inr (.inr (hu op K).1),QU h.norel fun op K=>(hu op K).2 _,by simp;have:=h.LM;omega,fun k Y Z=>let ⟨ρ,a,b⟩:=h.rel k Y Z;⟨ρ,a,V _ _ b⟩,
  fun ap O=>let ⟨q,a7⟩:=h.acq ap O;⟨q,a7.app fun k ρ _=>V _ ρ⟩,fun ap O=>let ⟨p,am⟩:=h.Ks ap O;⟨p,am.app (fun k ρ _=>V _ ρ) (a0 _)⟩⟩
theorem D7.XS(h:D7 F N0 t0 N j c φ t){U:Nat→Nx}(Z:∀i,i<N→Ey (U i)=Ey (φ i))(ag:∀k,k<j→late (U (N0+k))→late (φ (N0+k)))(V:c=true→U (N0+F.n)=φ (N0+F.n)):D7 F N0 t0 N j c U t:=
 ⟨fun i hi=>by rw [Z i hi];exact h.deaf i hi,h.above,h.plain,h.said,h.over,h.norel,h.LM,fun k Y K=>h.rel k Y (ag k Y K),fun O K=>h.acq O (by rwa [V O] at K),fun O K=>h.Ks O (by rwa [V O] at K)⟩
theorem D7.spawn(h:D7 F N0 t0 N j c φ t)(ag:Cs F N0 N j c φ v wt sm cl)(a4:c=false){Y:Nat→Nx}{ap:Nat}{av:Bool}(a5:∀i,i<N→Ey (Y i)=Ey (φ i))(a6:Ey (Y N)=0)(a7:Ey (φ 0)=0)
  (a8:∀k,k<ap→late (Y (N0+k))→k<j∧late (φ (N0+k))) (al:av=true→N0+F.n=N∧Y (N0+F.n)= .ph .De)
  {x y:MemOp} (K:x.g=0∧x.act= .go N) (a0:y.g=N∧y.act= .start):D7 F N0 t0 (N+1) ap av Y (t++ #[x,y]):=by
 have a1:0<N:=by have:=ag.size;have:=ag.pos;omega
 have hu:∀op∈(#[x,y]:Array MemOp),op.act.touch? =none∧∀m,op.act≠ .mark m:=by
  intro op a2;simp only [List.mem_toArray,List.mem_cons,List.not_mem_nil,or_false] at a2;rcases a2 with rfl | rfl
  ·rw [K.2];exact⟨rfl,by simp⟩
  ·rw [a0.2];exact⟨rfl,by simp⟩
 have O:=h.Dt ag hu;have a3:∀z,Knows t 0 z→Knows (t++ #[x,y]) N z:=fun z U=>fork_knows K a0 (by rw [h.deaf 0 a1];exact a7) (h.above N (Nat.le_refl _)) U;have hold:∀{z a},touchAt (t++ #[x,y]) z=some a→touchAt t z=some a:=by
  intro z a U;obtain⟨op,a9,am⟩:=touch_of U;rcases getElem?_append_cases a9 with⟨bv,bb⟩ | ⟨_,bd⟩
  ·rw [touchAt_of bb];exact am
  ·rw [(hu op bd).1] at am;cases am
 refine⟨fun i hi=>?_,fun i hi=>O.above i (by omega),fun z a b U hb Z V i hi be=>?_,fun z a b U hb Z V=>?_,fun z g hg bi bo=>?_,O.norel,O.LM,fun k V K=>?_,fun e K=>?_,fun e K=>?_⟩
 ·rcases Nat.lt_or_ge i N with q | q
  ·rw [a5 i q];exact O.deaf i q
  ·obtain rfl:i=N:=by omega
   rw [a6];exact O.above i (Nat.le_refl _)
 ·rcases Nat.lt_or_ge i N with q | q
  ·exact O.plain z a b U hb Z V i q be
  ·obtain rfl:i=N:=by omega
   exact a3 z (h.plain z a b (hold U) hb Z V 0 a1 (.inl rfl))
 ·have:=h.said z a b (hold U) hb Z V;rw [a4] at this;simp only [Bool.false_eq_true,if_false] at this;split
  ·rename_i e;rw [(al e).1];exact a3 z this
  ·exact this.app _
 ·rcases O.over z g hg bi bo with q | q
  ·exact .inl q
  ·exact .inr ⟨q.1,by omega⟩
 ·obtain⟨a,b⟩:=a8 k V K;exact O.rel k a b
 ·have:=(al e).2;rw [this] at K;rcases K with q | q
  ·cases q
  ·exact q.elim
 ·have:=(al e).2;rw [this] at K;exact K.elim
end
end Pal
namespace Pal
open Go Go.Conc
open Go.ConcN (upd upd_same upd_ne sumTo sumTo_upd sumTo_upd_out sumTo_congr le_sumTo sumTo_le fork_knows RelBy)
def Dn(N:Nat)(K r:Nat→Rk):Prop:=∃i,i<N∧Rk.sub (K i) (r i)∧∀j,j≠i→K j=r j
theorem Dn.wf:∀N,WellFounded (Dn N)
 | 0=>⟨fun _=>⟨_,fun _ ⟨_,h,_⟩=>by omega⟩⟩
 | N+1=>⟨by
  have key:∀x:Rk,∀r:Nat→Rk,r N=x→Acc (Dn (N+1)) r:=by
   intro x
   induction x using Rk.wf.induction with
   | _ x V=>
    intro r
    induction r using (Dn.wf N).induction with
    | _ r Y=>
     intro e
     refine⟨_,fun K ⟨i,hi,hs,O⟩=>?_⟩
     by_cases U:i=N
     ·subst U;exact V (K i) (by rw [← e];exact hs) K rfl
     ·exact Y K ⟨i,by omega,hs,O⟩ (by rw [O N (Ne.symm U),e])
  exact fun r=>key _ r rfl⟩
def chain:Nat→Rk
 | 0=> .leaf
 | n+1=> .node fun _=>chain n
theorem VG(n:Nat)(w:World):Rk.sub (chain n) (chain (n+1)):=⟨_,w,rfl,rfl⟩
def Mu:=Nat×(Nat×((Nat→Rk)×Nat))
def Mu.lt(a b:Mu):Prop:=a.1<b.1∨(a.1=b.1∧a.2.1=b.2.1∧(Dn b.2.1 a.2.2.1 b.2.2.1∨(a.2.2.1=b.2.2.1∧a.2.2.2<b.2.2.2)))
theorem Mu.wf:WellFounded Mu.lt:=⟨by
 have key:∀(A:Nat) (N:Nat) (r:Nat→Rk) (B:Nat),Acc Mu.lt (A,N,r,B):=by
  intro A
  induction A using Nat.strongRecOn with
  | _ A Z=>
   intro N r
   induction r using (Dn.wf N).induction with
   | _ r ag=>
    intro B
    induction B using Nat.strongRecOn with
    | _ B al=>
     refine⟨_,fun⟨am,ap,U,B'⟩ h=>?_⟩
     rcases h with h | ⟨K,O,h | ⟨V,Y⟩⟩
     ·exact Z am h ap U B'
     ·simp only at K O h;subst K O;exact ag U h B'
     ·simp only at K O V Y;subst K O V;exact al B' Y
 exact fun⟨A,N,r,B⟩=>key A N r B⟩
def wt(n:Nat):Nx→Nat
 | .gone _=>0
 | .ph p=>match p with
  | .CI _=>10 | .Dd=>9 | .Gv=>8 | .H4=>7 | .Hd=>6 | .Gs=>5 | .GH=>4 | .EN=>3
  | .De=>3*n+25 | .FU m=>3*m+20 | .Hc m=>3*m+19 | .HF=>14 | .Hf=>13 | .DC=>12 | .GF=>11 | .FH=>10 | .HC=>9 | .GN=>8 | .DO=>7
  | .FE j=>5*n+60+20*(n - j) | .HB j=>5*n+59+20*(n - j) | .Hg j=>5*n+58+20*(n - j) | .GI j=>5*n+57+20*(n - j) | .Gf j=>5*n+56+20*(n - j) | .Fq j=>5*n+55+20*(n - j)
  | .FV=>5*n+60 | .Cr _ _=>2
theorem Tb{F:Fam}{p:Ph}{v w sm v' w' sm':Nat}{es:Array Event}{nx:Nx}(h:F.act p v w sm=some ((v',w',sm'),es,nx)):wt F.n nx<wt F.n (.ph p):=by
 cases p <;> simp only [Fam.act] at h <;> (try (cases h;done))
 ·cases h;simp [wt]
 ·cases h;simp [wt]
 ·split at h
  ·cases h;split <;> simp [wt]
  ·cases h
 ·split at h
  ·cases h;simp [wt]
  ·cases h
 ·split at h
  ·cases h;simp [wt]
  ·cases h
 ·split at h
  ·cases h;simp [wt]
  ·cases h
 ·cases h;simp [wt]
 ·split at h
  ·cases h;split <;> simp [wt] <;> omega
  ·cases h
 ·split at h
  ·split at h <;> cases h <;> simp [wt] <;> omega
  ·cases h
 ·cases h;simp [wt]
 ·split at h
  ·cases h;simp [wt]
  ·cases h
 ·split at h
  ·cases h;simp [wt]
  ·cases h
 ·cases h;simp [wt]
 ·cases h;simp [wt]
 ·cases h;simp [wt]
 ·split at h
  ·cases h;split <;> simp [wt]
  ·cases h
 ·cases h;simp [wt]
 ·cases h;simp [wt]
 all_goals cases h;simp [wt]
inductive DL (P:Program) (F:Fam) (main:Bool):Nx→Rk→Bool→Gs_
 | walk {p:Ph} {r:Rk} {g:Goroutine} {s:St}:main=Fam.DJ p→(Fam.Eh p=true→s= .quiet)→Jr P main (JQ (Stop P F p)) r g s→DL P F main (.ph p) r true g s
 | again {K:List Nat} {vs:Lv_} {r:Rk} {g:Goroutine} {s:St} {z:Value}:main=true→Stop P F (.Cr K vs) g s→DL P F main (.ph (.Cr K vs)) r true {parked g #[rcase F.ch z] (.recv true) with status:= .running} s
 | FT {K:List Nat} {vs:Lv_} {r:Rk} {g:Goroutine} {s:St} {z:Value}:main=true→Stop P F (.Cr K vs) g s→DL P F main (.ph (.Cr K vs)) r false (parked g #[rcase F.ch z] (.recv true)) s
 | Gb {k:Nat} {r:Rk} {g:Goroutine} {s:St} {v z:Value}:main=false→F.msg k v s.E→s.q=false→Way P false (Stop P F .Dd) (served g undef) s→DL P F main (.ph (.CI k)) r false (parked g #[scase F.ch v z] .send) s
 | blk {r:Rk} {g:Goroutine} {s:St}:main=false→Stop P F .DC g s→DL P F main (.ph .DC) r false {g with status:= .blocked} s
 | gone {q d:Nat} {g:Goroutine}:main=false→QuitsD P q d g→DL P F main (.gone d) (chain q) true g .quiet
section
variable {P:Program}{F:Fam}{main:Bool}
theorem Jr.running{p:Ph}{r:Rk}{g:Goroutine}{s:St}(h:Jr P main (JQ (Stop P F p)) r g s):g.status= .running:=by
 cases r with
 | leaf=>obtain⟨s₀,_,hs⟩:=h;exact hs.law.run
 | node f=>
  rcases h with⟨s₀,_,hs⟩ | ⟨K,_⟩
  ·exact hs.law.run
  ·exact K
theorem Jr.at_{Q:GP}{r:Rk}{g:Goroutine}{s:St}(h:Q g s):Jr P main Q r g s:=by
 cases r with
 | leaf=>exact h
 | node f=>exact .inl h
theorem DL.awake{x:Nx}{r:Rk}{b:Bool}{g:Goroutine}{s:St}(h:DL P F main x r b g s):Go.Conc.awake g:=by
 cases h with
 | walk _ _ K=>exact awake_of (.inl K.running)
 | again _ _=>exact awake_of (.inl rfl)
 | FT _ _=>exact awake_of (.inr (.inl rfl))
 | Gb _ _ _ _=>exact awake_of (.inr (.inl rfl))
 | blk _ _=>exact awake_of (.inr (.inl rfl))
 | gone _ O=>exact awake_of (O.status.elim .inl fun x=> .inr (.inr x))
theorem Ug{g:Goroutine}(h:g.status= .running):{({g with status:= .blocked}:Goroutine) with status:= .running}=g:=by
 obtain⟨a,b,c,d,e⟩:=g;simp only at h;subst h;rfl
theorem DL.woken{x:Nx}{r:Rk}{b:Bool}{o:Goroutine}{s:St}(h:DL P F main x r b o s){g g':Goroutine}{w':World}{cl:Bool}{k:Nat}(Y:F.ChanAt w' cl k)(a1:cl=true→∀k,x≠ .ph (.CI k)):
  ∃Z,DL P F main x r Z (Go.Conc.woken P g g' w' o) s∧(b=true→Z=true)∧(mayWake P g=true→g'.status= .running→(x= .ph .DC∨cl=true)→Z=true):=by
 have hw:∀(o:Goroutine),mayWake P g=true→g'.status= .running→Go.Conc.woken P g g' w' o=o.again w':=by
  intro o K U;unfold Go.Conc.woken;rw [if_pos (by simp [K,U])]
 have V:∀(o:Goroutine),Go.Conc.woken P g g' w' o=o.again w'∨Go.Conc.woken P g g' w' o=o:=by
  intro o;unfold Go.Conc.woken;split
  ·exact .inl rfl
  ·exact .inr rfl
 cases h with
 | walk K U ag=>exact⟨true,by rw [woken_run ag.running];exact .walk K U ag,fun _=>rfl,fun _ _ _=>rfl⟩
 | again K hs=>exact⟨true,by rw [woken_run rfl];exact .again K hs,fun _=>rfl,fun _ _ _=>rfl⟩
 | @FT a3 vs _ go _ z K hs=>
  cases cl with
  | false=>
   have:=again_recv_open (g:=go) (z:=z) (sh:= .recv true) (w:=w') Y;rcases V (parked go #[rcase F.ch z] (.recv true)) with e | e
   ·exact⟨false,by rw [e,this];exact .FT K hs,fun e=>e,fun _ _ h=>by simp at h⟩
   ·exact⟨false,by rw [e];exact .FT K hs,fun e=>e,fun _ _ h=>by simp at h⟩
  | true=>
   have:=again_recv_closed (g:=go) (z:=z) (sh:= .recv true) (w:=w') Y;by_cases O:mayWake P g=true∧g'.status= .running
   ·exact⟨true,by rw [hw _ O.1 O.2,this];exact .again K hs,fun e=>rfl,fun _ _ _=>rfl⟩
   ·rcases V (parked go #[rcase F.ch z] (.recv true)) with e | e
    ·exact⟨true,by rw [e,this];exact .again K hs,fun _=>rfl,fun a b=>absurd ⟨a,b⟩ O⟩
    ·exact⟨false,by rw [e];exact .FT K hs,fun e=>e,fun a b=>absurd ⟨a,b⟩ O⟩
 | @Gb k' _ go _ v z K U al am=>
  cases cl with
  | true=>exact absurd rfl (a1 rfl k')
  | false=>
   have:=again_send_open (g:=go) (v:=v) (z:=z) (sh:= .send) (w:=w') Y;rcases V (parked go #[scase F.ch v z] .send) with e | e
   ·exact⟨false,by rw [e,this];exact .Gb K U al am,fun e=>e,fun _ _ h=>by simp at h⟩
   ·exact⟨false,by rw [e];exact .Gb K U al am,fun e=>e,fun _ _ h=>by simp at h⟩
 | @blk _ go _ K hs=>
  have ap:({go with status:= .blocked}:Goroutine).again w'=go:=by
   have:=hs.law.offers;have a2:({go with status:= .blocked}:Goroutine).again w'={({go with status:= .blocked}:Goroutine) with status:= .running}:=by simp [Goroutine.again,this]
   rw [a2];exact Ug hs.law.run
  have av:DL P F main (.ph .DC) r true go s:= .walk (p:= .DC) (by rw [K];rfl) (by simp [Fam.Eh]) (Jr.at_ ⟨s,.refl _,hs⟩);by_cases O:mayWake P g=true∧g'.status= .running
  ·exact⟨true,by rw [hw _ O.1 O.2,ap];exact av,fun _=>rfl,fun _ _ _=>rfl⟩
  ·rcases V ({go with status:= .blocked}:Goroutine) with e | e
   ·exact⟨true,by rw [e,ap];exact av,fun _=>rfl,fun a b=>absurd ⟨a,b⟩ O⟩
   ·exact⟨false,by rw [e];exact .blk K hs,fun e=>e,fun a b=>absurd ⟨a,b⟩ O⟩
 | gone K a0=>exact⟨true,by rw [woken_quitsD a0];exact .gone K a0,fun _=>rfl,fun _ _ _=>rfl⟩
end
structure Base where
 N0:Nat
 t0:Nat
 E0:LH
 w0:World
structure Inv (P:Program) (F:Fam) (B:Base) (gs:Array Goroutine) (w:World) (t:Trace) (φ:Nat→Nx) (r:Nat→Rk) (bt:Nat→Bool) (S:Nat→St) (Sh:Nat→Prop) (j:Nat) (c:Bool) (v wt sm:Nat) (cl:Bool) (k:Nat):Prop where
 BC:Cs F B.N0 gs.size j c φ v wt sm cl
 EM:D7 F B.N0 B.t0 gs.size j c φ t
 EP:∀i g,gs[i]? =some g→DL P F (i==0) (φ i) (r i) (bt i) g (S i)
 C4:Ct t w gs.size S Sh
 Ia:Sh F.wg
 Gx:Sh F.ch
 ne:F.wg≠F.ch
 wg:F.WG w v wt sm
 Hi:F.ChanAt w cl k
 Oh:bt 0=false→cl=false∧∀i k',i<gs.size→φ i= .ph (.CI k')→bt i=true
 blk:c=true→bt (B.N0+F.n)=false→sm=0
 le:Le B.E0 (S 0).E
 tape:w.tape=B.w0.tape
 os:w.os=B.w0.os
 output:w.output=B.w0.output
def bit(b:Bool):Nat:=if b then 1 else 0
def mu(F:Fam)(N:Nat)(φ:Nat→Nx)(r:Nat→Rk)(bt:Nat→Bool):Mu:=(sumTo N fun i=>wt F.n (φ i),N,r,sumTo N fun i=>bit (bt i))
section
variable {P:Program}{F:Fam}{B:Base}{gs:Array Goroutine}{w w':World}{t:Trace}{φ:Nat→Nx}{r:Nat→Rk}{bt:Nat→Bool}{S:Nat→St}{Sh:Nat→Prop}{j:Nat}{c:Bool}{v wt' sm v₁ wt₁ sm₁:Nat}{cl cl₁:Bool}{k k₁:Nat}
theorem Inv.at_(h:Inv P F B gs w t φ r bt S Sh j c v wt' sm cl k)(d:Nat):Inv P F B gs (w.at d) t φ r bt S Sh j c v wt' sm cl k:=
 have K:Ct t (w.at d) gs.size S Sh:=by
  have:=h.C4.mute (u:= #[]) (w':=w.at d) (g:=0) (by simp) (by simp) (by simp) rfl;simpa using this
 {h with C4:=K}
theorem Inv.go(h:Inv P F B gs w t φ r bt S Sh j c v wt' sm cl k){i:Nat}{g g':Goroutine}{es:Array Event}{x:Nx}{ρ:Rk}{s':St}(hi:gs[i]? =some g)
  (a7:Cs F B.N0 gs.size j c (upd φ i x) v₁ wt₁ sm₁ cl₁)
  (a8:D7 F B.N0 B.t0 gs.size j c (upd φ i x) (t++MemOp.ofEvents i g.frame.fn g.frame.place es))
  (a9:DL P F (i==0) x ρ true g' s')
  (hC:Ct (t++MemOp.ofEvents i g.frame.fn g.frame.place es) w' gs.size (upd S i s') Sh)
  (bb:F.WG w' v₁ wt₁ sm₁) (a1:F.ChanAt w' cl₁ k₁)
  (bd:cl₁=cl∨(mayWake P g=true∧g'.status= .running))
  (be:cl₁=true→∀a2 k',a2<gs.size→φ a2≠ .ph (.CI k'))
  (bi:sm₁=sm∨sm₁=0∨(mayWake P g=true∧g'.status= .running∧φ (B.N0+F.n)= .ph .DC)∨(c=true→bt (B.N0+F.n)=true))
  (bo:i=0→Le (S 0).E s'.E) (bv:w'.tape=w.tape) (bw:w'.os=w.os) (bU:w'.output=w.output) (b5:∀k',x= .ph (.CI k')→φ i= .ph (.CI k')):
  ∃O,Inv P F B ((gs.map (woken P g g' w')).setIfInBounds i g') w' (t++MemOp.ofEvents i g.frame.fn g.frame.place es) (upd φ i x) (upd r i ρ) O (upd S i s') Sh j c v₁ wt₁ sm₁ cl₁ k₁:=by
 have bV:i<gs.size:=(Array.getElem?_eq_some_iff.1 hi).1;have ag:((gs.map (woken P g g' w')).setIfInBounds i g').size=gs.size:=by simp
 have a3:∀a,∃Z,(a=i→Z=true)∧(a≠i→∀o,gs[a]? =some o→DL P F (a==0) (φ a) (r a) Z (woken P g g' w' o) (S a)∧(bt a=true→Z=true)∧(mayWake P g=true→g'.status= .running→(φ a= .ph .DC∨cl₁=true)→Z=true)):=by
  intro a;by_cases e:a=i
  ·exact⟨true,fun _=>rfl,fun q=>absurd e q⟩
  ·cases K:gs[a]? with
   | none=>exact⟨true,fun _=>rfl,fun _ o q=>by cases q⟩
   | some o=>
    have V:a<gs.size:=(Array.getElem?_eq_some_iff.1 K).1;obtain⟨Z,bW,bY,bZ⟩:=(h.EP a o K).woken (g:=g) (g':=g') a1 fun q k'=>be q a k' V;exact⟨Z,fun q=>absurd q e,fun _ o' q=>by cases q;exact⟨bW,bY,bZ⟩⟩
 let O:Nat→Bool:=fun a=>Classical.choose (a3 a);have hb:∀a,(a=i→O a=true)∧(a≠i→∀o,gs[a]? =some o→DL P F (a==0) (φ a) (r a) (O a) (woken P g g' w' o) (S a)∧(bt a=true→O a=true)∧(mayWake P g=true→g'.status= .running→(φ a= .ph .DC∨cl₁=true)→O a=true)):=fun a=>Classical.choose_spec (a3 a);have al:∀a,a<gs.size→bt a=true→O a=true:=by
  intro a V b0;by_cases e:a=i
  ·exact(hb a).1 e
  ·exact((hb a).2 e _ (Array.getElem?_eq_getElem V)).2.1 b0
 refine⟨O,by rw [ag];exact a7,by rw [ag];exact a8,fun a o K=>?_,by rw [ag];exact hC,h.Ia,h.Gx,h.ne,bb,a1,fun U=>⟨?_,fun a k' V a4=>?_⟩,fun am U=>?_,fun b o K=>?_,bv.trans h.tape,bw.trans h.os,bU.trans h.output⟩
 ·by_cases e:a=i
  ·subst e;rw [Array.getElem?_setIfInBounds_self_of_lt (by simpa using bV)] at K;obtain rfl:=Option.some.inj K;rw [upd_same,upd_same,upd_same,(hb a).1 rfl];exact a9
  ·rw [Array.getElem?_setIfInBounds_ne (Ne.symm e),Array.getElem?_map] at K;obtain⟨o',b1,rfl⟩:=Option.map_eq_some_iff.1 K;rw [upd_ne _ _ e,upd_ne _ _ e,upd_ne _ _ e];exact((hb a).2 e o' b1).1
 ·have ap:0<gs.size:=by omega
  have b2:0≠i:=fun e=>by have:=(hb 0).1 e;rw [U] at this;cases this
  have Y:bt 0=false:=by
   cases q:bt 0 with
   | false=>rfl
   | true=>have:=al 0 ap q;rw [U] at this;cases this
  cases a5:cl₁ with
  | false=>rfl
  | true=>
   rcases bd with e | ⟨av,a0⟩
   ·have:=(h.Oh Y).1;rw [← e,a5] at this;cases this
   ·have:=((hb 0).2 b2 _ (Array.getElem?_eq_getElem ap)).2.2 av a0 (.inr a5);rw [U] at this;cases this
 ·rw [ag] at V;have ap:0<gs.size:=by omega
  have Y:bt 0=false:=by
   cases q:bt 0 with
   | false=>rfl
   | true=>have:=al 0 ap q;rw [U] at this;cases this
  by_cases e:a=i
  ·exact(hb a).1 e
  ·rw [upd_ne _ _ e] at a4;exact al a V ((h.Oh Y).2 a k' V a4)
 ·have a6:B.N0+F.n<gs.size:=by have:=h.BC.size;have:=h.BC.cj am;rw [am] at*;simp at*;omega
  have b3:B.N0+F.n≠i:=fun e=>by have:=(hb _).1 e;rw [U] at this;cases this
  have Y:bt (B.N0+F.n)=false:=by
   cases q:bt (B.N0+F.n) with
   | false=>rfl
   | true=>have:=al _ a6 q;rw [U] at this;cases this
  rcases bi with e | e | ⟨av,a0,b4⟩ | e
  ·rw [e];exact h.blk am Y
  ·exact e
  ·have:=((hb _).2 b3 _ (Array.getElem?_eq_getElem a6)).2.2 av a0 (.inl b4);rw [U] at this;cases this
  ·rw [e am] at Y;cases Y
 ·by_cases e:i=0
  ·subst e;rw [upd_same];exact bo rfl b o (h.le b o K)
  ·rw [upd_ne _ _ (Ne.symm e)];exact h.le b o K
end
end Pal
namespace Pal
open Go Go.Conc
open Go.ConcN (upd upd_same upd_ne sumTo sumTo_upd sumTo_upd_out sumTo_congr le_sumTo sumTo_le fork_knows RelBy)
def Over(P:Program)(F:Fam)(B:Base)(gs:Array Goroutine)(w:World)(t:Trace):Prop:=
 ∃q Sh g s,Gy P gs w t q Sh g s∧F.fin g s∧Le B.E0 s.E∧w.tape=B.w0.tape∧w.os=B.w0.os∧w.output=B.w0.output
def Hx(P:Program)(F:Fam)(B:Base)(gs:Array Goroutine)(w:World)(sl:Option (Nat×Nat))(t:Trace)(i:Nat)(K:Mu):Prop:=
 ∃gs' w' O u,runT P (crowd gs w sl) i=(.next (crowd gs' w' O),u)∧
  ((∃φ r bt S Sh j c v wt' sm cl k,Inv P F B gs' w' (t++u) φ r bt S Sh j c v wt' sm cl k∧Mu.lt (mu F gs'.size φ r bt) K)∨Over P F B gs' w' (t++u))
section
variable {P:Program}{F:Fam}{B:Base}{gs:Array Goroutine}{w w':World}{sl:Option (Nat×Nat)}{t:Trace}{φ:Nat→Nx}{r:Nat→Rk}{bt:Nat→Bool}{S:Nat→St}{Sh:Nat→Prop}{j:Nat}{c:Bool}{v wt' sm v₁ wt₁ sm₁:Nat}{cl cl₁:Bool}{k k₁:Nat}
theorem TQ{N:Nat}{φ K:Nat→Nx}{r U:Nat→Rk}{b V:Nat→Bool}{O:Nat}(h:(sumTo O fun i=>wt F.n (K i))<sumTo N fun i=>wt F.n (φ i)):Mu.lt (mu F O K U V) (mu F N φ r b):= .inl h
theorem Zd{N i:Nat}{x:Nx}{ρ:Rk}{K:Nat→Bool}(hi:i<N)(h:wt F.n x<wt F.n (φ i)∨(wt F.n x=wt F.n (φ i)∧Rk.sub ρ (r i))):Mu.lt (mu F N (upd φ i x) (upd r i ρ) K) (mu F N φ r bt):=by
 have:=sumTo_upd φ x (wt F.n) hi;rcases h with h | ⟨V,O⟩
 ·exact .inl (by show(sumTo N fun a=>wt F.n (upd φ i x a))<sumTo N fun a=>wt F.n (φ a);omega)
 ·exact .inr ⟨by show(sumTo N fun a=>wt F.n (upd φ i x a))=sumTo N fun a=>wt F.n (φ a);omega,rfl,.inl ⟨i,hi,by show Rk.sub (upd r i ρ i) _;rw [upd_same];exact O,fun a U=>upd_ne _ _ U⟩⟩
theorem Inv.go'(h:Inv P F B gs w t φ r bt S Sh j c v wt' sm cl k){i:Nat}{g g':Goroutine}{es:Array Event}{x:Nx}{ρ:Rk}{s':St}(hi:gs[i]? =some g)(O:stepG P (i==0) g w= .go g' w' es)
  (U:Cs F B.N0 gs.size j c (upd φ i x) v₁ wt₁ sm₁ cl₁)
  (V:D7 F B.N0 B.t0 gs.size j c (upd φ i x) (t++MemOp.ofEvents i g.frame.fn g.frame.place es))
  (Y:DL P F (i==0) x ρ true g' s')
  (hC:Ct (t++MemOp.ofEvents i g.frame.fn g.frame.place es) w' gs.size (upd S i s') Sh)
  (Z:F.WG w' v₁ wt₁ sm₁) (ag:F.ChanAt w' cl₁ k₁)
  (al:cl₁=cl∨(mayWake P g=true∧g'.status= .running))
  (am:cl₁=true→∀K k',K<gs.size→φ K≠ .ph (.CI k'))
  (ap:sm₁=sm∨sm₁=0∨(mayWake P g=true∧g'.status= .running∧φ (B.N0+F.n)= .ph .DC)∨(c=true→bt (B.N0+F.n)=true))
  (av:i=0→Le (S 0).E s'.E) (a0:w'.tape=w.tape) (a1:w'.os=w.os) (a2:w'.output=w.output) (a3:∀k',x= .ph (.CI k')→φ i= .ph (.CI k'))
  (hm:wt F.n x<wt F.n (φ i)∨(wt F.n x=wt F.n (φ i)∧Rk.sub ρ (r i))):Hx P F B gs w sl t i (mu F gs.size φ r bt):=by
 obtain⟨a6,a4⟩:=h.go hi U V Y hC Z ag al am ap av a0 a1 a2 a3;refine⟨_,_,_,_,runT_crowd_go hi O,.inl ⟨_,_,_,_,_,_,_,_,_,_,_,_,a4,?_⟩⟩;have a5:((gs.map (woken P g g' w')).setIfInBounds i g').size=gs.size:=by simp
 rw [a5];exact Zd (Array.getElem?_eq_some_iff.1 hi).1 hm
theorem Inv.noSend(h:Inv P F B gs w t φ r bt S Sh j c v wt' sm cl k)(Y:cl=true):∀K k',K<gs.size→φ K≠ .ph (.CI k'):=by
 intro K k' U e;have hm:=h.BC.mode;subst Y;have Z:v=0:=by
  split at hm
  ·cases V:φ (B.N0+F.n) with
   | gone d=>rw [V] at hm;exact hm.2.2.2.2.1
   | ph p=>rw [V] at hm;cases p <;> simp [Db] at hm
  ·simp [Db] at hm
 have ag:=h.BC.cnt;have:=le_sumTo (f:=fun a=>cU (φ a)) U;simp only [e,cU] at this;have al:(sumTo gs.size fun a=>cU (φ a))=0:=by omega
 have O:cU (φ K)≤sumTo gs.size fun a=>cU (φ a):=le_sumTo (f:=fun a=>cU (φ a)) U;rw [e] at O;simp only [cU] at O;have am:1≤sumTo gs.size fun a=>cU (φ a):=O;omega
theorem D7.XY{F:Fam}{N0 t0 N j:Nat}{c:Bool}{φ:Nat→Nx}{t:Trace}(h:D7 F N0 t0 N j c φ t)(K:Cs F N0 N j c φ v wt' sm cl){i:Nat}(hi:i<N){fn:FuncId}{pos:String}{es:Array Event}{p:Ph}(V:φ i= .ph p)
  (Y:∀e∈es,(∀a b,(MemAct.ofEvent e).touch? =some a→DT a.loc=some b→b≠F.wg∧b≠F.ch)∧e.loc≠ .mark (.release F.sA)∧e.loc≠ .mark .disable∧e.loc≠ .mark .enable)
  (al:Fam.Eh p=true→es= #[]):D7 F N0 t0 N j c φ (t++MemOp.ofEvents i fn pos es):=by
 have am:i=0∨N0≤i:=by
  rcases K.FJ hi with rfl | ⟨a,b⟩ | ⟨k,ag,rfl⟩ | ⟨U,rfl⟩
  ·exact .inl rfl
  ·have:=K.old i a b;rw [V] at this;exact this.elim
  ·exact .inr (by omega)
  ·exact .inr (by omega)
 have:=h.app (x:=φ i) (fn:=fn) (pos:=pos) (es:=es) hi K.jn (deafBehind_still (fun e he=>⟨(Y e he).2.2.1,(Y e he).2.2.2⟩) _) (fun e he=>⟨fun a b ap hb av=>absurd av (by have:=(Y e he).1 a b ap hb;rintro(q | q);exact this.1 q;exact this.2 q),(Y e he).2.1⟩) (.inl am)
  (fun U O=>K.M7 U O) (fun k ag e Z ρ a0=>?_) (fun k ag e Z a1=>absurd Z a1) (fun U e O=> .inr O) (fun U e O=>by rw [V] at O;exact O.elim)
 ·rwa [OZ] at this
 ·
  have a3:=K.size;have a4:=K.jn;have a2:k<j:=by
   rcases K.FJ hi with q | ⟨a,b⟩ | ⟨k',a5,q⟩ | ⟨U,q⟩
   ·have:=K.pos;omega
   ·omega
   ·omega
   ·omega
  have hw:=K.work k a2;rw [← e,V] at hw;rw [V] at Z;have:es= #[]:=al (by cases p <;> simp only [HW] at hw <;> (try exact hw.elim) <;> first | rfl | exact Z.elim)
  subst this;have:MemOp.ofEvents i fn pos #[]= #[]:=by rw [ofEvents_eq];simp
  rw [this];simpa using a0
theorem Inv.own(h:Inv P F B gs w t φ r bt S Sh j c v wt' sm cl k){i:Nat}{g g':Goroutine}{es:Array Event}{p:Ph}{ρ:Rk}{s':St}(hi:gs[i]? =some g)(O:φ i= .ph p)(ap:(i==0)=Fam.DJ p)(ag:Fam.Eh p=true→S i= .quiet)
  (av:stepG P (i==0) g w= .go g' w' es) (a0:Jr P (i==0) (JQ (Stop P F p)) ρ g' s') (a1:Fits s' w') (K:Fr (S i) w s' w') (V:∀e∈es,Ev (S i) w w' e) (al:S i= .quiet→s'= .quiet∧w'=w∧es= #[]) (a2:Rk.sub ρ (r i)):
  Hx P F B gs w sl t i (mu F gs.size φ r bt):=by
 have U:i<gs.size:=(Array.getElem?_eq_some_iff.1 hi).1;have am:upd φ i (.ph p)=φ:=by rw [← O];exact OZ _ _
 have Y:=h.C4.sh i U F.wg h.Ia;have Z:=h.C4.sh i U F.ch h.Gx;have a3:=h.C4.FC F.wg h.Ia;have a4:=h.C4.FC F.ch h.Gx;have a5:∀b wr,F6 (S i) w w' b wr→b≠F.wg∧b≠F.ch:=by
  intro b wr ht;constructor
  ·rintro rfl;rcases ht.2 with q | q | ⟨q,_⟩
   ·exact q Y.1
   ·omega
   ·exact q Y.2
  ·rintro rfl;rcases ht.2 with q | q | ⟨q,_⟩
   ·exact q Z.1
   ·omega
   ·exact q Z.2
 refine h.go' hi av (k₁:=k) (x:= .ph p) (ρ:=ρ) (s':=s') (by rw [am];exact h.BC) (by
   rw [am]
   refine h.EM.XY h.BC U O (fun e he=>⟨fun a b a6 hb=>a5 b a.write (MH (V e he) a6 hb),?_,?_,?_⟩) fun q=>(al (ag q)).2.2
   all_goals
    intro a7
    have:=V e he
    unfold Ev at this
    rw [a7] at this
    exact this)
  (.walk ap (fun q=>(al (ag q)).1) a0) (h.C4.own U a1 K V) ?_ ?_ (.inl rfl) (fun q=>h.noSend q) (.inl rfl) (fun e=>by subst e;exact fun b o a8=>K.ext b o a8) K.tape K.os K.output (fun k' e=>by rw [O];exact e) (.inr ⟨by rw [O],a2⟩)
 ·show w'.heap[F.wg]? =_;rw [K.keep _ a3 Y.1];exact h.wg
 ·show w'.heap[F.ch]? =_;rw [K.keep _ a4 Z.1];exact h.Hi
theorem Inv.slip(h:Inv P F B gs w t φ r bt S Sh j c v wt' sm cl k){i:Nat}{g:Goroutine}(hi:gs[i]? =some g)(U:g.status= .running){d q:Nat}(K:φ i= .gone d)(V:r i=chain q)(Y:(i==0)=false)(al:QuitsD P q d g)(a1:S i= .quiet):
  Hx P F B gs w sl t i (mu F gs.size φ r bt):=by
 have am:i<gs.size:=(Array.getElem?_eq_some_iff.1 hi).1;cases q with
 | zero=>rw [al.1] at U;cases U
 | succ q=>
  rcases al with⟨a2,_⟩ | ⟨_,g',es,hm,a3,a4⟩
  ·rw [a2] at U;cases U
  have a5:∀op∈MemOp.ofEvents i g.frame.fn g.frame.place es,op.act.touch? =none:=fun op O=>by obtain⟨e,he,rfl⟩:=mem_ofEvents O;exact touch_mute (hm e he)
  have a6:∀e∈es,e.loc≠ .mark (.release F.sA):=by
   intro e he ap;have:=hm e he;obtain⟨loc,wr,bb⟩:=e;simp only at ap;subst ap;simp [Event.mute] at this
  refine h.go' hi (by rw [Y];exact a3 w) (x:= .gone (deafBehind d es)) (ρ:=chain q) (s':= .quiet) (h.BC.leave am K) ?_ (.gone Y a4) ?_ h.wg h.Hi (.inl rfl) (fun q=>h.noSend q) (.inl rfl) (fun e=>by subst e;simp at Y) rfl rfl rfl (by simp) (.inr ⟨by rw [K];rfl,by rw [V];exact VG q w⟩)
  ·refine h.EM.app am h.BC.jn (by rw [K];rfl) (fun e he=>⟨fun a b av=>(by rw [touch_mute (hm e he)] at av;cases av),a6 e he⟩) (.inr fun e he=>touch_mute (hm e he)) (fun Z ag=>h.BC.M7 Z ag) (fun k a7 e a8 ρ V=>?_) (fun k a7 e a8 a0=>by rw [K] at a0;exact absurd trivial a0) (fun Z e ag=> .inr (.inr (by rw [K];trivial))) (fun Z e ag=> .inr ⟨by rw [K];trivial,fun e he=>touch_mute (hm e he)⟩);exact V.appOwn _ _ es fun m e he=> .inl (touch_mute (hm e (Array.mem_of_getElem? he)))
  ·have a9:upd S i .quiet=S:=by rw [← a1];exact OZ _ _
   rw [a9];exact h.C4.mute (g:=i) (fun op O=>by obtain⟨e,_,rfl⟩:=mem_ofEvents O;rfl) a5 (fun op O=>by obtain⟨e,he,rfl⟩:=mem_ofEvents O;exact low_mute (hm e he) _) rfl
theorem Cs.enabled{N0 N:Nat}(h:Cs F N0 N j c φ v wt' sm cl){i:Nat}(hi:i<N){p:Ph}(K:φ i= .ph p)(a3:∀k,p≠ .CI k)(a4:∀k,p≠ .Fq k)(a5:p≠ .FV)(a6:∀a7 vs,p≠ .Cr a7 vs)(a8:p≠ .DO)(a9:p= .DC→sm=1):
  ∃v' w' sm' es nx,F.act p v wt' sm=some ((v',w',sm'),es,nx):=by
 have hm:=h.mode;have bi:=h.TX;have bo:=h.IN;have O:=h.cnt;have Z:cU (φ i)≤sumTo N fun a=>cU (φ a):=le_sumTo (f:=fun a=>cU (φ a)) hi;have ag:cL (φ i)≤sumTo N fun a=>cL (φ a):=le_sumTo (f:=fun a=>cL (φ a)) hi;have av:cS (φ i)≤sumTo N fun a=>cS (φ a):=le_sumTo (f:=fun a=>cS (φ a)) hi;rw [K] at Z ag av;have bb:wt'≤1:=by
  generalize (if c=true then φ (N0+F.n) else Nx.ph .De)=y at hm
  cases y with
  | gone d=>simp only [Db] at hm;omega
  | ph q=>cases q <;> simp only [Db] at hm <;> (try exact hm.elim) <;> omega
 have al:1≤(sumTo N fun a=>cL (φ a))+(sumTo N fun a=>cS (φ a))→v=0∧sm=0∧wt'=sumTo N fun a=>cL (φ a):=by
  intro hh;generalize (if c=true then φ (N0+F.n) else Nx.ph .De)=y at hm
  cases y with
  | gone d=>simp only [Db] at hm;omega
  | ph q=>cases q <;> simp only [Db] at hm <;> (try exact hm.elim) <;> omega
 have am:∀x,φ i= .ph x→Hy (.ph x)→c=true∧(if c=true then φ (N0+F.n) else Nx.ph .De)= .ph x:=by
  intro x V a0;rcases h.FJ hi with rfl | ⟨a,b⟩ | ⟨k,ap,rfl⟩ | ⟨O,rfl⟩
  ·obtain⟨q,U,Y⟩:=h.main;rw [V] at U;cases U;cases x <;> simp [Hu] at Y <;> exact a0.elim
  ·have:=h.old i a b;rw [V] at this;exact this.elim
  ·have:=h.work k ap;rw [V] at this;cases x <;> simp [HW] at this <;> exact a0.elim
  ·exact⟨O,by rw [if_pos O];exact V⟩
 cases p <;> simp only [Fam.act]
 ·exact absurd rfl (a3 _)
 ·exact⟨_,_,_,_,_,rfl⟩
 ·exact⟨_,_,_,_,_,rfl⟩
 ·simp only [cU] at Z;have:1≤v:=by
   have bv:1≤sumTo N fun a=>cU (φ a):=Z;omega
  rw [if_pos ⟨this,by omega,bb⟩];exact⟨_,_,_,_,_,rfl⟩
 ·have bd:1≤sumTo N fun a=>cL (φ a):=ag;have:=al (by omega);rw [if_pos ⟨this.1,by omega⟩];exact⟨_,_,_,_,_,rfl⟩
 ·have bd:1≤sumTo N fun a=>cL (φ a):=ag;have:=al (by omega);rw [if_pos ⟨this.1,by omega⟩];exact⟨_,_,_,_,_,rfl⟩
 ·have bw:1≤sumTo N fun a=>cS (φ a):=av;have:=al (by omega);rw [if_pos this.2.1];exact⟨_,_,_,_,_,rfl⟩
 ·exact⟨_,_,_,_,_,rfl⟩
 ·obtain⟨a1,e⟩:=am _ K trivial;rw [e] at hm;rw [if_pos ⟨hm.2.2.2.2.2,hm.2.2.2.1⟩];exact⟨_,_,_,_,_,rfl⟩
 ·obtain⟨a1,e⟩:=am _ K trivial;rw [e] at hm;rw [if_pos ⟨hm.2.2.2.2.2.1,hm.2.2.2.2.2.2,hm.2.2.2.1⟩];split <;> exact⟨_,_,_,_,_,rfl⟩
 ·exact⟨_,_,_,_,_,rfl⟩
 ·rw [if_pos (a9 rfl)];exact⟨_,_,_,_,_,rfl⟩
 ·obtain⟨a1,e⟩:=am _ K trivial;rw [e] at hm;rw [if_pos ⟨hm.2.2.2.2.1,hm.2.2.2.1⟩];exact⟨_,_,_,_,_,rfl⟩
 ·exact⟨_,_,_,_,_,rfl⟩
 ·exact⟨_,_,_,_,_,rfl⟩
 ·exact absurd rfl a8
 ·exact⟨_,_,_,_,_,rfl⟩
 ·have be:c=false∧v≤j∧j<F.n:=by
   rcases h.FJ hi with rfl | ⟨a,b⟩ | ⟨k,ap,rfl⟩ | ⟨O,rfl⟩
   ·obtain⟨q,U,Y⟩:=h.main;rw [K] at U;cases U;have a2:=h.Ic;rw [K] at a2;exact⟨Y.2.2,by simpa [pend] using a2,Y.2.1⟩
   ·have:=h.old i a b;rw [K] at this;exact this.elim
   ·have:=h.work k ap;rw [K] at this;exact this.elim
   ·have:=h.cls O;rw [K] at this;exact this.elim
  rw [be.1] at hm;simp only [Bool.false_eq_true,if_false,Db] at hm;rw [if_pos ⟨by omega,hm.2.2.2.1⟩];exact⟨_,_,_,_,_,rfl⟩
 ·exact⟨_,_,_,_,_,rfl⟩
 ·exact⟨_,_,_,_,_,rfl⟩
 ·exact absurd rfl (a4 _)
 ·exact absurd rfl a5
 ·exact absurd rfl (a6 _ _)
 all_goals exact⟨_,_,_,_,_,rfl⟩
end
end Pal
namespace Pal
open Go Go.Conc
open Go.ConcN (upd upd_same upd_ne sumTo sumTo_upd sumTo_upd_out sumTo_congr le_sumTo sumTo_le fork_knows RelBy)
theorem Pl{α:Type}(f:Nat→α)(i:Nat)(x y:α):upd (upd f i x) i y=upd f i y:=by
 funext a;unfold upd;split <;> rfl
section
variable {P:Program}{F:Fam}{B:Base}{gs:Array Goroutine}{w w':World}{sl:Option (Nat×Nat)}{t:Trace}{φ:Nat→Nx}{r:Nat→Rk}{bt:Nat→Bool}{S:Nat→St}{Sh:Nat→Prop}{j:Nat}{c:Bool}{v wt' sm v₁ wt₁ sm₁:Nat}{cl cl₁:Bool}{k k₁:Nat}
theorem ZF{p:Ph}{es:Array Event}{nx:Nx}(K:F.act p v wt' sm=some ((v₁,wt₁,sm₁),es,nx)):
  (∀q,nx= .ph q→Fam.DJ q=Fam.DJ p∧(Fam.Eh q=true→p= .Gv∨Fam.Eh p=true))∧(∀k,nx≠ .ph (.CI k))∧(sm₁=sm∨sm₁=0∨p= .EN)∧(∀d,nx= .gone d→Fam.DJ p=false):=by
 cases p <;> simp only [Fam.act] at K <;> (try (cases K;done))
 ·cases K;exact⟨fun q e=>by cases e;exact⟨rfl,fun _=> .inl rfl⟩,by simp,.inl rfl,by simp⟩
 ·cases K;exact⟨fun q e=>by cases e;exact⟨rfl,fun _=> .inr rfl⟩,by simp,.inl rfl,by simp⟩
 ·split at K
  ·cases K;refine⟨fun q e=>?_,?_,.inl rfl,fun _ _=>rfl⟩
   ·split at e
    ·cases e;exact⟨rfl,fun _=> .inr rfl⟩
    ·cases e
   ·intro k;split <;> simp
  ·cases K
 ·split at K
  ·cases K;exact⟨fun q e=>by cases e;exact⟨rfl,fun _=> .inr rfl⟩,by simp,.inl rfl,by simp⟩
  ·cases K
 ·split at K
  ·cases K;exact⟨fun q e=>by cases e;exact⟨rfl,fun _=> .inr rfl⟩,by simp,.inl rfl,by simp⟩
  ·cases K
 ·split at K
  ·cases K;exact⟨fun q e=>(by cases e),by simp,.inr (.inr rfl),fun _ _=>rfl⟩
  ·cases K
 ·cases K;exact⟨fun q e=>by cases e;exact⟨rfl,fun h=>by cases h⟩,by simp,.inl rfl,by simp⟩
 ·split at K
  ·cases K;refine⟨fun q e=>?_,?_,.inl rfl,?_⟩
   ·split at e <;> cases e <;> exact⟨rfl,fun h=>by cases h⟩
   ·intro k;split <;> simp
   ·intro d;split <;> simp
  ·cases K
 ·split at K
  ·split at K
   ·cases K;exact⟨fun q e=>by cases e;exact⟨rfl,fun h=>by cases h⟩,by simp,.inl rfl,by simp⟩
   ·cases K;exact⟨fun q e=>by cases e;exact⟨rfl,fun h=>by cases h⟩,by simp,.inl rfl,by simp⟩
  ·cases K
 ·cases K;exact⟨fun q e=>by cases e;exact⟨rfl,fun h=>by cases h⟩,by simp,.inl rfl,by simp⟩
 ·split at K
  ·cases K;exact⟨fun q e=>by cases e;exact⟨rfl,fun h=>by cases h⟩,by simp,.inr (.inl rfl),by simp⟩
  ·cases K
 ·split at K
  ·cases K;exact⟨fun q e=>by cases e;exact⟨rfl,fun h=>by cases h⟩,by simp,.inl rfl,by simp⟩
  ·cases K
 ·cases K;exact⟨fun q e=>by cases e;exact⟨rfl,fun h=>by cases h⟩,by simp,.inl rfl,by simp⟩
 ·cases K;exact⟨fun q e=>by cases e;exact⟨rfl,fun h=>by cases h⟩,by simp,.inl rfl,by simp⟩
 ·cases K;exact⟨fun q e=>by cases e;exact⟨rfl,fun h=>by cases h⟩,by simp,.inl rfl,by simp⟩
 ·split at K
  ·cases K;refine⟨fun q e=>?_,?_,.inl rfl,?_⟩
   ·split at e <;> cases e <;> exact⟨rfl,fun h=>by cases h⟩
   ·intro k;split <;> simp
   ·intro d;split <;> simp
  ·cases K
 ·cases K;exact⟨fun q e=>by cases e;exact⟨rfl,fun h=>by cases h⟩,by simp,.inl rfl,by simp⟩
 all_goals
  cases K;exact⟨fun q e=>by cases e;exact⟨rfl,fun h=>by cases h⟩,by simp,.inl rfl,by simp⟩
theorem Wt(w:World)(v wt sm:Nat):(F.put w v wt sm).heap.size=w.heap.size:=by simp [Fam.put]
theorem Tl(w:World)(v wt sm:Nat){b:Nat}(h:b≠F.wg):(F.put w v wt sm).heap[b]? =w.heap[b]? :=by simp [Fam.put,Array.getElem?_setIfInBounds_ne (Ne.symm h)]
theorem Tr(w:World)(v wt sm:Nat)(h:F.wg<w.heap.size):F.WG (F.put w v wt sm) v wt sm:=by simp [Fam.WG,Fam.put,h]
theorem Inv.act(h:Inv P F B gs w t φ r bt S Sh j c v wt' sm cl k){i:Nat}{g:Goroutine}(hi:gs[i]? =some g){p:Ph}(Y:φ i= .ph p)(U:(i==0)=Fam.DJ p){s₀:St}(hg:Dj (S i) s₀)(hs:Stop P F p g s₀)
  {es:Array Event} {nx:Nx} (O:F.act p v wt' sm=some ((v₁,wt₁,sm₁),es,nx)):Hx P F B gs w sl t i (mu F gs.size φ r bt):=by
 have Z:i<gs.size:=(Array.getElem?_eq_some_iff.1 hi).1;obtain⟨g',be,bi,a2⟩:=hs.law.act _ _ _ _ _ _ _ _ O;obtain⟨n1,n2,bo,bv⟩:=ZF O;have ag:=h.C4.FC F.wg h.Ia;have a3:=h.BC.act Z Y O;obtain⟨a4,a5,bw⟩:=h.EM.act h.BC Z Y O g.frame.fn g.frame.place;have bU:Ct t w gs.size (upd S i s₀) Sh:=h.C4.ghost Z hg;have al:Ct (t++MemOp.ofEvents i g.frame.fn g.frame.place es) (F.put w v₁ wt₁ sm₁) gs.size (upd S i s₀) Sh:=by
  refine bU.ext (h.EM.noRace h.C4.clean Z bw a5) (fun op am a bV b hb=>?_) (fun op am=>?_) (Wt ..) (fun b hb=>Tl _ _ _ _ fun e=>hb (e▸h.Ia))
  ·obtain⟨e,he,rfl⟩:=mem_ofEvents am;obtain⟨⟨b3,a6,bW⟩,_⟩:=(a5 e he).1 a bV;rw [hb] at a6;cases a6;rcases bW with rfl | rfl
   ·exact h.Ia
   ·exact h.Gx
  ·obtain⟨e,he,rfl⟩:=mem_ofEvents am;exact(Tj p O).2.2 e he _ ag
 have a7:stepG P (i==0) g w= .go g' (F.put w v₁ wt₁ sm₁) es:=by rw [U];exact be w h.wg
 have a8:F.ChanAt (F.put w v₁ wt₁ sm₁) cl k:=by show(F.put w v₁ wt₁ sm₁).heap[F.ch]? =_;rw [Tl _ _ _ _ (Ne.symm h.ne)];exact h.Hi
 have a9:sm₁=sm∨sm₁=0∨(mayWake P g=true∧g'.status= .running∧φ (B.N0+F.n)= .ph .DC)∨(c=true→bt (B.N0+F.n)=true):=by
  rcases bo with q | q | q
  ·exact .inl q
  ·exact .inr (.inl q)
  ·subst q;have bY:=hs.law.He (.inl rfl);by_cases e:φ (B.N0+F.n)= .ph .DC
   ·exact .inr (.inr (.inl ⟨bY,bi,e⟩))
   ·refine .inr (.inr (.inr fun ap=>?_));have bZ:B.N0+F.n<gs.size:=by have bb:=h.BC.size;have b4:=h.BC.cj ap;rw [ap] at bb;simp at bb;omega
    obtain⟨o,K⟩:∃o,gs[B.N0+F.n]? =some o:=⟨_,Array.getElem?_eq_getElem bZ⟩;have V:=h.EP _ _ K;generalize r (B.N0+F.n)=b5 at V;generalize S (B.N0+F.n)=b6 at V;have av:=h.BC.cls ap;generalize hb:bt (B.N0+F.n)=b at V ⊢;generalize b7:φ (B.N0+F.n)=x at V av e;cases V with
    | walk _ _ _=>rfl
    | again _ _=>rfl
    | FT _ _=>exact av.elim
    | Gb _ _ _ _=>exact av.elim
    | blk _ _=>exact absurd rfl e
    | gone _ _=>rfl
 cases nx with
 | ph q=>
  obtain⟨b0,b1⟩:=n1 q rfl;obtain⟨ρ,b2⟩:=a2;have a0:Ct (t++MemOp.ofEvents i g.frame.fn g.frame.place es) (F.put w v₁ wt₁ sm₁) gs.size (upd S i (Fam.GR p s₀)) Sh:=by
   by_cases e:p= .Gv
   ·subst e;have:=al.less (i:=i) (s':= .quiet) (fun b o K=>by cases K) (fun b o K=>by cases K)
    rwa [Pl] at this
   ·have:Fam.GR p s₀=s₀:=by cases p <;> first | rfl | exact absurd rfl e
    rw [this];exact al
  refine h.go' hi a7 a3 a4 (x:= .ph q) (ρ:=ρ) (s':=Fam.GR p s₀) (.walk (by rw [U,b0]) (fun a1=>?_) (by rw [U];exact b2)) a0 (Tr _ _ _ _ ag) a8 (.inl rfl) (fun e=>h.noSend e) a9 (fun e=>?_) rfl rfl rfl (fun k' e=>absurd e (n2 k')) (.inl (by rw [Y];exact Tb O))
  ·rcases b1 a1 with e | e
   ·subst e;rfl
   ·have:Fam.GR p s₀=s₀:=by cases p <;> first | rfl | cases e
    rw [this];exact hs.law.quiet e
  ·have:Fam.GR p s₀=s₀:=by
    cases p <;> first | rfl | (subst e;simp [Fam.DJ] at U)
   rw [this];subst e;exact fun b o K=>hg.ext b o K
 | gone d=>
  obtain⟨q,a1⟩:=a2;have bd:(i==0)=false:=by rw [U];exact bv d rfl
  have a0:Ct (t++MemOp.ofEvents i g.frame.fn g.frame.place es) (F.put w v₁ wt₁ sm₁) gs.size (upd S i .quiet) Sh:=by
   have:=al.less (i:=i) (s':= .quiet) (fun b o K=>by cases K) (fun b o K=>by cases K)
   rwa [Pl] at this
  exact h.go' hi a7 a3 a4 (x:= .gone d) (ρ:=chain q) (s':= .quiet) (.gone bd a1) a0 (Tr _ _ _ _ ag) a8 (.inl rfl) (fun e=>h.noSend e) a9 (fun e=>by subst e;simp at bd) rfl rfl rfl (fun k' e=>absurd e (n2 k')) (.inl (by rw [Y];exact Tb O))
theorem Uk{g g' o:Goroutine}(h:g'.status= .blocked):woken P g g' w o=o:=by
 unfold woken;rw [if_neg (by simp [h])]
theorem Inv.rest(h:Inv P F B gs w t φ r bt S Sh j c v wt' sm cl k){i:Nat}{g':Goroutine}{u:Trace}{s₀:St}(al:i<gs.size)(a2:bt i=true)(hg:Dj (S i) s₀)(a3:DL P F (i==0) (φ i) (r i) false g' s₀)(hu:u= #[])
  (a4:i=0→cl=false∧∀a k',a<gs.size→φ a= .ph (.CI k')→bt a=true) (hsend:∀k',φ i= .ph (.CI k')→bt 0=true) (a5:c=true→i=B.N0+F.n→sm=0):
  ∃av,Inv P F B (gs.setIfInBounds i g') w (t++u) φ r av (upd S i s₀) Sh j c v wt' sm cl k∧Mu.lt (mu F (gs.setIfInBounds i g').size φ r av) (mu F gs.size φ r bt):=by
 subst hu;have O:(gs.setIfInBounds i g').size=gs.size:=by simp
 have a6:t++(#[]:Trace)=t:=by simp
 have ag:∀{a},a≠i→upd bt i false a=bt a:=fun e=>upd_ne _ _ e;rw [a6];refine⟨upd bt i false,⟨by rw [O];exact h.BC,by rw [O];exact h.EM,fun a o U=>?_,by rw [O];exact h.C4.ghost al hg,h.Ia,h.Gx,h.ne,h.wg,h.Hi,fun K=>?_,fun a0 K=>?_,?_,h.tape,h.os,h.output⟩,?_⟩
 ·by_cases e:a=i
  ·subst e;rw [Array.getElem?_setIfInBounds_self_of_lt al] at U;obtain rfl:=Option.some.inj U;rw [upd_same,upd_same];exact a3
  ·rw [Array.getElem?_setIfInBounds_ne (Ne.symm e)] at U;rw [upd_ne _ _ e,upd_ne _ _ e];exact h.EP a o U
 ·by_cases e:0=i
  ·subst e;obtain⟨am,ap⟩:=a4 rfl;refine⟨am,fun a k' V Y=>?_⟩;rw [O] at V;by_cases Z:a=0
   ·subst Z;obtain⟨p,a1,hm⟩:=h.BC.main;rw [Y] at a1;cases a1;exact hm.elim
   ·rw [ag Z];exact ap a k' V Y
  ·rw [ag e] at K;obtain⟨am,ap⟩:=h.Oh K;refine⟨am,fun a k' V Y=>?_⟩;rw [O] at V;by_cases Z:a=i
   ·subst Z;rw [hsend k' Y] at K;cases K
   ·rw [ag Z];exact ap a k' V Y
 ·by_cases e:B.N0+F.n=i
  ·exact a5 a0 e.symm
  ·rw [ag e] at K;exact h.blk a0 K
 ·by_cases e:0=i
  ·subst e;rw [upd_same];exact fun b o U=>hg.ext b o (h.le b o U)
  ·rw [upd_ne _ _ e];exact h.le
 ·rw [O];have:=sumTo_upd bt false bit al;rw [a2] at this;exact .inr ⟨rfl,rfl,.inr ⟨rfl,by show(sumTo gs.size fun a=>bit (upd bt i false a))<sumTo gs.size fun a=>bit (bt a);simp only [bit] at this ⊢;simp only [if_true,Bool.false_eq_true,if_false] at this;omega⟩⟩
theorem Inv.block(h:Inv P F B gs w t φ r bt S Sh j c v wt' sm cl k){i:Nat}{g:Goroutine}(hi:gs[i]? =some g)(O:φ i= .ph .DC)(V:bt i=true)(K:(i==0)=false){s₀:St}(hg:Dj (S i) s₀)(hs:Stop P F .DC g s₀)(Y:sm=0):
  Hx P F B gs w sl t i (mu F gs.size φ r bt):=by
 have Z:i<gs.size:=(Array.getElem?_eq_some_iff.1 hi).1;subst Y;have ag:=hs.law.ER rfl w v wt' h.wg;have U:=runT_crowd_go (P:=P) (sl:=sl) (i:=i) hi (by rw [K];exact ag);have al:(gs.map (woken P g {g with status:= .blocked} w)).setIfInBounds i {g with status:= .blocked}=gs.setIfInBounds i {g with status:= .blocked}:=by
  have:(woken P g {g with status:= .blocked} w)=id:=by funext o;exact Uk rfl
  rw [this,Array.map_id]
 rw [al] at U;obtain⟨av,am,ap⟩:=h.rest (g':={g with status:= .blocked}) (u:=MemOp.ofEvents i g.frame.fn g.frame.place #[]) Z V hg (by rw [O];exact .blk K hs) (by rw [ofEvents_eq];simp) (fun e=>by subst e;simp at K) (fun k' e=>by rw [O] at e;cases e) (fun _ _=>rfl);exact⟨_,_,_,_,U,.inl ⟨_,_,_,_,_,_,_,_,_,_,_,_,am,ap⟩⟩
theorem Inv.close(h:Inv P F B gs w t φ r bt S Sh j c v wt' sm cl k){i:Nat}{g:Goroutine}(hi:gs[i]? =some g)(K:φ i= .ph .DO)(al:(i==0)=false){s₀:St}(hs:Stop P F .DO g s₀):
  Hx P F B gs w sl t i (mu F gs.size φ r bt):=by
 have Y:i<gs.size:=(Array.getElem?_eq_some_iff.1 hi).1;have a7:c=true∧i=B.N0+F.n:=by
  rcases h.BC.FJ Y with rfl | ⟨a,b⟩ | ⟨k',a8,rfl⟩ | q
  ·simp at al
  ·have:=h.BC.old i a b;rw [K] at this;exact this.elim
  ·have:=h.BC.work k' a8;rw [K] at this;exact this.elim
  ·exact q
 obtain⟨O,rfl⟩:=a7;have a9:cl=false:=by
  have hm:=h.BC.mode;rw [if_pos O,K] at hm;exact hm.2.2.2.2.2
 subst a9;have b0:v=0:=by
  have hm:=h.BC.mode;rw [if_pos O,K] at hm;exact hm.2.2.2.2.1
 obtain⟨g',bb,bd,q,be⟩:=hs.law.close rfl;have av:=h.C4.FC F.ch h.Gx;have bi:=hs.law.He (.inr rfl);have bo:MemOp.ofEvents (B.N0+F.n) g.frame.fn g.frame.place (closeEvents F.ch)= #[{g:=B.N0+F.n,fn:=g.frame.fn,pos:=g.frame.place,act:= .access ⟨.obj F.ch,false,true⟩},{g:=B.N0+F.n,fn:=g.frame.fn,pos:=g.frame.place,act:= .close F.ch}]:=by
  simp [MemOp.ofEvents,closeEvents,MemAct.ofEvent]
 have a0:∀b,b≠F.ch→(w.setChan F.ch 0 #[] true k k false).heap[b]? =w.heap[b]? :=fun b hb=>by simp [World.setChan,Array.getElem?_setIfInBounds_ne (Ne.symm hb)]
 have a1:∀e∈closeEvents F.ch,∀a,(MemAct.ofEvent e).touch? =some a→a=⟨.obj F.ch,false,.atomic⟩:=by
  intro e he a U;simp only [closeEvents,List.mem_toArray,List.mem_cons,List.not_mem_nil,or_false] at he;rcases he with rfl | rfl
  ·simp [MemAct.ofEvent,MemAct.touch?] at U;exact U.symm
  ·simp [MemAct.ofEvent,MemAct.touch?] at U
 have Z:∀e∈closeEvents F.ch,EvS F (B.N0+F.n=if c=true then B.N0+F.n else 0) e:=by
  intro e he;refine⟨fun a U=>?_,?_⟩
  ·have:=a1 e he a U;subst this;exact⟨⟨F.ch,rfl,.inr rfl⟩,by simp,by simp⟩
  ·simp only [closeEvents,List.mem_toArray,List.mem_cons,List.not_mem_nil,or_false] at he;rcases he with rfl | rfl <;> simp
 have b1:=h.BC.n1;have b2:=h.BC.pos;refine h.go' hi (w':=w.setChan F.ch 0 #[] true k k false) (by rw [al];exact bd w k h.Hi) (x:= .gone 0) (ρ:=chain q) (s':= .quiet) (cl₁:=true) (k₁:=k) (h.BC.close O K) ?_ (.gone al be) ?_ ?_ ?_ (.inr ⟨bi,bb⟩) (fun _ bv k' bw e=>?_) (.inl rfl) (fun e=>absurd e (by omega)) rfl rfl rfl (by simp) (.inl (by rw [K];simp [wt]))
 ·refine h.EM.app Y h.BC.jn (by rw [K];rfl) (fun e he=>⟨fun a b U hb b3=>⟨((Z e he).1 a U).2.1,((Z e he).1 a U).2.2⟩,(Z e he).2⟩) (.inl (.inr (by omega))) (fun O ag=>h.BC.M7 O ag) (fun k' a2 e bU ρ a3=>by omega) (fun k' a2 e bU b4=>by have:=h.BC.cj O;omega) (fun O e ag=> .inr (.inl K)) (fun b5 e ag=> .inl ?_);obtain⟨a4,a5⟩:=h.EM.acq O (.inl K);have b6:a4<t.size:=lt_of_act? a5.1;rw [bo];generalize hu:(#[({g:=B.N0+F.n,fn:=g.frame.fn,pos:=g.frame.place,act:= .access ⟨.obj F.ch,false,true⟩}:MemOp),{g:=B.N0+F.n,fn:=g.frame.fn,pos:=g.frame.place,act:= .close F.ch}]:Trace)=u;have bV:(t++u)[t.size]? =some {g:=B.N0+F.n,fn:=g.frame.fn,pos:=g.frame.place,act:= .access ⟨.obj F.ch,false,true⟩}:=by subst hu;simp
  have am:(t++u)[t.size+1]? =some {g:=B.N0+F.n,fn:=g.frame.fn,pos:=g.frame.place,act:= .close F.ch}:=by
   subst hu;rw [Array.getElem?_append_right (by omega)];simp
  refine⟨t.size+1,by rw [act?_of am],by simp [Trace.g?,am],⟨B.N0+F.n,by simp [Trace.g?,am],?_⟩,⟨a4,by omega,a5.app fun k' ρ a2 a3=>a3.appOther (g:=B.N0+F.n) (by subst hu;simp) (by omega)⟩,fun x ag hg bW=>?_⟩
  ·rw [deaf_succ bV,deaf_old (Nat.le_refl _)];have:=h.EM.deaf _ Y;rw [K] at this;show deafStep _ (Deaf t _) _=0;rw [this];rfl
  ·obtain⟨op,V,_⟩:=Option.map_eq_some_iff.1 hg;have:=lt_size_of_getElem? V;subst hu;simp at this;omega
 ·have bY:Ct (t++MemOp.ofEvents (B.N0+F.n) g.frame.fn g.frame.place (closeEvents F.ch)) (w.setChan F.ch 0 #[] true k k false) gs.size S Sh:=by
   refine h.C4.ext (h.EM.noRace h.C4.clean Y (.inr (by omega)) Z) (fun op ap a bZ b hb=>?_) (fun op ap=>?_) (by simp [World.setChan]) (fun b hb=>a0 b fun e=>hb (e▸h.Gx))
   ·obtain⟨e,he,rfl⟩:=mem_ofEvents ap;have:=a1 e he a bZ;subst this;simp [DT] at hb;subst hb;exact h.Gx
   ·obtain⟨e,he,rfl⟩:=mem_ofEvents ap;simp only [closeEvents,List.mem_toArray,List.mem_cons,List.not_mem_nil,or_false] at he;rcases he with rfl | rfl <;> simpa [MemAct.ofEvent,MemAct.low,Loc.low] using av
  exact bY.less (i:=B.N0+F.n) (s':= .quiet) (fun b o V=>by cases V) (fun b o V=>by cases V)
 ·show(w.setChan F.ch 0 #[] true k k false).heap[F.wg]? =_;rw [a0 _ h.ne];exact h.wg
 ·show(w.setChan F.ch 0 #[] true k k false).heap[F.ch]? =_;simp [World.setChan,av]
 ·have bW:=h.BC.cnt;have a6:cU (φ bv)≤sumTo gs.size fun a=>cU (φ a):=le_sumTo (f:=fun a=>cU (φ a)) bw;rw [e] at a6;have b7:1≤sumTo gs.size fun a=>cU (φ a):=a6;omega
end
end Pal
namespace Pal
open Go Go.Conc
open Go.ConcN (upd upd_same upd_ne sumTo sumTo_upd sumTo_upd_out sumTo_congr le_sumTo sumTo_le fork_knows RelBy)
section
variable {P:Program}{F:Fam}{B:Base}{gs gs':Array Goroutine}{w w':World}{sl:Option (Nat×Nat)}{t:Trace}{φ:Nat→Nx}{r:Nat→Rk}{bt:Nat→Bool}{S:Nat→St}{Sh:Nat→Prop}{j:Nat}{c:Bool}{v wt' sm v₁ wt₁ sm₁:Nat}{cl cl₁:Bool}{k k₁:Nat}{main:Bool}
theorem DL.S2{x:Nx}{r:Rk}{b:Bool}{o:Goroutine}{s:St}(h:DL P F main x r b o s)(hb:main=true→b=true):offersAt o F.ch false= []:=by
 cases h with
 | walk _ _ K=>exact offersAt_of_not_blocked (by rw [K.running];simp) _ _
 | again _ _=>exact offersAt_of_not_blocked (by simp) _ _
 | FT O _=>cases hb O
 | Gb _ _ _ _=>exact offersAt_parked_send' _ _ _ _ _ _
 | blk _ hs=>simp [offersAt,hs.law.offers]
 | gone _ U=>exact offersAt_of_not_blocked (by rcases U.status with e | e <;> rw [e] <;> simp) _ _
theorem DL.PF{k:Nat}{r:Rk}{o:Goroutine}{s:St}(h:DL P F main (.ph (.CI k)) r false o s):∃g v z,o=parked g #[scase F.ch v z] .send∧F.msg k v s.E∧s.q=false∧Way P false (Stop P F .Dd) (served g undef) s:=by
 generalize K:Nx.ph (.CI k)=x at h;generalize hb:false=b at h;cases h with
 | walk _ _ _=>cases hb
 | again _ _=>cases K
 | FT _ _=>cases K
 | Gb _ O U V=>cases K;exact⟨_,_,_,rfl,O,U,V⟩
 | blk _ _=>cases K
 | gone _ _=>cases K
theorem DL.OS{x:Nx}{r:Rk}{b:Bool}{o:Goroutine}{s:St}(h:DL P F main x r b o s)(K:offersAt o F.ch true≠ []):∃k,x= .ph (.CI k)∧b=false:=by
 cases h with
 | walk _ _ O=>exact absurd (offersAt_of_not_blocked (by rw [O.running];simp) _ _) K
 | again _ _=>exact absurd (offersAt_of_not_blocked (by simp) _ _) K
 | FT V _=>exact absurd (offersAt_parked_recv' _ _ _ _ _) K
 | Gb _ _ _ _=>exact⟨_,rfl,rfl⟩
 | blk _ hs=>exact absurd (by simp [offersAt,hs.law.offers]) K
 | gone _ U=>exact absurd (offersAt_of_not_blocked (by rcases U.status with e | e <;> rw [e] <;> simp) _ _) K
theorem DL.receiver{p:Ph}{r:Rk}{b:Bool}{o:Goroutine}{s:St}(h:DL P F main (.ph p) r b o s)(hb:b=false)(hm:main=true):∃O vs g z,p= .Cr O vs∧o=parked g #[rcase F.ch z] (.recv true)∧Stop P F (.Cr O vs) g s:=by
 generalize U:Nx.ph p=x at h;cases h with
 | walk _ _ _=>cases hb
 | again _ _=>cases hb
 | FT _ V=>cases U;exact⟨_,_,_,_,rfl,rfl,V⟩
 | Gb K _ _ _=>rw [K] at hm;cases hm
 | blk K _=>rw [K] at hm;cases hm
 | gone _ _=>cases U
theorem U3{g g':Goroutine}{cs K:Array CommCase}{sh O:CommShape}(h:parked g cs sh=parked g' K O):cs=K∧sh=O∧∀x,served g x=served g' x:=by
 obtain⟨a,b,c,d,e⟩:=g;obtain⟨U,V,Y,Z,ag⟩:=g';simp only [parked,Goroutine.mk.injEq,Option.some.injEq,Prod.mk.injEq,true_and] at h;obtain⟨rfl,rfl,rfl,rfl,rfl⟩:=h;exact⟨rfl,rfl,fun _=>rfl⟩
theorem QP(w:World)(c cap:Nat)(buf:AD)(cl:Bool)(s r:Nat)(K:Bool){b:Nat}(h:b≠c):(w.setChan c cap buf cl s r K).heap[b]? =w.heap[b]? :=by simp [World.setChan,Array.getElem?_setIfInBounds_ne (Ne.symm h)]
def Hw(E E':LH):LH:=fun b=>match E b with | some o=>some o | none=>E' b
def Gm(i s:Nat)(c:Nat)(f1 f2:FuncId)(p1 p2:String):Trace:=
 #[{g:=i,fn:=f1,pos:=p1,act:= .send c s},{g:=0,fn:=f2,pos:=p2,act:= .recv c s 0},{g:=i,fn:=f1,pos:=p1,act:= .sendDone c s},{g:=0,fn:=f2,pos:=p2,act:= .recvDone c s}]
theorem UD{i s K:Nat}{f1 f2:FuncId}{p1 p2:String}(hi:i≠0)(V:Deaf t i=0)(Y:Deaf t 0=0){x:Nat}(Z:Knows t i x):Knows (t++Gm i s K f1 f2 p1 p2) 0 x:=by
 generalize hu:Gm i s K f1 f2 p1 p2=u;have O:(t++u)[t.size]? =some {g:=i,fn:=f1,pos:=p1,act:= .send K s}:=by subst hu;rw [Array.getElem?_append_right (by omega)];simp [Gm]
 have ag:(t++u)[t.size+1]? =some {g:=0,fn:=f2,pos:=p2,act:= .recv K s 0}:=by subst hu;rw [Array.getElem?_append_right (by omega)];simp [Gm]
 have al:(t++u)[t.size+2]? =some {g:=i,fn:=f1,pos:=p1,act:= .sendDone K s}:=by subst hu;rw [Array.getElem?_append_right (by omega)];simp [Gm]
 have U:(t++u)[t.size+3]? =some {g:=0,fn:=f2,pos:=p2,act:= .recvDone K s}:=by subst hu;rw [Array.getElem?_append_right (by omega)];simp [Gm]
 have am:=Z.hb_new (Nat.le_refl _) O rfl;have ap:(t++u).heard t.size:=⟨i,by simp [Trace.g?,O],by rw [deaf_old (Nat.le_refl _)];exact V⟩;have av:(t++u).heard (t.size+3):=⟨0,by simp [Trace.g?,U],by
  rw [deaf_succ al,deaf_succ ag,deaf_succ O,deaf_old (Nat.le_refl _)]
  simp only [deafStep];exact Y⟩
 exact⟨t.size+3,_,U,rfl,.inr (am.trans (.single (.inr ⟨.handOver (by rw [act?_of O]) (by rw [act?_of U]),ap,av⟩)))⟩
theorem Inv.meet(h:Inv P F B gs w t φ r bt S Sh j c v wt' sm cl k)(b5:∀k v E E',Le E E'→F.msg k v E→F.msg k v E'){i k':Nat}(a1:k'<j)(a2:i=B.N0+k')(Z:φ i= .ph (.CI k')){U:List Nat}{vs:Lv_}(av:φ 0= .ph (.Cr U vs))
  {bv bw:Goroutine} {s₀ K:St} (bU:Dj (S 0) s₀) (b6:Dj (S i) K) (b7:Stop P F (.Cr U vs) bv s₀) {x:Value} (b8:F.msg k' x K.E) (b9:Way P false (Stop P F .Dd) (served bw undef) K)
  (a3:gs'.size=gs.size) (ca:gs'[0]? =some (served bv (.tuple #[x,.bool true]))) (hi:gs'[i]? =some (served bw undef)) (V:∀a,a≠0→a≠i→gs'[a]? =gs[a]?) (cb:cl=false) {f1 f2:FuncId} {p1 p2:String}:
  ∃bV bW bY S',Inv P F B gs' (w.setChan F.ch 0 #[] false (k+1) (k+1) false) (t++Gm i k F.ch f1 f2 p1 p2) bV bW bY S' Sh j c v wt' sm false (k+1)∧Mu.lt (mu F gs'.size bV bW bY) (mu F gs.size φ r bt):=by
 subst cb;have cB:=h.BC.pos;have cC:=h.BC.size;have ag:i<gs.size:=by omega
 have al:0<gs.size:=by omega
 have a0:i≠0:=by omega
 have bZ:F.has k'=true:=by have:=h.BC.work k' a1;rw [← a2,Z] at this;exact this.2
 have cc:k' ∉ U:=by have:=(h.BC.Hh k' a1 bZ).1 (by rw [← a2];exact Z);rwa [av] at this
 have b0:=h.BC.meet (x:=x) av a1 (by rw [← a2];exact Z);rw [← a2] at b0;have hu:∀op∈Gm i k F.ch f1 f2 p1 p2,op.act.touch? =none∧∀m,op.act≠ .mark m:=by
  intro op O;simp only [Gm,List.mem_toArray,List.mem_cons,List.not_mem_nil,or_false] at O;rcases O with rfl | rfl | rfl | rfl <;> exact⟨rfl,by simp⟩
 have cd:=h.EM.Dt h.BC hu;have b1:=h.C4.FC F.ch h.Gx;have a4:Ct t w gs.size (upd (upd S i K) 0 s₀) Sh:=by
  have:=(h.C4.ghost ag b6).ghost (i:=0) (s₀:=s₀) al (by rw [upd_ne _ _ (Ne.symm a0)];exact bU);exact this
 have a9:upd (upd S i K) 0 s₀ 0=s₀:=upd_same _ _ _;have bb:upd (upd S i K) 0 s₀ i=K:=by rw [upd_ne _ _ a0,upd_same]
 have ce:Ct (t++Gm i k F.ch f1 f2 p1 p2) (w.setChan F.ch 0 #[] false (k+1) (k+1) false) gs.size (upd (upd S i K) 0 s₀) Sh:=by
  refine a4.ext (fun said=>?_) (fun op O a a5=>by rw [(hu op O).1] at a5;cases a5) (fun op O=>?_) (by simp [World.setChan]) (fun b hb=>QP _ _ _ _ _ _ _ _ fun e=>hb (e▸h.Gx))
  ·have key:∀(l:List MemOp) (t:Trace),¬Race said t→(∀op∈l,op.act.touch? =none)→¬Race said (t++l.toArray):=by
    intro l
    induction l with
    | nil=>intro t ht _;simpa using ht
    | cons y l cf=>
     intro t ht am;have e:t++(y::l).toArray=(t++ #[y])++l.toArray:=by apply Array.ext';simp
     rw [e];exact cf _ (noRace_append (g:=y.g) ht (by simp) fun z a _ op O b hb _=>by simp at O;subst O;rw [am op (by simp)] at hb;cases hb) fun op O=>am op (by simp [O])
   exact key _ t (h.C4.clean said) fun op O=>(hu op (by simpa [Gm] using O)).1
  ·simp only [Gm,List.mem_toArray,List.mem_cons,List.not_mem_nil,or_false] at O;rcases O with rfl | rfl | rfl | rfl <;> exact b1
 have cg:∀b o o',s₀.E b=some o→K.E b=some o'→o=o':=by
  intro b o o' bd be;have bi:=(a4.fits 0 al).e b o (by rw [a9];exact bd);have a6:=(a4.fits i ag).e b o' (by rw [bb];exact be);rw [bi] at a6;exact Option.some.inj a6
 have b2:Le s₀.E (Hw s₀.E K.E):=fun b o V=>by simp [Hw,V]
 have ci:Le K.E (Hw s₀.E K.E):=fun b o V=>by
  unfold Hw;cases a7:s₀.E b with
  | none=>exact V
  | some o'=>simp only;rw [cg b o' o a7 V]
 have ck:Deaf t 0=0:=by rw [h.EM.deaf 0 al,av];rfl
 have cm:Deaf t i=0:=by rw [h.EM.deaf i ag,Z];rfl
 have b3:Ct (t++Gm i k F.ch f1 f2 p1 p2) (w.setChan F.ch 0 #[] false (k+1) (k+1) false) gs.size (upd (upd S i K) 0 ⟨Hw s₀.E K.E,s₀.H,false⟩) Sh:=by
  have:=ce.grow (i:=0) (E':=Hw s₀.E K.E) (q:=false) al (fun b o hb=>by
   rw [a9]
   unfold Hw at hb
   cases a7:s₀.E b with
   | some o'=>rw [a7] at hb;exact .inl hb
   | none=>
    rw [a7] at hb
    have b4:K.E b=some o:=hb
    refine .inr ⟨i,ag,by rw [bb];exact b4,fun y a cn co cp=>?_⟩
    have hold:touchAt t y=some a:=by
     obtain⟨op,V,bo⟩:=touch_of cn
     rcases getElem?_append_cases V with⟨_,cq⟩ | ⟨_,cr⟩
     ·rw [touchAt_of cq];exact bo
     ·rw [(hu op cr).1] at bo;cases bo
    exact UD a0 cm ck (a4.kE i ag b (by rw [bb,b4];simp) y a hold co cp))
  rw [a9,Pl] at this;exact this
 have ct:∀b,Hw s₀.E K.E b≠none→s₀.H b=none:=by
  intro b hb;have:=(b3.fits 0 al).d b (by rw [upd_same];exact hb)
  rwa [upd_same] at this
 have cu:k'<F.n:=Nat.lt_of_lt_of_le a1 h.BC.jn;obtain⟨z,_,cv,_⟩:=b7.law.recv U vs rfl;obtain⟨cw,cy⟩:=cv k' x (Hw s₀.E K.E) cu bZ cc b2 ct (b5 _ _ _ _ ci b8);obtain⟨cz,cA⟩:=b9;have f0:∀a,a≠0→a≠i→upd (upd φ i (.ph .Dd)) 0 (.ph (.Cr (U++ [k']) (vs++ [x]))) a=φ a:=fun a bd be=>by rw [upd_ne _ _ bd,upd_ne _ _ be]
 have fi:upd (upd φ i (.ph .Dd)) 0 (.ph (.Cr (U++ [k']) (vs++ [x]))) i= .ph .Dd:=by rw [upd_ne _ _ a0,upd_same]
 refine⟨upd (upd φ i (.ph .Dd)) 0 (.ph (.Cr (U++ [k']) (vs++ [x]))),upd (upd r i cz) 0 cw,upd (upd bt i true) 0 true,upd (upd S i K) 0 ⟨Hw s₀.E K.E,s₀.H,false⟩,⟨by rw [a3];exact b0,?_,fun a o ap=>?_,by rw [a3];exact b3,h.Ia,h.Gx,h.ne,?_,?_,fun hb=>(by rw [upd_same] at hb;cases hb),fun a8 hb=>?_,?_,h.tape,h.os,h.output⟩,?_⟩
 ·rw [a3];refine cd.XS (fun a a5=>?_) (fun a a5 am=>?_) (fun a8=>?_)
  ·by_cases q:a=0
   ·subst q;rw [upd_same,av];rfl
   ·by_cases Y:a=i
    ·subst Y;rw [fi,Z];rfl
    ·rw [f0 a q Y]
  ·by_cases q:B.N0+a=i
   ·rw [q,fi] at am;exact am.elim
   ·rwa [f0 _ (by omega) q] at am
  ·have:=h.BC.cj a8;exact f0 _ (by omega) (by omega)
 ·by_cases q:a=0
  ·subst q;rw [ca] at ap;obtain rfl:=Option.some.inj ap;rw [upd_same,upd_same,upd_same,upd_same];exact .walk rfl (fun q=>by cases q) cy
  ·by_cases Y:a=i
   ·subst Y;rw [hi] at ap;obtain rfl:=Option.some.inj ap;rw [fi,upd_ne _ _ q,upd_same,upd_ne _ _ q,upd_same,upd_ne _ _ q,upd_same];have hm:(a==0)=false:=by simp [q]
    exact .walk (by rw [hm];rfl) (fun q=>by cases q) (by rw [hm];exact cA)
   ·rw [V a q Y] at ap;rw [f0 a q Y,upd_ne _ _ q,upd_ne _ _ Y,upd_ne _ _ q,upd_ne _ _ Y,upd_ne _ _ q,upd_ne _ _ Y];exact h.EP a o ap
 ·show(w.setChan F.ch 0 #[] false (k+1) (k+1) false).heap[F.wg]? =_;rw [QP _ _ _ _ _ _ _ _ h.ne];exact h.wg
 ·show(w.setChan F.ch 0 #[] false (k+1) (k+1) false).heap[F.ch]? =_;simp [World.setChan,b1]
 ·have cD:=h.BC.cj a8;rw [upd_ne _ _ (by omega),upd_ne _ _ (by omega)] at hb;exact h.blk a8 hb
 ·rw [upd_same];exact(h.le.trans fun b o V=>bU.ext b o V).trans b2
 ·rw [a3];refine TQ ?_;have bi:=sumTo_upd (upd φ i (.ph .Dd)) (.ph (.Cr (U++ [k']) (vs++ [x]))) (wt F.n) al;have a6:=sumTo_upd φ (.ph .Dd) (wt F.n) ag;rw [upd_ne _ _ (Ne.symm a0),av] at bi;rw [Z] at a6;have cE:wt F.n (.ph (.Cr U vs))=2:=rfl;have cF:wt F.n (.ph (.Cr (U++ [k']) (vs++ [x])))=2:=rfl;have cG:wt F.n (.ph (.CI k'))=10:=rfl;have cH:wt F.n (.ph .Dd)=9:=rfl;omega
theorem Inv.send(h:Inv P F B gs w t φ r bt S Sh j c v wt' sm cl k)(be:∀k v E E',Le E E'→F.msg k v E→F.msg k v E'){i k':Nat}{g:Goroutine}(hi:gs[i]? =some g)(K:φ i= .ph (.CI k'))(bi:bt i=true)(ag:(i==0)=false){s₀:St}(hg:Dj (S i) s₀)(hs:Stop P F (.CI k') g s₀):
  Hx P F B gs w sl t i (mu F gs.size φ r bt):=by
 have V:i<gs.size:=(Array.getElem?_eq_some_iff.1 hi).1;have a3:0<gs.size:=by omega
 have O:i≠0:=by simpa using ag
 have bo:k'<j∧i=B.N0+k':=by
  rcases h.BC.FJ V with rfl | ⟨a,b⟩ | ⟨bv,Y,rfl⟩ | ⟨al,rfl⟩
  ·exact absurd rfl O
  ·have:=h.BC.old i a b;rw [K] at this;exact this.elim
  ·have:=h.BC.work bv Y;rw [K] at this;obtain⟨rfl,_⟩:=this;exact⟨Y,rfl⟩
  ·have:=h.BC.cls al;rw [K] at this;exact this.elim
 obtain⟨Y,bw⟩:=bo;have bU:cl=false:=by
  cases bV:cl with
  | false=>rfl
  | true=>exact absurd K (h.noSend bV i k' V)
 subst bU;obtain⟨x,z,a4,bW,a5⟩:=hs.law.send k' rfl;have a6:stepG P (i==0) g w= .comm g #[scase F.ch x z] true .send w #[]:=by rw [ag];exact bW w
 have a7:∀(a:Nat) (fn:FuncId) (pos:String),MemOp.ofEvents a fn pos #[]= #[]:=fun a fn pos=>by rw [ofEvents_eq];simp
 cases am:bt 0 with
 | true=>
  have bY:partners (gs.setIfInBounds i ph) F.ch false= []:=by
   refine partners_nil fun a o ap=>?_;rcases getElem?_stand gs i a o ap with⟨_,rfl⟩ | ⟨_,av⟩
   ·exact offersAt_ph _ _
   ·exact(h.EP a o av).S2 fun e=>by
     have:a=0:=by simpa using e
     subst this;exact am
  have Z:=crowd_waits (sl:=sl) hi a6 fun b9 a8=>by
   simp at a8;subst a8;exact ways_send_none (v:=x) (z:=z) h.Hi (Nat.le_refl _) bY
  obtain⟨a9,a0,a1⟩:=h.rest (g':=parked g #[scase F.ch x z] .send) (u:=MemOp.ofEvents i g.frame.fn g.frame.place #[]) V bi hg (by rw [K];exact .Gb ag a4 (hs.law.live rfl) a5) (a7 _ _ _) (fun e=>absurd e O) (fun _ _=>am) (fun al e=>by have:=h.BC.cj al;omega);exact⟨_,_,_,_,Z,.inl ⟨_,_,_,_,_,_,_,_,_,_,_,_,a0,a1⟩⟩
 | false=>
  obtain⟨bZ,a2⟩:∃o,gs[0]? =some o:=⟨_,Array.getElem?_eq_getElem a3⟩;obtain⟨p0,bb,hm⟩:=h.BC.main;have bd:=h.EP 0 bZ a2;rw [am,bb] at bd;obtain⟨ca,vs,U,b0,rfl,rfl,b1⟩:=bd.receiver rfl rfl;have b2:partners (gs.setIfInBounds i ph) F.ch false= [(0,0)]:=by
   rw [partners_one (j:=0) (g:=parked U #[rcase F.ch b0] (.recv true)) (stand_get (Ne.symm O) a2) fun a o b3 ap=>?_]
   ·rw [offersAt_parked_recv];simp
   ·rcases getElem?_stand gs i a o ap with⟨_,rfl⟩ | ⟨_,av⟩
    ·exact offersAt_ph _ _
    ·exact(h.EP a o av).S2 fun e=>by
      have:a=0:=by simpa using e
      exact absurd this b3
  have Z:=crowd_send_meets (sl:=sl) hi a6 h.Hi (Ne.symm O) a2 b2;rw [finishComm_recv,finishComm_send,a7] at Z;have b4:((gs.setIfInBounds 0 (served U (recvd true x true))).setIfInBounds i (served g undef)).size=gs.size:=by simp
  obtain⟨b5,b6,a9,S',a0,a1⟩:=h.meet be Y bw K bb (.refl _) hg b1 a4 a5 (gs':=(gs.setIfInBounds 0 (served U (recvd true x true))).setIfInBounds i (served g undef)) b4
   (by rw [Array.getElem?_setIfInBounds_ne O,Array.getElem?_setIfInBounds_self_of_lt a3];rfl) (by rw [Array.getElem?_setIfInBounds_self_of_lt (by simpa using V)]) (fun a b7 b8=>by rw [Array.getElem?_setIfInBounds_ne (Ne.symm b8),Array.getElem?_setIfInBounds_ne (Ne.symm b7)]) rfl
   (f1:=g.frame.fn) (f2:=U.frame.fn) (p1:=g.frame.place) (p2:=U.frame.place)
  refine⟨_,_,_,_,Z,.inl ⟨b5,b6,a9,S',Sh,j,c,v,wt',sm,false,k+1,?_,a1⟩⟩;rw [Array.empty_append];exact a0
end
end Pal
namespace Pal
open Go Go.Conc
open Go.ConcN (upd upd_same upd_ne sumTo sumTo_upd sumTo_upd_out sumTo_congr le_sumTo sumTo_le fork_knows RelBy)
section
variable {P:Program}{F:Fam}{B:Base}{gs gs':Array Goroutine}{w w':World}{sl:Option (Nat×Nat)}{t:Trace}{φ:Nat→Nx}{r:Nat→Rk}{bt:Nat→Bool}{S:Nat→St}{Sh:Nat→Prop}{j:Nat}{c:Bool}{v wt' sm v₁ wt₁ sm₁:Nat}{cl cl₁:Bool}{k k₁:Nat}{main:Bool}
theorem Inv.So(h:Inv P F B gs w t φ r bt S Sh j c v wt' sm true k):c=true∧Fh (φ (B.N0+F.n))∧∀i,0<i→i<gs.size→∃d,φ i= .gone d:=by
 have hm:=h.BC.mode;have K:c=true∧Fh (φ (B.N0+F.n)):=by
  split at hm
  ·rename_i K;refine⟨K,?_⟩;cases O:φ (B.N0+F.n) with
   | gone d=>trivial
   | ph p=>rw [O] at hm;cases p <;> simp [Db] at hm
  ·simp [Db] at hm
 refine⟨K.1,K.2,fun i hi U=>?_⟩;have:Fh (φ i):=by
  rcases h.BC.FJ U with rfl | ⟨a,b⟩ | ⟨k',V,rfl⟩ | ⟨_,rfl⟩
  ·omega
  ·exact h.BC.old i a b
  ·exact h.BC.Pc K.1 (.inr (.inr (.inr (.inr K.2)))) k' V
  ·exact K.2
 cases O:φ i with
 | gone d=>exact⟨d,rfl⟩
 | ph p=>rw [O] at this;exact this.elim
theorem Inv.over(h:Inv P F B gs w t φ r bt S Sh j c v wt' sm true k){bV:List Nat}{vs:Lv_}(a6:φ 0= .ph (.Cr bV vs)){s₀:St}(a7:Dj (S 0) s₀){g':Goroutine}(bW:F.fin g' s₀)
  (a8:gs'.size=gs.size) (bY:gs'[0]? =some g') (Z:∀a,a≠0→gs'[a]? =gs[a]?) {f1:FuncId} {p1:String}:
  Over P F B gs' w (t++ #[{g:=0,fn:=f1,pos:=p1,act:= .recvClosed F.ch}]):=by
 obtain⟨am,a9,bZ⟩:=h.So;have ci:=h.BC.pos;have bb:=h.BC.size;have a0:0<gs.size:=by omega
 have b0:F.ch<w.heap.size:=h.C4.FC F.ch h.Gx;generalize hu:(#[{g:=0,fn:=f1,pos:=p1,act:= .recvClosed F.ch}]:Trace)=u;have bd:∀op∈u,op.act.touch? =none∧∀m,op.act≠ .mark m:=by
  intro op K;subst hu;simp at K;subst K;exact⟨rfl,by simp⟩
 have ag:=h.EM.Dt h.BC bd;have b1:Deaf t 0=0:=by rw [h.EM.deaf 0 a0,a6];rfl
 have be:∀i g,0<i→gs[i]? =some g→∃q d,φ i= .gone d∧QuitsD P q d g∧S i= .quiet:=by
  intro i g hi hg;obtain⟨d,bi⟩:=bZ i hi (Array.getElem?_eq_some_iff.1 hg).1;have hs:=h.EP i g hg;rw [bi] at hs;generalize U:Nx.gone d=x at hs;generalize S i=s at hs ⊢;generalize r i=ρ at hs;generalize bt i=ck at hs;cases hs with
  | gone _ ap=>cases U;exact⟨_,_,bi,ap,rfl⟩
  | _=>cases U
 have ap:∀i,∃q,∀g,0<i→gs[i]? =some g→QuitsD P q (Deaf t i) g:=by
  intro i;by_cases hi:0<i∧i<gs.size
  ·obtain⟨q,d,O,Y,_⟩:=be i _ hi.1 (Array.getElem?_eq_getElem hi.2);refine⟨q,fun g _ hg=>?_⟩;rw [Array.getElem?_eq_getElem hi.2] at hg;obtain rfl:=Option.some.inj hg;rw [h.EM.deaf i hi.2,O];exact Y
  ·exact⟨0,fun g O Y=>absurd ⟨O,(Array.getElem?_eq_some_iff.1 Y).1⟩ hi⟩
 have bo:∀op∈u,op.g=0:=by intro op K;subst hu;simp at K;subst K;rfl
 have b2:Ct t w gs.size (lone s₀) Sh:=by
  have O:=h.C4.ghost a0 a7;refine O.congr fun i hi=>?_;by_cases e:i=0
  ·subst e;rw [upd_same];exact⟨rfl,rfl⟩
  ·rw [upd_ne _ _ e];obtain⟨_,_,_,_,b3⟩:=be i _ (by omega) (Array.getElem?_eq_getElem hi);rw [b3];simp [lone,e]
 have b4:Ct (t++u) w gs.size (lone s₀) Sh:=b2.mute (g:=0) bo (fun op Z=>(bd op Z).1) (fun op K=>by subst hu;simp at K;subst K;exact b0) rfl;refine⟨fun i=>Classical.choose (ap i),Sh,g',s₀,⟨bY,⟨fun i g hi hg=>?_,fun i hi=>?_⟩,by rw [a8];exact b4,fun x g hg b5 a1=>?_,?_⟩,bW,h.le.trans fun b o Z=>a7.ext b o Z,h.tape,h.os,h.output⟩
 ·rw [Deaf_other t (by omega) u bo];rw [Z i (by omega)] at hg;exact Classical.choose_spec (ap i) g hi hg
 ·exact ag.above i (by rw [← a8];exact hi)
 ·rcases ag.over x g hg b5 a1 with q | ⟨q1,q2⟩
  ·exact q
  obtain⟨p,V⟩:=ag.Ks am a9;have cm:p<t.size:=by
   obtain⟨cn,co⟩:=h.EM.Ks am a9;rcases Nat.lt_or_ge p t.size with q | q
   ·exact q
   ·have O:=V.1;obtain⟨op,K,b6⟩:=Option.map_eq_some_iff.1 O;rcases getElem?_append_cases K with⟨b7,_⟩ | ⟨_,hm⟩
    ·exact b7
    ·subst hu;simp at hm;subst hm;cases b6
  have a2:(t++u)[t.size]? =some {g:=0,fn:=f1,pos:=p1,act:= .recvClosed F.ch}:=by subst hu;simp
  have b8:(t++u).heard t.size:=⟨0,by simp [Trace.g?,a2],by rw [deaf_old (Nat.le_refl _)];exact b1⟩;have av:HappensBefore (t++u) p t.size:= .single (.inr ⟨.closed V.1 (by rw [act?_of a2]),V.2.2.1,b8⟩);have bv:(t++u).g? t.size=some 0:=by simp [Trace.g?,a2]
  have a3:∀{a b:Nat} {g:Nat},a<b→(t++u).g? a=some g→(t++u).g? b=some g→HappensBefore (t++u) a b:=fun O Y b9=> .single (.inl ⟨O,_,Y,b9⟩);rcases Nat.lt_or_ge g (B.N0+F.n) with ca | ca
  ·
   obtain⟨q,cb,cc,cd,ce,cf⟩:=V.2.2.2.1;obtain⟨ρ,cp,cg,al⟩:=cf (g - B.N0) (by omega);have a4:B.N0+(g - B.N0)=g:=by omega
   rw [a4] at al;have bw:HappensBefore (t++u) ρ q:= .single (.inr ⟨.marked cg (.inr al.act) cc (fun z O Y=>ag.norel z (by omega)),al.heard,ce⟩);have bU:HappensBefore (t++u) q p:=a3 cb cd V.2.1;have hle:x≤ρ:=Nat.le_of_not_lt fun a5=>al.after x a5 hg a1;refine⟨t.size,bv,?_⟩;rcases Nat.lt_or_ge x ρ with U | U
   ·exact((a3 U hg al.g).trans (bw.trans bU)).trans av
   ·obtain rfl:x=ρ:=by omega
    exact(bw.trans bU).trans av
  ·
   have a4:g=B.N0+F.n:=by rw [am] at bb;have:=h.BC.cj am;simp at bb;omega
   subst a4;have hle:x≤p:=Nat.le_of_not_lt fun a5=>V.2.2.2.2 x a5 hg a1;refine⟨t.size,bv,?_⟩;rcases Nat.lt_or_ge x p with U | U
   ·exact(a3 U hg V.2.1).trans av
   ·obtain rfl:x=p:=by omega
    exact av
 ·have:=ag.deaf 0 a0;rw [a6] at this;exact this
theorem Inv.recv(h:Inv P F B gs w t φ r bt S Sh j c v wt' sm cl k)(b3:∀k v E E',Le E E'→F.msg k v E→F.msg k v E'){x:Goroutine}(hi:gs[0]? =some x){a1:List Nat}{vs:Lv_}(ag:φ 0= .ph (.Cr a1 vs))(b4:bt 0=true)
  {O:Goroutine} {s₀:St} (hg:Dj (S 0) s₀) (hs:Stop P F (.Cr a1 vs) O s₀) (a2:∀w,stepG P true x w=stepG P true O w) (cq:x.frame=O.frame):
  Hx P F B gs w sl t 0 (mu F gs.size φ r bt):=by
 have a3:0<gs.size:=(Array.getElem?_eq_some_iff.1 hi).1;obtain⟨z,b5,_,b6⟩:=hs.law.recv a1 vs rfl;have a4:stepG P (0==0) x w= .comm O #[rcase F.ch z] true (.recv true) w #[]:=by rw [show((0:Nat)==0)=true from rfl,a2];exact b5 w
 have a5:∀(a:Nat) (fn:FuncId) (pos:String),MemOp.ofEvents a fn pos #[]= #[]:=fun a fn pos=>by rw [ofEvents_eq];simp
 by_cases al:partners (gs.setIfInBounds 0 ph) F.ch true= []
 ·cases am:cl with
  | false=>
   have Y:=h.Hi;rw [am] at Y;have Z:=crowd_waits (sl:=sl) hi a4 fun cr bo=>by
    simp at bo;subst bo;exact ways_recv_none (z:=z) Y al
   have b7:∀a k',a<gs.size→φ a= .ph (.CI k')→bt a=true:=by
    intro a k' av a6;cases hb:bt a with
    | true=>rfl
    | false=>
     have V:=h.EP a _ (Array.getElem?_eq_getElem av);rw [a6,hb] at V;obtain⟨g,y,a7,hgo,_⟩:=V.PF;have a0:a≠0:=fun e=>by subst e;rw [ag] at a6;cases a6
     have:(a,0)∈partners (gs.setIfInBounds 0 ph) F.ch true:=mem_partners.2 ⟨gs[a],stand_get a0 (Array.getElem?_eq_getElem av),by rw [hgo,offersAt_parked_send];simp⟩;rw [al] at this;cases this
   obtain⟨bv,a8,a9⟩:=h.rest (g':=parked O #[rcase F.ch z] (.recv true)) (u:=MemOp.ofEvents 0 x.frame.fn x.frame.place #[]) a3 b4 hg (by rw [ag];exact .FT rfl hs) (a5 _ _ _) (fun _=>⟨am,b7⟩) (fun k' e=>by rw [ag] at e;cases e) (fun Y e=>by have:=h.BC.pos;omega);exact⟨_,_,_,_,Z,.inl ⟨_,_,_,_,_,_,_,_,_,_,_,_,a8,a9⟩⟩
  | true=>
   subst am;have Z:=crowd_recv_closed (sl:=sl) hi a4 h.Hi al;rw [finishComm_recv,a5] at Z;obtain⟨Y,ct,b8⟩:=h.So;have b9:=b6 fun k' U hh=>by
    have ca:k'<j:=by rw [h.BC.cj Y];exact U
    have bw:=h.BC.Hh k' ca hh;rw [ag] at bw;have cu:=h.BC.size;have cv:=h.BC.pos;obtain⟨d,bU⟩:=b8 (B.N0+k') (by omega) (by omega);apply Classical.byContradiction;intro cb;rw [bw.2 cb] at bU;cases bU
   have cc:=h.over (gs':=gs.setIfInBounds 0 (served O (recvd true z false))) ag hg b9 (by simp) (by rw [Array.getElem?_setIfInBounds_self_of_lt a3];rfl) (fun a av=>by rw [Array.getElem?_setIfInBounds_ne (Ne.symm av)]) (f1:=O.frame.fn) (p1:=O.frame.place);refine⟨_,_,_,_,Z,.inr ?_⟩;rw [Array.empty_append];exact cc
 ·have am:cl=false:=by
   obtain⟨⟨a,b⟩,bb⟩:=List.exists_mem_of_ne_nil _ al;obtain⟨o,bd,K⟩:=mem_partners.1 bb;rcases getElem?_stand gs 0 a o bd with⟨_,rfl⟩ | ⟨_,ap⟩
   ·rw [offersAt_ph] at K;cases K
   ·obtain⟨k',U,_⟩:=(h.EP a o ap).OS fun e=>by rw [e] at K;cases K
    cases a2:cl with
    | false=>rfl
    | true=>exact absurd U (h.noSend a2 a k' (Array.getElem?_eq_some_iff.1 ap).1)
  subst am;obtain⟨a,be,bV,cw,cy,d,a0,bW,Z⟩:=crowd_recv_meets_some (sl:=sl) hi a4 h.Hi al fun a b bb=>by
   obtain⟨o,bd,K⟩:=mem_partners.1 bb;rcases getElem?_stand gs 0 a o bd with⟨_,rfl⟩ | ⟨cd,ap⟩
   ·rw [offersAt_ph] at K;cases K
   ·have V:=h.EP a o ap;obtain⟨k',U,bi⟩:=V.OS fun e=>by rw [e] at K;cases K
    rw [U,bi] at V;obtain⟨g,y,a7,hgo,_⟩:=V.PF;rw [hgo,offersAt_parked_send] at K;simp at K;exact⟨K,cd,g,y,a7,_,by rw [ap,hgo]⟩
  have bY:a<gs.size:=(Array.getElem?_eq_some_iff.1 bW).1;have V:=h.EP a _ bW;obtain⟨k',U,bi⟩:=V.OS (by rw [offersAt_parked_send];simp);rw [U,bi] at V;obtain⟨g,y,a7,hgo,ce,cz,bZ⟩:=V.PF;obtain⟨b0,cf,cg⟩:=U3 hgo;have ci:bV=y:=by simp [scase] at b0;exact b0.1
  subst ci;subst cf;rw [finishComm_recv,finishComm_send,a5] at Z;rw [← cg] at bZ;have b1:k'<j∧a=B.N0+k':=by
   rcases h.BC.FJ bY with rfl | ⟨q1,q2⟩ | ⟨ck,b2,rfl⟩ | ⟨Y,rfl⟩
   ·exact absurd rfl a0
   ·have:=h.BC.old a q1 q2;rw [U] at this;exact this.elim
   ·have:=h.BC.work ck b2;rw [U] at this;obtain⟨rfl,_⟩:=this;exact⟨b2,rfl⟩
   ·have:=h.BC.cls Y;rw [U] at this;exact this.elim
  obtain⟨cm,cn,bv,S',a8,a9⟩:=(h.at_ d).meet b3 b1.1 b1.2 U ag hg (.refl _) hs ce bZ (gs':=(gs.setIfInBounds a (served be undef)).setIfInBounds 0 (served O (recvd true bV true))) (by simp)
   (by rw [Array.getElem?_setIfInBounds_self_of_lt (by simpa using a3)];rfl) (by rw [Array.getElem?_setIfInBounds_ne (Ne.symm a0),Array.getElem?_setIfInBounds_self_of_lt bY]) (fun b co cp=>by rw [Array.getElem?_setIfInBounds_ne (Ne.symm co),Array.getElem?_setIfInBounds_ne (Ne.symm cp)]) rfl
   (f1:=be.frame.fn) (f2:=O.frame.fn) (p1:=be.frame.place) (p2:=O.frame.place)
  refine⟨_,_,_,_,Z,.inl ⟨cm,cn,bv,S',Sh,j,c,v,wt',sm,false,k+1,?_,a9⟩⟩;rw [Array.empty_append];exact a8
theorem Inv.spawn(h:Inv P F B gs w t φ r bt S Sh j c v wt' sm cl k){g g' child:Goroutine}(hi:gs[0]? =some g){p U O:Ph}(a0:φ 0= .ph p)(bd:c=false){s₀:St}(hg:Dj (S 0) s₀)(be:stepG P true g w= .spawn g' child w #[])
  (bi:Way P true (Stop P F U) g' s₀) (bo:Way P false (Stop P F O) child ⟨s₀.E,fun _=>none,false⟩) (bv:Fam.DJ U=true) (bw:Fam.DJ O=false) (bU:Fam.Eh U=false) (bV:Fam.Eh O=false) {a1:Nat} {a2:Bool}
  (bW:Cs F B.N0 (gs.size+1) a1 a2 (upd (upd φ gs.size (.ph O)) 0 (.ph U)) v wt' sm cl)
  (ag:Ey (.ph p)=0∧Ey (.ph U)=0∧Ey (.ph O)=0) (bY:∀k,k<a1→late (upd (upd φ gs.size (.ph O)) 0 (.ph U) (B.N0+k))→k<j∧late (φ (B.N0+k))) (a6:a2=true→B.N0+F.n=gs.size∧O= .De)
  (hm:wt F.n (.ph U)+wt F.n (.ph O)<wt F.n (.ph p)) (bZ:sm=0):
  Hx P F B gs w sl t 0 (mu F gs.size φ r bt):=by
 have Y:0<gs.size:=(Array.getElem?_eq_some_iff.1 hi).1;have a3:=runT_crowd_spawn (P:=P) (sl:=sl) (i:=0) hi (show stepG P (0==0) g w=_ from be);have b0:∀(a:Nat) (fn:FuncId) (pos:String),MemOp.ofEvents a fn pos #[]= #[]:=fun a fn pos=>by rw [ofEvents_eq];simp
 rw [b0] at a3;generalize b1:({g:=0,fn:=g.frame.fn,pos:=g.frame.place,act:= .go gs.size}:MemOp)=x at a3;generalize b2:({g:=gs.size,fn:=child.frame.fn,pos:=g.frame.place,act:= .start}:MemOp)=y at a3;have al:x.g=0∧x.act= .go gs.size:=by subst b1;exact⟨rfl,rfl⟩
 have am:y.g=gs.size∧y.act= .start:=by subst b2;exact⟨rfl,rfl⟩
 have b3:((#[]:Trace).push x).push y= #[x,y]:=rfl;have a4:((gs.setIfInBounds 0 g').push child).size=gs.size+1:=by simp
 have f0:upd (upd φ gs.size (.ph O)) 0 (.ph U) 0= .ph U:=upd_same _ _ _;have a5:upd (upd φ gs.size (.ph O)) 0 (.ph U) gs.size= .ph O:=by rw [upd_ne _ _ (by omega),upd_same]
 have a9:∀a,a≠0→a≠gs.size→upd (upd φ gs.size (.ph O)) 0 (.ph U) a=φ a:=fun a b4 b5=>by rw [upd_ne _ _ b4,upd_ne _ _ b5]
 have hu:∀op∈(#[x,y]:Array MemOp),op.act.touch? =none∧∀m,op.act≠ .mark m:=by
  intro op K;simp only [List.mem_toArray,List.mem_cons,List.not_mem_nil,or_false] at K;rcases K with rfl | rfl
  ·rw [al.2];exact⟨rfl,by simp⟩
  ·rw [am.2];exact⟨rfl,by simp⟩
 have b6:D7 F B.N0 B.t0 (gs.size+1) a1 a2 (upd (upd φ gs.size (.ph O)) 0 (.ph U)) (t++ #[x,y]):=by
  refine h.EM.spawn h.BC bd (fun a a7=>?_) (by rw [a5];exact ag.2.2) (by rw [a0];exact ag.1) bY (fun e=>⟨(a6 e).1,by rw [(a6 e).1,a5,(a6 e).2]⟩) al am;by_cases e:a=0
  ·subst e;rw [f0,a0,ag.1,ag.2.1]
  ·rw [a9 a e (by omega)]
 have bb:Ct t w gs.size (upd S 0 s₀) Sh:=h.C4.ghost Y hg;have b7:Ct (t++ #[x,y]) w gs.size (upd S 0 s₀) Sh:=by
  refine bb.ext (fun said=>?_) (fun op K a a7=>by rw [(hu op K).1] at a7;cases a7) (fun op K=>?_) rfl fun _ _=>rfl
  ·have e:t++ #[x,y]=(t++ #[x])++ #[y]:=by apply Array.ext';simp
   rw [e];exact noRace_append (g:=gs.size) (noRace_append (g:=0) (h.C4.clean said) (fun op K=>by simp at K;subst K;exact al.1) fun z a _ op K b hb _=>by rw [(hu op (by simp at K ⊢;exact .inl K)).1] at hb;cases hb)
    (fun op K=>by simp at K;subst K;exact am.1) fun z a _ op K b hb _=>by rw [(hu op (by simp at K ⊢;exact .inr K)).1] at hb;cases hb
  ·simp only [List.mem_toArray,List.mem_cons,List.not_mem_nil,or_false] at K;rcases K with rfl | rfl
   ·rw [al.2];trivial
   ·rw [am.2];trivial
 have b8:Ct (t++ #[x,y]) w (gs.size+1) (upd (upd S 0 s₀) gs.size ⟨s₀.E,fun _=>none,false⟩) Sh:=by
  refine b7.push (i:=0) Y (E:=s₀.E) (fun b o ap=>by rw [upd_same];exact ap) fun b hb z a b9 ca cb=>?_;have hold:touchAt t z=some a:=by
   obtain⟨op,ap,a8⟩:=touch_of b9;rcases getElem?_append_cases ap with⟨_,cc⟩ | ⟨_,cd⟩
   ·rw [touchAt_of cc];exact a8
   ·rw [(hu op cd).1] at a8;cases a8
  exact fork_knows al am (by rw [h.EM.deaf 0 Y,a0];exact ag.1) (h.EM.above _ (Nat.le_refl _)) (bb.kE 0 Y b (by rw [upd_same];exact hb) z a hold ca cb)
 obtain⟨ce,cf⟩:=bi;obtain⟨cg,ci⟩:=bo;have av:∀{α:Type} (f:Nat→α) (a b:α),upd (upd f 0 a) gs.size b 0=a:=fun f a b=>by rw [upd_ne _ _ (by omega),upd_same]
 refine⟨_,_,_,_,a3,.inl ⟨upd (upd φ gs.size (.ph O)) 0 (.ph U),upd (upd r 0 ce) gs.size cg,upd (upd bt 0 true) gs.size true,upd (upd S 0 s₀) gs.size ⟨s₀.E,fun _=>none,false⟩,Sh,a1,a2,v,wt',sm,cl,k,?_,?_⟩⟩
 ·rw [b3];refine⟨by rw [a4];exact bW,by rw [a4];exact b6,fun a o V=>?_,by rw [a4];exact b8,h.Ia,h.Gx,h.ne,h.wg,h.Hi,fun hb=>(by rw [av] at hb;cases hb),fun _ _=>bZ,?_,h.tape,h.os,h.output⟩
  ·by_cases e:a=0
   ·subst e;rw [Array.getElem?_push_lt (by simpa using Y)] at V;simp at V;subst V;rw [f0,av,av,av];exact .walk bv.symm (fun q=>by rw [bU] at q;cases q) cf
   ·by_cases Z:a=gs.size
    ·subst Z;have:child=o:=by
      rw [show gs.size=(gs.setIfInBounds 0 g').size by simp,Array.getElem?_push_size] at V;exact Option.some.inj V
     subst this;rw [a5,upd_same,upd_same,upd_same];have ck:(gs.size==0)=false:=by rw [beq_eq_false_iff_ne];omega
     rw [ck];exact .walk bw.symm (fun q=>by rw [bV] at q;cases q) ci
    ·rw [a9 a e Z,upd_ne _ _ Z,upd_ne _ _ e,upd_ne _ _ Z,upd_ne _ _ e,upd_ne _ _ Z,upd_ne _ _ e];have:gs[a]? =some o:=by
      rw [Array.getElem?_push] at V;simp [Z] at V;simpa [Array.getElem?_setIfInBounds_ne (Ne.symm e)] using V
     exact h.EP a o this
  ·rw [av];exact h.le.trans fun b o ap=>hg.ext b o ap
 ·rw [a4];refine TQ ?_;simp only [sumTo];rw [a5];have cm:=sumTo_upd (upd φ gs.size (.ph O)) (.ph U) (wt F.n) Y;rw [upd_ne _ _ (by omega),a0] at cm;have cn:=sumTo_upd_out φ (.ph O) (wt F.n) (i:=gs.size) (j:=gs.size) (Nat.le_refl _);omega
theorem Inv.step(h:Inv P F B gs w t φ r bt S Sh j c v wt' sm cl k)(bw:∀k v E E',Le E E'→F.msg k v E→F.msg k v E'):
  ∃gs' w' bU u,stepT P (crowd gs w sl)=(.next (crowd gs' w' bU),u)∧
  ((∃b7 b8 b9 S' cm O cn v' co sm' cl' k',Inv P F B gs' w' (t++u) b7 b8 b9 S' cm O cn v' co sm' cl' k'∧Mu.lt (mu F gs'.size b7 b8 b9) (mu F gs.size φ r bt))∨Over P F B gs' w' (t++u)):=by
 have cQ:=h.BC.pos;have a0:=h.BC.size;have bV:0<gs.size:=by omega
 have cp:∀x∈gs,awake x:=by
  intro x K;obtain⟨i,hi,rfl⟩:=Array.mem_iff_getElem.1 K;exact(h.EP i _ (Array.getElem?_eq_getElem hi)).awake
 have bW:∀i (hi:i<gs.size) p,φ i= .ph p→bt i=true→(gs[i]).status= .running:=by
  intro i hi p cq hb;have hs:=h.EP i _ (Array.getElem?_eq_getElem hi);rw [cq,hb] at hs;generalize K:Nx.ph p=x at hs;generalize Z:true=b at hs;generalize gs[i]=o at hs ⊢;generalize r i=ρ at hs;generalize S i=s at hs;cases hs with
  | walk _ _ a4=>exact a4.running
  | again _ _=>rfl
  | FT _ _=>cases Z
  | Gb _ _ _ _=>cases Z
  | blk _ _=>cases Z
  | gone _ _=>cases K
 have cr:∃(i:Nat) (g:Goroutine),gs[i]? =some g∧g.status= .running:=by
  obtain⟨p0,ag,a5⟩:=h.BC.main;cases bY:bt 0 with
  | true=>exact⟨0,_,Array.getElem?_eq_getElem bV,bW 0 bV p0 ag bY⟩
  | false=>
   obtain⟨ct,cu⟩:=h.Oh bY;have ca:=h.EP 0 _ (Array.getElem?_eq_getElem bV);rw [ag,bY] at ca;obtain⟨a1,vs,cb,cR,rfl,_,_⟩:=ca.receiver rfl rfl;obtain⟨a4,U⟩:=a5;have bZ:B.N0+F.n<gs.size:=by rw [U] at a0;simp at a0;omega
   have cv:=h.BC.cls U;have al:=h.BC.mode;rw [if_pos U] at al;cases a8:φ (B.N0+F.n) with
   | gone d=>rw [a8] at al;have:=al.2.2.2.2.2;rw [ct] at this;cases this
   | ph b0=>
    cases b1:bt (B.N0+F.n) with
    | true=>exact⟨_,_,Array.getElem?_eq_getElem bZ,bW _ bZ b0 a8 b1⟩
    | false=>
     have a9:=h.blk U b1;have am:=h.EP _ _ (Array.getElem?_eq_getElem bZ);have cw:b0= .DC:=by
      have bb:=cv;rw [a8] at am bb;rw [b1] at am;generalize gs[B.N0+F.n]=o at am;generalize r (B.N0+F.n)=ρ at am;generalize S (B.N0+F.n)=s at am;generalize K:Nx.ph b0=x at am bb;generalize Z:false=b at am;cases am with
      | walk _ _ _=>cases Z
      | again _ _=>cases Z
      | FT _ _=>cases K;exact bb.elim
      | Gb _ _ _ _=>cases K;exact bb.elim
      | blk _ _=>cases K;rfl
      | gone _ _=>cases K
     subst cw;rw [a8] at al;obtain⟨cy,_,_⟩:=al;have cc:=h.BC.cnt;rw [ag] at cc;simp only [pend,Nat.add_zero] at cc;have hex:∃i,i<gs.size∧1≤cU (φ i)+cL (φ i)+cS (φ i):=by
      apply Classical.byContradiction;intro cz;have b2:∀i,i<gs.size→cU (φ i)=0∧cL (φ i)=0∧cS (φ i)=0:=fun i hi=>by
       have:¬1≤cU (φ i)+cL (φ i)+cS (φ i):=fun q=>cz ⟨i,hi,q⟩;omega
      have zero:∀f:Nat→Nat,(∀i,i<gs.size→f i=0)→sumTo gs.size f=0:=fun f cA=>by
       have:=sumTo_le (f:=f) (c:=0) (j:=gs.size) (fun i hi=>by rw [cA i hi];exact Nat.le_refl _);omega
      have z1:=zero (fun i=>cU (φ i)) fun i hi=>(b2 i hi).1;have cT:=zero (fun i=>cL (φ i)) fun i hi=>(b2 i hi).2.1;have cV:=zero (fun i=>cS (φ i)) fun i hi=>(b2 i hi).2.2;omega
     obtain⟨i,hi,a2⟩:=hex;cases a6:φ i with
     | gone d=>rw [a6] at a2;simp [cU,cL,cS] at a2
     | ph pi=>
      have cB:bt i=true:=by
       cases hb:bt i with
       | true=>rfl
       | false=>
        have hs:=h.EP i _ (Array.getElem?_eq_getElem hi);rw [a6,hb] at hs;rw [a6] at a2;generalize gs[i]=o at hs;generalize r i=ρ at hs;generalize S i=s at hs;generalize K:Nx.ph pi=x at hs a2;generalize Z:false=b at hs;cases hs with
        | walk _ _ _=>cases Z
        | again _ _=>cases Z
        | FT _ _=>simp [cU,cL,cS] at a2
        | Gb _ _ _ _=>have:=cu i _ hi (a6.trans K);rw [hb] at this;cases this
        | blk _ _=>simp [cU,cL,cS] at a2
        | gone _ _=>cases K
      exact⟨i,_,Array.getElem?_eq_getElem hi,bW i hi pi a6 cB⟩
 obtain⟨i,g,d,bU,hi,bd,cC⟩:=crowd_pick (P:=P) (w:=w) (sl:=sl) cp cr
 suffices Hx P F B gs (w.at d) bU t i (mu F gs.size φ r bt) by
  obtain⟨gs',w',cD,u,b3,be⟩:=this;exact⟨gs',w',cD,u,cC.trans b3,be⟩
 have V:=h.at_ d;have b4:i<gs.size:=(Array.getElem?_eq_some_iff.1 hi).1;have hs:=h.EP i g hi;generalize K:φ i=x at hs;generalize cd:r i=ρ at hs;generalize hb:bt i=b at hs;generalize bi:S i=s at hs;cases hs with
 | FT _ _=>cases bd
 | Gb _ _ _ _=>cases bd
 | blk _ _=>cases bd
 | gone hm a3=>exact V.slip hi bd K cd hm a3 bi
 | @again a1 vs _ cb _ z hm Y=>
  have av:i=0:=by simpa using hm
  subst av;refine V.recv bw hi K hb (by rw [bi];exact .refl _) Y (fun w=>?_) rfl;rw [stepG_tries];congr 1;have:=Y.law.run;obtain⟨a,b,c,d,e⟩:=cb;simp only at this;subst this;rfl
 | @walk p _ _ _ hm a3 a4=>
  have cE:JQ (Stop P F p) g s∨∃f,ρ= .node f∧(∀w,Fits s w→∃g' s' w' es,stepG P (i==0) g w= .go g' w' es∧Jr P (i==0) (JQ (Stop P F p)) (f w) g' s'∧Fits s' w'∧Fr s w s' w'∧(∀e∈es,Ev s w w' e)∧(s= .quiet→s'= .quiet∧w'=w∧es= #[])):=by
   cases ρ with
   | leaf=>exact .inl a4
   | node f=>
    rcases a4 with q | ⟨_,q⟩
    ·exact .inl q
    ·exact .inr ⟨f,rfl,q⟩
  rcases cE with⟨s₀,hg,Y⟩ | ⟨f,rfl,hgo⟩
  ·subst bi;by_cases ce:∃k',p= .CI k'
   ·obtain⟨k',rfl⟩:=ce;exact V.send bw hi K hb hm hg Y
   by_cases c2:∃O,p= .Fq O
   ·obtain⟨O,rfl⟩:=c2;have av:i=0:=by simpa [Fam.DJ] using hm
    subst av;obtain⟨p0,ag,a5⟩:=h.BC.main;have:p0= .Fq O:=by rw [K] at ag;exact(Nx.ph.inj ag).symm
    subst this;obtain⟨rfl,cF,U⟩:=a5;obtain⟨g',child,_,_,hgo,b5,b6⟩:=Y.law.go _ rfl;have a9:sm=0:=by have:=h.BC.mode;rw [U] at this;exact this.2.2.1
    have cG:=h.BC.spawn K;have bo:F.DV O= .FV∨F.DV O= .FE (O+1):=by unfold Fam.DV;split;exact .inl rfl;exact .inr rfl
    have a7:F.start O= .CI O∨F.start O= .Dd:=by unfold Fam.start;split;exact .inl rfl;exact .inr rfl
    have cH:gs.size=B.N0+O:=by rw [U] at a0;simpa using a0
    refine V.spawn hi K U hg (hgo _) b6 b5 ?_ ?_ ?_ ?_ cG ⟨rfl,?_,?_⟩ (fun k' cf ap=>?_) (fun e=>by rw [U] at e;cases e) ?_ a9
    ·rcases bo with e | e <;> rw [e] <;> rfl
    ·rcases a7 with e | e <;> rw [e] <;> rfl
    ·rcases bo with e | e <;> rw [e] <;> rfl
    ·rcases a7 with e | e <;> rw [e] <;> rfl
    ·rcases bo with e | e <;> rw [e] <;> rfl
    ·rcases a7 with e | e <;> rw [e] <;> rfl
    ·by_cases e:k'=O
     ·subst e;rw [upd_ne _ _ (by omega),show B.N0+k'=gs.size by omega,upd_same] at ap;rcases a7 with e | e <;> rw [e] at ap <;> exact ap.elim
     ·rw [upd_ne _ _ (by omega),upd_ne _ _ (by omega)] at ap;exact⟨by omega,ap⟩
    ·have:wt F.n (.ph (F.start O))≤10:=by rcases a7 with e | e <;> rw [e] <;> simp [wt]
     have be:wt F.n (.ph (F.DV O))+20≤5*F.n+60+20*(F.n - O):=by
      rcases bo with e | e <;> rw [e] <;> simp only [wt] <;> omega
     have cg:wt F.n (.ph (.Fq O))=5*F.n+55+20*(F.n - O):=rfl;omega
   by_cases c3:p= .FV
   ·subst c3;have av:i=0:=by simpa [Fam.DJ] using hm
    subst av;obtain⟨p0,ag,a5⟩:=h.BC.main;have:p0= .FV:=by rw [K] at ag;exact(Nx.ph.inj ag).symm
    subst this;obtain⟨cF,U⟩:=a5;obtain⟨g',child,_,_,hgo,b5,b6⟩:=Y.law.GU rfl;have a9:sm=0:=by have:=h.BC.mode;rw [U] at this;exact this.2.2.1
    have cH:gs.size=B.N0+j:=by rw [U] at a0;simpa using a0
    refine V.spawn hi K U hg (hgo _) b6 b5 rfl rfl rfl rfl (h.BC.aJ K) ⟨rfl,rfl,rfl⟩ (fun k' cf ap=>?_) (fun _=>⟨by omega,rfl⟩) (by simp only [wt];omega) a9;rw [upd_ne _ _ (by omega),upd_ne _ _ (by omega)] at ap;exact⟨cf,ap⟩
   by_cases c4:∃a1 vs,p= .Cr a1 vs
   ·obtain⟨a1,vs,rfl⟩:=c4;have av:i=0:=by simpa [Fam.DJ] using hm
    subst av;exact V.recv bw hi K hb hg Y (fun _=>rfl) rfl
   by_cases ci:p= .DO
   ·subst ci;exact V.close hi K hm Y
   by_cases bv:p= .DC∧sm=0
   ·obtain⟨rfl,bv⟩:=bv;exact V.block hi K hb hm hg Y bv
   obtain⟨v',w',sm',es,nx,cI⟩:=h.BC.enabled b4 K (fun k e=>ce ⟨k,e⟩) (fun k e=>c2 ⟨k,e⟩) c3 (fun a1 vs e=>c4 ⟨a1,vs,e⟩) ci (fun e=>by
    have al:=h.BC.mode
    subst e
    have ck:c=true∧i=B.N0+F.n:=by
     rcases h.BC.FJ b4 with rfl | ⟨a,b⟩ | ⟨k',cJ,rfl⟩ | q
     ·obtain⟨q,a3,cK⟩:=h.BC.main;rw [K] at a3;cases a3;exact cK.elim
     ·have:=h.BC.old i a b;rw [K] at this;exact this.elim
     ·have:=h.BC.work k' cJ;rw [K] at this;exact this.elim
     ·exact q
    rw [if_pos ck.1,← ck.2,K] at al
    obtain⟨cy,_⟩:=al
    have:sm≠0:=fun q=>bv ⟨rfl,q⟩
    omega)
   exact V.act hi K hm hg Y cI
  ·subst bi;have cM:Fits (S i) (w.at d):=V.C4.fits i b4;obtain⟨g',s',w',es,b3,be,cg,cN,cO,cP⟩:=hgo (w.at d) cM;exact V.own hi K hm a3 b3 be cg cN cO cP (by rw [cd];exact⟨f,_,rfl,rfl⟩)
theorem Inv.run(Y:∀k v E E',Le E E'→F.msg k v E→F.msg k v E'):∀(K:Mu) (gs:Array Goroutine) (w:World) (sl:Option (Nat×Nat)) (t:Trace) (φ:Nat→Nx) (r:Nat→Rk) (bt:Nat→Bool) (S:Nat→St) (Sh:Nat→Prop) (j:Nat) (c:Bool) (v wt' sm:Nat) (cl:Bool) (k:Nat),
  mu F gs.size φ r bt=K→Inv P F B gs w t φ r bt S Sh j c v wt' sm cl k→∃n gs' w' O U,runNT P n (crowd gs w sl) t=(.next (crowd gs' w' O),U)∧Over P F B gs' w' U:=by
 intro K
 induction K using Mu.wf.induction with
 | _ K Z=>
  intro gs w sl t φ r bt S Sh j c v wt' sm cl k ag h;obtain⟨gs',w',O,u,V,hh⟩:=h.step (sl:=sl) Y;rcases hh with⟨al,am,ap,S',av,a0,a1,v',a2,sm',cl',k',a3,a4⟩ | a5
  ·obtain⟨n,a6,a7,a8,a9,bb,bd⟩:=Z _ (ag▸a4) gs' w' O (t++u) al am ap S' av a0 a1 v' a2 sm' cl' k' rfl a3;exact⟨n+1,a6,a7,a8,a9,Mw V bb,bd⟩
  ·exact⟨1,gs',w',O,t++u,Mw V rfl,a5⟩
end
end Pal
namespace Pal
open Go Go.Conc
open Go.ConcN (upd upd_same upd_ne sumTo sumTo_upd sumTo_upd_out sumTo_congr le_sumTo sumTo_le)
def IB(H:LH)(a b:Nat):LH:=fun x=>if x=b then none else if x=a then none else H x
theorem YR{P:Program}(F:Fam){Q:GP}{g:Goroutine}{s:St}(am:1≤F.n)(a4:F.n<2147483647)(a5:∀k v E E',Le E E'→F.msg k v E→F.msg k v E')
  (V:F.wg≠F.ch) (Y:s.H F.wg=some (F.GQ 0 0)) (Z:s.H F.ch=some (.chan 0 #[] false 0 0 false))
  (a6:Way P true (Stop P F (.FE 0)) g ⟨s.E,IB s.H F.wg F.ch,false⟩) (a7:∀g s,F.fin g s→(D4 P).ok Q g s):(D4 P).ok Q g s:=by
 intro gs w sl t q Sh hC;have O:0<gs.size:=(Array.getElem?_eq_some_iff.1 hC.main).1;let s1:St:={s with H:=fun b=>if b=F.wg then none else s.H b}
 have ap:lone s 0=s:=rfl;have a8:Ct t w gs.size (upd (lone s) 0 s1) (fun b=>Sh b∨b=F.wg):=by
  have:=hC.C4.share (i:=0) O (b₀:=F.wg) (o₀:=F.GQ 0 0) (by rw [ap];exact Y);exact this
 have c2:Ct t w gs.size (upd (upd (lone s) 0 s1) 0 ⟨s.E,IB s.H F.wg F.ch,false⟩) (fun b=>(Sh b∨b=F.wg)∨b=F.ch):=by
  have:=a8.share (i:=0) O (b₀:=F.ch) (o₀:= .chan 0 #[] false 0 0 false) (by rw [upd_same];simp [s1,Ne.symm V,Z]);refine this.congr fun i hi=>?_;by_cases e:i=0
  ·subst e;rw [upd_same,upd_same,upd_same];exact⟨rfl,rfl⟩
  ·have h:∀(f:Nat→St) (x:St),upd f 0 x i=f i:=fun f x=>upd_ne f x e;constructor <;> simp only [h]
 have av:∀b,s.H b≠none→∀x a,touchAt t x=some a→DT a.loc=some b→Knows t 0 x:=fun b hb=>hC.C4.kH 0 O b (by rw [ap];exact hb);have a0:∀b,(b=F.wg∨b=F.ch)→s.H b≠none:=by rintro b (rfl | rfl) <;> simp [Y,Z]
 have a1:=hC.C4.fits 0 O;obtain⟨ρ,a9⟩:=a6;let φ:Nat→Nx:=fun i=>if i=0 then .ph (.FE 0) else .gone (Deaf t i)
 have z:∀f:Nx→Nat,(∀d,f (.gone d)=0)→f (.ph (.FE 0))=0→(sumTo gs.size fun i=>f (φ i))=0:=by
  intro f a2 a3;have:=sumTo_le (f:=fun i=>f (φ i)) (c:=0) (j:=gs.size) fun i _=>by
   show f (φ i)≤0;by_cases e:i=0
   ·simp [φ,e,a3]
   ·simp [φ,e,a2]
  omega
 have bb:∀i,(upd (upd (lone s) 0 s1) 0 ⟨s.E,IB s.H F.wg F.ch,false⟩) i=if i=0 then⟨s.E,IB s.H F.wg F.ch,false⟩ else .quiet:=by
  intro i;by_cases e:i=0
  ·subst e;rw [upd_same];rfl
  ·rw [upd_ne _ _ e,upd_ne _ _ e];simp [lone,e]
 have bd:F.GQ (Fam.word 0 0) (0:Nat)=F.GQ 0 0:=by simp [Fam.word]
 have be:Inv P F ⟨gs.size,t.size,s.E,w⟩ gs w t φ (fun i=>if i=0 then ρ else chain (q i)) (fun _=>true) (upd (upd (lone s) 0 s1) 0 ⟨s.E,IB s.H F.wg F.ch,false⟩) (fun b=>(Sh b∨b=F.wg)∨b=F.ch) 0 false 0 0 0 false 0:=by
  refine⟨⟨O,am,a4,by simp,Nat.zero_le _,by simp,⟨.FE 0,rfl,rfl,am,rfl⟩,fun i a2 a3=>?_,fun k K=>by omega,by simp,?_,by simp [φ,pend],?_,fun k K=>by omega,.nil,fun k K=>by cases K⟩,
   ⟨fun i hi=>?_,fun i hi=>hC.lv.above i hi,fun x a b U hb ag K i hi bi=>?_,fun x a b U hb ag K=>?_,fun x g hg V bo=> .inl (hC.over x g hg V bo),fun x U e=>?_,Nat.le_refl _,fun k K=>by omega,by simp,by simp⟩,fun i g' al=>?_,c2,.inl (.inr rfl),.inr rfl,V,?_,?_,by simp,by simp,?_,rfl,rfl,rfl⟩
  ·have:i≠0:=by omega
   simp [φ,this,Fh]
  ·rw [z cU (fun _=>rfl) rfl];simp [φ,pend]
  ·simp only [Bool.false_eq_true,if_false,Db];exact⟨z cL (fun _=>rfl) rfl,z cS (fun _=>rfl) rfl,trivial,trivial,trivial⟩
  ·by_cases e:i=0
   ·subst e;simp [φ,Ey];exact hC.hears
   ·simp [φ,e,Ey]
  ·have:i=0:=by
    rcases bi with e | e
    ·exact e
    ·exact absurd hi (Nat.not_lt.2 e)
   subst this;exact av b (a0 b ag) x a U hb
  ·exact av b (a0 b ag) x a U hb
  ·have:=lt_of_act? e;have cc:t.size≤x:=U;omega
  ·rw [bb];by_cases e:i=0
   ·subst e;rw [hC.main] at al;obtain rfl:=Option.some.inj al;simp only [if_true,φ];exact .walk rfl (fun h=>by cases h) a9
   ·have hm:(i==0)=false:=by rw [beq_eq_false_iff_ne];exact e
    simp only [e,if_false,φ];exact .gone hm (hC.lv.old i g' (by omega) al)
  ·show w.heap[F.wg]? =_;rw [bd];exact a1.h _ _ Y
  ·exact a1.h _ _ Z
  ·rw [upd_same];exact Le.refl _
 obtain⟨n,gs',w',bv,bw,bU,bV,bW,g',s',bY,bZ,hle,b0,b1,b2⟩:=Inv.run a5 _ _ _ sl _ _ _ _ _ _ _ _ _ _ _ _ _ rfl be;obtain⟨n2,b3,w2,b4,t2,q2,b5,g2,s2,k1,b6,b7,b8,b9,ca,cb⟩:=a7 g' s' bZ gs' w' bv bw bV bW bY;refine⟨n+n2,b3,w2,b4,t2,q2,b5,g2,s2,?_,b6,b7,fun b o h=>b8 b o (hle b o h),b9.trans b0,ca.trans b1,cb.trans b2⟩;rw [runNT_add,bU];exact k1
end Pal
namespace Pal
open Go Go.Conc
section
variable {P:Program}{F:Fam}{J:Judge P}{Q:GP}{n:Nat}{L L':Env}{ds:Ld_}{k:Li_}{cs:Lf_}{s s':St}{b:Frame}{main:Bool}
theorem C6(hb:b.roundOf=none)(T:AD)(todo:Li_):fr b T ds todo=b.at ⟨T,ds⟩ todo:=by simp [fr,Frame.at,hb]
theorem JK(hb:b.roundOf=none)(T:AD)(todo:Li_):EC b T ds todo={b.at ⟨T,ds⟩ todo with mode:= .returning}:=by simp [EC,Frame.at,hb]
theorem Fg(T:AD)(ds:Ld_)(x:Operand):(⟨T,ds⟩:Act).eval x=BO T x:=by cases x <;> rfl
theorem F7(T:AD)(ds:Ld_)(d:Option Tmp)(v:Value):(⟨T,ds⟩:Act).put d v=⟨CX T d v,ds⟩:=by cases d <;> rfl
def JO(J:Judge P)(Q:GP)(b:Frame)(n:Nat)(L:Env)(ds:Ld_)(cs:Lf_)(s:St):Prop:=
 ∀T,Has n L T→∀todo,J.ok Q (G (EC b T ds todo) cs) s
theorem JL.out(K:b.roundOf=none)(h:JO J Q b n L ds cs s):JL J Q b n L ds [] cs s:=fun T O=>
 Judge.Dt rfl (fun w=>by simp [G,stepG,stepG.exec,fr,EC,K]) (h T O [])
theorem Hp(K:b.roundOf=none)(h:JO J Q b n L ds cs s):JL J Q b n L ds (.code .ret::k) cs s:=fun T O=>
 Judge.Dt rfl (fun w=>by simp [G,stepG,stepG.exec,fr,EC,K]) (h T O (.code .ret::k))
theorem JO.leave{c:Frame}{v:Value}(O:b.kind= .normal)(K:Cm P b.fn L n s v)(h:J.ok Q (G (c.finish v) cs) s):JO J Q b n L [] (c::cs) s:=fun T U todo=>by
 obtain⟨fn,V,K⟩:=K
 exact Judge.leave O V (K T U) h
theorem JO.leaveD{c:Frame}{fn:Func}(O:b.kind= .deferred)(U:P.funcs[b.fn]? =some fn)(K:fn.results= #[])(V:c.mode= .returning∨c.mode= .panicking [goexitEntry])(h:J.ok Q (G c cs) s):JO J Q b n L [] (c::cs) s:=fun T ag todo=>by
 refine Judge.Dt rfl (fun w=>?_) h
 have Y:=results_none K T P w
 have Z:=fun(x:Array Event)=>events_results_none (P:=P) (w:=w) K T x
 rcases V with e | e <;> simp [G,stepG,unwind,EC,U,Y,Z,doReturn,O,GStep.after,seen_none,e,goexitEntry]
theorem JO.enter{f:FuncId}{fn:Func}{c:Code}{vs:Lv_}(O:b.roundOf=none)(V:P.funcs[f]? =some fn)(Y:(fn.name== "runtime.NumGoroutine")=false)(hb:fn.body=some c)(al:vs.length≤fn.ntmps)
  (h:∀T,Has n L T→∀todo,JL J Q (baseD f) fn.ntmps (FR 0 vs) [] [.code c] (EC b T ds todo::cs) s):JO J Q b n L (dcall f vs.toArray::ds) cs s:=fun T Z todo=>by
 refine Judge.Dt rfl (fun w=>?_) (h T Z todo (vs.toArray++Array.replicate (fn.ntmps - vs.length) undef) ⟨by simp;omega,fun t v ht=>?_⟩)
 ·rw [JK O,stepG_unwind_enter (a:=⟨T,dcall f vs.toArray::ds⟩) rfl V Y hb,JK O]
  rw [C6 (b:=baseD f) rfl];simp
 ·obtain⟨_,K⟩:=JC ht;have ag:t<vs.length:=by
   rcases Nat.lt_or_ge t vs.length with U | U
   ·exact U
   ·simp at K;have:=(List.getElem?_eq_some_iff.1 K).1;omega
  rw [Array.getD_eq_getD_getElem?,Array.getElem?_append_left (by simpa using ag)];simp at K;simp [K]
theorem JL.defer{ops:Ao_}{i:Nat}{rest:List Nat}{d:Option Tmp}{f:FuncId}{args:Array Operand}{ats:Array TypeId}{ty:TypeId}{p:String}{af:Ae_}{g:On_}{vs:Lv_}
  (U:ops[i]? =some ⟨d,.defer ⟨.value (.func f),args,ats⟩,ty,p,af,g⟩) (V:b.roundOf=none) (hw:Bf L ops ⟨d,.defer ⟨.value (.func f),args,ats⟩,ty,p,af,g⟩=some true) (K:((b.kind != .early)&&BE n d)=true)
  (Y:evs L args.toList=some vs) (h:JL J Q b n (AI L d undef) (dcall f vs.toArray::ds) (.inRegion ops rest::k) cs s):
  JL J Q b n L ds (.inRegion ops (i::rest)::k) cs s:=fun T O=>by
 simp only [Bool.and_eq_true] at K
 have Z:args.map (BO T)=vs.toArray:=by
  rw [← F4 O.Gr Y];apply Array.ext';simp
 refine Judge.oper U (Dh O hw) (by simpa using K.1) (.inl V) ?_;have ag:execOp (BO T) ⟨d,.defer ⟨.value (.func f),args,ats⟩,ty,p,af,g⟩= .pure (.defer (dcall f vs.toArray)):=by
  simp only [execOp,resolve,bind,Sem.bind,Deferred.ofValue,BO,pure,dcall];rw [Z];simp
 rw [ag];exact h _ (O.put K.2 undef)
def J5:Ph→Bool
 | .CI _ | .Fq _ | .FV | .Cr _ _ | .DO | .DC=>false
 | _=>true
theorem Hq{p:Ph}{g:Goroutine}(K:J5 p=true)(U:g.status= .running)(V:g.offers=none)(O:if Fam.Eh p=true then s= .quiet else s.q=false)(Y:p= .EN→mayWake P g=true)
  (h:∀v wt sm v' wt' sm' es nx,F.act p v wt sm=some ((v',wt',sm'),es,nx)→∃g',(∀w,F.WG w v wt sm→stepG P (Fam.DJ p) g w= .go g' (F.put w v' wt' sm') es)∧g'.status= .running∧LW P (Stop P F) (Fam.DJ p) nx g' (Fam.GR p s)):Stop P F p g s:=
 FX.stop {
  run:=U
  offers:=V
  quiet:=fun e=>by rw [if_pos e] at O;exact O
  live:=fun e=>by rw [if_neg (by rw [e];simp)] at O;exact O
  act:=h
  He:=fun e=>by rcases e with e | e;exact Y e;subst e;cases K
  ER:=fun e=>by subst e;cases K
  close:=fun e=>by subst e;cases K
  send:=fun k e=>by subst e;cases K
  go:=fun j e=>by subst e;cases K
  GU:=fun e=>by subst e;cases K
  recv:=fun Z vs e=>by subst e;cases K}
theorem JN{w:World}{v wt sm:Nat}(h:F.WG w v wt sm):F.put w v wt sm=w:=by
 unfold Fam.put;have:w.heap.setIfInBounds F.wg (F.GQ (Fam.word v wt) sm)=w.heap:=by
  apply Array.ext_getElem?;intro i;by_cases e:F.wg=i
  ·subst e;unfold Fam.WG at h;have O:F.wg<w.heap.size:=by
    rcases Nat.lt_or_ge F.wg w.heap.size with K | K
    ·exact K
    ·simp [Array.getElem?_eq_none K] at h
   rw [Array.getElem?_setIfInBounds_self_of_lt O,h]
  ·rw [Array.getElem?_setIfInBounds_ne e]
 rw [this]
theorem Hs{w:World}{v wt sm:Nat}(h:F.WG w v wt sm):w.cell? F.sA=some (.int .u64 (Fam.word v wt))∧w.cell? F.mA=some (.int .u32 sm)∧w.frozen? F.sA=false∧w.frozen? F.mA=false:=by
 unfold Fam.WG Fam.GQ at h;refine⟨?_,?_,?_,?_⟩
 ·simp [World.cell?,Fam.sA,h]
 ·simp [World.cell?,Fam.mA,h]
 ·simp [World.frozen?,Fam.sA,h]
 ·simp [World.frozen?,Fam.mA,h]
theorem Mx{w:World}{v wt sm v' wt':Nat}(h:F.WG w v wt sm):w.setCell F.sA (.int .u64 (Fam.word v' wt'))=F.put w v' wt' sm:=by
 unfold Fam.put World.setCell;congr 1;apply Array.ext_getElem?;intro i;unfold Fam.WG Fam.GQ at h;rw [Array.getElem?_modify];have O:F.wg<w.heap.size:=by
  rcases Nat.lt_or_ge F.wg w.heap.size with K | K
  ·exact K
  ·simp [Array.getElem?_eq_none K] at h
 by_cases e:F.wg=i
 ·subst e;rw [Array.getElem?_setIfInBounds_self_of_lt O,h];simp [Fam.sA,Fam.GQ]
 ·rw [Array.getElem?_setIfInBounds_ne e];simp [Fam.sA,e]
theorem QH{w:World}{v wt sm sm':Nat}(h:F.WG w v wt sm):w.setCell F.mA (.int .u32 sm')=F.put w v wt sm':=by
 unfold Fam.put World.setCell;congr 1;apply Array.ext_getElem?;intro i;unfold Fam.WG Fam.GQ at h;rw [Array.getElem?_modify];have O:F.wg<w.heap.size:=by
  rcases Nat.lt_or_ge F.wg w.heap.size with K | K
  ·exact K
  ·simp [Array.getElem?_eq_none K] at h
 by_cases e:F.wg=i
 ·subst e;rw [Array.getElem?_setIfInBounds_self_of_lt O,h];simp [Fam.mA,Fam.GQ]
 ·rw [Array.getElem?_setIfInBounds_ne e];simp [Fam.mA,e]
structure CO (P:Program) (f:FuncId) (e:AD→Sem Value):Prop where
 h:∃fn,P.funcs[f]? =some fn∧(fn.name== "runtime.NumGoroutine")=false∧fn.body.isNone=true∧Extern.findNext fn=none∧Extern.find fn=some e
section
variable {ops:Ao_}{i:Nat}{rest:List Nat}{d:Option Tmp}{f:FuncId}{args:Array Operand}{ats:Array TypeId}{ty:TypeId}{pp:String}{af:Ae_}{g:On_}{vs:Lv_}{p q:Ph}
theorem P3{T:AD}(K:Has n L T)(O:evs L args.toList=some vs):args.map (⟨T,ds⟩:Act).eval=vs.toArray:=by
 have:(⟨T,ds⟩:Act).eval=BO T:=funext fun x=>Fg T ds x;rw [this,← F4 K.Gr O];apply Array.ext';simp
theorem KZ{m:Mark}(Y:J5 p=true)(Z:if Fam.Eh p=true then s= .quiet else s.q=false)(ag:p≠ .EN)(al:∀v wt sm,F.act p v wt sm=some ((v,wt,sm),#[Fam.EI m],.ph q))(am:Fam.GR p s=s)
  (ap:ops[i]? =some ⟨d,.call ⟨.value (.func f),args,ats⟩,ty,pp,af,g⟩) (O:b.roundOf=none) (hw:Bf L ops ⟨d,.call ⟨.value (.func f),args,ats⟩,ty,pp,af,g⟩=some true) (K:((b.kind != .early)&&BE n d)=true)
  (hm:∀x,m≠ .extern x) (he:CO P f (fun _=>do mark m;pure Extern.Race.none_))
  (h:JL (BB P (Fam.DJ p)) (Stop P F q) b n (AI L d (.tuple #[])) ds (.inRegion ops rest::k) cs s):
  JL (BB P (Fam.DJ p)) (Stop P F p) b n L ds (.inRegion ops (i::rest)::k) cs s:=fun T U=>by
 simp only [Bool.and_eq_true] at K
 obtain⟨fn,av,a0,hb,a1,he⟩:=he.h
 refine(BB P _).stop (Hq Y rfl rfl Z (fun e=>absurd e ag) fun v wt sm v' wt' sm' es nx V=>?_)
 rw [al] at V;cases V
 refine⟨_,fun w a2=>?_,rfl,by rw [am];exact h _ (U.put K.2 _)⟩
 rw [C6 O,C6 O,stepG_mark0 (a:=⟨T,ds⟩) m hm ap (Dh U hw) (by simpa using K.1) rfl av a0 hb a1 he,JN a2,F7]
 rfl
theorem KM{mk:Addr→Mark}{ad:Addr}(Y:J5 p=true)(Z:if Fam.Eh p=true then s= .quiet else s.q=false)(ag:p≠ .EN)(al:∀v wt sm,F.act p v wt sm=some ((v,wt,sm),#[Fam.EI (mk ad)],.ph q))
  (am:ops[i]? =some ⟨d,.call ⟨.value (.func f),args,ats⟩,ty,pp,af,g⟩) (U:b.roundOf=none) (hw:Bf L ops ⟨d,.call ⟨.value (.func f),args,ats⟩,ty,pp,af,g⟩=some true) (K:((b.kind != .early)&&BE n d)=true)
  (hm:∀ad x,mk ad≠ .extern x) (he:CO P f (Extern.Race.marked mk)) (ap:evs L args.toList=some vs) (av:vs[0]? =some (.pointer (some ad)))
  (h:JL (BB P (Fam.DJ p)) (Stop P F q) b n (AI L d (.tuple #[])) ds (.inRegion ops rest::k) cs (Fam.GR p s)):
  JL (BB P (Fam.DJ p)) (Stop P F p) b n L ds (.inRegion ops (i::rest)::k) cs s:=fun T O=>by
 simp only [Bool.and_eq_true] at K
 obtain⟨fn,a0,a1,hb,a2,he⟩:=he.h
 refine(BB P _).stop (Hq Y rfl rfl Z (fun e=>absurd e ag) fun v wt sm v' wt' sm' es nx V=>?_)
 rw [al] at V;cases V
 refine⟨_,fun w a3=>?_,rfl,h _ (O.put K.2 _)⟩
 rw [C6 U,C6 U,stepG_markAt (a:=⟨T,ds⟩) mk hm am (Dh O hw) (by simpa using K.1) rfl a0 a1 hb a2 he (ad:=ad) (by rw [P3 O ap];simpa using av),JN a3,F7]
 rfl
end
end
end Pal
namespace Pal
open Go Go.Conc
section
variable {E H:LH}{S:List Seg}{j l:Nat}{o o':Obj}
theorem MR(ap:Ax E H S)(V:S[j]? =some [(l,o)])(o':Obj):(An E H S).upd l o'=An E H (S.set j [(l,o')])∧Ax E H (S.set j [(l,o')]):=by
 obtain⟨K,Y⟩:=Gp ap V;have U:=Nd.iff.1 Y;have Z:E l=none:=(U.2 (l,o) (by simp)).1;have av:H l=none:=(U.2 (l,o) (by simp)).2;have ag:Nd E H (S.set j []).flatten:=Iu.Nd.left Y;have a0:∀q∈(S.set j []).flatten,q.1≠l:=fun q O e=>by
  have:=U.1;rw [List.map_append,List.nodup_append] at this;exact this.2.2 q.1 (List.mem_map_of_mem O) l (by simp) e
 have al:Bl (S.set j []).flatten H l=none:=by
  have key:∀(B:List (Nat×Obj)),(∀q∈B,q.1≠l)→Bl B H l=none:=by
   intro B
   induction B with
   | nil=>intro _;exact av
   | cons q B a1=>
    intro O;obtain⟨c,a2⟩:=q;have am:l≠c:=fun e=>O (c,a2) (by simp) e.symm;have K:=a1 fun a3 a4=>O a3 (List.mem_cons_of_mem _ a4);simp only [Bl]
    first
    | rw [if_neg am];exact K
    | rw [if_neg (Ne.symm am)];exact K
  exact key _ a0
 have f1:=I2 (E:=E) (H:=H) (B:=(S.set j []).flatten) (r:=l) Z al o ag;have f2:=I2 (E:=E) (H:=H) (B:=(S.set j []).flatten) (r:=l) Z al o' ag;obtain⟨a5,g2⟩:=Hv (seg:= [(l,o)]) V f2.1;refine⟨?_,g2⟩;rw [K,← a5,← f1.2,← f2.2];unfold St.upd;congr 1;funext x;by_cases a6:x=l <;> simp [a6]
end
section
variable {P:Program}{J:Judge P}{Q:Gs_}{b:Frame}{n:Nat}{L:Env}{ds:Ld_}{k:Li_}{cs:Lf_}{E H:LH}{S:List Seg}{j l:Nat}
theorem Judge.ER{α:Type}{g:Goroutine}{g':α→Goroutine}{s:St}(x:Sem α)(Z:s.q=false)(ag:g.status= .running)
  (al:∀w a w',x.run P w= .ok a w'→∃es,stepG P J.main g w= .go (g' a) w' es∧∀e∈es,e∈x.events P w #[])
  (h:lp P x s (fun a s'=>J.ok Q (g' a) s') (fun _ _=>False)):J.ok Q g s:=by
 refine J.step ⟨ag,fun w f=>?_,fun e=>by subst e;cases Z⟩;obtain⟨s',O,U,V,K⟩:=MK _ h f;cases Y:x.run P w with
 | ok a w'=>
  rw [Y] at O U V K;simp only [Jj] at O U V;obtain⟨es,he,hm⟩:=al w a w' Y;exact⟨g' a,s',w',es,he,K,O,U,fun e am=>V e (hm e am)⟩
 | halt a w'=>rw [Y] at K;exact K.elim
theorem Mv{r:Loop}{s:St}{K:Loop→St→Prop}{X:Halt→St→Prop}(h:s.get l=some (.loop r))(k:K r s):lp P (Instr.getLoop l) s K X:=by
 unfold Instr.getLoop getObj;simp only [bind,Sem.bind,lp];exact⟨_,h,rfl,k⟩
theorem Qx{r:Loop}{T:AD}(j:Nat)(K:Ax E H S)(O:S[j]? =some [(l,.loop r)])(hs:(r.state== .busy)=false)(U:r.pending=none)
  (h:Ax E H (S.set j [(l,.loop {r with state:= .exhausted})])→J.ok Q (G (fr b T ds k) cs) (An E H (S.set j [(l,.loop {r with state:= .exhausted})]))):
  J.ok Q (G (fr b T ds (.endRangeFunc l::k)) cs) (An E H S):=by
 obtain⟨u1,u2⟩:=MR K O (.loop {r with state:= .exhausted});have V:lp P (Instr.endLoop l) (An E H S) (fun a s'=>a=none∧s'=An E H (S.set j [(l,.loop {r with state:= .exhausted})])) (fun _ _=>False):=by
  unfold Instr.endLoop;refine AH _ _ (Mv (Fa (i:=0) K O rfl) ?_);rw [if_neg (by rw [hs];simp)];have Y:(An E H S).H l=some (.loop r):=by
   have:=Fa (i:=0) K O rfl;have Z:E l=none:=Ns K O;unfold St.get at this;rw [show(An E H S).E l=none from Z] at this;exact this
  simp only [bind,Sem.bind,lp,setObj,pure];refine⟨⟨_,Y,rfl⟩,rfl,U,?_⟩;exact u1
 refine Judge.ER (g':=fun ag=>G (fr b T ds ((ag.map Item.code).toList++k)) cs) (Instr.endLoop l) rfl rfl (fun w a w' al=>?_) (Dz _ V (fun a s' ⟨am,ap⟩=>by subst am ap;exact h u2) (fun _ _ h=>h));refine⟨seen P b.fn ((Instr.endLoop l).events P w #[])++ #[],?_,fun e he=>?_⟩
 ·simp [G,stepG,stepG.exec,fr,al,GStep.after]
 ·exact mem_seen (by simpa using he)
def TO(l:Nat)(f:FuncId):Frame:={(default:Frame) with fn:=f,kind:= .normal,roundOf:=some l}
theorem Fb.yield{r:Loop}{t:Tmp}{v:Value}{B:Seg}{R:Value→LH→Seg→Prop}{i:Nat}(K:B[i]? =some (l,.loop r))(O:r.params= #[t])
  (h:∀(Q:Gs_) (U:Frame) (cs:Lf_) (H:LH),Ax E H [B]→(∀w E' S' B',Le E E'→S'.flatten=B'→R w E' B'→Ax E' H S'→J.ok Q (G (U.finish w) cs) (An E' H S'))→
   J.ok Q (G (fr (TO l r.fn) (r.tmps.setIfInBounds t v) [] [.code r.assign,.beginRound,.code r.body]) (U::cs)) (An E H [B])):
  Fb J (.func (.yield l) #[] #[]) [v] E B R:=fun H V Q c cs Y=>by
 have hg:(mk E H B).get l=some (.loop r):=OQ V K
 simp only [Deferred.ofValue,bind,Sem.bind,pure,invoke]
 unfold Instr.yield
 refine AH _ _ (Mv hg ?_)
 have Z:¬((#[]:AD)++ [v].toArray).size≠r.params.size:=by rw [O];simp
 rw [if_neg Z];have ag:((r.params.zip ((#[]:AD)++ [v].toArray)).foldl (fun tmps (t,a)=>tmps.setIfInBounds t a) r.tmps)=r.tmps.setIfInBounds t v:=by rw [O];simp [Array.zip,Array.zipWith,Array.zipWithMAux]
 simp only [lp,pure];have al:mk E H B=An E H [B]:=by unfold An;simp
 rw [ag,al];exact h Q c cs H (by unfold Ax;simpa using V) fun w E' S' B' hle K am ap=>by
  subst K;exact Y w _ ⟨E',S'.flatten,hle,am,ap,rfl⟩
theorem JL.beginRound{r:Loop}(j:Nat)(U:b.roundOf=some l)(V:b.kind= .normal)(K:Ax E H S)(O:S[j]? =some [(l,.loop r)])(hs:r.state= .ready)
  (h:Ax E H (S.set j [(l,.loop {r with state:= .busy})])→JL J Q b n L ds k cs (An E H (S.set j [(l,.loop {r with state:= .busy})]))):
  JL J Q b n L ds (.beginRound::k) cs (An E H S):=fun T Y=>by
 obtain⟨u1,u2⟩:=MR K O (.loop {r with state:= .busy})
 have Z:lp P (Instr.beginRound l) (An E H S) (fun _ s'=>s'=An E H (S.set j [(l,.loop {r with state:= .busy})])) (fun _ _=>False):=by
  unfold Instr.beginRound;refine AH _ _ (Mv (Fa (i:=0) K O rfl) ?_);have ag:(An E H S).H l=some (.loop r):=by
   have:=Fa (i:=0) K O rfl;have al:E l=none:=Ns K O;unfold St.get at this;rw [show(An E H S).E l=none from al] at this;exact this
  simp only [bind,Sem.bind,lp,setObj,pure,hs];exact⟨⟨_,ag,rfl⟩,rfl,u1⟩
 refine Judge.ER (g':=fun _=>G (fr b T ds k) cs) (Instr.beginRound l) rfl rfl (fun w a w' am=>?_) (Dz _ Z (fun a s' ap=>by subst ap;exact h u2 T Y) (fun _ _ h=>h));refine⟨seen P b.fn ((Instr.beginRound l).events P w #[])++ #[],?_,fun e he=>?_⟩
 ·simp [G,stepG,stepG.exec,fr,stepG.apply,U,V,am,GStep.after,Frame.finish]
 ·exact mem_seen (by simpa using he)
theorem Ol{o:Obj}{seg:Seg}(K:Ax E H S)(O:S[j]? =some ((l,o)::seg)):(An E H S).H l=some o:=by
 have:=Fa (i:=0) K O rfl;have U:E l=none:=Ns K O;unfold St.get at this;rw [show(An E H S).E l=none from U] at this;exact this
theorem JL.endRound{r:Loop}{c:Frame}(j:Nat)(U:b.roundOf=some l)(V:b.kind= .normal)(K:Ax E H S)(O:S[j]? =some [(l,.loop r)])
  (h:Ax E H (S.set j [(l,.loop {r with state:= .ready,pending:=none})])→J.ok Q (G (c.finish (.bool true)) cs) (An E H (S.set j [(l,.loop {r with state:= .ready,pending:=none})]))):
  JL J Q b n L [] [] (c::cs) (An E H S):=fun T am=>by
 obtain⟨u1,u2⟩:=MR K O (.loop {r with state:= .ready,pending:=none})
 have Y:lp P (Instr.endRound l none) (An E H S) (fun a s'=>a= .bool true∧s'=An E H (S.set j [(l,.loop {r with state:= .ready,pending:=none})])) (fun _ _=>False):=by
  unfold Instr.endRound;refine AH _ _ (Mv (Fa (i:=0) K O rfl) ?_);simp only [bind,Sem.bind,lp,setObj,pure];exact⟨⟨_,Ol K O,rfl⟩,rfl,rfl,u1⟩
 refine Judge.ER (g':=fun v=>G (c.finish v) cs) (Instr.endRound l none) rfl rfl (fun w a w' Z=>?_) (Dz _ Y (fun a s' ⟨ag,al⟩=>by subst ag al;exact h u2) (fun _ _ h=>h));refine⟨seen P b.fn ((Instr.endRound l none).events P w #[])++ #[],?_,fun e he=>?_⟩
 ·simp [G,stepG,stepG.exec,fr,U,V,Z,GStep.after,doReturn]
 ·exact mem_seen (by simpa using he)
theorem JL.rangeFunc{x:Operand}{params:Array Tmp}{as O:Code}{f:FuncId}{caps:Lv_}(av:b.roundOf=none)(a0:b.kind≠ .early)(ag:ev L x=some (.func (.func f) #[] caps.toArray))(hb:D3 P f=true)(a1:Ax E H S)
  (h:∀K l T,Has n L T→Ax E H (S++ [[(K,.deferred (some []))]]++ [[(l,.loop ⟨.ready,none,b.fn,T,params,as,O,K⟩)]])→
   J.ok Q (G (Frame.enter P f (.func (.yield l) #[] #[]::caps).toArray .normal) (fr b T (⟨.collected K,#[]⟩::ds) (.inRangeFunc l::k)::cs)) (An E H (S++ [[(K,.deferred (some []))]]++ [[(l,.loop ⟨.ready,none,b.fn,T,params,as,O,K⟩)]]))):
  JL J Q b n L ds (.code (.rangeFunc x params as O)::k) cs (An E H S):=fun T al=>by
 have a2:lp P (Instr.enterLoop b.fn T params as O b.roundOf) (An E H S) (fun q s'=>∃K,q.2= [⟨.collected K,#[]⟩]∧Ax E H (S++ [[(K,.deferred (some []))]]++ [[(q.1,.loop ⟨.ready,none,b.fn,T,params,as,O,K⟩)]])∧s'=An E H (S++ [[(K,.deferred (some []))]]++ [[(q.1,.loop ⟨.ready,none,b.fn,T,params,as,O,K⟩)]])) (fun _ _=>False):=by
  unfold Instr.enterLoop;rw [av];simp only [newObj,bind,Sem.bind,lp,pure];refine⟨rfl,fun K V Y=>?_⟩;obtain⟨Z,a3⟩:=I2 V Y (.deferred (some [])) a1;obtain⟨p1,p2⟩:=Eo Z;have a4:(An E H S).upd K (.deferred (some []))=An E H (S++ [[(K,.deferred (some []))]]):=by rw [← p1,← a3];rfl
  rw [a4];refine⟨rfl,fun l a5 a6=>?_⟩;obtain⟨a7,a8⟩:=I2 a5 a6 (.loop ⟨.ready,none,b.fn,T,params,as,O,K⟩) p2;obtain⟨p3,p4⟩:=Eo a7;exact⟨K,rfl,p4,by rw [← p3,← a8];rfl⟩
 refine Judge.ER (g':=fun q=>G (Frame.enter P f (.func (.yield q.1) #[] #[]::caps).toArray .normal) (fr b T (q.2++ds) (.inRangeFunc q.1::k)::cs)) (Instr.enterLoop b.fn T params as O b.roundOf) rfl rfl (fun w a w' a9=>?_) (Dz _ a2 (fun a s' ⟨K,V,Y,Z⟩=>by subst Z;simp only [V];exact h K a.1 T al Y) (fun _ _ h=>h));obtain⟨l,mk⟩:=a;have bb:BO T x= .func (.func f) #[] caps.toArray:=al.ev ag;obtain⟨fn,U,bd,am⟩:∃fn,P.funcs[f]? =some fn∧(fn.name== "runtime.NumGoroutine")=false∧fn.body.isNone=false:=by
  unfold D3 at hb;cases U:P.funcs[f]? with
  | none=>rw [U] at hb;cases hb
  | some fn=>
   rw [U] at hb;simp only [Bool.and_eq_true,Bool.not_eq_true'] at hb;exact⟨fn,rfl,hb.1,by cases ag:fn.body <;> simp_all⟩
 refine⟨seen P b.fn ((Instr.enterLoop b.fn T params as O b.roundOf).events P w #[])++ #[],?_,fun e he=>?_⟩
 ·have ap:=RJ (b:=b) (ds:=mk++ds) T (.inRangeFunc l::k);simp only [fr] at ap;have be:¬fn.name= "runtime.NumGoroutine" :=by simpa using bd
  have bi:¬fn.body=none:=by intro e;rw [e] at am;cases am
  have bo:BO T (.const (.func (.yield l) #[] #[]))= .func (.yield l) #[] #[]:=rfl;simp [G,stepG,stepG.exec,fr,a9,GStep.after,stepG.apply,resolve,ap,bb,Deferred.ofValue,invoke,callFunc,U,be,bi,a0,bo,seen_none]
 ·exact mem_seen (by simpa using he)
theorem JO.collected{K:Nat}(j:Nat)(am:b.roundOf=none)(O:Ax E H S)(U:S[j]? =some [(K,.deferred (some []))])
  (h:Ax E H (S.set j [(K,.deferred none)])→JO J Q b n L ds cs (An E H (S.set j [(K,.deferred none)]))):JO J Q b n L (⟨.collected K,#[]⟩::ds) cs (An E H S):=fun T V todo=>by
 obtain⟨u1,u2⟩:=MR O U (.deferred none)
 have Y:lp P (Instr.takeDeferred K) (An E H S) (fun a s'=>a= []∧s'=An E H (S.set j [(K,.deferred none)])) (fun _ _=>False):=by
  unfold Instr.takeDeferred getObj;simp only [bind,Sem.bind,lp,setObj,pure];exact⟨_,Fa (i:=0) O U rfl,rfl,⟨_,Ol O U,rfl⟩,rfl,rfl,u1⟩
 refine Judge.ER (g':=fun l=>G (EC b T (l++ds) todo) cs) (Instr.takeDeferred K) rfl rfl (fun w a w' Z=>?_) (Dz _ Y (fun a s' ⟨ag,al⟩=>by subst ag al;exact h u2 T V todo) (fun _ _ h=>h));refine⟨seen P b.fn ((Instr.takeDeferred K).events P w #[])++ #[],?_,fun e he=>?_⟩
 ·simp [G,stepG,unwind,EC,Z,GStep.after]
 ·exact mem_seen (by simpa using he)
def LN(f:FuncId)(args caps:AD):Deferred:={target:= .fn (.func f) caps,args:=args}
theorem JO.S9{f:FuncId}{fn:Func}{c:Code}{vs caps:Lv_}(am:b.roundOf=none)(O:P.funcs[f]? =some fn)(V:(fn.name== "runtime.NumGoroutine")=false)(hb:fn.body=some c)(Y:(vs++caps).length≤fn.ntmps){s:St}
  (h:∀T,Has n L T→∀todo,JL J Q (baseD f) fn.ntmps (FR 0 (vs++caps)) [] [.code c] (EC b T ds todo::cs) s):JO J Q b n L (LN f vs.toArray caps.toArray::ds) cs s:=fun T Z todo=>by
 have ag:¬fn.name= "runtime.NumGoroutine" :=by simpa using V
 refine Judge.Dt rfl (fun w=>?_) (h T Z todo ((vs++caps).toArray++Array.replicate (fn.ntmps - (vs++caps).length) undef) ⟨by simp;simp at Y;omega,fun t v ht=>?_⟩)
 ·rw [C6 (b:=baseD f) rfl];have:=enter_atD (P:=P) (vs++caps).toArray O hb;simp only [List.size_toArray] at this;rw [← this];simp [G,stepG,unwind,callDeferred,EC,LN,invoke,callFunc,O,ag,hb,GStep.after,seen_none]
 ·obtain⟨_,K⟩:=JC ht;have al:t<(vs++caps).length:=by
   rcases Nat.lt_or_ge t (vs++caps).length with U | U
   ·exact U
   ·simp only [Nat.sub_zero] at K;have:=(List.getElem?_eq_some_iff.1 K).1;omega
  rw [Array.getD_eq_getD_getElem?,Array.getElem?_append_left (by simpa using al)];simp only [Nat.sub_zero] at K;rw [List.getElem?_toArray,K];rfl
theorem QZ{ops:Ao_}{i:Nat}{rest:List Nat}{d:Option Tmp}{x:Operand}{f:FuncId}{caps:Lv_}{args:Array Operand}{ats:Array TypeId}{ty:TypeId}{p:String}{af:Ae_}{g:On_}{vs:Lv_}{s:St}
  (U:ops[i]? =some ⟨d,.defer ⟨.value x,args,ats⟩,ty,p,af,g⟩) (V:b.roundOf=none) (hw:Bf L ops ⟨d,.defer ⟨.value x,args,ats⟩,ty,p,af,g⟩=some true) (O:((b.kind != .early)&&BE n d)=true)
  (Y:ev L x=some (.func (.func f) #[] caps.toArray)) (Z:evs L args.toList=some vs) (h:JL J Q b n (AI L d undef) (LN f vs.toArray caps.toArray::ds) (.inRegion ops rest::k) cs s):
  JL J Q b n L ds (.inRegion ops (i::rest)::k) cs s:=fun T K=>by
 simp only [Bool.and_eq_true] at O
 have ag:args.map (BO T)=vs.toArray:=by
  rw [← F4 K.Gr Z];apply Array.ext';simp
 refine Judge.oper U (Dh K hw) (by simpa using O.1) (.inl V) ?_;have al:execOp (BO T) ⟨d,.defer ⟨.value x,args,ats⟩,ty,p,af,g⟩= .pure (.defer (LN f vs.toArray caps.toArray)):=by
  simp only [execOp,resolve,bind,Sem.bind,Deferred.ofValue,K.ev Y,pure,LN];rw [ag];simp
 rw [al];exact h _ (K.put O.2 undef)
end
end Pal
namespace Pal
open Go Go.Conc
section
variable {P:Program}{s:St}{ρ:Operand→Value}{x y z:Operand}{d:Option Tmp}{t u ty e:TypeId}{p:String}{af:Ae_}{g:On_}{a:Option Addr}{l c:Nat}
theorem ME(ht:P.underlying t=some (.slice e))(K:ρ x= .slice a l c)(O:ρ (.const (.slice none 0 0))= .slice none 0 0):Yl P ⟨d,.binOp .eql t x (.const (.slice none 0 0)) u,ty,p,af,g⟩ ρ s (.bool a.isNone):=by
 refine Fz (sm:=do eqGuard .eql t x (.const (.slice none 0 0)) (ρ x) (ρ (.const (.slice none 0 0)));binOp .eql t (ρ x) (ρ (.const (.slice none 0 0)))) rfl ?_
 rw [K,O];have hg:lp P (eqGuard .eql t x (.const (.slice none 0 0)) (.slice a l c) (.slice none 0 0)) s (fun _ s'=>s'=s) (fun _ _=>False):=by
  simp [eqGuard,lp,pure]
 refine AH _ _ (Dz _ hg ?_ (fun _ _ h=>h));rintro _ _ rfl;have hb:binOp .eql t (.slice a l c) (.slice none 0 0)=(do pure (.bool (← Op.equal t (.slice a l c) (.slice none 0 0)))):=rfl
 rw [hb];refine AH (x:=Op.equal t (.slice a l c) (.slice none 0 0)) _ ?_;unfold Op.equal Op.maxDepth Op.equalIn;refine AH _ _ (Dm ht ?_);cases a <;> exact⟨rfl,rfl⟩
end
def FB{α B:Type}(step:B→α→Option B):List α→B→Option B
 | [],b=>some b
 | x::l,b=>(step b x).bind fun K=>FB step l K
section
variable {P:Program}{J:Judge P}{Q:Gs_}{b:Frame}{n:Nat}{L:Env}{ds:Ld_}{k:Li_}{cs:Lf_}{s:St}
theorem UA{α B:Type}{c:Code}{l:List α}{step:B→α→Option B}{acc acc':B}(am:FB step l acc=some acc')(I:Env→St→Nat→B→Prop)(ap:I L s 0 acc)
  (round:∀L s i K x O,I L s i K→l[i]? =some x→i<l.length→step K x=some O→(∀L' s',I L' s' (i+1) O→JL J Q b n L' ds (.inLoop c::k) cs s')→JL J Q b n L ds (.code c:: .inLoop c::k) cs s)
  (exit:∀L s,I L s l.length acc'→JL J Q b n L ds (.code c:: .inLoop c::k) cs s):JL J Q b n L ds (.code (.loop c)::k) cs s:=by
 refine IY ?_;have key:∀(rest:List α) (i:Nat) (K:B),l.drop i=rest→FB step rest K=some acc'→∀L s,I L s i K→i≤l.length→JL J Q b n L ds (.code c:: .inLoop c::k) cs s:=by
  intro rest
  induction rest with
  | nil=>
   intro i K U V L s Y hle;have:l.length≤i:=by simpa using U
   obtain rfl:i=l.length:=by omega
   obtain rfl:K=acc':=Option.some.inj V;exact exit L s Y
  | cons x rest av=>
   intro i K U V L s Y hle;have ag:l[i]? =some x:=by
    have Z:(l.drop i)[0]? =some x:=by rw [U];rfl
    simpa using Z
   have al:i<l.length:=(List.getElem?_eq_some_iff.1 ag).1;obtain⟨O,Z,a0⟩:=Option.bind_eq_some_iff.1 V;refine round L s i K x O Y ag al Z fun L' s' a1=>JL.again (av (i+1) O ?_ a0 L' s' a1 al);rw [← List.drop_drop,U];rfl
 exact key l 0 acc rfl am L s ap (Nat.zero_le _)
end
section
variable {P:Program}{J:Judge P}{Q:Gs_}{b:Frame}{n:Nat}{ds:Ld_}{ops:Ao_}{k:Li_}{cs:Lf_}{m fuel:Nat}{listed:Array Bool}{L:Env}{E H:LH}{S:List Seg}
variable {d:Option Tmp}{x y:Operand}{t u ty e:TypeId}{p:String}{af:Ae_}{g:On_}{v:Value}{i:Nat}
theorem Take.TV(O:Ax E H S)(U:ops[i]? =some ⟨d,.box e x,ty,p,af,g⟩)(hw:Bf L ops ⟨d,.box e x,ty,p,af,g⟩=some true)(V:BE n d=true)(Y:ev L x=some v)
  (h:∀r,Ax E H (S++ [[(r,.cells v.cells e (0,0))]])→AY J Q b n ds ops k cs m Ee fuel (Bi listed i) (AI L d (.pointer (some ⟨r,0,none⟩))) (An E H (S++ [[(r,.cells v.cells e (0,0))]]))):
  Take J Q b n ds ops k cs m Ee fuel listed L (An E H S) i:=
 Take.Kr U (by simp [Du,V]) hw fun ρ Z=>by
  show lp P (do pure (Next.value (← Instr.box e (ρ x)))) _ _ _
  rw [Z x v Y]
  refine AH _ _ ?_
  unfold Instr.box
  refine AH _ _ (G1 O fun r K=>?_)
  rw [(Eo K).1]
  exact h r (Eo K).2
end
end Pal
namespace Pal
open Go Go.Conc
def Hb(P:Program)(d:Nat):GP:=fun g _=>∃q,QuitsD P q d g
def H3(P:Program):Frame:={(default:Frame) with fn:=P.funcs.size,defers:= [],mode:= .panicking [goexitEntry]}
section
variable {P:Program}{F:Fam}{J:Judge P}{Q:GP}{n:Nat}{L L':Env}{ds:Ld_}{k:Li_}{cs:Lf_}{s s':St}{b:Frame}{main:Bool}
theorem Lv.quits{d:Nat}:∀{m:Nat} {g:Goroutine},Lv P (Hb P d) m g→∃q,QuitsD P q d g
 | 0,_,h=>h
 | m+1,_,h=>by
  rcases h with h | ⟨K,g',O,h⟩
  ·exact h
  ·obtain⟨q,U⟩:=h.quits;exact⟨q+1,.ctl K O U⟩
theorem Mq{d:Nat}{g:Goroutine}(h:(GB P).ok (Hb P d) g .quiet):∃q,QuitsD P q d g:=by
 obtain⟨m,hm⟩:=h rfl;exact hm.quits
theorem KG:(GB P).ok (Hb P 0) (G (H3 P) []) .quiet:=by
 refine Judge.Dt (g':={frame:=H3 P,callers:= [],status:= .finished,dying:=none}) rfl (fun w=>?_) ((GB P).stop ⟨0,rfl,rfl⟩);have K:(default:Frame).todo= []:=rfl;have O:∀(m:FrameMode),Frame.catches P {fn:=P.funcs.size,tmps:=(default:Frame).tmps,todo:= [],defers:= [],mode:=m,kind:=(default:Frame).kind,roundOf:=(default:Frame).roundOf}=false:=fun m=>by simp [Frame.catches]
 simp [G,stepG,unwind,H3,goexitEntry,K,O]
theorem Wl{ops:Ao_}{i:Nat}{rest:List Nat}{d:Option Tmp}{f:FuncId}{args:Array Operand}{ats:Array TypeId}{ty:TypeId}{pp:String}{af:Ae_}{g:On_}{T:AD}{e:AD→Sem Value}
  (K:ops[i]? =some ⟨d,.call ⟨.value (.func f),args,ats⟩,ty,pp,af,g⟩) (he:CO P f e):mayWake P (G (fr b T ds (.inRegion ops (i::rest)::k)) cs)=true:=by
 obtain⟨fn,O,_,hb,_⟩:=he.h;have U:fn.body.isSome=false:=by cases h:fn.body <;> simp_all
 simp [mayWake,G,fr,K,Frame.eval,O,U]
theorem WW{v wt:Nat}(K:1≤v)(O:v<2147483648)(U:wt≤1):IntKind.u64.wrap (Fam.word v wt+18446744069414584320)=Fam.word (v - 1) wt:=by
 simp only [Fam.word,Fam.KK,IntKind.wrap,IntKind.bits,IntKind.signed];simp;omega
theorem V5{v:Nat}(h:v<2147483647):IntKind.u64.wrap (Fam.word v 0+4294967296)=Fam.word (v+1) 0:=by
 simp only [Fam.word,Fam.KK,IntKind.wrap,IntKind.bits,IntKind.signed];simp;omega
theorem word_inj{v v' wt:Nat}(h:Fam.word v wt=Fam.word v' wt):v=v':=by
 simp only [Fam.word,Fam.KK] at h;omega
section
variable {ops:Ao_}{i:Nat}{rest:List Nat}{d:Option Tmp}{f:FuncId}{x y z:Operand}{ats:Array TypeId}{ty:TypeId}{pp:String}{af:Ae_}{g:On_}{p q:Ph}
theorem XL(ag:ops[i]? =some ⟨d,.call ⟨.value (.func f),#[x,y],ats⟩,ty,pp,af,g⟩)(Y:b.roundOf=none)(hw:Bf L ops ⟨d,.call ⟨.value (.func f),#[x,y],ats⟩,ty,pp,af,g⟩=some true)(O:((b.kind != .early)&&BE n d)=true)
  (he:CO P f (Extern.Atomic.update (Op.intArith .add) .u64 true)) (al:ev L x=some (.pointer (some F.sA))) (am:ev L y=some (.int .u64 18446744069414584320))
  (ap:JL (BB P false) (Stop P F .Gs) b n (AI L d (.int .u64 (Fam.word 0 1))) ds (.inRegion ops rest::k) cs .quiet)
  (av:∀v wt:Nat,v<2147483647→wt≤1→¬(v=0∧wt=1)→JL (GB P) (Hb P 1) b n (AI L d (.int .u64 (Fam.word v wt))) ds (.inRegion ops rest::k) cs .quiet):
  JL (BB P false) (Stop P F .Hd) b n L ds (.inRegion ops (i::rest)::k) cs .quiet:=fun T K=>by
 simp only [Bool.and_eq_true] at O
 obtain⟨fn,a0,a1,hb,a2,he⟩:=he.h
 refine(BB P _).stop (Hq rfl rfl rfl rfl (by simp) fun v wt sm v' wt' sm' es nx U=>?_)
 simp only [Fam.act] at U
 split at U
 ·rename_i V
  cases U;refine⟨G (fr b (CX T d (.int .u64 (Fam.word (v - 1) wt))) ds (.inRegion ops rest::k)) cs,fun w Z=>?_,rfl,?_⟩
  ·obtain⟨a3,_,c3,_⟩:=Hs Z;rw [C6 Y,C6 Y];show stepG P false _ w=_;rw [stepG_add_atomic (a:=⟨T,ds⟩) ag (Dh K hw) (by simpa using O.1) rfl a0 a1 hb a2 .u64 he (by rw [Fg];exact K.ev al) (by rw [Fg];exact K.ev am) a3 c3,WW V.1 V.2.1 V.2.2,Mx Z,F7]
   rfl
  ·split
   ·rename_i e;obtain⟨rfl,rfl⟩:=e;exact ap _ (K.put O.2 _)
   ·rename_i e;exact Mq (av (v - 1) wt (by omega) V.2.2 (by omega) _ (K.put O.2 _))
 ·cases U
theorem YC{j:Nat}(ag:s.q=false)(al:ops[i]? =some ⟨d,.call ⟨.value (.func f),#[x,y],ats⟩,ty,pp,af,g⟩)(Y:b.roundOf=none)(hw:Bf L ops ⟨d,.call ⟨.value (.func f),#[x,y],ats⟩,ty,pp,af,g⟩=some true)(O:((b.kind != .early)&&BE n d)=true)
  (he:CO P f (Extern.Atomic.update (Op.intArith .add) .u64 true)) (am:ev L x=some (.pointer (some F.sA))) (ap:ev L y=some (.int .u64 4294967296))
  (av:JL (BB P true) (Stop P F (.Hg j)) b n (AI L d (.int .u64 (Fam.word 1 0))) ds (.inRegion ops rest::k) cs s)
  (a0:∀v:Nat,1≤v→v<2147483647→JL (BB P true) (Stop P F (.Gf j)) b n (AI L d (.int .u64 (Fam.word (v+1) 0))) ds (.inRegion ops rest::k) cs s):
  JL (BB P true) (Stop P F (.HB j)) b n L ds (.inRegion ops (i::rest)::k) cs s:=fun T K=>by
 simp only [Bool.and_eq_true] at O
 obtain⟨fn,a1,a2,hb,a3,he⟩:=he.h
 refine(BB P _).stop (Hq rfl rfl rfl ag (by simp) fun v wt sm v' wt' sm' es nx U=>?_)
 simp only [Fam.act] at U
 split at U
 ·rename_i V
  obtain⟨V,rfl⟩:=V;cases U;refine⟨G (fr b (CX T d (.int .u64 (Fam.word (v+1) 0))) ds (.inRegion ops rest::k)) cs,fun w Z=>?_,rfl,?_⟩
  ·obtain⟨a4,_,c3,_⟩:=Hs Z;rw [C6 Y,C6 Y];show stepG P true _ w=_;rw [stepG_add_atomic (a:=⟨T,ds⟩) al (Dh K hw) (by simpa using O.1) rfl a1 a2 hb a3 .u64 he (by rw [Fg];exact K.ev am) (by rw [Fg];exact K.ev ap) a4 c3,V5 V,Mx Z,F7]
   rfl
  ·split
   ·rename_i e;subst e;exact av _ (K.put O.2 _)
   ·rename_i e;exact a0 v (by omega) V _ (K.put O.2 _)
 ·cases U
theorem aI(am:J5 p=true)(ap:if Fam.Eh p=true then s= .quiet else s.q=false)(av:p≠ .EN)(a0:Fam.GR p s=s)(a1:∀v wt sm r,F.act p v wt sm=some r→r.1=(v,wt,sm)∧r.2.1= #[Fam.Fs F.sA])
  (a2:ops[i]? =some ⟨d,.call ⟨.value (.func f),#[x],ats⟩,ty,pp,af,g⟩) (U:b.roundOf=none) (hw:Bf L ops ⟨d,.call ⟨.value (.func f),#[x],ats⟩,ty,pp,af,g⟩=some true) (K:((b.kind != .early)&&BE n d)=true)
  (he:CO P f (Extern.Atomic.loadT (.int .u64))) (a3:ev L x=some (.pointer (some F.sA)))
  (h:∀v wt sm r,F.act p v wt sm=some r→∃q,r.2.2= .ph q∧JL (BB P (Fam.DJ p)) (Stop P F q) b n (AI L d (.int .u64 (Fam.word v wt))) ds (.inRegion ops rest::k) cs s):
  JL (BB P (Fam.DJ p)) (Stop P F p) b n L ds (.inRegion ops (i::rest)::k) cs s:=fun T O=>by
 simp only [Bool.and_eq_true] at K
 obtain⟨fn,a4,a5,hb,a6,he⟩:=he.h
 refine(BB P _).stop (Hq am rfl rfl ap (fun e=>absurd e av) fun v wt sm v' wt' sm' es nx V=>?_)
 obtain⟨Y,Z⟩:=a1 _ _ _ _ V
 obtain⟨q,ag,a7⟩:=h _ _ _ _ V
 simp only at Y Z ag
 cases Y
 subst Z ag
 refine⟨_,fun w al=>?_,rfl,by rw [a0];exact a7 _ (O.put K.2 _)⟩
 obtain⟨a8,_,_,_⟩:=Hs al
 rw [C6 U,C6 U,stepG_load_atomic (a:=⟨T,ds⟩) a2 (Dh O hw) (by simpa using K.1) rfl a4 a5 hb a6 .u64 he (by rw [Fg];exact O.ev a3) a8,JN al,F7]
 rfl
theorem Zj(Z:ops[i]? =some ⟨d,.call ⟨.value (.func f),#[x,y],ats⟩,ty,pp,af,g⟩)(V:b.roundOf=none)(hw:Bf L ops ⟨d,.call ⟨.value (.func f),#[x,y],ats⟩,ty,pp,af,g⟩=some true)(U:((b.kind != .early)&&BE n d)=true)
  (he:CO P f Extern.Atomic.storeT) (ag:ev L x=some (.pointer (some F.sA))) (al:ev L y=some (.int .u64 0))
  (h:JL (BB P false) (Stop P F .EN) b n (AI L d (.tuple #[])) ds (.inRegion ops rest::k) cs .quiet):
  JL (BB P false) (Stop P F .GH) b n L ds (.inRegion ops (i::rest)::k) cs .quiet:=fun T K=>by
 simp only [Bool.and_eq_true] at U
 obtain⟨fn,am,ap,hb,av,he⟩:=he.h
 refine(BB P _).stop (Hq rfl rfl rfl rfl (by simp) fun v wt sm v' wt' sm' es nx O=>?_)
 simp only [Fam.act] at O
 split at O
 ·rename_i a0
  obtain⟨rfl,rfl⟩:=a0;cases O;refine⟨_,fun w Y=>?_,rfl,h _ (K.put U.2 _)⟩;obtain⟨a1,_,c3,_⟩:=Hs Y;have a2:(.int .u64 0:Value)= .int .u64 (Fam.word 0 0):=by simp [Fam.word]
  rw [C6 V,C6 V];show stepG P false _ w=_;rw [stepG_store_atomic (a:=⟨T,ds⟩) Z (Dh K hw) (by simpa using U.1) rfl am ap hb av he (by rw [Fg];exact K.ev ag) (by rw [Fg];exact K.ev al) a1 c3,a2,Mx Y,F7]
  rfl
 ·cases O
theorem aF{m:Nat}(a2:s.q=false)(ag:ops[i]? =some ⟨d,.call ⟨.value (.func f),#[x,y,z],ats⟩,ty,pp,af,g⟩)(Y:b.roundOf=none)(hw:Bf L ops ⟨d,.call ⟨.value (.func f),#[x,y,z],ats⟩,ty,pp,af,g⟩=some true)(U:((b.kind != .early)&&BE n d)=true)
  (he:CO P f (Extern.Atomic.casT (.int .u64))) (al:ev L x=some (.pointer (some F.sA))) (am:ev L y=some (.int .u64 (Fam.word m 0))) (ap:ev L z=some (.int .u64 (Fam.word m 1)))
  (a3:JL (BB P false) (Stop P F .HF) b n (AI L d (.bool true)) ds (.inRegion ops rest::k) cs s)
  (a4:JL (BB P false) (Stop P F (.FU (m - 1))) b n (AI L d (.bool false)) ds (.inRegion ops rest::k) cs s):
  JL (BB P false) (Stop P F (.Hc m)) b n L ds (.inRegion ops (i::rest)::k) cs s:=fun T K=>by
 simp only [Bool.and_eq_true] at U
 obtain⟨fn,av,a0,hb,a1,he⟩:=he.h
 refine(BB P _).stop (Hq rfl rfl rfl a2 (by simp) fun v wt sm v' wt' sm' es nx O=>?_)
 simp only [Fam.act] at O
 split at O
 ·rename_i a5
  obtain⟨_,_,rfl⟩:=a5;split at O
  ·rename_i e;subst e;cases O;refine⟨_,fun w V=>?_,rfl,a3 _ (K.put U.2 _)⟩;obtain⟨Z,_,c3,_⟩:=Hs V;rw [C6 Y,C6 Y];show stepG P false _ w=_;rw [stepG_cas_hit (a:=⟨T,ds⟩) ag (Dh K hw) (by simpa using U.1) rfl av a0 hb a1 .u64 he (by rw [Fg];exact K.ev al) (by rw [Fg];exact K.ev am) (by rw [Fg];exact K.ev ap) Z c3,Mx V,F7]
   rfl
  ·rename_i e;cases O;refine⟨_,fun w V=>?_,rfl,a4 _ (K.put U.2 _)⟩;obtain⟨Z,_,c3,_⟩:=Hs V;rw [C6 Y,C6 Y];show stepG P false _ w=_;rw [stepG_cas_miss (a:=⟨T,ds⟩) ag (Dh K hw) (by simpa using U.1) rfl av a0 hb a1 .u64 he (by rw [Fg];exact K.ev al) (by rw [Fg];exact K.ev am) (by rw [Fg];exact K.ev ap) Z c3 (fun q=>e (word_inj q)),JN V,F7]
   rfl
 ·cases O
theorem V0{args:Array Operand}{vs:Lv_}(V:ops[i]? =some ⟨d,.call ⟨.value (.func f),args,ats⟩,ty,pp,af,g⟩)(Y:b.roundOf=none)(hw:Bf L ops ⟨d,.call ⟨.value (.func f),args,ats⟩,ty,pp,af,g⟩=some true)(O:((b.kind != .early)&&BE n d)=true)
  (he:CO P f Extern.Sync.semrelease) (ag:evs L args.toList=some vs) (al:vs[0]? =some (.pointer (some F.mA)))
  (h:JL (GB P) (Hb P 1) b n (AI L d (.tuple #[])) ds (.inRegion ops rest::k) cs .quiet):
  JL (BB P false) (Stop P F .EN) b n L ds (.inRegion ops (i::rest)::k) cs .quiet:=fun T U=>by
 simp only [Bool.and_eq_true] at O
 have am:=Wl (P:=P) (b:=b) (ds:=ds) (k:=k) (cs:=cs) (rest:=rest) (T:=T) V he
 obtain⟨fn,ap,av,hb,a0,he⟩:=he.h
 refine(BB P _).stop (Hq rfl rfl rfl rfl (fun _=>am) fun v wt sm v' wt' sm' es nx K=>?_)
 simp only [Fam.act] at K
 split at K
 ·rename_i a1
  subst a1;cases K;refine⟨_,fun w Z=>?_,rfl,Mq (h _ (U.put O.2 _))⟩;obtain⟨_,c2,_,c4⟩:=Hs Z;rw [C6 Y,C6 Y];show stepG P false _ w=_;rw [stepG_semrelease (a:=⟨T,ds⟩) V (Dh U hw) (by simpa using O.1) rfl ap av hb a0 he (ad:=F.mA) (by rw [P3 U ag];simpa using al) c2 c4,F7];have a2:IntKind.u32.wrap (((0:Nat):Int)+1)=((1:Nat):Int):=by decide
  rw [a2,QH Z]
 ·cases K
theorem UT{args:Array Operand}{vs:Lv_}(av:s.q=false)(Z:ops[i]? =some ⟨d,.call ⟨.value (.func f),args,ats⟩,ty,pp,af,g⟩)(V:b.roundOf=none)(hw:Bf L ops ⟨d,.call ⟨.value (.func f),args,ats⟩,ty,pp,af,g⟩=some true)(Y:((b.kind != .early)&&BE n d)=true)
  (he:CO P f Extern.Sync.semacquire) (a0:evs L args.toList=some vs) (a1:vs[0]? =some (.pointer (some F.mA)))
  (h:JL (BB P false) (Stop P F .GF) b n (AI L d (.tuple #[])) ds (.inRegion ops rest::k) cs s):
  JL (BB P false) (Stop P F .DC) b n L ds (.inRegion ops (i::rest)::k) cs s:=fun T K=>by
 simp only [Bool.and_eq_true] at Y
 obtain⟨fn,ag,al,hb,am,he⟩:=he.h
 have ap:(args.map (⟨T,ds⟩:Act).eval)[0]? =some (.pointer (some F.mA)):=by rw [P3 K a0];simpa using a1
 refine(BB P _).stop (FX.stop {
  run:=rfl,offers:=rfl,quiet:=(by simp [Fam.Eh]),live:=fun _=>av,act:=?_,He:=(by simp),ER:=?_,close:=(by simp),send:=(by simp),go:=(by simp),GU:=(by simp),recv:=(by simp)})
 ·intro v wt sm v' wt' sm' es nx O;simp only [Fam.act] at O;split at O
  ·rename_i a2;subst a2;cases O;refine⟨_,fun w U=>?_,rfl,h _ (K.put Y.2 _)⟩;obtain⟨_,c2,_,c4⟩:=Hs U;rw [C6 V,C6 V];show stepG P false _ w=_;rw [stepG_semacquire (a:=⟨T,ds⟩) Z (Dh K hw) (by simpa using Y.1) rfl ag al hb am he (ad:=F.mA) ap c2 (by decide) c4,F7];have a3:(((1:Nat):Int) - 1)=((0:Nat):Int):=by decide
   rw [a3,QH U]
  ·cases O
 ·intro _ w v wt U;obtain⟨_,c2,_,c4⟩:=Hs U;rw [C6 V];exact stepG_semacquire_wait (a:=⟨T,ds⟩) Z (Dh K hw) rfl ag al hb am he (ad:=F.mA) ap c2
theorem VH(Y:s.q=false)(U:ops[i]? =some ⟨d,.call ⟨.builtin .close,#[x],ats⟩,ty,pp,af,g⟩)(V:b.roundOf=none)(hw:Bf L ops ⟨d,.call ⟨.builtin .close,#[x],ats⟩,ty,pp,af,g⟩=some true)(K:((b.kind != .early)&&BE n d)=true)
  (Z:ev L x=some (.chan (some F.ch))) (ag:(P.funcs[b.fn]?).any (·.norace)=false)
  (h:JL (GB P) (Hb P 0) b n (AI L d (.tuple #[])) ds (.inRegion ops rest::k) cs .quiet):
  JL (BB P false) (Stop P F .DO) b n L ds (.inRegion ops (i::rest)::k) cs s:=fun T O=>by
 simp only [Bool.and_eq_true] at K
 refine(BB P _).stop (FX.stop {
  run:=rfl,offers:=rfl,quiet:=(by simp [Fam.Eh]),live:=fun _=>Y,act:=(by simp [Fam.act]),He:=fun _=>(by simp [mayWake,G,fr,U]),ER:=(by simp),close:=fun _=>?_,send:=(by simp),go:=(by simp),GU:=(by simp),recv:=(by simp)})
 refine⟨_,?_,fun w k' al=>?_,Mq (h _ (O.put K.2 _))⟩
 ·rfl
 ·rw [C6 V,C6 V,stepG_close (a:=⟨T,ds⟩) U (Dh O hw) (by simpa using K.1) rfl (by rw [Fg];exact O.ev Z) al ag,F7]
theorem RN{kk:Nat}{v:Value}(Y:s.q=false)(U:ops[i]? =some ⟨d,.send x y,ty,pp,af,g⟩)(Z:b.roundOf=none)(hw:Bf L ops ⟨d,.send x y,ty,pp,af,g⟩=some true)(O:((b.kind != .early)&&BE n d)=true)
  (ag:ev L x=some (.chan (some F.ch))) (al:ev L y=some v) (hm:F.msg kk v s.E)
  (h:JL (BB P false) (Stop P F .Dd) b n (AI L d undef) ds (.inRegion ops rest::k) cs s):
  JL (BB P false) (Stop P F (.CI kk)) b n L ds (.inRegion ops (i::rest)::k) cs s:=fun T K=>by
 simp only [Bool.and_eq_true] at O
 have V:execOp (BO T) ⟨d,.send x y,ty,pp,af,g⟩= .pure (.comm #[scase F.ch v (.tuple #[])] true .send):=by
  simp [execOp,K.ev ag,K.ev al,scase,pure]
 refine(BB P _).stop (FX.stop {
  run:=rfl,offers:=rfl,quiet:=(by simp [Fam.Eh]),live:=fun _=>Y,act:=(by simp [Fam.act]),He:=(by simp),ER:=(by simp),close:=(by simp),send:=fun k' e=>?_,go:=(by simp),GU:=(by simp),recv:=(by simp)})
 cases e;refine⟨v,.tuple #[],hm,fun w=>?_,?_⟩
 ·have he:(⟨T,ds⟩:Act).eval=BO T:=funext fun x=>Fg T ds x;rw [C6 Z,stepG_comm (a:=⟨T,ds⟩) (w':=w) U (Dh K hw) (by simpa using O.1) (by rw [he,V];rfl),listed_none (by rw [he,V];simp [Sem.events_pure'])]
 ·have:Conc.served (G (fr b T ds (.inRegion ops (i::rest)::k)) cs) undef=G (fr b (CX T d undef) ds (.inRegion ops rest::k)) cs:=by
   have:=Gl (b:=b) (ds:=ds) (k:=k) T ops i rest undef _ U;simp only [Conc.served,G,this]
  rw [this];exact h _ (K.put O.2 _)
end
end
end Pal
namespace Pal
open Go Go.Conc
section
variable {P:Program}{F:Fam}{J:Judge P}{Q:GP}{n:Nat}{L L':Env}{ds:Ld_}{k:Li_}{cs:Lf_}{s s':St}{b:Frame}{main:Bool}
variable {ops:Ao_}{i:Nat}{rest:List Nat}{d:Option Tmp}{f:FuncId}{x y z:Operand}{ats:Array TypeId}{ty t e:TypeId}{pp:String}{af:Ae_}{g:On_}{p q:Ph}
theorem QW{T:AD}{o:Oper}(K:ops[i]? =some o)(v:Value):Conc.served (G (fr b T ds (.inRegion ops (i::rest)::k)) cs) v=G (fr b (CX T o.dst v) ds (.inRegion ops rest::k)) cs:=by
 have:=Gl (b:=b) (ds:=ds) (k:=k) T ops i rest v _ K;simp only [Conc.served,G,this]
theorem IW(T:AD)(ds:Ld_):(⟨T,ds⟩:Act).eval=BO T:=funext fun x=>Fg T ds x
theorem Wa{O:List Nat}{vs:Lv_}{K:Value}{dir:ChanDir}(am:s.q=false)(Y:ops[i]? =some ⟨d,.recv t x true,ty,pp,af,g⟩)(ap:b.roundOf=none)(hw:Bf L ops ⟨d,.recv t x true,ty,pp,af,g⟩=some true)(U:((b.kind != .early)&&BE n d)=true)
  (av:ev L x=some (.chan (some F.ch))) (ht:P.underlying t=some (.chan dir e)) (a0:zeroOf P e=some K)
  (Z:∀kk v E',kk<F.n→F.has kk=true→kk ∉ O→Le s.E E'→(∀b,E' b≠none→s.H b=none)→F.msg kk v E'→JL (BB P true) (Stop P F (.Cr (O++ [kk]) (vs++ [v]))) b n (AI L d (.tuple #[v,.bool true])) ds (.inRegion ops rest::k) cs ⟨E',s.H,false⟩)
  (ag:(∀kk,kk<F.n→F.has kk=true→kk∈O)→∀T,Has n (AI L d (.tuple #[K,.bool false])) T→F.fin (G (fr b T ds (.inRegion ops rest::k)) cs) s):
  JL (BB P true) (Stop P F (.Cr O vs)) b n L ds (.inRegion ops (i::rest)::k) cs s:=fun T V=>by
 simp only [Bool.and_eq_true] at U
 have al:∀w,(execOp (BO T) ⟨d,.recv t x true,ty,pp,af,g⟩).run P w= .ok (.comm #[rcase F.ch K] true (.recv true)) w∧listed P b.fn ⟨T,ds⟩ ⟨d,.recv t x true,ty,pp,af,g⟩ w= #[]:=by
  have a1:∀s,lp P (execOp (BO T) ⟨d,.recv t x true,ty,pp,af,g⟩) s (fun nx s'=>nx= .comm #[rcase F.ch K] true (.recv true)∧s'=s) (fun _ _=>False):=by
   intro s;unfold execOp;simp only;refine AH (x:=underlying t) _ (Dm ht ?_);simp only;refine AH (x:=zeroValue e) _ (Gk a0 ?_);rw [V.ev av];exact⟨rfl,rfl⟩
  obtain⟨es,Z,ag,a2⟩:=O0 _ (a1 .quiet);rcases a2 with⟨a,⟨rfl,_⟩,a3⟩ | ⟨_,a4,_⟩
  ·intro w;refine⟨a3 w,?_⟩;unfold listed;rw [IW,Z];exact OF ag
  ·exact a4.elim
 refine(BB P _).stop (FX.stop {
  run:=rfl,offers:=rfl,quiet:=(by simp [Fam.Eh]),live:=fun _=>am,act:=(by simp [Fam.act]),He:=(by simp),ER:=(by simp),close:=(by simp),send:=(by simp),go:=(by simp),GU:=(by simp),recv:=fun bi bo a5=>?_})
 cases a5;refine⟨K,fun w=>?_,fun kk v E' a6 a7 a8 a9 bb bd=>?_,fun be=>?_⟩
 ·rw [C6 ap,stepG_comm (a:=⟨T,ds⟩) (w':=w) Y (Dh V hw) (by simpa using U.1) (by rw [IW];exact(al w).1),(al w).2]
 ·rw [QW Y];exact Z kk v E' a6 a7 a8 a9 bb bd _ (V.put U.2 _)
 ·rw [QW Y];exact ag be _ (V.put U.2 _)
theorem Rz{X:GP}{fn:Func}{c:Code}{vs:Lv_}{caps:AD}{args:AD}(O:P.funcs[f]? =some fn)(Y:(fn.name== "runtime.NumGoroutine")=false)(hb:fn.body=some c)(Z:args++caps=vs.toArray)(am:vs.length≤fn.ntmps)
  (h:JL (BB P false) X (baseD f) fn.ntmps (FR 0 vs) [] [.code c] [H3 P] s):Way P false X (born P {target:= .fn (.func f) caps,args:=args}) s:=by
 have ag:¬fn.name= "runtime.NumGoroutine" :=by simpa using Y
 refine Judge.Dt (J:=BB P false) rfl (fun w=>?_) (h (vs.toArray++Array.replicate (fn.ntmps - vs.length) undef) ⟨by simp;omega,fun t v ht=>?_⟩)
 ·show stepG P false _ w=_;have U:=enter_atD (P:=P) vs.toArray O hb;rw [C6 (b:=baseD f) rfl];simp only [List.size_toArray] at U;simp [G,born,stepG,unwind,callDeferred,invoke,callFunc,O,ag,hb,GStep.after,seen_none,Z,H3,U]
 ·obtain⟨_,K⟩:=JC ht;have al:t<vs.length:=by
   rcases Nat.lt_or_ge t vs.length with V | V
   ·exact V
   ·simp at K;have:=(List.getElem?_eq_some_iff.1 K).1;omega
  rw [Array.getD_eq_getD_getElem?,Array.getElem?_append_left (by simpa using al)];simp at K;simp [K]
theorem Ts{T:AD}{args:Array Operand}{K:Go.Fn}{fi O:AD}{as:Lv_}(U:Has n L T)(V:ev L x=some (.func K fi O))(Y:evs L args.toList=some as):
  execOp (BO T) ⟨d,.go ⟨.value x,args,ats⟩,ty,pp,af,g⟩= .pure (.spawn {target:= .fn K O,args:=fi++as.toArray}):=by
 have Z:args.map (BO T)=as.toArray:=by
  rw [← F4 U.Gr Y];apply Array.ext';simp
 simp only [execOp,resolve,bind,Sem.bind,Deferred.ofValue,U.ev V,pure,Z]
theorem Z6{j:Nat}{args:Array Operand}{fi U:AD}{as:Lv_}{V:FuncId}(ag:s.q=false)(al:ops[i]? =some ⟨d,.go ⟨.value x,args,ats⟩,ty,pp,af,g⟩)(Y:b.roundOf=none)(hw:Bf L ops ⟨d,.go ⟨.value x,args,ats⟩,ty,pp,af,g⟩=some true)(K:((b.kind != .early)&&BE n d)=true)
  (am:ev L x=some (.func (.func V) fi U)) (ap:evs L args.toList=some as)
  (av:Way P false (Stop P F (F.start j)) (born P {target:= .fn (.func V) U,args:=fi++as.toArray}) ⟨s.E,fun _=>none,false⟩)
  (a0:JL (BB P true) (Stop P F (F.DV j)) b n (AI L d undef) ds (.inRegion ops rest::k) cs s):
  JL (BB P true) (Stop P F (.Fq j)) b n L ds (.inRegion ops (i::rest)::k) cs s:=fun T O=>by
 simp only [Bool.and_eq_true] at K
 have Z:=Ts (d:=d) (ats:=ats) (ty:=ty) (pp:=pp) (af:=af) (g:=g) O am ap
 refine(BB P _).stop (FX.stop {
  run:=rfl,offers:=rfl,quiet:=(by simp [Fam.Eh]),live:=fun _=>ag,act:=(by simp [Fam.act]),He:=(by simp),ER:=(by simp),close:=(by simp),send:=(by simp),go:=fun a1 e=>?_,GU:=(by simp),recv:=(by simp)})
 cases e
 refine⟨G (fr b (CX T d undef) ds (.inRegion ops rest::k)) cs,_,rfl,rfl,fun w=>?_,av,a0 _ (O.put K.2 _)⟩
 rw [C6 Y,C6 Y,stepG_spawn (a:=⟨T,ds⟩) (w':=w) al (Dh O hw) (by simpa using K.1) (by rw [IW,Z];rfl) rfl,listed_none (by rw [IW,Z];simp [Sem.events_pure']),F7]
theorem JL.GU{args:Array Operand}{fi U:AD}{as:Lv_}{V:FuncId}(ag:s.q=false)(al:ops[i]? =some ⟨d,.go ⟨.value x,args,ats⟩,ty,pp,af,g⟩)(Y:b.roundOf=none)(hw:Bf L ops ⟨d,.go ⟨.value x,args,ats⟩,ty,pp,af,g⟩=some true)(K:((b.kind != .early)&&BE n d)=true)
  (am:ev L x=some (.func (.func V) fi U)) (ap:evs L args.toList=some as)
  (av:Way P false (Stop P F .De) (born P {target:= .fn (.func V) U,args:=fi++as.toArray}) ⟨s.E,fun _=>none,false⟩)
  (a0:JL (BB P true) (Stop P F (.Cr [] [])) b n (AI L d undef) ds (.inRegion ops rest::k) cs s):
  JL (BB P true) (Stop P F .FV) b n L ds (.inRegion ops (i::rest)::k) cs s:=fun T O=>by
 simp only [Bool.and_eq_true] at K
 have Z:=Ts (d:=d) (ats:=ats) (ty:=ty) (pp:=pp) (af:=af) (g:=g) O am ap
 refine(BB P _).stop (FX.stop {
  run:=rfl,offers:=rfl,quiet:=(by simp [Fam.Eh]),live:=fun _=>ag,act:=(by simp [Fam.act]),He:=(by simp),ER:=(by simp),close:=(by simp),send:=(by simp),go:=(by simp),GU:=fun _=>?_,recv:=(by simp)})
 refine⟨G (fr b (CX T d undef) ds (.inRegion ops rest::k)) cs,_,rfl,rfl,fun w=>?_,av,a0 _ (O.put K.2 _)⟩
 rw [C6 Y,C6 Y,stepG_spawn (a:=⟨T,ds⟩) (w':=w) al (Dh O hw) (by simpa using K.1) (by rw [IW,Z];rfl) rfl,listed_none (by rw [IW,Z];simp [Sem.events_pure']),F7]
theorem JO.SJ{j:Nat}(V:s.q=false)(K:b.roundOf=none)(he:CO P f (fun _=>do mark .enable;pure Extern.Race.none_))
  (h:JO (BB P true) (Stop P F (.Fq j)) b n L ds cs s):JO (BB P true) (Stop P F (.Gf j)) b n L (dcall f #[]::ds) cs s:=fun T Y todo=>by
 obtain⟨fn,Z,ag,hb,al,he⟩:=he.h
 refine(BB P _).stop (Hq rfl rfl rfl V (by simp) fun v wt sm v' wt' sm' es nx O=>?_)
 simp only [Fam.act] at O
 cases O
 refine⟨G (EC b T ds todo) cs,fun w am=>?_,rfl,h T Y todo⟩
 rw [JK K,JK K,JN am]
 exact stepG_unwind_entry (a:=⟨T,dcall f #[]::ds⟩) (v:= .tuple #[]) (evs:= #[Fam.EI .enable]) rfl Z ag hb al he (by simp [Extern.Race.none_]) (by simp;rfl) (by
  intro x U
  simp at U
  subst U
  exact⟨rfl,fun g h=>by cases h⟩)
theorem JO.MV(K:b.roundOf=none)(he:CO P f (fun _=>do mark .enable;pure Extern.Race.none_))
  (h:JO (GB P) (Hb P 0) b n L ds cs .quiet):JO (GB P) (Hb P 1) b n L (dcall f #[]::ds) cs .quiet:=fun T U todo=>by
 obtain⟨fn,V,Y,hb,Z,he⟩:=he.h
 refine(GB P).stop ?_
 obtain⟨q,O⟩:=Mq (h T U todo)
 rw [JK K] at O
 rw [JK K]
 exact⟨q+1,QuitsD.unwind_mark (a:=⟨T,dcall f #[]::ds⟩) .enable rfl (by simp) rfl V Y hb Z he O⟩
end
end Pal
namespace Pal
open Go Go.Conc
def TW:BinOp→Int→Int→Option Bool
 | .lss,m,m'=>some (decide (m<m'))
 | .leq,m,m'=>some (decide (m≤m'))
 | .gtr,m,m'=>some (decide (m'<m))
 | .geq,m,m'=>some (decide (m'≤m))
 | .eql,m,m'=>some (decide (m=m'))
 | .neq,m,m'=>some (decide (m≠m'))
 | _,_,_=>none
def Jk(L:Env):Op→Option Value
 | .move x=>ev L x
 | .assign x=>ev L x
 | .pick z x y=>match ev L z with
  | some (.bool true)=>ev L x
  | some (.bool false)=>ev L y
  | _=>none
 | .extract x i=>match ev L x with
  | some (.tuple vs)=>vs[i]?
  | _=>none
 | .nilCheck x=>match ev L x with
  | some (.pointer (some a))=>some (.pointer (some a))
  | _=>none
 | .binOp op _ x y _=>match ev L x with
  | some (.int kd m)=>match ev L y with
   | some (.int kd' m')=>if kd=kd' then(match TW op m m' with | some t=>some (.bool t) | none=>none) else none
   | _=>none
  | _=>none
 | _=>none
theorem Xf{P:Program}{s:St}{ρ:Operand→Value}{d:Option Tmp}{x y:Operand}{t u ty:TypeId}{p:String}{af:Ae_}{g:On_}{kd:IntKind}{m m':Int}(K:ρ x= .int kd m)(O:ρ y= .int kd m'):Yl P ⟨d,.binOp .neq t x y u,ty,p,af,g⟩ ρ s (.bool (decide (m≠m'))):=by
 have h:=Yl.neq (P:=P) (s:=s) (d:=d) (t:=t) (u:=u) (ty:=ty) (p:=p) (af:=af) (g:=g) K O;simpa using h
theorem M1{P:Program}{L:Env}{ρ:Operand→Value}{s:St}{o:Oper}{v:Value}(K:EL L ρ)(h:Jk L o.op=some v):Yl P o ρ s v:=by
 obtain⟨d,op,ty,p,af,g⟩:=o;simp only at h;unfold Jk at h;split at h
 ·exact Yl.move (K _ _ h)
 ·exact Yl.assign (K _ _ h)
 ·split at h
  ·rename_i e;exact VD (K _ _ e) (K _ _ h)
  ·rename_i e;exact VR (K _ _ e) (K _ _ h)
  ·cases h
 ·split at h
  ·rename_i e;exact Yl.extract (K _ _ e) h
  ·cases h
 ·split at h
  ·rename_i e;cases h;exact Yl.nilCheck (K _ _ e)
  ·cases h
 ·split at h
  ·rename_i O;split at h
   ·rename_i U;split at h
    ·rename_i e;subst e;split at h
     ·rename_i e;cases h;unfold TW at e;split at e
      ·cases e;exact Yl.lss (K _ _ O) (K _ _ U)
      ·cases e;exact Yl.leq (K _ _ O) (K _ _ U)
      ·cases e;exact Yl.gtr (K _ _ O) (K _ _ U)
      ·cases e;exact Yl.geq (K _ _ O) (K _ _ U)
      ·cases e;exact Yl.eql (K _ _ O) (K _ _ U)
      ·cases e;exact Xf (K _ _ O) (K _ _ U)
      ·cases e
     ·cases h
    ·cases h
   ·cases h
  ·cases h
 ·cases h
def H7:List Oper→Nat→Option Oper
 | [],_=>none
 | o::_,0=>some o
 | _::os,i+1=>H7 os i
theorem JR:∀(os:List Oper) (i:Nat),H7 os i=os[i]?
 | [],i=>by simp [H7]
 | _::_,0=>rfl
 | _::os,i+1=>by simp [H7,JR os i]
def N3(b:Frame)(n:Nat)(L:Env):Li_→Option (Li_×Env)
 | .code (.seq x y)::k=>some (.code x:: .code y::k,L)
 | .code (.block i c)::k=>some (.code c:: .inBlock i::k,L)
 | .code (.scope c)::k=>some (.code c:: .inScope c::k,L)
 | .code .skip::k=>some (k,L)
 | .code (.exit i)::k=>match exitTo i k with
  | some k'=>some (k',L)
  | none=>none
 | .code (.cond c x y)::k=>match ev L c with
  | some (.bool true)=>some (.code x::k,L)
  | some (.bool false)=>some (.code y::k,L)
  | _=>none
 | .code (.region _ ops false)::k=>some (.inRegion ops (List.range ops.size)::k,L)
 | .inBlock _::k=>some (k,L)
 | .inScope _::k=>some (k,L)
 | .inRegion _ []::k=>some (k,L)
 | .inRegion ops (i::rest)::k=>match H7 ops.toList i with
  | some ⟨d,op,ty,p,af,g⟩=>match Bf L ops ⟨d,op,ty,p,af,g⟩ with
   | some true=>match CS b n ⟨d,op,ty,p,af,g⟩ with
    | true=>match Jk L op with
     | some v=>match d with
      | some d=>some (.inRegion ops rest::k,(d,v)::L)
      | none=>some (.inRegion ops rest::k,L)
     | none=>none
    | false=>none
   | some false=>match BE n d with
    | true=>match d with
     | some d=>some (.inRegion ops rest::k,(d,undef)::L)
     | none=>some (.inRegion ops rest::k,L)
    | false=>none
   | none=>none
  | none=>none
 | _=>none
def Nz(b:Frame)(n:Nat):Nat→Li_→Env→Option (Li_×Env)
 | 0,k,L=>some (k,L)
 | m+1,k,L=>match N3 b n L k with
  | some (k',L')=>Nz b n m k' L'
  | none=>none
section
variable {P:Program}{J:Judge P}{Q:Gs_}{b:Frame}{n:Nat}{L L':Env}{ds:Ld_}{k k':Li_}{cs:Lf_}{s:St}
theorem Tf(h:N3 b n L k=some (k',L'))(K:JL J Q b n L' ds k' cs s):JL J Q b n L ds k cs s:=by
 unfold N3 at h;split at h
 ·cases h;exact JL.seq K
 ·cases h;exact JL.block K
 ·cases h;exact JL.scope K
 ·cases h;exact JL.skip K
 ·split at h
  ·rename_i e;cases h;exact JL.exit e K
  ·cases h
 ·split at h
  ·rename_i e;cases h;exact Ve e K
  ·rename_i e;cases h;exact U5 e K
  ·cases h
 ·cases h;exact JL.region K
 ·cases h;exact Mr K
 ·cases h;exact Uu K
 ·cases h;exact JL.done K
 ·split at h
  ·rename_i d op ty p af g O;rw [JR,Array.getElem?_toList] at O;split at h
   ·rename_i hw;split at h
    ·rename_i U;split at h
     ·rename_i v Y;cases d with
      | none=>cases h;exact Bb O hw U (fun ρ V=>M1 V Y) K
      | some d=>cases h;exact Bb O hw U (fun ρ V=>M1 V Y) K
     ·cases h
    ·cases h
   ·rename_i hw;split at h
    ·rename_i U;cases d with
     | none=>cases h;exact TB O hw U K
     | some d=>cases h;exact TB O hw U K
    ·cases h
   ·cases h
  ·cases h
 ·cases h
theorem JL.go(m:Nat)(h:Nz b n m k L=some (k',L'))(K:JL J Q b n L' ds k' cs s):JL J Q b n L ds k cs s:=by
 induction m generalizing k L with
 | zero=>cases h;exact K
 | succ m O=>
  unfold Nz at h;split at h
  ·rename_i e;exact Tf e (O h)
  ·cases h
end
abbrev pV(a o:Nat):Value:= .pointer (some ⟨a,o,none⟩)
abbrev sV{α:Type}(a:Option Addr)(l:List α)(c:Nat):Value:= .slice a l.length c
abbrev fV(n:Nat):Value:= .func (.func n) #[] #[]
abbrev nS:Value:= .slice none 0 0
abbrev A0(r:Nat):Option Addr:=some ⟨r,0,none⟩
abbrev uV(n:Nat):Value:= .int .u16 ((n:Nat):Int)
end Pal
namespace Pal
open Go Go.Conc Go.Conc.Lib
open Go.ConcR.Gen
theorem Fy{P:Program}{t:TypeId}{n:Nat}(h:∀w,Sem.run P (Go.sizeOf t) w= .ok n w):BD P t=some n:=by
 have K:=h default;unfold BD;simp only [Go.sizeOf,typeInfo,bind,Sem.bind,program,Sem.run] at K;cases hi:P.info? t with
 | none=>rw [hi] at K;simp [stuck,Sem.run,Sem.bind] at K
 | some i=>
  rw [hi] at K;simp [pure,Sem.bind,Sem.run] at K;simp [K]
section
variable {P:Program}{L:WgLink}(H:WgLib P L)
include H
theorem OM:CO P L.disable (fun _=>do mark .disable;pure Extern.Race.none_):=⟨⟨_,H.f_disable,x_disable_n L,x_disable_b L,x_disable_x L,x_disable_f L⟩⟩
theorem It:CO P L.enable (fun _=>do mark .enable;pure Extern.Race.none_):=⟨⟨_,H.f_enable,x_enable_n L,x_enable_b L,x_enable_x L,x_enable_f L⟩⟩
theorem Ul:CO P L.relMerge (Extern.Race.marked .releaseMerge):=⟨⟨_,H.f_relMerge,x_relMerge_n L,x_relMerge_b L,x_relMerge_x L,x_relMerge_f L⟩⟩
theorem QA:CO P L.acquire (Extern.Race.marked .acquire):=⟨⟨_,H.f_acquire,x_acquire_n L,x_acquire_b L,x_acquire_x L,x_acquire_f L⟩⟩
theorem Wh:CO P L.raceRead (Extern.Race.marked .read):=⟨⟨_,H.f_raceRead,x_raceRead_n L,x_raceRead_b L,x_raceRead_x L,x_raceRead_f L⟩⟩
theorem VB:CO P L.raceWrite (Extern.Race.marked .write):=⟨⟨_,H.f_raceWrite,x_raceWrite_n L,x_raceWrite_b L,x_raceWrite_x L,x_raceWrite_f L⟩⟩
theorem Sm:CO P L.addU64 (Extern.Atomic.update (Op.intArith .add) .u64 true):=⟨⟨_,H.f_addU64,x_addU64_n L,x_addU64_b L,x_addU64_x L,x_addU64_f L⟩⟩
theorem Wi:CO P L.loadU64 (Extern.Atomic.loadT (.int .u64)):=⟨⟨_,H.f_loadU64,x_loadU64_n L,x_loadU64_b L,x_loadU64_x L,x_loadU64_f L⟩⟩
theorem Vk:CO P L.storeU64 Extern.Atomic.storeT:=⟨⟨_,H.f_storeU64,x_storeU64_n L,x_storeU64_b L,x_storeU64_x L,x_storeU64_f L⟩⟩
theorem Yv:CO P L.casU64 (Extern.Atomic.casT (.int .u64)):=⟨⟨_,H.f_casU64,x_casU64_n L,x_casU64_b L,x_casU64_x L,x_casU64_f L⟩⟩
theorem Va:CO P L.semrelease Extern.Sync.semrelease:=⟨⟨_,H.f_semrelease,x_semrelease_n L,x_semrelease_b L,x_semrelease_x L,x_semrelease_f L⟩⟩
theorem Ux:CO P L.semacquire Extern.Sync.semacquire:=⟨⟨_,H.f_semacquire,x_semacquire_n L,x_semacquire_b L,x_semacquire_x L,x_semacquire_f L⟩⟩
theorem QO:CO P L.inBubble (fun _=>pure (.bool false)):=⟨⟨_,H.f_inBubble,x_inBubble_n L,x_inBubble_b L,x_inBubble_x L,x_inBubble_f L⟩⟩
end
section
variable {P:Program}{F:Fam}{J:Judge P}{Q:GP}{n:Nat}{L L':Env}{ds:Ld_}{k:Li_}{cs:Lf_}{s s':St}{b:Frame}{main:Bool}
variable {ops:Ao_}{i:Nat}{rest:List Nat}{d:Option Tmp}{f:FuncId}{x y z:Operand}{ats:Array TypeId}{ty t u e tw:TypeId}{pp:String}{af:Ae_}{g:On_}{p q:Ph}
theorem Yl.to{o:Oper}{ρ:Operand→Value}{v v':Value}(h:Yl P o ρ s v)(e:v=v'):Yl P o ρ s v':=e▸h
theorem Lm{ad:Addr}(av:J5 p=true)(a0:if Fam.Eh p=true then s= .quiet else s.q=false)(a1:p≠ .EN)(a2:∀v wt sm,F.act p v wt sm=some ((v,wt,sm),#[],.ph q))(a3:Fam.GR p s=s)
  (a4:ops[i]? =some ⟨d,.convert t u x,ty,pp,af,g⟩) (U:b.roundOf=none) (hw:Bf L ops ⟨d,.convert t u x,ty,pp,af,g⟩=some true) (K:((b.kind != .early)&&BE n d)=true)
  (ht:P.underlying t=some (.pointer tw)) (hu:P.underlying u=some .unsafePointer) (V:(P.info? tw).map (fun i=>decide (i.size=0))=some false) (a5:ev L x=some (.pointer (some ad))) (hb:ad=F.sA∨ad=F.mA)
  (h:JL (BB P (Fam.DJ p)) (Stop P F q) b n (AI L d (.pointer (some ad))) ds (.inRegion ops rest::k) cs s):
  JL (BB P (Fam.DJ p)) (Stop P F p) b n L ds (.inRegion ops (i::rest)::k) cs s:=fun T O=>by
 simp only [Bool.and_eq_true] at K
 refine(BB P _).stop (Hq av rfl rfl a0 (fun e=>absurd e a1) fun v wt sm v' wt' sm' es nx Y=>?_)
 rw [a2] at Y;cases Y
 refine⟨_,fun w Z=>?_,rfl,by rw [a3];exact h _ (O.put K.2 _)⟩
 obtain⟨ag,al⟩:∃ag,w.cell? ad=some ag:=by
  obtain⟨a6,c2,_,_⟩:=Hs Z;rcases hb with e | e <;> rw [e]
  ·exact⟨_,a6⟩
  ·exact⟨_,c2⟩
 have am:=run_convert_to_unsafe (P:=P) (w:=w) ht hu V al;have a7:=events_convert_to_unsafe (P:=P) (w:=w) ht hu V al;have ap:execOp (⟨T,ds⟩:Act).eval ⟨d,.convert t u x,ty,pp,af,g⟩=(do pure (Next.value (← Go.convert t u (.pointer (some ad))))):=by
  rw [IW];simp only [execOp,O.ev a5]
 rw [C6 U,C6 U,stepG_value (a:=⟨T,ds⟩) (v:= .pointer (some ad)) (w':=w) a4 (Dh O hw) (by simpa using K.1) (by rw [ap];simp [am,Result.andThen]),JN Z,F7];have a8:listed P b.fn ⟨T,ds⟩ ⟨d,.convert t u x,ty,pp,af,g⟩ w= #[]:=by
  unfold listed;rw [ap];simp [am,a7,Result.evThen,seen_none]
 rw [a8]
end
end Pal
namespace Pal
open Go Go.Conc Go.Conc.Lib
open Go.ConcR.Gen
section
variable {P:Program}{F:Fam}{J:Judge P}{Q:GP}{n:Nat}{L L':Env}{ds:Ld_}{k:Li_}{cs:Lf_}{s s':St}{b:Frame}{main:Bool}
variable {ops:Ao_}{i:Nat}{rest:List Nat}{d:Option Tmp}{f:FuncId}{x y z:Operand}{args:Array Operand}{ats:Array TypeId}{ty t u e tw:TypeId}{pp:String}{af:Ae_}{g:On_}{p q:Ph}{vs:Lv_}
def bM(P:Program)(b:Frame)(n:Nat)(L:Env)(d:Option Tmp)(ds:Ld_)(todo:Li_)(cs:Lf_)(U:Frame):Prop:=
 ∀(K:Judge P) (O:GP) (v:Value) (s':St),JL K O b n (AI L d v) ds todo cs s'→K.ok O (G (U.finish v) cs) s'
theorem IC{fn:Func}{c:Code}(V:ops[i]? =some ⟨d,.call ⟨.value (.func f),args,ats⟩,ty,pp,af,g⟩)(hw:Bf L ops ⟨d,.call ⟨.value (.func f),args,ats⟩,ty,pp,af,g⟩=some true)(O:((b.kind != .early)&&BE n d)=true)
  (Y:P.funcs[f]? =some fn) (al:(fn.name== "runtime.NumGoroutine")=false) (hb:fn.body=some c) (am:evs L args.toList=some vs) (a4:vs.length≤fn.ntmps)
  (h:∀Z:Frame,bM P b n L d ds (.inRegion ops rest::k) cs Z→JL J Q (base f) fn.ntmps (FR 0 vs) [] [.code c] (Z::cs) s):
  JL J Q b n L ds (.inRegion ops (i::rest)::k) cs s:=fun T U=>by
 simp only [Bool.and_eq_true] at O
 have ap:args.map (BO T)=vs.toArray:=by
  rw [← F4 U.Gr am];apply Array.ext';simp
 refine Judge.oper V (Dh U hw) (by simpa using O.1) (.inr fun c av=>by cases av) ?_;have a0:D3 P f=true:=by unfold D3;rw [Y];simp [al,hb]
 have a1:lp P (execOp (BO T) ⟨d,.call ⟨.value (.func f),args,ats⟩,ty,pp,af,g⟩) s (upon J Q b T ds ops i rest k cs d) (N8 J Q b T ds ops i rest k cs):=by
  simp only [execOp,resolve,bind,Sem.bind,Deferred.ofValue,BO,pure,invoke];have e: #[]++args.map (BO T)++ #[]=vs.toArray:=by rw [ap];simp
  rw [e];refine Jy a0 ?_;have he:Frame.enter P f vs.toArray .normal=fr (base f) (vs.toArray++Array.replicate (fn.ntmps - vs.length) undef) [] [.code c]:=by
   simp [Frame.enter,fr,Y,hb,base];rfl
  show J.ok Q (G (Frame.enter P f vs.toArray .normal) _) s;rw [he];refine h _ (fun a5 a6 v s' a2=>?_) _ ⟨by simp;omega,fun t v ht=>?_⟩
  ·rw [Gl (o:=⟨d,.call ⟨.value (.func f),args,ats⟩,ty,pp,af,g⟩) _ _ _ _ _ V];exact a2 _ (U.put O.2 v)
  ·obtain⟨_,K⟩:=JC ht;have a3:t<vs.length:=by
    rcases Nat.lt_or_ge t vs.length with ag | ag
    ·exact ag
    ·simp at K;have:=(List.getElem?_eq_some_iff.1 K).1;omega
   rw [Array.getD_eq_getD_getElem?,Array.getElem?_append_left (by simpa using a3)];simp at K;simp [K]
 exact a1
theorem Yl.ext{e:AD→Sem Value}{v:Value}{ρ:Operand→Value}(he:CO P f e)(O:args.map ρ=vs.toArray)(h:e vs.toArray= .pure v):Yl P ⟨d,.call ⟨.value (.func f),args,ats⟩,ty,pp,af,g⟩ ρ s v∨ρ (.func f)≠ .func (.func f) #[] #[]:=by
 by_cases K:ρ (.func f)= .func (.func f) #[] #[]
 ·left;obtain⟨fn,U,V,Y,Z,ag⟩:=he.h;unfold Yl;simp only [execOp,resolve,bind,Sem.bind,Deferred.ofValue,K,pure,invoke];have al: #[]++args.map ρ++ #[]=vs.toArray:=by rw [O];simp
  rw [al];have am:fn.body=none:=by simpa using Y
  simp only [callFunc,bind,Sem.bind,program,lp,U,V,am,Option.isNone_none,Bool.false_eq_true,if_false,if_true,mark,Z,ag,h,pure];exact⟨.inr ⟨f,rfl⟩,trivial,trivial⟩
 ·exact .inr K
theorem JL.ext{e:AD→Sem Value}{v:Value}(O:ops[i]? =some ⟨d,.call ⟨.value (.func f),args,ats⟩,ty,pp,af,g⟩)(hw:Bf L ops ⟨d,.call ⟨.value (.func f),args,ats⟩,ty,pp,af,g⟩=some true)(U:CS b n ⟨d,.call ⟨.value (.func f),args,ats⟩,ty,pp,af,g⟩=true)
  (he:CO P f e) (V:evs L args.toList=some vs) (Y:e vs.toArray= .pure v) (h:JL J Q b n (AI L d v) ds (.inRegion ops rest::k) cs s):JL J Q b n L ds (.inRegion ops (i::rest)::k) cs s:=
 Bb O hw U (fun ρ K=>by
  have Z:args.map ρ=vs.toArray:=by
   rw [← F4 K V]
   apply Array.ext';simp
  rcases Yl.ext (s:=s) (d:=d) (ats:=ats) (ty:=ty) (pp:=pp) (af:=af) (g:=g) he Z Y with q | q
  ·exact q
  ·exact absurd (K (.func f) _ rfl) q) h
end
section
variable {P:Program}{L:WgLink}(H:WgLib P L){F:Fam}{n:Nat}{M:Env}{ds:Ld_}{k:Li_}{cs:Lf_}{s:St}{b:Frame}
variable {ops:Ao_}{i:Nat}{rest:List Nat}{d:Option Tmp}{x y z:Operand}{ats:Array TypeId}{ty:TypeId}{pp:String}{af:Ae_}{g:On_}{p q:Ph}
include H
theorem WX(K:ops[i]? =some ⟨d,.call ⟨.value (.func L.uAdd),#[x,y],ats⟩,ty,pp,af,g⟩)(hw:Bf M ops ⟨d,.call ⟨.value (.func L.uAdd),#[x,y],ats⟩,ty,pp,af,g⟩=some true)(O:((b.kind != .early)&&BE n d)=true)
  (U:ev M x=some (.pointer (some F.sA))) (V:ev M y=some (.int .u64 18446744069414584320))
  (Y:JL (BB P false) (Stop P F .Gs) b n (AI M d (.int .u64 (Fam.word 0 1))) ds (.inRegion ops rest::k) cs .quiet)
  (Z:∀v wt:Nat,v<2147483647→wt≤1→¬(v=0∧wt=1)→JL (GB P) (Hb P 1) b n (AI M d (.int .u64 (Fam.word v wt))) ds (.inRegion ops rest::k) cs .quiet):
  JL (BB P false) (Stop P F .Hd) b n M ds (.inRegion ops (i::rest)::k) cs .quiet:=by
 refine IC (vs:= [.pointer (some F.sA),.int .u64 18446744069414584320]) K hw O H.f_uAdd (nm_uAdd L) rfl (by simp [evs,U,V]) (Nat.le_of_ble_eq_true rfl) fun ap back=>JL.go 8 rfl (Bb rfl rfl rfl (fun ρ h=>Yl.fieldAddr H.underlying_tAU rfl (Fy H.sizeOf_tU64) (h _ _ rfl)) ?_);refine JL.go 1 rfl (XL rfl rfl rfl rfl (Sm H) rfl rfl ?_ fun v wt ag al am=>?_)
 ·refine Bb rfl rfl rfl (fun ρ h=>Yl.assign (h _ _ rfl)) (JL.done ?_);exact JL.ret rfl rfl (Cm.one H.f_uAdd rfl rfl) (back _ _ _ _ Y)
 ·refine Bb rfl rfl rfl (fun ρ h=>Yl.assign (h _ _ rfl)) (JL.done ?_);exact JL.ret rfl rfl (Cm.one H.f_uAdd rfl rfl) (back _ _ _ _ (Z v wt ag al am))
theorem WE{j:Nat}(K:s.q=false)(O:ops[i]? =some ⟨d,.call ⟨.value (.func L.uAdd),#[x,y],ats⟩,ty,pp,af,g⟩)(hw:Bf M ops ⟨d,.call ⟨.value (.func L.uAdd),#[x,y],ats⟩,ty,pp,af,g⟩=some true)(U:((b.kind != .early)&&BE n d)=true)
  (V:ev M x=some (.pointer (some F.sA))) (Y:ev M y=some (.int .u64 4294967296))
  (Z:JL (BB P true) (Stop P F (.Hg j)) b n (AI M d (.int .u64 (Fam.word 1 0))) ds (.inRegion ops rest::k) cs s)
  (ag:∀v:Nat,1≤v→v<2147483647→JL (BB P true) (Stop P F (.Gf j)) b n (AI M d (.int .u64 (Fam.word (v+1) 0))) ds (.inRegion ops rest::k) cs s):
  JL (BB P true) (Stop P F (.HB j)) b n M ds (.inRegion ops (i::rest)::k) cs s:=by
 refine IC (vs:= [.pointer (some F.sA),.int .u64 4294967296]) O hw U H.f_uAdd (nm_uAdd L) rfl (by simp [evs,V,Y]) (Nat.le_of_ble_eq_true rfl) fun ap back=>JL.go 8 rfl (Bb rfl rfl rfl (fun ρ h=>Yl.fieldAddr H.underlying_tAU rfl (Fy H.sizeOf_tU64) (h _ _ rfl)) ?_);refine JL.go 1 rfl (YC K rfl rfl rfl rfl (Sm H) rfl rfl ?_ fun v al am=>?_)
 ·refine Bb rfl rfl rfl (fun ρ h=>Yl.assign (h _ _ rfl)) (JL.done ?_);exact JL.ret rfl rfl (Cm.one H.f_uAdd rfl rfl) (back _ _ _ _ Z)
 ·refine Bb rfl rfl rfl (fun ρ h=>Yl.assign (h _ _ rfl)) (JL.done ?_);exact JL.ret rfl rfl (Cm.one H.f_uAdd rfl rfl) (back _ _ _ _ (ag v al am))
theorem JL.uLoad(K:J5 p=true)(O:if Fam.Eh p=true then s= .quiet else s.q=false)(U:p≠ .EN)(V:Fam.GR p s=s)(Y:∀v wt sm r,F.act p v wt sm=some r→r.1=(v,wt,sm)∧r.2.1= #[Fam.Fs F.sA])(Z:ops[i]? =some ⟨d,.call ⟨.value (.func L.uLoad),#[x],ats⟩,ty,pp,af,g⟩)(hw:Bf M ops ⟨d,.call ⟨.value (.func L.uLoad),#[x],ats⟩,ty,pp,af,g⟩=some true)(ag:((b.kind != .early)&&BE n d)=true)
  (al:ev M x=some (.pointer (some F.sA)))
  (h:∀v wt sm r,F.act p v wt sm=some r→∃q,r.2.2= .ph q∧JL (BB P (Fam.DJ p)) (Stop P F q) b n (AI M d (.int .u64 (Fam.word v wt))) ds (.inRegion ops rest::k) cs s):
  JL (BB P (Fam.DJ p)) (Stop P F p) b n M ds (.inRegion ops (i::rest)::k) cs s:=by
 refine IC (vs:= [.pointer (some F.sA)]) Z hw ag H.f_uLoad (nm_uLoad L) rfl (by simp [evs,al]) (Nat.le_of_ble_eq_true rfl) fun a0 back=>JL.go 8 rfl (Bb rfl rfl rfl (fun ρ h=>Yl.fieldAddr H.underlying_tAU rfl (Fy H.sizeOf_tU64) (h _ _ rfl)) ?_);refine aI K O U V Y rfl rfl rfl rfl (Wi H) rfl fun v wt sm r am=>?_;obtain⟨q,ap,av⟩:=h v wt sm r am;refine⟨q,ap,?_⟩
 ·refine Bb rfl rfl rfl (fun ρ h=>Yl.assign (h _ _ rfl)) (JL.done ?_);exact JL.ret rfl rfl (Cm.one H.f_uLoad rfl rfl) (back _ _ _ _ av)
theorem JL.uStore(K:ops[i]? =some ⟨d,.call ⟨.value (.func L.uStore),#[x,y],ats⟩,ty,pp,af,g⟩)(hw:Bf M ops ⟨d,.call ⟨.value (.func L.uStore),#[x,y],ats⟩,ty,pp,af,g⟩=some true)(O:((b.kind != .early)&&BE n d)=true)
  (U:ev M x=some (.pointer (some F.sA))) (V:ev M y=some (.int .u64 0))
  (h:JL (BB P false) (Stop P F .EN) b n (AI M d (.tuple #[])) ds (.inRegion ops rest::k) cs .quiet):
  JL (BB P false) (Stop P F .GH) b n M ds (.inRegion ops (i::rest)::k) cs .quiet:=by
 refine IC (vs:= [.pointer (some F.sA),.int .u64 0]) K hw O H.f_uStore (nm_uStore L) rfl (by simp [evs,U,V]) (Nat.le_of_ble_eq_true rfl) fun Y back=>JL.go 3 rfl (Bb rfl rfl rfl (fun ρ h=>Yl.fieldAddr H.underlying_tAU rfl (Fy H.sizeOf_tU64) (h _ _ rfl)) ?_);refine JL.go 1 rfl (Zj rfl rfl rfl rfl (Vk H) rfl rfl ?_);exact JL.done (JL.fin rfl rfl (Cm.none H.f_uStore rfl) (back _ _ _ _ h))
theorem JL.uCas{m:Nat}(K:s.q=false)(O:ops[i]? =some ⟨d,.call ⟨.value (.func L.uCas),#[x,y,z],ats⟩,ty,pp,af,g⟩)(hw:Bf M ops ⟨d,.call ⟨.value (.func L.uCas),#[x,y,z],ats⟩,ty,pp,af,g⟩=some true)(U:((b.kind != .early)&&BE n d)=true)
  (V:ev M x=some (.pointer (some F.sA))) (Y:ev M y=some (.int .u64 (Fam.word m 0))) (Z:ev M z=some (.int .u64 (Fam.word m 1)))
  (ag:JL (BB P false) (Stop P F .HF) b n (AI M d (.bool true)) ds (.inRegion ops rest::k) cs s)
  (al:JL (BB P false) (Stop P F (.FU (m - 1))) b n (AI M d (.bool false)) ds (.inRegion ops rest::k) cs s):
  JL (BB P false) (Stop P F (.Hc m)) b n M ds (.inRegion ops (i::rest)::k) cs s:=by
 refine IC (vs:= [.pointer (some F.sA),.int .u64 (Fam.word m 0),.int .u64 (Fam.word m 1)]) O hw U H.f_uCas (nm_uCas L) rfl (by simp [evs,V,Y,Z]) (Nat.le_of_ble_eq_true rfl) fun am back=>JL.go 8 rfl (Bb rfl rfl rfl (fun ρ h=>Yl.fieldAddr H.underlying_tAU rfl (Fy H.sizeOf_tU64) (h _ _ rfl)) ?_);refine JL.go 2 rfl (aF (m:=m) K rfl rfl rfl rfl (Yv H) rfl rfl rfl ?_ ?_)
 ·refine Bb rfl rfl rfl (fun ρ h=>Yl.assign (h _ _ rfl)) (JL.done ?_);exact JL.ret rfl rfl (Cm.one H.f_uCas rfl rfl) (back _ _ _ _ ag)
 ·refine Bb rfl rfl rfl (fun ρ h=>Yl.assign (h _ _ rfl)) (JL.done ?_);exact JL.ret rfl rfl (Cm.one H.f_uCas rfl rfl) (back _ _ _ _ al)
end
end Pal
namespace Pal
open Go Go.Conc Go.Conc.Lib
open Go.ConcR.Gen
theorem J6{v wt:Nat}(K:v<2147483648)(O:wt≤1):IntKind.u64.wrap (BitVec.ofInt IntKind.u64.bits (Fam.word v wt)&&& BitVec.ofInt IntKind.u64.bits 2147483648).toNat=0:=by
 have:=Go.ConcN.st_flag v wt K O;simpa [bits,Fam.word,Fam.KK] using this
theorem Kg{v wt:Nat}(K:v<2147483648)(O:wt≤1):IntKind.u64.wrap (BitVec.ofInt IntKind.u64.bits (Fam.word v wt)&&& BitVec.ofInt IntKind.u64.bits 2147483647).toNat=(wt:Int):=by
 have:=Go.ConcN.st_waiters v wt K O;simpa [bits,Fam.word,Fam.KK] using this
theorem JF{v wt:Nat}(K:wt≤1):(Fam.word v wt).fdiv (2 ^ (min (32:Int).toNat IntKind.u64.bits))=(v:Int):=by
 have e:(2:Int) ^ (min (32:Int).toNat IntKind.u64.bits)=4294967296:=by decide
 rw [e,Int.fdiv_eq_ediv_of_nonneg _ (by decide)];simp only [Fam.word,Fam.KK];omega
theorem wrap_i32{v:Nat}(K:v<2147483648):IntKind.i32.wrap (v:Int)=v:=by
 simp only [IntKind.wrap,IntKind.bits,IntKind.signed];simp;split <;> omega
theorem wrap_u32{v:Nat}(K:v≤1):IntKind.u32.wrap (v:Int)=v:=by
 simp only [IntKind.wrap,IntKind.bits,IntKind.signed];simp;omega
theorem VT{F:Fam}:∀v wt sm r,F.act .Gs v wt sm=some r→r.1=(v,wt,sm)∧r.2.1= #[Fam.Fs F.sA]:=by
 intro v wt sm r h;simp only [Fam.act] at h;split at h
 ·rename_i K;obtain⟨rfl,rfl⟩:=K;cases h;exact⟨rfl,rfl⟩
 ·cases h
theorem WA{F:Fam}{v wt sm:Nat}{r}(h:F.act .Gs v wt sm=some r):v=0∧wt=1∧r.2.2= .ph .GH:=by
 simp only [Fam.act] at h;split at h
 ·rename_i K;cases h;exact⟨K.1,K.2,rfl⟩
 ·cases h
section
variable {P:Program}{L:WgLink}(H:WgLib P L){F:Fam}{n:Nat}{M:Env}{ds:Ld_}{k:Li_}{cs:Lf_}{s:St}{b:Frame}
variable {ops:Ao_}{i:Nat}{rest:List Nat}{d:Option Tmp}{x y z:Operand}{ats:Array TypeId}{ty:TypeId}{pp:String}{af:Ae_}{g:On_}{p q:Ph}
include H
theorem Vu(U:s.q=false)(V:ops[i]? =some ⟨d,.call ⟨.value (.func L.add),#[x,y],ats⟩,ty,pp,af,g⟩)(hw:Bf M ops ⟨d,.call ⟨.value (.func L.add),#[x,y],ats⟩,ty,pp,af,g⟩=some true)(Y:((b.kind != .early)&&BE n d)=true)
  (Z:ev M x=some (.pointer (some F.sA))) (ag:ev M y=some (.int .i64 (-1)))
  (h:JL (GB P) (Hb P 0) b n (AI M d (.tuple #[])) ds (.inRegion ops rest::k) cs .quiet):
  JL (BB P false) (Stop P F .Dd) b n M ds (.inRegion ops (i::rest)::k) cs s:=by
 refine IC (vs:= [.pointer (some F.sA),.int .i64 (-1)]) V hw Y H.f_add (nm_add L) rfl (by simp [evs,Z,ag]) (Nat.le_of_ble_eq_true rfl) fun am back=>JL.go 11 rfl (Lm (p:= .Dd) (q:= .Gv) (ad:=F.sA) rfl U (by simp) (fun _ _ _=>rfl) rfl rfl rfl rfl rfl H.underlying_tWgP H.underlying_tUP H.room_tWg rfl (.inl rfl) ?_)
 refine KM (p:= .Gv) (q:= .H4) (mk:= .releaseMerge) (ad:=F.sA) (vs:= [.pointer (some F.sA)]) rfl U (by simp) (fun _ _ _=>rfl) rfl rfl rfl rfl (by simp) (Ul H) rfl rfl (JL.go 3 rfl ?_);refine KZ (p:= .H4) (q:= .Hd) rfl rfl (by simp) (fun _ _ _=>rfl) rfl rfl rfl rfl rfl (by simp) (OM H) (JL.go 2 rfl ?_);refine JL.defer (vs:= []) rfl rfl rfl rfl rfl (JL.go 8 rfl ?_);refine JL.ext (vs:= []) rfl rfl rfl (QO H) rfl rfl (JL.go 7 rfl ?_);refine Bb rfl rfl rfl (fun ρ h=>Yl.fieldAddr H.underlying_tWg rfl (Fy H.sizeOf_tAU) (h _ _ rfl)) (JL.go 1 rfl ?_);refine Bb rfl rfl rfl (fun ρ h=>EB H.underlying_t3 H.underlying_tU64 (h _ _ rfl)) ?_
 refine Bb (v:= .int .u64 18446744069414584320) rfl rfl rfl (fun ρ h=>(Yl.shl (h _ _ rfl) (h _ _ rfl) (by decide)).to (congrArg _ (by decide))) (WX H rfl rfl rfl rfl rfl ?_ fun v wt ap K av=>?_)
 ·refine Bb rfl rfl rfl (fun ρ h=>Yl.assign (h _ _ rfl)) (JL.go 5 rfl ?_);refine Bb (v:= .int .u64 0) rfl rfl rfl (fun ρ h=>(Yl.and (h _ _ rfl) (h _ _ rfl)).to (congrArg _ (J6 (v:=0) (wt:=1) (by decide) (by decide)))) (Bb rfl rfl rfl (fun ρ h=>Yl.neq (h _ _ rfl) (h _ _ rfl)) ?_);refine JL.go 10 rfl (Bb (v:= .int .u64 (0:Nat)) rfl rfl rfl (fun ρ h=>(Yl.shr (h _ _ rfl) (h _ _ rfl) (by decide)).to (congrArg _ (JF (v:=0) (wt:=1) (by decide)))) ?_);refine Bb (v:= .int .i32 (0:Nat)) rfl rfl rfl (fun ρ h=>(EB H.underlying_tU64 H.underlying_t21 (h _ _ rfl)).to (congrArg _ (wrap_i32 (by decide)))) ?_
  refine JL.go 5 rfl (Bb (v:= .int .u64 (1:Nat)) rfl rfl rfl (fun ρ h=>(Yl.and (h _ _ rfl) (h _ _ rfl)).to (congrArg _ (Kg (v:=0) (wt:=1) (by decide) (by decide)))) ?_);refine Bb (v:= .int .u32 (1:Nat)) rfl rfl rfl (fun ρ h=>(EB H.underlying_tU64 H.underlying_tU32 (h _ _ rfl)).to (congrArg _ (wrap_u32 (by decide)))) ?_
  refine JL.go 30 rfl (Bb rfl rfl rfl (fun ρ h=>Yl.neq (h _ _ rfl) (h _ _ rfl)) ?_);refine JL.go 30 rfl (Bb rfl rfl rfl (fun ρ h=>Yl.fieldAddr H.underlying_tWg rfl (Fy H.sizeOf_tAU) (h _ _ rfl)) ?_);refine JL.uLoad H (p:= .Gs) rfl rfl (by simp) rfl VT rfl rfl rfl rfl fun v wt sm r al=>?_;obtain⟨rfl,rfl,e⟩:=WA al;refine⟨.GH,e,?_⟩;refine JL.go 1 rfl (Bb (v:= .bool false) rfl rfl rfl (fun ρ h=>(Yl.neq (h _ _ rfl) (h _ _ rfl)).to (by simp)) ?_);refine JL.go 7 rfl (Bb rfl rfl rfl (fun ρ h=>Yl.fieldAddr H.underlying_tWg rfl (Fy H.sizeOf_tAU) (h _ _ rfl)) ?_);refine JL.uStore H rfl rfl rfl rfl rfl (JL.go 9 rfl ?_);refine IY (JL.go 4 rfl ?_);refine Bb rfl rfl rfl (fun ρ h=>Yl.neq (h _ _ rfl) (h _ _ rfl)) (JL.go 8 rfl ?_);refine Bb rfl rfl rfl (fun ρ h=>Yl.fieldAddr H.underlying_tWg rfl (Fy H.sizeOf_tU32) (h _ _ rfl)) (V0 (vs:= [.pointer (some F.mA),.bool false,.int .i64 0]) rfl rfl rfl rfl (Va H) rfl rfl ?_);refine JL.go 4 rfl (Bb (v:= .int .u32 ((0:Nat):Int)) rfl rfl rfl (fun ρ h=>(Yl.sub (h _ _ rfl) (h _ _ rfl)).to (congrArg _ (by decide))) ?_);refine JL.go 2 rfl (JL.again ?_);refine JL.go 4 rfl (Bb rfl rfl rfl (fun ρ h=>Yl.neq (h _ _ rfl) (h _ _ rfl)) ?_);refine JL.go 3 rfl (JL.out rfl (JO.MV rfl (It H) (JO.leave rfl (Cm.none H.f_add rfl) (back _ _ _ _ h))))
 ·refine Bb rfl rfl rfl (fun ρ h=>Yl.assign (h _ _ rfl)) (JL.go 5 rfl ?_);refine Bb (v:= .int .u64 0) rfl rfl rfl (fun ρ h=>(Yl.and (h _ _ rfl) (h _ _ rfl)).to (congrArg _ (J6 (v:=v) (wt:=wt) (by omega) K))) (Bb rfl rfl rfl (fun ρ h=>Yl.neq (h _ _ rfl) (h _ _ rfl)) ?_);refine JL.go 10 rfl (Bb (v:= .int .u64 (v:Nat)) rfl rfl rfl (fun ρ h=>(Yl.shr (h _ _ rfl) (h _ _ rfl) (by decide)).to (congrArg _ (JF (v:=v) (wt:=wt) K))) ?_);refine Bb (v:= .int .i32 (v:Nat)) rfl rfl rfl (fun ρ h=>(EB H.underlying_tU64 H.underlying_t21 (h _ _ rfl)).to (congrArg _ (wrap_i32 (by omega)))) ?_
  refine JL.go 5 rfl (Bb (v:= .int .u64 (wt:Nat)) rfl rfl rfl (fun ρ h=>(Yl.and (h _ _ rfl) (h _ _ rfl)).to (congrArg _ (Kg (v:=v) (wt:=wt) (by omega) K))) ?_);refine Bb (v:= .int .u32 (wt:Nat)) rfl rfl rfl (fun ρ h=>(EB H.underlying_tU64 H.underlying_tU32 (h _ _ rfl)).to (congrArg _ (wrap_u32 K))) ?_
  refine JL.go 22 rfl (Bb (v:= .bool false) rfl rfl rfl (fun ρ h=>(Yl.lss (h _ _ rfl) (h _ _ rfl)).to (by simp)) ?_);refine JL.go 6 rfl ?_;by_cases O:wt=0
  ·refine Bb rfl rfl rfl (fun ρ h=>Yl.move (h _ _ rfl)) (Bb (v:= .bool false) rfl rfl rfl (fun ρ h=>(Yl.neq (h _ _ rfl) (h _ _ rfl)).to (by simp [O])) ?_);refine JL.go 16 rfl ?_;by_cases a0:0<v
   ·refine Bb rfl rfl rfl (fun ρ h=>Yl.move (h _ _ rfl)) (Bb (v:= .bool true) rfl rfl rfl (fun ρ h=>(Yl.gtr (h _ _ rfl) (h _ _ rfl)).to (by simp <;> omega)) ?_);refine JL.go 6 rfl (Hp rfl (JO.MV rfl (It H) (JO.leave rfl (Cm.none H.f_add rfl) (back _ _ _ _ h))))
   ·refine Bb rfl rfl rfl (fun ρ h=>Yl.move (h _ _ rfl)) (Bb (v:= .bool false) rfl rfl rfl (fun ρ h=>(Yl.gtr (h _ _ rfl) (h _ _ rfl)).to (by simp <;> omega)) ?_);refine JL.go 2 rfl (Bb (v:= .bool true) rfl rfl rfl (fun ρ h=>(Yl.eql (h _ _ rfl) (h _ _ rfl)).to (by simp [O])) ?_);refine JL.go 3 rfl (Hp rfl (JO.MV rfl (It H) (JO.leave rfl (Cm.none H.f_add rfl) (back _ _ _ _ h))))
  ·refine Bb rfl rfl rfl (fun ρ h=>Yl.move (h _ _ rfl)) (Bb (v:= .bool true) rfl rfl rfl (fun ρ h=>(Yl.neq (h _ _ rfl) (h _ _ rfl)).to (by simp [O])) ?_);refine JL.go 17 rfl (Bb (v:= .bool true) rfl rfl rfl (fun ρ h=>(Yl.gtr (h _ _ rfl) (h _ _ rfl)).to (by simp <;> omega)) ?_);refine JL.go 6 rfl (Hp rfl (JO.MV rfl (It H) (JO.leave rfl (Cm.none H.f_add rfl) (back _ _ _ _ h))))
theorem Vj{j:Nat}(K:s.q=false)(O:ops[i]? =some ⟨d,.call ⟨.value (.func L.add),#[x,y],ats⟩,ty,pp,af,g⟩)(hw:Bf M ops ⟨d,.call ⟨.value (.func L.add),#[x,y],ats⟩,ty,pp,af,g⟩=some true)(U:((b.kind != .early)&&BE n d)=true)
  (V:ev M x=some (.pointer (some F.sA))) (Y:ev M y=some (.int .i64 1))
  (h:JL (BB P true) (Stop P F (.Fq j)) b n (AI M d (.tuple #[])) ds (.inRegion ops rest::k) cs s):
  JL (BB P true) (Stop P F (.FE j)) b n M ds (.inRegion ops (i::rest)::k) cs s:=by
 refine IC (vs:= [.pointer (some F.sA),.int .i64 1]) O hw U H.f_add (nm_add L) rfl (by simp [evs,V,Y]) (Nat.le_of_ble_eq_true rfl) fun Z back=>JL.go 12 rfl (KZ (p:= .FE j) (q:= .HB j) rfl K (by simp) (fun _ _ _=>rfl) rfl rfl rfl rfl rfl (by simp) (OM H) ?_);refine JL.go 2 rfl (JL.defer (vs:= []) rfl rfl rfl rfl rfl ?_);refine JL.go 8 rfl (JL.ext (vs:= []) rfl rfl rfl (QO H) rfl rfl ?_);refine JL.go 7 rfl (Bb rfl rfl rfl (fun ρ h=>Yl.fieldAddr H.underlying_tWg rfl (Fy H.sizeOf_tAU) (h _ _ rfl)) ?_);refine JL.go 1 rfl (Bb rfl rfl rfl (fun ρ h=>EB H.underlying_t3 H.underlying_tU64 (h _ _ rfl)) ?_)
 refine Bb (v:= .int .u64 4294967296) rfl rfl rfl (fun ρ h=>(Yl.shl (h _ _ rfl) (h _ _ rfl) (by decide)).to (congrArg _ (by decide))) (WE H K rfl rfl rfl rfl rfl ?_ fun v ag al=>?_)
 ·refine Bb rfl rfl rfl (fun ρ h=>Yl.assign (h _ _ rfl)) (JL.go 5 rfl ?_);refine Bb (v:= .int .u64 0) rfl rfl rfl (fun ρ h=>(Yl.and (h _ _ rfl) (h _ _ rfl)).to (congrArg _ (J6 (v:=1) (wt:=0) (by decide) (by decide)))) (Bb rfl rfl rfl (fun ρ h=>Yl.neq (h _ _ rfl) (h _ _ rfl)) ?_);refine JL.go 10 rfl (Bb (v:= .int .u64 (1:Nat)) rfl rfl rfl (fun ρ h=>(Yl.shr (h _ _ rfl) (h _ _ rfl) (by decide)).to (congrArg _ (JF (v:=1) (wt:=0) (by decide)))) ?_);refine Bb (v:= .int .i32 (1:Nat)) rfl rfl rfl (fun ρ h=>(EB H.underlying_tU64 H.underlying_t21 (h _ _ rfl)).to (congrArg _ (wrap_i32 (by decide)))) ?_
  refine JL.go 5 rfl (Bb (v:= .int .u64 (0:Nat)) rfl rfl rfl (fun ρ h=>(Yl.and (h _ _ rfl) (h _ _ rfl)).to (congrArg _ (Kg (v:=1) (wt:=0) (by decide) (by decide)))) ?_);refine Bb (v:= .int .u32 (0:Nat)) rfl rfl rfl (fun ρ h=>(EB H.underlying_tU64 H.underlying_tU32 (h _ _ rfl)).to (congrArg _ (wrap_u32 (by decide)))) ?_
  refine JL.go 12 rfl (Bb (v:= .int .i32 1) rfl rfl rfl (fun ρ h=>(EB H.underlying_t3 H.underlying_t21 (h _ _ rfl)).to (congrArg _ (by decide))) ?_)
  refine Bb (v:= .bool true) rfl rfl rfl (fun ρ h=>(Yl.eql (h _ _ rfl) (h _ _ rfl)).to (by simp)) (JL.go 6 rfl ?_);refine Bb rfl rfl rfl (fun ρ h=>Yl.fieldAddr H.underlying_tWg rfl (Fy H.sizeOf_tU32) (h _ _ rfl)) (Lm (p:= .Hg j) (q:= .GI j) (ad:=F.mA) rfl K (by simp) (fun _ _ _=>rfl) rfl rfl rfl rfl rfl H.underlying_tPU32 H.underlying_tUP H.room_tU32 rfl (.inr rfl) ?_)
  refine KM (p:= .GI j) (q:= .Gf j) (mk:= .read) (ad:=F.mA) (vs:= [.pointer (some F.mA)]) rfl K (by simp) (fun _ _ _=>rfl) rfl rfl rfl rfl (by simp) (Wh H) rfl rfl (JL.go 5 rfl ?_);refine Bb (v:= .bool false) rfl rfl rfl (fun ρ h=>(Yl.lss (h _ _ rfl) (h _ _ rfl)).to (by simp)) (JL.go 7 rfl ?_);refine Bb (v:= .bool false) rfl rfl rfl (fun ρ h=>(Yl.neq (h _ _ rfl) (h _ _ rfl)).to (by simp)) (JL.go 17 rfl ?_);refine Bb (v:= .bool true) rfl rfl rfl (fun ρ h=>(Yl.gtr (h _ _ rfl) (h _ _ rfl)).to (by simp)) (JL.go 6 rfl ?_);exact Hp rfl (JO.SJ K rfl (It H) (JO.leave rfl (Cm.none H.f_add rfl) (back _ _ _ _ h)))
 ·refine Bb rfl rfl rfl (fun ρ h=>Yl.assign (h _ _ rfl)) (JL.go 5 rfl ?_);refine Bb (v:= .int .u64 0) rfl rfl rfl (fun ρ h=>(Yl.and (h _ _ rfl) (h _ _ rfl)).to (congrArg _ (J6 (v:=(v+1)) (wt:=0) (by omega) (by decide)))) (Bb rfl rfl rfl (fun ρ h=>Yl.neq (h _ _ rfl) (h _ _ rfl)) ?_);refine JL.go 10 rfl (Bb (v:= .int .u64 ((v+1):Nat)) rfl rfl rfl (fun ρ h=>(Yl.shr (h _ _ rfl) (h _ _ rfl) (by decide)).to (congrArg _ (JF (v:=(v+1)) (wt:=0) (by decide)))) ?_);refine Bb (v:= .int .i32 ((v+1):Nat)) rfl rfl rfl (fun ρ h=>(EB H.underlying_tU64 H.underlying_t21 (h _ _ rfl)).to (congrArg _ (wrap_i32 (by omega)))) ?_
  refine JL.go 5 rfl (Bb (v:= .int .u64 (0:Nat)) rfl rfl rfl (fun ρ h=>(Yl.and (h _ _ rfl) (h _ _ rfl)).to (congrArg _ (Kg (v:=(v+1)) (wt:=0) (by omega) (by decide)))) ?_);refine Bb (v:= .int .u32 (0:Nat)) rfl rfl rfl (fun ρ h=>(EB H.underlying_tU64 H.underlying_tU32 (h _ _ rfl)).to (congrArg _ (wrap_u32 (by decide)))) ?_
  refine JL.go 12 rfl (Bb (v:= .int .i32 1) rfl rfl rfl (fun ρ h=>(EB H.underlying_t3 H.underlying_t21 (h _ _ rfl)).to (congrArg _ (by decide))) ?_)
  refine Bb (v:= .bool false) rfl rfl rfl (fun ρ h=>(Yl.eql (h _ _ rfl) (h _ _ rfl)).to (by simp <;> omega)) (JL.go 8 rfl ?_);refine Bb (v:= .bool false) rfl rfl rfl (fun ρ h=>(Yl.lss (h _ _ rfl) (h _ _ rfl)).to (by simp <;> omega)) (JL.go 7 rfl ?_);refine Bb (v:= .bool false) rfl rfl rfl (fun ρ h=>(Yl.neq (h _ _ rfl) (h _ _ rfl)).to (by simp)) (JL.go 17 rfl ?_);refine Bb (v:= .bool true) rfl rfl rfl (fun ρ h=>(Yl.gtr (h _ _ rfl) (h _ _ rfl)).to (by simp <;> omega)) (JL.go 6 rfl ?_);exact Hp rfl (JO.SJ K rfl (It H) (JO.leave rfl (Cm.none H.f_add rfl) (back _ _ _ _ h)))
omit H in
theorem Vl{m:Nat}:∀v wt sm r,F.act (.FU m) v wt sm=some r→r.1=(v,wt,sm)∧r.2.1= #[Fam.Fs F.sA]:=by
 intro v wt sm r h;simp only [Fam.act] at h;split at h
 ·rename_i K;obtain⟨_,rfl⟩:=K;cases h;exact⟨rfl,rfl⟩
 ·cases h
omit H in
theorem V9{m v wt sm:Nat}{r}(h:F.act (.FU m) v wt sm=some r):v≤m∧wt=0∧r.2.2=if v=0 then .ph .FH else .ph (.Hc v):=by
 simp only [Fam.act] at h;split at h
 ·rename_i K;cases h;exact⟨K.1,K.2,rfl⟩
 ·cases h
omit H in
theorem UI:∀v wt sm r,F.act .GF v wt sm=some r→r.1=(v,wt,sm)∧r.2.1= #[Fam.Fs F.sA]:=by
 intro v wt sm r h;simp only [Fam.act] at h;split at h
 ·rename_i K;obtain⟨rfl,rfl⟩:=K;cases h;exact⟨rfl,rfl⟩
 ·cases h
omit H in
theorem U6{v wt sm:Nat}{r}(h:F.act .GF v wt sm=some r):v=0∧wt=0∧r.2.2= .ph .FH:=by
 simp only [Fam.act] at h;split at h
 ·rename_i K;cases h;exact⟨K.1,K.2,rfl⟩
 ·cases h
omit H in
theorem VU{v:Nat}(K:v<2147483648):IntKind.u64.wrap (Fam.word v 0+1)=Fam.word v 1:=by
 simp only [Fam.word,Fam.KK,IntKind.wrap,IntKind.bits,IntKind.signed];simp;omega
theorem JL.wait(Y:F.n<2147483648)(K:s.q=false)(Z:ops[i]? =some ⟨d,.call ⟨.value (.func L.wait),#[x],ats⟩,ty,pp,af,g⟩)(hw:Bf M ops ⟨d,.call ⟨.value (.func L.wait),#[x],ats⟩,ty,pp,af,g⟩=some true)(ag:((b.kind != .early)&&BE n d)=true)
  (al:ev M x=some (.pointer (some F.sA)))
  (h:JL (BB P false) (Stop P F .DO) b n (AI M d (.tuple #[])) ds (.inRegion ops rest::k) cs s):
  JL (BB P false) (Stop P F .De) b n M ds (.inRegion ops (i::rest)::k) cs s:=by
 refine IC (vs:= [.pointer (some F.sA)]) Z hw ag H.f_wait (nm_wait L) rfl (by simp [evs,al]) (Nat.le_of_ble_eq_true rfl) fun ap back=>JL.go 3 rfl (KZ (p:= .De) (q:= .FU F.n) rfl K (by simp) (fun _ _ _=>rfl) rfl rfl rfl rfl rfl (by simp) (OM H) ?_);refine JL.go 2 rfl (IY ?_);refine Gn (L':= [(0,.pointer (some F.sA))]) ⟨rfl,trivial⟩ ?_;generalize F.n=m at Y ⊢
 induction m using Nat.strongRecOn with
 | _ m am=>?_
 refine JL.go 5 rfl (Bb rfl rfl rfl (fun ρ h=>Yl.fieldAddr H.underlying_tWg rfl (Fy H.sizeOf_tAU) (h _ _ rfl)) ?_);refine JL.uLoad H (p:= .FU m) rfl K (by simp) rfl Vl rfl rfl rfl rfl fun v wt sm r U=>?_;obtain⟨av,rfl,e⟩:=V9 U;have O:v<2147483648:=by omega
 by_cases V:v=0
 ·subst V;refine⟨.FH,e,?_⟩;refine JL.go 5 rfl (Bb (v:= .int .u64 (0:Nat)) rfl rfl rfl (fun ρ h=>(Yl.shr (h _ _ rfl) (h _ _ rfl) (by decide)).to (congrArg _ (JF (v:=0) (wt:=0) (by decide)))) ?_);refine Bb (v:= .int .i32 (0:Nat)) rfl rfl rfl (fun ρ h=>(EB H.underlying_tU64 H.underlying_t21 (h _ _ rfl)).to (congrArg _ (wrap_i32 (by decide)))) ?_
  refine JL.go 5 rfl (Bb (v:= .int .u64 ((0:Nat):Int)) rfl rfl rfl (fun ρ h=>(Yl.and (h _ _ rfl) (h _ _ rfl)).to (congrArg _ (Kg (v:=0) (wt:=0) (by decide) (by decide)))) ?_);refine Bb (v:= .int .u32 ((0:Nat):Int)) rfl rfl rfl (fun ρ h=>(EB H.underlying_tU64 H.underlying_tU32 (h _ _ rfl)).to (congrArg _ (wrap_u32 (by decide)))) ?_
  refine JL.go 6 rfl (Bb (v:= .bool true) rfl rfl rfl (fun ρ h=>(Yl.eql (h _ _ rfl) (h _ _ rfl)).to (by simp)) ?_);refine JL.go 6 rfl (KZ (p:= .FH) (q:= .HC) rfl K (by simp) (fun _ _ _=>rfl) rfl rfl rfl rfl rfl (by simp) (It H) ?_);refine JL.go 3 rfl (Lm (p:= .HC) (q:= .GN) (ad:=F.sA) rfl K (by simp) (fun _ _ _=>rfl) rfl rfl rfl rfl rfl H.underlying_tWgP H.underlying_tUP H.room_tWg rfl (.inl rfl) ?_)
  refine KM (p:= .GN) (q:= .DO) (mk:= .acquire) (ad:=F.sA) (vs:= [.pointer (some F.sA)]) rfl K (by simp) (fun _ _ _=>rfl) rfl rfl rfl rfl (by simp) (QA H) rfl rfl (JL.go 5 rfl ?_);refine Bb (v:= .bool true) rfl rfl rfl (fun ρ h=>(Yl.eql (h _ _ rfl) (h _ _ rfl)).to (by simp)) (JL.go 2 rfl ?_);refine Bb (v:= .int .u64 0) rfl rfl rfl (fun ρ h=>(Yl.and (h _ _ rfl) (h _ _ rfl)).to (congrArg _ (J6 (v:=0) (wt:=0) (by decide) (by decide)))) (Bb (v:= .bool false) rfl rfl rfl (fun ρ h=>(Yl.neq (h _ _ rfl) (h _ _ rfl)).to (by simp)) ?_);exact JL.go 8 rfl (JL.ret rfl rfl (Cm.none H.f_wait rfl) (back _ _ _ _ h))
 ·refine⟨.Hc v,by rw [e,if_neg V],?_⟩;refine JL.go 5 rfl (Bb (v:= .int .u64 (v:Nat)) rfl rfl rfl (fun ρ h=>(Yl.shr (h _ _ rfl) (h _ _ rfl) (by decide)).to (congrArg _ (JF (v:=v) (wt:=0) (by decide)))) ?_);refine Bb (v:= .int .i32 (v:Nat)) rfl rfl rfl (fun ρ h=>(EB H.underlying_tU64 H.underlying_t21 (h _ _ rfl)).to (congrArg _ (wrap_i32 O))) ?_
  refine JL.go 5 rfl (Bb (v:= .int .u64 ((0:Nat):Int)) rfl rfl rfl (fun ρ h=>(Yl.and (h _ _ rfl) (h _ _ rfl)).to (congrArg _ (Kg (v:=v) (wt:=0) O (by decide)))) ?_);refine Bb (v:= .int .u32 ((0:Nat):Int)) rfl rfl rfl (fun ρ h=>(EB H.underlying_tU64 H.underlying_tU32 (h _ _ rfl)).to (congrArg _ (wrap_u32 (by decide)))) ?_
  refine JL.go 6 rfl (Bb (v:= .bool false) rfl rfl rfl (fun ρ h=>(Yl.eql (h _ _ rfl) (h _ _ rfl)).to (by simp <;> omega)) ?_);refine JL.go 7 rfl (Bb rfl rfl rfl (fun ρ h=>Yl.fieldAddr H.underlying_tWg rfl (Fy H.sizeOf_tAU) (h _ _ rfl)) ?_);refine JL.go 2 rfl (Bb (v:= .int .u64 (Fam.word v 1)) rfl rfl rfl (fun ρ h=>(Yl.add (h _ _ rfl) (h _ _ rfl)).to (congrArg _ (VU O))) ?_);refine JL.uCas H (m:=v) K rfl rfl rfl rfl rfl rfl ?_ ?_
  ·refine JL.done (JL.go 6 rfl ?_);refine Bb (v:= .bool true) rfl rfl rfl (fun ρ h=>(Yl.eql (h _ _ rfl) (h _ _ rfl)).to (by simp)) (JL.go 6 rfl ?_);refine Bb rfl rfl rfl (fun ρ h=>Yl.fieldAddr H.underlying_tWg rfl (Fy H.sizeOf_tU32) (h _ _ rfl)) (Lm (p:= .HF) (q:= .Hf) (ad:=F.mA) rfl K (by simp) (fun _ _ _=>rfl) rfl rfl rfl rfl rfl H.underlying_tPU32 H.underlying_tUP H.room_tU32 rfl (.inr rfl) ?_)
   refine KM (p:= .Hf) (q:= .DC) (mk:= .write) (ad:=F.mA) (vs:= [.pointer (some F.mA)]) rfl K (by simp) (fun _ _ _=>rfl) rfl rfl rfl rfl (by simp) (VB H) rfl rfl (JL.go 9 rfl ?_);refine Bb (v:= .int .u64 0) rfl rfl rfl (fun ρ h=>(Yl.and (h _ _ rfl) (h _ _ rfl)).to (congrArg _ (J6 (v:=v) (wt:=0) O (by decide)))) (Bb (v:= .bool false) rfl rfl rfl (fun ρ h=>(Yl.neq (h _ _ rfl) (h _ _ rfl)).to (by simp)) ?_);refine JL.go 10 rfl (Bb rfl rfl rfl (fun ρ h=>Yl.fieldAddr H.underlying_tWg rfl (Fy H.sizeOf_tU32) (h _ _ rfl)) ?_);refine JL.go 1 rfl (UT (vs:= [.pointer (some F.mA),.bool false]) K rfl rfl rfl rfl (Ux H) rfl rfl ?_);refine JL.go 5 rfl (Bb rfl rfl rfl (fun ρ h=>Yl.fieldAddr H.underlying_tWg rfl (Fy H.sizeOf_tAU) (h _ _ rfl)) ?_);refine JL.uLoad H (p:= .GF) rfl K (by simp) rfl UI rfl rfl rfl rfl fun v wt sm r U=>?_;obtain⟨rfl,rfl,e⟩:=U6 U;refine⟨.FH,e,?_⟩;refine Bb (v:= .bool false) rfl rfl rfl (fun ρ h=>(Yl.neq (h _ _ rfl) (h _ _ rfl)).to (by simp [Fam.word])) (JL.go 6 rfl ?_);refine KZ (p:= .FH) (q:= .HC) rfl K (by simp) (fun _ _ _=>rfl) rfl rfl rfl rfl rfl (by simp) (It H) (JL.go 3 rfl ?_);refine Lm (p:= .HC) (q:= .GN) (ad:=F.sA) rfl K (by simp) (fun _ _ _=>rfl) rfl rfl rfl rfl rfl H.underlying_tWgP H.underlying_tUP H.room_tWg rfl (.inl rfl) ?_
   refine KM (p:= .GN) (q:= .DO) (mk:= .acquire) (ad:=F.sA) (vs:= [.pointer (some F.sA)]) rfl K (by simp) (fun _ _ _=>rfl) rfl rfl rfl rfl (by simp) (QA H) rfl rfl (JL.go 8 rfl ?_);exact JL.ret rfl rfl (Cm.none H.f_wait rfl) (back _ _ _ _ h)
  ·refine JL.done (JL.go 3 rfl ?_);refine JL.again (Gn (L':= [(0,.pointer (some F.sA))]) ⟨rfl,trivial⟩ ?_);exact am (v - 1) (by omega) (by omega)
theorem JO.N5(K:b.roundOf=none)(O:s.q=false)(h:JO (GB P) (Hb P 0) b n M ds cs .quiet):
  JO (BB P false) (Stop P F .Dd) b n M (dcall L.done #[.pointer (some F.sA)]::ds) cs s:=by
 refine JO.enter (vs:= [.pointer (some F.sA)]) K H.f_done (nm_done L) rfl (Nat.le_of_ble_eq_true rfl) fun T U todo=>JL.go 2 rfl (Vu H O rfl rfl rfl rfl rfl ?_);exact JL.done (JL.out rfl (JO.leaveD rfl H.f_done rfl (.inl rfl) (h T U todo)))
end
end Pal
namespace Pal
open Go Go.Conc
section
variable {P:Program}{J:Judge P}{Q:Gs_}{g:Goroutine}{cs:Lf_}{c:Frame}{E H:LH}{S S':List Seg}
theorem Pf(K:S.flatten.Perm S'.flatten)(O:Ax E H S)(h:Ax E H S'→J.ok Q g (An E H S')):J.ok Q g (An E H S):=by
 have U:An E H S=An E H S':=FA O K;rw [U];exact h (Nd.perm O K)
theorem Sy(K:S'.flatten=S.flatten)(O:Ax E H S)(h:Ax E H S'→J.ok Q g (An E H S')):J.ok Q g (An E H S):=Pf (by rw [K]) O h
theorem RR{f:FuncId}{vs:Lv_}{seg:Seg}{R:Value→LH→Seg→Prop}(j:Nat)(al:AN J f vs E seg R)(K:Ax E H S)(O:S[j]? =some seg)
  (am:∀v E' seg',Le E E'→R v E' seg'→Ax E' H (S.set j seg')→J.ok Q (G (c.finish v) cs) (An E' H (S.set j seg'))):
  J.ok Q (G (Frame.enter P f vs.toArray .normal) (c::cs)) (An E H S):=by
 have U:S.flatten.Perm (seg++(S.set j []).flatten):=(Ez (seg':=seg) O).1.trans List.perm_append_comm;have V:Nd E H (seg++(S.set j []).flatten):=Nd.perm K U;have ap:An E H S=mk E (Bl (S.set j []).flatten H) seg:=by
  rw [show An E H S=mk E H S.flatten from rfl,FA K U];unfold mk;rw [F3]
 have Y:=Ef.Kp (al (Bl (S.set j []).flatten H) (Nd.front V)) (by rintro v s' ⟨E',B',_,_,_,rfl⟩;rfl);rw [← ap] at Y;refine Y Q c cs ?_;rintro v a9 ⟨⟨E',B',hle,av,a0,rfl⟩,w,a1⟩;have a2:mk E' (Bl (S.set j []).flatten H) B'=mk E' H (B'++(S.set j []).flatten):=by unfold mk;rw [F3]
 have a3:Nd E H (S.set j []).flatten:=by
  have:=V;rw [Nd.iff] at this ⊢;rw [List.map_append,List.nodup_append] at this;exact⟨this.1.2.1,fun q a4=>this.2 q (List.mem_append_right _ a4)⟩
 have a5:Nd E' H (S.set j []).flatten:=a3.grow fun x a6=>by
  have a7:=a1.d x a6;have a8:Bl B' (Bl (S.set j []).flatten H) x=none:=a7;exact(G0 a8).1
 have Z:Nd E' H (B'++(S.set j []).flatten):=Nd.glue a0 a5;rw [a2];have ag:(B'++(S.set j []).flatten).Perm (S.set j B').flatten:=List.perm_append_comm.trans (Ez O).2.symm;rw [FA Z ag];exact am v E' B' hle av (Nd.perm Z ag)
theorem SU{e p d l:Seg}:([e,p]++ [d]++ [l]:List Seg).flatten.Perm ([e++(l++p),d]:List Seg).flatten:=by
 simp only [List.cons_append,List.nil_append,List.flatten_cons,List.flatten_nil,List.append_nil,List.append_assoc];refine List.Perm.append_left e ?_;rw [← List.append_assoc];exact List.perm_append_comm
end
section
variable {P:Program}{J:Judge P}{Q:Gs_}{b:Frame}{n:Nat}{L:Env}{ds:Ld_}{k:Li_}{cs:Lf_}{E H:LH}{S:List Seg}{ops:Ao_}{i:Nat}{rest:List Nat}{d:Option Tmp}{t ty e:TypeId}{p:String}{af:Ae_}{g:On_}
theorem JS.makeChan{dir:ChanDir}{K:Nat}(O:ops[i]? =some ⟨d,.makeChan t (.const (.int .i64 0)),ty,p,af,g⟩)(hw:Bf L ops ⟨d,.makeChan t (.const (.int .i64 0)),ty,p,af,g⟩=some true)(U:CS b n ⟨d,.makeChan t (.const (.int .i64 0)),ty,p,af,g⟩=true)
  (ht:P.underlying t=some (.chan dir e)) (hb:EE P e=some K) (V:Ax E H S)
  (h:∀r,Ax E H (S++ [[(r,.chan 0 #[] false 0 0 false)]])→JL J Q b n (AI L d (.chan (some r))) ds (.inRegion ops rest::k) cs (An E H (S++ [[(r,.chan 0 #[] false 0 0 false)]]))):
  JL J Q b n L ds (.inRegion ops (i::rest)::k) cs (An E H S):=
 JL.op O hw U fun ρ Y=>by
  show lp P (do pure (Next.value (← Instr.makeChan t (ρ (.const (.int .i64 0)))))) _ _ _
  rw [Y _ _ rfl]
  obtain⟨inf,hi,a0⟩:=MA hb
  refine AH _ _ ?_
  unfold Instr.makeChan
  simp only [asInt,bind,Sem.bind,pure]
  refine AH (x:=underlying t) _ (Dm ht ?_)
  simp only
  refine AH (x:=typeInfo e) _ (Ir hi ?_)
  have Z:¬((0:Int)<0∨(0:Int)>IntKind.i64.max∨(inf.bytes:Int)*0>2 ^ 48 - 112):=by
   simp [IntKind.max,IntKind.signed,IntKind.bits]
  rw [if_neg Z];simp only [newObj,Sem.bind,lp];refine⟨rfl,fun r ag al=>?_⟩;obtain⟨am,ap⟩:=I2 ag al (.chan 0 #[] false 0 0 false) V;obtain⟨p1,p2⟩:=Eo am;have av:(An E H S).upd r (.chan 0 #[] false 0 0 false)=An E H (S++ [[(r,.chan 0 #[] false 0 0 false)]]):=by rw [← p1,← ap];rfl
  show JL J Q b n (AI L d (.chan (some r))) ds (.inRegion ops rest::k) cs ((An E H S).upd r (.chan 0 #[] false 0 0 false));rw [av];exact h r p2
end
theorem UC{E H:LH}{a b:Nat}{K O:Obj}(Y:Ax E H [[(a,K)],[(b,O)]]):(⟨E,IB (An E H [[(a,K)],[(b,O)]]).H b a,false⟩:St)=An E H []:=by
 have h:=Nd.iff.1 Y;have Z:H a=none:=(h.2 (a,K) (by simp)).2;have ag:H b=none:=(h.2 (b,O) (by simp)).2;unfold An mk;congr 1;funext x;simp only [IB,An,mk,List.flatten_cons,List.flatten_nil,List.append_nil,List.cons_append,List.nil_append,Bl];by_cases U:x=a
 ·subst U;simp [Z]
 ·by_cases V:x=b
  ·subst V;simp [U,ag]
  ·simp [U,V]
theorem Ax.up{E E' H:LH}{S:List Seg}(U:Ax E H S)(h:∀x,E' x≠none→(An E H S).H x=none):Ax E' H S:=by
 have K:=Nd.iff.1 U;refine Nd.iff.2 ⟨K.1,fun q O=>⟨?_,(K.2 q O).2⟩⟩;cases V:E' q.1 with
 | none=>rfl
 | some o=>
  have Y:=h q.1 (by rw [V];simp);have Z:Bl S.flatten H q.1=none:=Y;exact absurd rfl ((G0 Z).2 q O)
end Pal
namespace Pal
open Go Go.Conc
theorem K1{P:Program}{J:Judge P}{Q:Gs_}{b:Frame}{n:Nat}{L:Env}{ds:Ld_}{cs:Lf_}{E H:LH}{S:List Seg}{todo:Li_}{A B:Seg}(j K:Nat)(O:S[j]? =some A)(Y:(S.set j [])[K]? =some B)(Z:Ax E H S)
  (h:Ax E H (((S.set j []).set K []).set j (A++B))→JL J Q b n L ds todo cs (An E H (((S.set j []).set K []).set j (A++B)))):JL J Q b n L ds todo cs (An E H S):=by
 refine JS.perm ?_ Z h;have U:j<S.length:=(List.getElem?_eq_some_iff.1 O).1;have ag:=(Ez (seg':=A) O).1;have al:=(Ez (seg':=B) Y).1;have am:((S.set j []).set K [])[j]? =some []:=by
  by_cases e:K=j
  ·subst e;rw [List.getElem?_set_self (by simpa using U)]
  ·rw [List.getElem?_set_ne e,List.getElem?_set_self U]
 have V:=(Ez (seg':=A++B) am).2;have ap:(((S.set j []).set K []).set j [])=(S.set j []).set K []:=by
  by_cases e:K=j
  ·subst e;simp
  ·rw [List.set_comm _ _ e];simp
 rw [ap] at V;refine ag.trans (List.Perm.trans ?_ V.symm);refine(List.Perm.append_right A al).trans ?_;rw [List.append_assoc];exact List.Perm.append_left _ List.perm_append_comm
end Pal
namespace Pal
open Go Go.Conc
def WL{α:Type}(e:TypeId)(pp:Rp α)(E:LH)(bk c n:Nat)(f:AD)(xs:List α):Prop:=
 OL e pp E (some ⟨bk,0,none⟩) c [(bk,.cells f e (0,0))] xs∧xs.length=n
theorem WL.Ai{α:Type}{e:TypeId}{pp:Rp α}{E E':LH}{bk c n:Nat}{f:AD}{xs:List α}(h:WL e pp E bk c n f xs)(hle:Le E E'):WL e pp E' bk c n f xs:=⟨h.1.Ai hle,h.2⟩
theorem WL.at{α:Type}{e:TypeId}{pp:Rp α}{E:LH}{bk c n:Nat}{f:AD}{xs:List α}{m:Int}{x:α}(h:WL e pp E bk c n f xs)(hm:ix xs m=some x):
  ∃ws,pp.r E ws x∧(∀j w,ws[j]? =some w→f[m.toNat*pp.n+j]? =some w):=by
 obtain⟨ws,K,O,_,_⟩:=OL.again h.1 hm rfl;exact⟨ws,K,O⟩
theorem WL.put{α:Type}{e:TypeId}{pp:Rp α}{E:LH}{bk c n:Nat}{f:AD}{xs O:List α}{m:Int}{U x':α}{ws':Lv_}(h:WL e pp E bk c n f xs)(V:O.length=n)(hm:ix O m=some U)(Y:pp.r E ws' x'):
  WL e pp E bk c n (A2 f (m.toNat*pp.n) ws') (xs.set m.toNat x')∧m.toNat*pp.n+pp.n≤f.size:=by
 obtain⟨K,rfl,Z⟩:=GG hm;have ag:K<xs.length:=by rw [h.2,← V];exact(List.getElem?_eq_some_iff.1 Z).1
 have al:ix xs (K:Int)=some xs[K]:=by simp [ix,ag]
 obtain⟨ws,av,a0,am,ap⟩:=OL.again h.1 al rfl;exact⟨⟨ap x' ws' Y,by rw [List.length_set];exact h.2⟩,am⟩
theorem OL.cases{α:Type}{e:TypeId}{pp:Rp α}{E:LH}{a:Option Addr}{c:Nat}{seg:Seg}{xs:List α}(h:OL e pp E a c seg xs):
  (a=none∧c=0∧seg= []∧xs= [])∨∃bk f,a=some ⟨bk,0,none⟩∧seg= [(bk,.cells f e (0,0))]∧WL e pp E bk c xs.length f xs:=by
 have V:=h;obtain⟨wss,hg,Z,ag⟩:=h;rcases hg with⟨K,O,U,Y,al⟩ | ⟨bk,f,K,O,U⟩
 ·exact .inl ⟨K,U,Y,List.length_eq_zero_iff.1 O⟩
 ·subst K O;exact .inr ⟨bk,f,rfl,rfl,V,rfl⟩
theorem GD{P:Program}{s:St}{ρ:Operand→Value}{x y:Operand}{d:Option Tmp}{t ty e:TypeId}{p:String}{af:Ae_}{g:On_}{kd:IntKind}{α:Type}{xs:List α}{xv:α}{m:Int}{bk c K n:Nat}(O:xs.length=n)(hm:ix xs m=some xv)(ht:P.underlying t=some (.slice e))(U:BD P e=some K)(V:ρ x= .slice (some ⟨bk,0,none⟩) n c)(Y:ρ y= .int kd m):
  Yl P ⟨d,.indexAddr t x y,ty,p,af,g⟩ ρ s (.pointer (some ⟨bk,m.toNat*K,none⟩)):=by
 subst O;exact JM hm ht U V Y
theorem Sz{P:Program}{s:St}{ρ:Operand→Value}{x:Operand}{d:Option Tmp}{t ty e:TypeId}{p:String}{af:Ae_}{g:On_}{α:Type}{xs:List α}{a:Option Addr}{n c:Nat}{ats:Array TypeId}(K:xs.length=n)(O:ats[0]? =some t)(ht:P.underlying t=some (.slice e))(U:ρ x= .slice a n c):
  Yl P ⟨d,.call ⟨.builtin .len,#[x],ats⟩,ty,p,af,g⟩ ρ s (.int .i64 (xs.length:Int)):=by
 subst K;exact Yl.len O ht U
section
variable {P:Program}{J:Judge P}{Q:Gs_}{b:Frame}{n:Nat}{ds:Ld_}{ops:Ao_}{k:Li_}{cs:Lf_}{m fuel:Nat}{D:Nat→Bool}{listed:Array Bool}{L:Env}{s:St}{E E' H:LH}{S:List Seg}
variable {d:Option Tmp}{x y:Operand}{t u ty e:TypeId}{p:String}{af:Ae_}{g:On_}{v:Value}{i:Nat}{kd:IntKind}
theorem Vm{f:FuncId}{args:Array Operand}{ats:Array TypeId}{vs:Lv_}{R:Value→St→Prop}(U:s.q=false)(V:Region.ready .any ops listed= [i])
  (Y:ops[i]? =some ⟨d,.call ⟨.value x,args,ats⟩,ty,p,af,g⟩) (Z:ev L x=some (.func (.func f) #[] #[])) (ag:BE n d=true) (hw:Bf L ops ⟨d,.call ⟨.value x,args,ats⟩,ty,p,af,g⟩=some true) (hb:D3 P f=true) (al:evs L args.toList=some vs)
  (am:Ef J f vs.toArray s R) (h:∀v K,R v K→K.q=false∧(∀x o,(BK D s).E x=some o→(BK D K).E x=some o)∧AY J Q b n ds ops k cs m D fuel (Bi listed i) (AI L d v) K):
  AY J Q b n ds ops k cs m D (fuel+1) listed L s:=by
 refine AY.one U V Y (by simp [Du,ag]) hw fun ρ O=>?_;have ap:args.map ρ=vs.toArray:=by
  rw [← F4 O al];apply Array.ext';simp
 have av:ρ x= .func (.func f) #[] #[]:=O _ _ Z;simp only [execOp,resolve,bind,Sem.bind,Deferred.ofValue,av,pure,invoke];have e: #[]++args.map ρ++ #[]=vs.toArray:=by rw [ap];simp
 rw [e];refine Jy hb ?_;rw [KH];exact⟨R,am,h⟩
theorem HP{bks:List Nat}{f:FuncId}{args:Array Operand}{ats:Array TypeId}{vs:Lv_}{R:Value→LH→Seg→Prop}(ap:Gt S bks)(av:AN J f vs E [] R)(a0:Region.ready .any ops listed= [i])
  (a1:ops[i]? =some ⟨d,.call ⟨.value x,args,ats⟩,ty,p,af,g⟩) (K:ev L x=some (.func (.func f) #[] #[])) (a2:BE n d=true) (hw:Bf L ops ⟨d,.call ⟨.value x,args,ats⟩,ty,p,af,g⟩=some true) (hb:D3 P f=true) (a3:evs L args.toList=some vs) (Z:Ax E H S)
  (a4:∀v E' seg',Le E E'→R v E' seg'→Ax E' H (S++ [seg'])→AY J Q b n ds ops k cs m (A7 bks) fuel (Bi listed i) (AI L d v) (An E' H (S++ [seg']))):
  AY J Q b n ds ops k cs m (A7 bks) (fuel+1) listed L (An E H S):=by
 have a5:=Ef.Kp (av (Bl S.flatten H) trivial) (by rintro v s' ⟨E',B',_,_,_,rfl⟩;rfl);refine Vm rfl a0 a1 K a2 hw hb a3 a5 ?_;rintro v bo ⟨⟨E',B',hle,a6,a7,rfl⟩,w,a8⟩;have a9:mk E' (Bl S.flatten H) B'=mk E' H (B'++S.flatten):=by unfold mk;rw [F3]
 have bb:Nd E' H S.flatten:=Nd.grow Z fun x K=>by
  have bd:=a8.d x K;have U:Bl B' (Bl S.flatten H) x=none:=bd;exact(G0 U).1
 have ag:Nd E' H (B'++S.flatten):=Nd.glue a7 bb;have al:(B'++S.flatten).Perm (S++ [B']).flatten:=by rw [G3];exact List.perm_append_comm
 have am:Ax E' H (S++ [B']):=Nd.perm ag al;rw [a9,FA ag al];refine⟨rfl,fun x o K=>?_,a4 v E' B' hle a6 am⟩;by_cases V:A7 bks x=true
 ·obtain⟨j,o',Y⟩:=ap.mem x (by simpa [A7] using V);have U:(An E H S).get x=some o':=Fa (i:=0) Z Y rfl;have be:j<S.length:=(List.getElem?_eq_some_iff.1 Y).1;have bi:(An E' H (S++ [B'])).get x=some o':=Fa (i:=0) am (by rw [List.getElem?_append_left be];exact Y) rfl;have O:(if A7 bks x then(An E H S).get x else E x)=some o:=K
  show(if A7 bks x then(An E' H (S++ [B'])).get x else E' x)=some o
  rw [if_pos V] at O ⊢;rw [bi,← U];exact O
 ·have O:(if A7 bks x then(An E H S).get x else E x)=some o:=K
  show(if A7 bks x then(An E' H (S++ [B'])).get x else E' x)=some o
  rw [if_neg V] at O ⊢;exact hle _ _ O
end
section
variable {P:Program}{J:Judge P}{Q:Gs_}{b:Frame}{n:Nat}{ds:Ld_}{ops:Ao_}{k:Li_}{cs:Lf_}{L:Env}{s:St}{E E' H:LH}{S:List Seg}
variable {d:Option Tmp}{x y:Operand}{t u ty e:TypeId}{p:String}{af:Ae_}{g:On_}{v:Value}{i:Nat}{rest:List Nat}{kd:IntKind}
theorem K8{f:FuncId}{args:Array Operand}{ats:Array TypeId}{vs:Lv_}{R:Value→LH→Seg→Prop}
  (O:AN J f vs E [] R) (U:ops[i]? =some ⟨d,.call ⟨.value x,args,ats⟩,ty,p,af,g⟩) (V:ev L x=some (.func (.func f) #[] ([]:Lv_).toArray)) (hw:Bf L ops ⟨d,.call ⟨.value x,args,ats⟩,ty,p,af,g⟩=some true) (Y:((b.kind != .early)&&BE n d)=true) (hb:D3 P f=true)
  (Z:evs L args.toList=some vs) (ag:Ax E H S) (al:∀v E' seg',Le E E'→R v E' seg'→Ax E' H (S++ [seg'])→JL J Q b n (AI L d v) ds (.inRegion ops rest::k) cs (An E' H (S++ [seg']))):
  JL J Q b n L ds (.inRegion ops (i::rest)::k) cs (An E H S):=by
 have am:Fb J (.func (.func f) #[] ([]:Lv_).toArray) vs E [] R:=Fb.ofFn hb (by rw [List.append_nil];exact O);have ap:Ax E H (S++ [[]]):=by unfold Ax at*;rw [G3,List.append_nil];exact ag
 have av:An E H S=An E H (S++ [[]]):=by unfold An;rw [G3,List.append_nil]
 rw [av];refine JH (seg:= []) S.length am U hw Y V Z ap (by simp) fun v E' seg' hle a0 K=>?_;have a1:(S++ [([]:Seg)]).set S.length seg'=S++ [seg']:=HU _ _ _ _;rw [a1] at K ⊢;exact al v E' seg' hle a0 K
end
def Hz(a b:Int):Option Int:=if b=0 then none else As (a.tdiv b)
def LP(l:List Nat)(i:Int):Option Nat:=if 0≤i then l[i.toNat]? else none
section
variable {P:Program}{s:St}{ρ:Operand→Value}{x y z:Operand}{d:Option Tmp}{t u ty e:TypeId}{p:String}{af:Ae_}{g:On_}{v:Value}{kd kd':IntKind}{m m':Int}{a b:Nat}
theorem K9{r:Int}(K:ρ x=iV m)(O:ρ y=iV m')(h:Hz m m'=some r):Yl P ⟨d,.binOp .quo t x y u,ty,p,af,g⟩ ρ s (iV r):=by
 unfold Hz at h;split at h
 ·cases h
 ·rename_i U;obtain⟨rfl,hb⟩:=KS h;have:=Yl.quo (P:=P) (s:=s) (d:=d) (t:=t) (u:=u) (ty:=ty) (p:=p) (af:=af) (g:=g) K O U
  rwa [I0 hb] at this
theorem T4{a:Nat}:IntKind.u8.wrap (a:Int)=((a % 256:Nat):Int):=by
 simp only [IntKind.wrap,IntKind.bits,IntKind.signed];simp
theorem Wx(K:ρ x= .int .u8 (a:Int))(O:ρ y= .int .u8 (b:Int)):Yl P ⟨d,.binOp .add t x y u,ty,p,af,g⟩ ρ s (.int .u8 (((a+b) % 256:Nat):Int)):=by
 have h:=Yl.add (P:=P) (s:=s) (d:=d) (t:=t) (u:=u) (ty:=ty) (p:=p) (af:=af) (g:=g) K O;rw [← Int.natCast_add,T4] at h;exact h
theorem Xg(ht:P.underlying t=some (.int .u64))(hu:P.underlying u=some (.int .u8))(K:ρ x= .int .u64 (a:Int)):Yl P ⟨d,.convert t u x,ty,p,af,g⟩ ρ s (.int .u8 ((a % 256:Nat):Int)):=by
 have h:=EB (P:=P) (s:=s) (d:=d) (ty:=ty) (p:=p) (af:=af) (g:=g) ht hu K
 rw [T4] at h;exact h
theorem SH{r:Int}(ht:P.underlying t=some (.int .u8))(hu:P.underlying u=some (.int .i64))(K:ρ x= .int .u8 (a:Int))(h:As ((a:Nat):Int)=some r):Yl P ⟨d,.convert t u x,ty,p,af,g⟩ ρ s (iV r):=by
 obtain⟨rfl,hb⟩:=KS h;have h:=EB (P:=P) (s:=s) (d:=d) (ty:=ty) (p:=p) (af:=af) (g:=g) ht hu K
 rwa [I0 hb] at h
theorem WK(c:Nat)(K:ρ x= .int .u16 (a:Int))(O:ρ y= .int .u64 (c:Int))(V:c≤16):Yl P ⟨d,.binOp .shr t x y u,ty,p,af,g⟩ ρ s (.int .u16 ((a>>>c:Nat):Int)):=by
 have h:=Yl.shr (P:=P) (s:=s) (d:=d) (t:=t) (u:=u) (ty:=ty) (p:=p) (af:=af) (g:=g) K O (by omega);have e:min (c:Int).toNat IntKind.u16.bits=c:=by simp [IntKind.bits];omega
 rw [e,Int.fdiv_eq_ediv_of_nonneg _ (Int.pow_nonneg (by decide))] at h;have U:(a:Int) / 2 ^ c=((a>>>c:Nat):Int):=by rw [Nat.shiftRight_eq_div_pow,Int.natCast_ediv];rfl
 rw [U] at h;exact h
theorem OV{l:List Nat}{bs:ByteArray}{r:Nat}(O:(bs.data.toList.map UInt8.toNat==l)=true)(ht:P.underlying t=some .string)(U:ρ y= .int kd m)(V:ρ (.const (.string bs))= .string bs)(h:LP l m=some r):Yl P ⟨d,.index t (.const (.string bs)) y,ty,p,af,g⟩ ρ s (.int .u8 (r:Int)):=by
 unfold LP at h;split at h
 ·rename_i Y;have Z:=eq_of_beq O;rw [← Z,List.getElem?_map] at h;obtain⟨K,hb,rfl⟩:=Option.map_eq_some_iff.1 h;have ag:bs[m.toNat]? =some K:=by
   have al:bs.data[m.toNat]? =some K:=by rw [← Array.getElem?_toList];exact hb
   obtain⟨am,ap⟩:=Array.getElem?_eq_some_iff.1 al;rw [getElem?_pos bs m.toNat am];exact congrArg some ap
  simp [Yl,execOp,lp,pure,bind,Sem.bind,V,U,Instr.index,underlying,program,ht,Y,ag,asIntOf]
 ·cases h
end
end Pal
