/- ToothChecks. Part 2 of 8. -/
import Derived.Test.YtboibffcmhheiaaGreatDoorTka
import Derived.Conc.Beside
import Derived.Conc.CrowdComm
import Derived.Conc.TokenWalk
import Derived.Conc.MarkLaws
import Derived.Conc.AtomicLaws2
import Derived.Conc.WgLib
import Derived.Conc.WgArith
import Derived.Conc.WgGenW
set_option linter.all false
set_option maxRecDepth 100000
namespace Pal
open Go Go.Conc
open Go.ConcN (upd upd_same upd_ne)
def Cb:Loc→Option Nat | .cell a=>some a.block | .obj r=>some r | _=>none
structure Bj (t:Trace) (w:World) (N:Nat) (S:Nat→St) (Sh:Nat→Prop):Prop where
 fits:∀i,i<N→Fits (S i) w
 hh:∀i j,i<N→j<N→i≠j→∀b,(S i).H b≠none→(S j).H b=none∧(S j).E b=none
 sh:∀i,i<N→∀b,Sh b→(S i).H b=none∧(S i).E b=none
 Dr:∀b,Sh b→b<w.heap.size
 clean:∀said,¬Race said t
 low:∀op∈t,op.act.low w.heap.size
 kH:∀i,i<N→∀b,(S i).H b≠none→∀x a,touchAt t x=some a→Cb a.loc=some b→Knows t i x
 kE:∀i,i<N→∀b,(S i).E b≠none→∀x a,touchAt t x=some a→Cb a.loc=some b→a.write=true→Knows t i x
theorem Lq{t:Trace}{x:Nat}{a:Touch}{b n:Nat}(Y:∀op∈t,op.act.low n)(h:touchAt t x=some a)(hb:Cb a.loc=some b):b<n:=by
 obtain⟨op,Z,K⟩:=touch_of h;have O:=Y op (mem_of_getElem? Z);cases U:op.act with
 | access e=>
  rw [U] at K O;simp only [MemAct.touch?,Option.some.injEq] at K;subst K;simp only [MemAct.low] at O;cases V:e.loc with
  | cell ad=>rw [V] at O hb;simp only [Cb,Option.some.injEq] at hb;subst hb;exact O
  | obj r=>rw [V] at O hb;simp only [Cb,Option.some.injEq] at hb;subst hb;exact O
  | _=>rw [V] at hb;simp [Cb] at hb
 | mark m=>
  rw [U] at K O;cases m <;> simp only [MemAct.touch?] at K <;> first
   | (simp at K;done)
   | (simp only [Option.some.injEq] at K;subst K;simp only [Cb,Option.some.injEq] at hb;subst hb;exact O)
 | _=>rw [U] at K;simp [MemAct.touch?] at K
theorem I5{s:St}{w w':World}{e:Event}{a:Touch}{b:Nat}(h:Ev s w w' e)(K:(MemAct.ofEvent e).touch? =some a)(hb:Cb a.loc=some b):
  DX s w w' b a.write:=by
 obtain⟨loc,wr,V⟩:=e;cases loc with
 | cell ad=>
  obtain⟨O,U⟩:=h;simp only at O;subst O;simp only [MemAct.ofEvent,MemAct.touch?,Option.some.injEq] at K;subst K;simp only [Cb,Option.some.injEq] at hb;subst hb;exact U
 | obj r=>
  obtain⟨O,U⟩:=h;simp only at O;subst O;simp only [MemAct.ofEvent,MemAct.touch?,Option.some.injEq] at K;subst K;simp only [Cb,Option.some.injEq] at hb;subst hb;exact U
 | mark m=>
  cases m <;> simp only [Ev] at h <;> first | exact h.elim | simp [MemAct.ofEvent,MemAct.touch?] at K
 | _=>exact h.elim
theorem Uf{s:St}{w w':World}{e:Event}(h:Ev s w w' e):(MemAct.ofEvent e).low w'.heap.size:=by
 obtain⟨loc,wr,U⟩:=e;cases loc with
 | cell ad=>obtain⟨K,O⟩:=h;simp only at K;subst K;exact O.1
 | obj r=>obtain⟨K,O⟩:=h;simp only at K;subst K;cases wr <;> exact O.1
 | mark m=>cases m <;> simp only [Ev] at h <;> first | exact h.elim | exact trivial
 | _=>exact h.elim
theorem Qw{l:Loc}(h:l.isMemory=true):∃b,Cb l=some b:=by
 cases l <;> simp [Loc.isMemory] at h <;> exact⟨_,rfl⟩
theorem Bj.own{t:Trace}{w w':World}{N:Nat}{S:Nat→St}{Sh:Nat→Prop}(h:Bj t w N S Sh){i:Nat}(hi:i<N){s':St}{fn:FuncId}{pos:String}{es:Array Event}
  (ay:Fits s' w') (V:Fr (S i) w s' w') (aj:∀e∈es,Ev (S i) w w' e):Bj (t++MemOp.ofEvents i fn pos es) w' N (upd S i s') Sh:=by
 have aq:∀j,j<N→j≠i→∀b o,((S j).H b=some o∨(S j).E b=some o)→w'.heap[b]? =some o∧(S i).H b=none:=by
  intro j U Y b o K;have hw:w.heap[b]? =some o:=K.elim ((h.fits j U).h b o) ((h.fits j U).e b o);have ab:b<w.heap.size:=by
   rcases Nat.lt_or_ge b w.heap.size with am | am
   ·exact am
   ·simp [Array.getElem?_eq_none am] at hw
  have ar:(S i).H b=none:=by
   cases az:(S i).H b with
   | none=>rfl
   | some u=>
    have:=h.hh i j hi U (Ne.symm Y) b (by rw [az];simp);rcases K with K | K
    ·rw [this.1] at K;cases K
    ·rw [this.2] at K;cases K
  exact⟨by rw [V.keep b ab ar,hw],ar⟩
 have ak:∀j,j<N→∀b,w.heap.size≤b→(S j).H b=none∧(S j).E b=none:=by
  intro j U b hb;constructor
  ·cases O:(S j).H b with
   | none=>rfl
   | some o=>have:=(h.fits j U).h b o O;simp [Array.getElem?_eq_none hb] at this
  ·cases O:(S j).E b with
   | none=>rfl
   | some o=>have:=(h.fits j U).e b o O;simp [Array.getElem?_eq_none hb] at this
 have ac:∀op∈MemOp.ofEvents i fn pos es,op.g=i∧∃e∈es,op.act=MemAct.ofEvent e:=by
  intro op ac;obtain⟨e,he,rfl⟩:=mem_ofEvents ac;exact⟨rfl,e,he,rfl⟩
 have hold:∀x a,touchAt t x=some a→touchAt (t++MemOp.ofEvents i fn pos es) x=some a:=by
  intro x a O;obtain⟨op,K,_⟩:=touch_of O;rw [touchAt_old (lt_size_of_getElem? K)];exact O
 have al:∀x a,touchAt (t++MemOp.ofEvents i fn pos es) x=some a→touchAt t x=some a∨(Knows (t++MemOp.ofEvents i fn pos es) i x∧∃e∈es,(MemAct.ofEvent e).touch? =some a):=by
  intro x a O;obtain⟨op,K,au⟩:=touch_of O;rcases getElem?_append_cases K with⟨ab,aA⟩ | ⟨_,aB⟩
  ·left;rw [touchAt_of aA];exact au
  ·right;obtain⟨hg,e,he,ag⟩:=ac op aB;exact⟨by have:=knows_own K;rwa [hg] at this,e,he,by rw [← ag];exact au⟩
 have aC:∀j,j<N→j≠i→∀b,s'.H b≠none→(S j).H b=none∧(S j).E b=none:=by
  intro j U Y b hb;rcases V.own b hb with O | O
  ·exact h.hh i j hi U (Ne.symm Y) b O
  ·exact ak j U b O
 have aD:∀j,j<N→j≠i→∀b,(S j).H b≠none→s'.H b=none∧s'.E b=none:=by
  intro j U Y b hb;have Z:=h.hh j i U hi Y b hb;have ab:¬w.heap.size≤b:=fun O=>hb (ak j U b O).1;constructor
  ·cases O:s'.H b with
   | none=>rfl
   | some o=>
    rcases V.own b (by rw [O];simp) with y | y
    ·exact absurd Z.1 y
    ·exact absurd y ab
  ·cases O:s'.E b with
   | none=>rfl
   | some o=>
    rcases V.CG b (by rw [O];simp) with y | y | y
    ·exact absurd Z.2 y
    ·exact absurd Z.1 y
    ·exact absurd y ab
 constructor
 ·intro j U;by_cases e:j=i
  ·subst e;rw [upd_same];exact ay
  ·rw [upd_ne _ _ e];exact⟨fun b o K=>(aq j U e b o (.inr K)).1,fun b o K=>(aq j U e b o (.inl K)).1,(h.fits j U).d⟩
 ·intro a c av ah Y b hb;by_cases e:a=i
  ·subst e;rw [upd_same] at hb;rw [upd_ne _ _ (Ne.symm Y)];exact aC c ah (Ne.symm Y) b hb
  ·rw [upd_ne _ _ e] at hb;by_cases aw:c=i
   ·subst aw;rw [upd_same];exact aD a av Y b hb
   ·rw [upd_ne _ _ aw];exact h.hh a c av ah Y b hb
 ·intro j U b hb;by_cases e:j=i
  ·subst e;rw [upd_same];have Z:=h.sh j U b hb;have ab:=h.Dr b hb;constructor
   ·cases O:s'.H b with
    | none=>rfl
    | some o=>
     rcases V.own b (by rw [O];simp) with y | y
     ·exact absurd Z.1 y
     ·omega
   ·cases O:s'.E b with
    | none=>rfl
    | some o=>
     rcases V.CG b (by rw [O];simp) with y | y | y
     ·exact absurd Z.2 y
     ·exact absurd Z.1 y
     ·omega
  ·rw [upd_ne _ _ e];exact h.sh j U b hb
 ·exact fun b hb=>Nat.lt_of_lt_of_le (h.Dr b hb) V.size
 ·intro said;refine noRace_append (g:=i) (h.clean said) (fun op K=>(ac op K).1) fun x a O op K c ah aE=>?_;obtain⟨_,e,he,ag⟩:=ac op K;rw [ag] at ah;obtain⟨aF,hm,ae,_⟩:=aE;obtain⟨b,hb⟩:=Qw hm;have aG:Cb c.loc=some b:=by rw [← aF];exact hb
  have ai:=I5 (aj e he) ah aG;rcases ai.2 with y | y | ⟨y,an⟩
  ·exact h.kH i hi b y x a O hb
  ·have:=Lq h.low O hb;omega
  ·rcases ae with z | z
   ·exact h.kE i hi b y x a O hb z
   ·rw [an] at z;cases z
 ·intro op K;rcases Array.mem_append.1 K with K | K
  ·exact MemAct.low_mono V.size (h.low op K)
  ·obtain⟨_,e,he,ag⟩:=ac op K;rw [ag];exact Uf (aj e he)
 ·intro j U b hb x a O aa;by_cases e:j=i
  ·subst e;rw [upd_same] at hb;rcases al x a O with K | ⟨ao,_⟩
   ·rcases V.own b hb with y | y
    ·exact(h.kH j U b y x a K aa).app _
    ·have:=Lq h.low K aa;omega
   ·exact ao
  ·rw [upd_ne _ _ e] at hb;rcases al x a O with K | ⟨_,ev,he,ap⟩
   ·exact(h.kH j U b hb x a K aa).app _
   ·have ai:=I5 (aj ev he) ap aa;have Z:=h.hh j i U hi e b hb;rcases ai.2 with y | y | ⟨y,_⟩
    ·exact absurd Z.1 y
    ·exact absurd (ak j U b y).1 hb
    ·exact absurd Z.2 y
 ·intro j U b hb x a O aa ae;by_cases e:j=i
  ·subst e;rw [upd_same] at hb;rcases al x a O with K | ⟨ao,_⟩
   ·rcases V.CG b hb with y | y | y
    ·exact(h.kE j U b y x a K aa ae).app _
    ·exact(h.kH j U b y x a K aa).app _
    ·have:=Lq h.low K aa;omega
   ·exact ao
  ·rw [upd_ne _ _ e] at hb;rcases al x a O with K | ⟨_,ev,he,ap⟩
   ·exact(h.kE j U b hb x a K aa ae).app _
   ·have ai:=I5 (aj ev he) ap aa;rcases ai.2 with y | y | ⟨_,an⟩
    ·exact absurd ((h.hh i j hi U (Ne.symm e) b y).2) hb
    ·exact absurd (ak j U b y).2 hb
    ·rw [an] at ae;cases ae
theorem Bj.mute{t u:Trace}{w w':World}{N:Nat}{S:Nat→St}{Sh:Nat→Prop}(h:Bj t w N S Sh){g:Nat}(hu:∀op∈u,op.g=g)(Y:∀op∈u,op.act.touch? =none)(ab:∀op∈u,op.act.low w'.heap.size)(hw:w'.heap=w.heap):Bj (t++u) w' N S Sh:=by
 have Z:∀x a,touchAt (t++u) x=some a→touchAt t x=some a:=by
  intro x a O;obtain⟨op,K,U⟩:=touch_of O;rcases getElem?_append_cases K with⟨ah,ac⟩ | ⟨_,ae⟩
  ·rw [touchAt_of ac];exact U
  ·rw [Y op ae] at U;cases U
 exact⟨fun i hi=>⟨fun b o K=>by rw [hw];exact(h.fits i hi).e b o K,fun b o K=>by rw [hw];exact(h.fits i hi).h b o K,(h.fits i hi).d⟩,h.hh,h.sh,fun b hb=>by rw [hw];exact h.Dr b hb,
  fun said=>noRace_append (g:=g) (h.clean said) hu (fun x a _ op K c aa _=>by rw [Y op K] at aa;cases aa),
  fun op K=>(Array.mem_append.1 K).elim (fun K=>by rw [hw];exact h.low op K) (ab op),
  fun i hi b hb x a O V=>(h.kH i hi b hb x a (Z x a O) V).app _,fun i hi b hb x a O V ag=>(h.kE i hi b hb x a (Z x a O) V ag).app _⟩
theorem Bj.ghost{t:Trace}{w:World}{N:Nat}{S:Nat→St}{Sh:Nat→Prop}(h:Bj t w N S Sh){i:Nat}(hi:i<N){s₀:St}(hg:BH (S i) s₀):Bj t w N (upd S i s₀) Sh:=by
 have Y:∀b,s₀.H b≠none→(S i).H b≠none:=fun b hb=>by obtain⟨o,aa⟩:=Fb hb;rw [hg.own b o aa];simp
 have ab:∀b,s₀.E b≠none→(S i).E b≠none∨(S i).H b≠none:=fun b hb=>by
  obtain⟨o,aa⟩:=Fb hb;rcases hg.CG b o aa with x | x
  ·exact .inl (by rw [x];simp)
  ·exact .inr (by rw [x.1];simp)
 have Em:∀{x:Option Obj},¬x≠none→x=none:=fun h=>Classical.not_not.1 h;constructor
 ·intro j K;by_cases e:j=i
  ·subst e;rw [upd_same];exact hg.fits (h.fits j K)
  ·rw [upd_ne _ _ e];exact h.fits j K
 ·intro a c ac ae Z b hb;by_cases e:a=i
  ·subst e;rw [upd_same] at hb;rw [upd_ne _ _ (Ne.symm Z)];exact h.hh a c ac ae Z b (Y b hb)
  ·rw [upd_ne _ _ e] at hb;by_cases ag:c=i
   ·subst ag;rw [upd_same];have O:=h.hh a c ac ae Z b hb;exact⟨Em fun x=>Y b x O.1,Em fun x=>(ab b x).elim (fun y=>y O.2) fun y=>y O.1⟩
   ·rw [upd_ne _ _ ag];exact h.hh a c ac ae Z b hb
 ·intro j K b hb;by_cases e:j=i
  ·subst e;rw [upd_same];have O:=h.sh j K b hb;exact⟨Em fun x=>Y b x O.1,Em fun x=>(ab b x).elim (fun y=>y O.2) fun y=>y O.1⟩
  ·rw [upd_ne _ _ e];exact h.sh j K b hb
 ·exact h.Dr
 ·exact h.clean
 ·exact h.low
 ·intro j K b hb x a U V;by_cases e:j=i
  ·subst e;rw [upd_same] at hb;exact h.kH j K b (Y b hb) x a U V
  ·rw [upd_ne _ _ e] at hb;exact h.kH j K b hb x a U V
 ·intro j K b hb x a U V ah;by_cases e:j=i
  ·subst e;rw [upd_same] at hb;rcases ab b hb with y | y
   ·exact h.kE j K b y x a U V ah
   ·exact h.kH j K b y x a U V
  ·rw [upd_ne _ _ e] at hb;exact h.kE j K b hb x a U V ah
end Pal
namespace Pal
open Go Go.Conc
open Go.ConcN (sumTo upd sumTo_upd upd_ne upd_same)
abbrev St.none:St:=St.quiet
def lone(s:St):Nat→St:=fun i=>if i=0 then s else St.none
structure Ei (P:Program) (gs:Array Goroutine) (w:World) (t:Trace) (q:Nat→Nat) (Sh:Nat→Prop) (g:Goroutine) (s:St):Prop where
 main:gs[0]? =some g
 lv:Leavers P t gs q
 Bx:Bj t w gs.size (lone s) Sh
 over:t.HandedOver
 hears:Deaf t 0=0
def Reaches(P:Program)(gs:Array Goroutine)(w:World)(sl:Option (Nat×Nat))(t:Trace)(s:St)(K:Goroutine→St→Prop):Prop:=
 ∃(n:Nat) (gs':Array Goroutine) (w':World) (U:Option (Nat×Nat)) (O:Trace) (V:Nat→Nat) (Y:Nat→Prop) (g':Goroutine) (s':St),
  runNT P n (crowd gs w sl) t=(.next (crowd gs' w' U),O)∧Ei P gs' w' O V Y g' s'∧K g' s'∧Le' s s'∧w'.tape=w.tape∧w'.os=w.os∧w'.output=w.output
 where
  Le' (s s' : St) : Prop := ∀ b o, s.E b = some o → s'.E b = some o
theorem NV{s s':St}:upd (lone s) 0 s'=lone s':=by
 funext i;unfold upd lone;split <;> rfl
theorem IY{P:Program}{m m':Machine}{t ops:Trace}{k:Nat}{r:Stepped×Trace}(h:stepT P m=(.next m',ops))(K:runNT P k m' (t++ops)=r):runNT P (k+1) m t=r:=by
 simp only [runNT,h];exact K
theorem Ei.at_{P:Program}{gs:Array Goroutine}{w:World}{t:Trace}{q:Nat→Nat}{Sh:Nat→Prop}{g:Goroutine}{s:St}(h:Ei P gs w t q Sh g s)(d:Nat):Ei P gs (w.at d) t q Sh g s:=
 ⟨h.main,h.lv,by
  have:=h.Bx.mute (u:= #[]) (w':=w.at d) (g:=0) (by simp) (by simp) (by simp) rfl
  simpa using this,h.over,h.hears⟩
theorem RH{P:Program}{g:Goroutine}{s:St}{K:Goroutine→St→Prop}(au:O0 P true g s K):
  ∀(M:Nat) (gs:Array Goroutine) (w:World) (sl:Option (Nat×Nat)) (t:Trace) (q:Nat→Nat) (Sh:Nat→Prop),sumTo gs.size q≤M→Ei P gs w t q Sh g s→Reaches P gs w sl t s K:=by
 intro M
 induction M with
 | zero=>?_
 | succ M aA=>?_
 all_goals
  intro gs w sl t q Sh aP hC;have ai:=au.1;have aB:∀x∈gs,awake x:=by
   intro x ab;obtain⟨i,hi,rfl⟩:=Array.mem_iff_getElem.1 ab;rcases Nat.eq_zero_or_pos i with rfl | aj
   ·have:gs[0]=g:=by simpa [Array.getElem?_eq_getElem hi] using hC.main
    rw [this];exact awake_of (.inl ai)
   ·exact awake_of ((hC.lv.old i _ aj (Array.getElem?_eq_getElem hi)).status.elim .inl fun x=> .inr (.inr x))
  obtain⟨i,x,d,ac,hi,ab,av⟩:=crowd_pick (P:=P) (w:=w) (sl:=sl) aB ⟨0,g,hC.main,ai⟩;have ak:=hC.at_ d;have al:0<gs.size:=(Array.getElem?_eq_some_iff.1 hC.main).1;rcases Nat.eq_zero_or_pos i with rfl | aj
  ·obtain rfl:x=g:=by rw [hC.main] at hi;exact(Option.some.inj hi).symm
   have aC:Fits s (w.at d):=ak.Bx.fits 0 al;obtain⟨g',s',w',es,am,an,h3,Y,ae⟩:=au.2.1 (w.at d) aC;have ao:=runT_crowd_go (P:=P) (sl:=ac) (i:=0) hi (show stepG P (0==0) x (w.at d)=_ from am);have ag:((gs.map (woken P x g' w')).setIfInBounds 0 g').size=gs.size:=by simp
   have V:∀op∈MemOp.ofEvents 0 x.frame.fn x.frame.place es,op.g=0:=fun op O=>by obtain⟨e,_,rfl⟩:=mem_ofEvents O;rfl
   have aD:deafBehind (Deaf t 0) es=Deaf t 0:=deafBehind_still (fun e he=>by
    have:=ae e he
    unfold Ev at this
    constructor <;> intro aE <;> rw [aE] at this <;> exact this) _
   refine⟨1,_,w',ac,t++MemOp.ofEvents 0 x.frame.fn x.frame.place es,q,Sh,g',s',IY (av.trans ao) rfl,⟨by simp [al],⟨fun j y U Z=>?_,fun j U=>?_⟩,?_,?_,?_⟩,an,Y.ext,Y.tape,Y.os,Y.output⟩
   ·have ap:0≠j:=by omega
    rw [Array.getElem?_setIfInBounds_ne ap,Array.getElem?_map] at Z;obtain⟨z,aq,rfl⟩:=Option.map_eq_some_iff.1 Z;have aa:=hC.lv.old j z U aq;rw [woken_quitsD aa,Deaf_other t (by omega) _ V];exact aa
   ·rw [Deaf_other t (g':=0) (by simp at U;omega) _ V];exact hC.lv.above j (by simpa using U)
   ·rw [ag,← NV (s:=s)];exact ak.Bx.own al h3 (by simpa [lone] using Y) (by simpa [lone] using ae)
   ·exact handedOver_app hC.over fun op O=> .inl (V op O)
   ·rw [Deaf_own,aD];exact hC.hears
  ·
   have aa:=hC.lv.old i x aj hi;have aF:(i==0)=false:=by simp;omega
   have aw:i<gs.size:=(Array.getElem?_eq_some_iff.1 hi).1;cases ar:q i with
   | zero=>rw [ar] at aa;rw [aa.1] at ab;cases ab
   | succ k=>
    rw [ar] at aa;rcases aa with⟨aG,_⟩ | ⟨_,x',es,hm,aH,aI⟩
    ·rw [aG] at ab;cases ab
    have aQ:sumTo gs.size (upd q i k)+(k+1)=sumTo gs.size q+k:=by
     have:=sumTo_upd q k id aw;simpa [ar] using this
    first
     | (exfalso;omega)
     | (
      have ao:=runT_crowd_go (P:=P) (sl:=ac) (i:=i) hi (by rw [aF];exact aH (w.at d))
      have ag:((gs.map (woken P x x' (w.at d))).setIfInBounds i x').size=gs.size:=by simp
      have V:∀op∈MemOp.ofEvents i x.frame.fn x.frame.place es,op.g=i:=fun op O=>by obtain⟨e,_,rfl⟩:=mem_ofEvents O;rfl
      have ay:∀op∈MemOp.ofEvents i x.frame.fn x.frame.place es,op.act.touch? =none:=fun op O=>by obtain⟨e,he,rfl⟩:=mem_ofEvents O;exact touch_mute (hm e he)
      have aJ:Ei P ((gs.map (woken P x x' (w.at d))).setIfInBounds i x') (w.at d) (t++MemOp.ofEvents i x.frame.fn x.frame.place es) (upd q i k) Sh g s:=by
       refine⟨?_,⟨fun j y U Z=>?_,fun j U=>?_⟩,?_,?_,?_⟩
       ·have ap:i≠0:=by omega
        rw [Array.getElem?_setIfInBounds_ne ap,Array.getElem?_map,hC.main]
        simp [woken_run ai]
       ·by_cases ah:i=j
        ·subst ah
         rw [Array.getElem?_setIfInBounds_self_of_lt (by simpa using aw)] at Z
         obtain rfl:=Option.some.inj Z
         rw [upd_same,Deaf_own]
         exact aI
        ·rw [Array.getElem?_setIfInBounds_ne ah,Array.getElem?_map] at Z
         obtain⟨z,aq,rfl⟩:=Option.map_eq_some_iff.1 Z
         have az:=hC.lv.old j z U aq
         rw [woken_quitsD az,upd_ne q k (Ne.symm ah),Deaf_other t ah _ V]
         exact az
       ·rw [Deaf_other t (g':=i) (by simp at U;omega) _ V]
        exact hC.lv.above j (by simpa using U)
       ·rw [ag]
        exact ak.Bx.mute V ay (fun op O=>by obtain⟨e,he,rfl⟩:=mem_ofEvents O;exact low_mute (hm e he) _) rfl
       ·exact handedOver_app hC.over fun op O=> .inr (ay op O)
       ·rw [Deaf_other t (by omega) _ V];exact hC.hears
      obtain⟨n,gs',w',aK,aL,aM,aN,g',s',am,an,h3,Y,ae,h6,aO⟩:=aA _ (w.at d) ac _ _ Sh (by rw [ag];omega) aJ
      exact⟨n+1,gs',w',aK,aL,aM,aN,g',s',IY (av.trans ao) am,an,h3,Y,ae,h6,aO⟩)
def mainWay(P:Program):Judge P where
 main:=true
 ok Q g s:=∀gs w sl t q Sh,Ei P gs w t q Sh g s→Reaches P gs w sl t s Q
 stop {Q g s} h:=fun gs w sl t q Sh hC=>⟨0,gs,w,sl,t,q,Sh,g,s,rfl,hC,h,fun _ _ h=>h,rfl,rfl,rfl⟩
 step {Q g s} h:=fun gs w sl t q Sh hC=>by
  obtain⟨n,gs',w',K,O,U,V,g',s',Y,Z,h3,aa,ab,h6,ac⟩:=RH h _ gs w sl t q Sh (Nat.le_refl _) hC
  obtain⟨ae,ag,ah,ai,aj,ak,al,am,an,k1,ao,ap,aq,ar,au,av⟩:=h3 gs' w' K O U V Z
  refine⟨n+ae,ag,ah,ai,aj,ak,al,am,an,?_,ao,ap,fun b o h=>aq b o (aa b o h),ar.trans ab,au.trans h6,av.trans ac⟩
  rw [runNT_add,Y];exact k1
 trans {Q R g s} h k:=fun gs w sl t q Sh hC=>by
  obtain⟨n,gs',w',K,O,U,V,g',s',Y,Z,h3,aa,ab,h6,ac⟩:=h gs w sl t q Sh hC
  obtain⟨ae,ag,ah,ai,aj,ak,al,am,an,k1,ao,ap,aq,ar,au,av⟩:=k g' s' h3 gs' w' K O U V Z
  refine⟨n+ae,ag,ah,ai,aj,ak,al,am,an,?_,ao,ap,fun b o h=>aq b o (aa b o h),ar.trans ab,au.trans h6,av.trans ac⟩
  rw [runNT_add,Y];exact k1
 ghost {Q g s s₀} hg h:=fun gs w sl t q Sh hC=>by
  have aw:0<gs.size:=(Array.getElem?_eq_some_iff.1 hC.main).1
  have ay:Ei P gs w t q Sh g s₀:=⟨hC.main,hC.lv,by
   rw [← NV (s:=s)];exact hC.Bx.ghost aw (by simpa [lone] using hg),hC.over,hC.hears⟩
  obtain⟨n,gs',w',K,O,U,V,g',s',Y,Z,h3,aa,ab,h6,ac⟩:=h gs w sl t q Sh ay
  exact⟨n,gs',w',K,O,U,V,g',s',Y,Z,h3,fun b o h=>aa b o (hg.ext b o h),ab,h6,ac⟩
end Pal
namespace Pal
open Go Go.Conc
open Go.ConcN (upd upd_same upd_ne)
section
variable {t u:Trace}{w w':World}{N:Nat}{S:Nat→St}{Sh:Nat→Prop}
theorem Bj.ext(h:Bj t w N S Sh)(Z:∀said,¬Race said (t++u))(hu:∀op∈u,∀a,op.act.touch? =some a→∀b,Cb a.loc=some b→Sh b)
  (aa:∀op∈u,op.act.low w.heap.size) (hs:w'.heap.size=w.heap.size) (hw:∀b,¬Sh b→w'.heap[b]? =w.heap[b]?):Bj (t++u) w' N S Sh:=by
 have hold:∀x a b,touchAt (t++u) x=some a→Cb a.loc=some b→¬Sh b→touchAt t x=some a:=by
  intro x a b U hb O;obtain⟨op,K,Y⟩:=touch_of U;rcases getElem?_append_cases K with⟨ah,ab⟩ | ⟨_,ac⟩
  ·rw [touchAt_of ab];exact Y
  ·exact absurd (hu op ac a Y b hb) O
 have O:∀i,i<N→∀b,((S i).H b≠none∨(S i).E b≠none)→¬Sh b:=by
  intro i hi b hb ae;have:=h.sh i hi b ae;exact hb.elim (fun x=>x this.1) (fun x=>x this.2)
 refine⟨fun i hi=>⟨fun b o K=>?_,fun b o K=>?_,(h.fits i hi).d⟩,h.hh,h.sh,fun b hb=>by rw [hs];exact h.Dr b hb,Z,fun op K=>?_,fun i hi b hb x a U V=>?_,fun i hi b hb x a U V ag=>?_⟩
 ·rw [hw b (O i hi b (.inr (by rw [K];simp)))];exact(h.fits i hi).e b o K
 ·rw [hw b (O i hi b (.inl (by rw [K];simp)))];exact(h.fits i hi).h b o K
 ·rcases Array.mem_append.1 K with K | K
  ·rw [hs];exact h.low op K
  ·rw [hs];exact aa op K
 ·exact(h.kH i hi b hb x a (hold x a b U V (O i hi b (.inl hb))) V).app _
 ·exact(h.kE i hi b hb x a (hold x a b U V (O i hi b (.inr hb))) V ag).app _
theorem Bj.congr{S':Nat→St}(h:Bj t w N S Sh)(K:∀i,i<N→(S' i).E=(S i).E∧(S' i).H=(S i).H):Bj t w N S' Sh:=by
 refine⟨fun i hi=>⟨by rw [(K i hi).1];exact(h.fits i hi).e,by rw [(K i hi).2];exact(h.fits i hi).h,by rw [(K i hi).1,(K i hi).2];exact(h.fits i hi).d⟩,fun i j hi O U b=>?_,fun i hi b=>?_,h.Dr,h.clean,h.low,fun i hi b=>?_,fun i hi b=>?_⟩
 ·rw [(K i hi).2,(K j O).1,(K j O).2];exact h.hh i j hi O U b
 ·rw [(K i hi).1,(K i hi).2];exact h.sh i hi b
 ·rw [(K i hi).2];exact h.kH i hi b
 ·rw [(K i hi).1];exact h.kE i hi b
theorem Bj.less(h:Bj t w N S Sh){i:Nat}{s':St}(ac:∀b o,s'.E b=some o→(S i).E b=some o)(ae:∀b o,s'.H b=some o→(S i).H b=some o):Bj t w N (upd S i s') Sh:=by
 have V:∀j b o,(upd S i s' j).E b=some o→(S j).E b=some o:=by
  intro j b o K;by_cases e:j=i
  ·subst e;rw [upd_same] at K;exact ac b o K
  ·rwa [upd_ne _ _ e] at K
 have Y:∀j b o,(upd S i s' j).H b=some o→(S j).H b=some o:=by
  intro j b o K;by_cases e:j=i
  ·subst e;rw [upd_same] at K;exact ae b o K
  ·rwa [upd_ne _ _ e] at K
 have n1:∀j b,(S j).E b=none→(upd S i s' j).E b=none:=by
  intro j b hb;cases U:(upd S i s' j).E b with
  | none=>rfl
  | some o=>rw [V j b o U] at hb;cases hb
 have n2:∀j b,(S j).H b=none→(upd S i s' j).H b=none:=by
  intro j b hb;cases U:(upd S i s' j).H b with
  | none=>rfl
  | some o=>rw [Y j b o U] at hb;cases hb
 have p1:∀j b,(upd S i s' j).E b≠none→(S j).E b≠none:=fun j b hb x=>hb (n1 j b x);have p2:∀j b,(upd S i s' j).H b≠none→(S j).H b≠none:=fun j b hb x=>hb (n2 j b x);exact⟨fun j O=>⟨fun b o K=>(h.fits j O).e b o (V j b o K),fun b o K=>(h.fits j O).h b o (Y j b o K),fun b hb=>n2 j b ((h.fits j O).d b (p1 j b hb))⟩,
  fun a c Z aa ab b hb=>⟨n2 c b (h.hh a c Z aa ab b (p2 a b hb)).1,n1 c b (h.hh a c Z aa ab b (p2 a b hb)).2⟩,
  fun j O b hb=>⟨n2 j b (h.sh j O b hb).1,n1 j b (h.sh j O b hb).2⟩,h.Dr,h.clean,h.low,
  fun j O b hb=>h.kH j O b (p2 j b hb),fun j O b hb=>h.kE j O b (p1 j b hb)⟩
theorem Bj.grow(h:Bj t w N S Sh){i:Nat}(hi:i<N){E':LH}{q:Bool}
  (aa:∀b o,E' b=some o→(S i).E b=some o∨∃j,j<N∧(S j).E b=some o∧∀x a,touchAt t x=some a→Cb a.loc=some b→a.write=true→Knows t i x):
  Bj t w N (upd S i ⟨E',(S i).H,q⟩) Sh:=by
 have ag:∀{b},E' b≠none→∃j,j<N∧∃o,(S j).E b=some o:=by
  intro b hb;obtain⟨o,V⟩:=Fb hb;rcases aa b o V with x | ⟨j,K,x,_⟩
  ·exact⟨i,hi,o,x⟩
  ·exact⟨j,K,o,x⟩
 have ah:∀a,a<N→∀b,(S a).H b≠none→E' b=none:=by
  intro a U b hb;cases O:E' b with
  | none=>rfl
  | some o=>
   obtain⟨j,K,o',Y⟩:=ag (b:=b) (by rw [O];simp);by_cases e:a=j
   ·subst e;have:=(h.fits a U).d b (by rw [Y];simp);exact absurd this hb
   ·have:=(h.hh a j U K e b hb).2;rw [Y] at this;cases this
 constructor
 ·intro j K;by_cases e:j=i
  ·subst e;rw [upd_same];refine⟨fun b o V=>?_,(h.fits j K).h,fun b hb=>?_⟩
   ·rcases aa b o V with x | ⟨k,Z,x,_⟩
    ·exact(h.fits j K).e b o x
    ·exact(h.fits k Z).e b o x
   ·cases O:(S j).H b with
    | none=>rfl
    | some o=>exact absurd (ah j K b (by rw [O];simp)) hb
  ·rw [upd_ne _ _ e];exact h.fits j K
 ·intro a c U ai aj b hb;have ab:(S a).H b≠none:=by
   by_cases e:a=i
   ·subst e;rwa [upd_same] at hb
   ·rwa [upd_ne _ _ e] at hb
  by_cases e:c=i
  ·subst e;rw [upd_same];exact⟨(h.hh a c U ai aj b ab).1,ah a U b ab⟩
  ·rw [upd_ne _ _ e];exact h.hh a c U ai aj b ab
 ·intro j K b hb;by_cases e:j=i
  ·subst e;rw [upd_same];refine⟨(h.sh j K b hb).1,?_⟩;cases O:E' b with
   | none=>exact O
   | some o=>
    obtain⟨k,Z,o',Y⟩:=ag (b:=b) (by rw [O];simp);rw [(h.sh k Z b hb).2] at Y;cases Y
  ·rw [upd_ne _ _ e];exact h.sh j K b hb
 ·exact h.Dr
 ·exact h.clean
 ·exact h.low
 ·intro j K b hb;by_cases e:j=i
  ·subst e;rw [upd_same] at hb;exact h.kH j K b hb
  ·rw [upd_ne _ _ e] at hb;exact h.kH j K b hb
 ·intro j K b hb x a O ac ae;by_cases e:j=i
  ·subst e;rw [upd_same] at hb;obtain⟨o,V⟩:=Fb hb;rcases aa b o V with y | ⟨k,Z,y,ak⟩
   ·exact h.kE j K b (by rw [y];simp) x a O ac ae
   ·exact ak x a O ac ae
  ·rw [upd_ne _ _ e] at hb;exact h.kE j K b hb x a O ac ae
theorem Bj.push(h:Bj t w N S Sh){i:Nat}(hi:i<N){E:LH}(Z:∀b o,E b=some o→(S i).E b=some o)
  (ac:∀b,E b≠none→∀x a,touchAt t x=some a→Cb a.loc=some b→a.write=true→Knows t N x):Bj t w (N+1) (upd S N ⟨E,fun _=>none,false⟩) Sh:=by
 have O:∀j,j<N→upd S N ⟨E,fun _=>none,false⟩ j=S j:=fun j K=>upd_ne _ _ (by omega);have ag:∀b,E b≠none→(S i).E b≠none:=fun b hb=>by obtain⟨o,V⟩:=Fb hb;rw [Z b o V];simp
 have ab:∀b,(S i).E b=none→E b=none:=fun b hb=>by
  cases aa:E b with
  | none=>rfl
  | some o=>rw [Z b o aa] at hb;cases hb
 have cs:∀j,j<N+1→j<N∨j=N:=fun j K=>by omega
 constructor
 ·intro j K;rcases cs j K with K | rfl
  ·rw [O j K];exact h.fits j K
  ·rw [upd_same];exact⟨fun b o V=>(h.fits i hi).e b o (Z b o V),fun b o V=>(by cases V),fun b _=>rfl⟩
 ·intro a c U Y ae b hb;rcases cs a U with U | rfl
  ·rw [O a U] at hb;rcases cs c Y with Y | rfl
   ·rw [O c Y];exact h.hh a c U Y ae b hb
   ·rw [upd_same];refine⟨rfl,ab b ?_⟩;by_cases e:a=i
    ·subst e;cases aa:(S a).E b with
     | none=>rfl
     | some o=>exact absurd ((h.fits a U).d b (by rw [aa];simp)) hb
    ·exact(h.hh a i U hi e b hb).2
  ·rw [upd_same] at hb;exact absurd rfl hb
 ·intro j K b hb;rcases cs j K with K | rfl
  ·rw [O j K];exact h.sh j K b hb
  ·rw [upd_same];exact⟨rfl,ab b (h.sh i hi b hb).2⟩
 ·exact h.Dr
 ·exact h.clean
 ·exact h.low
 ·intro j K b hb;rcases cs j K with K | rfl
  ·rw [O j K] at hb;exact h.kH j K b hb
  ·rw [upd_same] at hb;exact absurd rfl hb
 ·intro j K b hb;rcases cs j K with K | rfl
  ·rw [O j K] at hb;exact h.kE j K b hb
  ·rw [upd_same] at hb;exact ac b hb
theorem Bj.share(h:Bj t w N S Sh){i:Nat}(hi:i<N){b₀:Nat}{o₀:Obj}(U:(S i).H b₀=some o₀):
  Bj t w N (upd S i {S i with H:=fun b=>if b=b₀ then none else(S i).H b}) (fun b=>Sh b∨b=b₀):=by
 have K:Bj t w N (upd S i {S i with H:=fun b=>if b=b₀ then none else(S i).H b}) Sh:=
  h.less (fun b o O=>O) (fun b o O=>by simp only at O;split at O <;> first | (cases O;done) | exact O)
 have Z:b₀<w.heap.size:=by
  have:=(h.fits i hi).h b₀ o₀ U;rcases Nat.lt_or_ge b₀ w.heap.size with V | V
  ·exact V
  ·simp [Array.getElem?_eq_none V] at this
 refine⟨K.fits,K.hh,fun j Y b hb=>?_,fun b hb=>hb.elim (K.Dr b) (fun e=>e▸Z),K.clean,K.low,K.kH,K.kE⟩;rcases hb with hb | rfl
 ·exact K.sh j Y b hb
 ·by_cases e:j=i
  ·subst e;rw [upd_same];refine⟨by simp,?_⟩;cases aa:(S j).E b with
   | none=>rfl
   | some o=>have:=(h.fits j Y).d b (by rw [aa];simp);rw [U] at this;cases this
  ·rw [upd_ne _ _ e];exact h.hh i j hi Y (Ne.symm e) b (by rw [U];simp)
end
end Pal
namespace Pal
open Go Go.Conc
open Go.ConcN (upd upd_same upd_ne sumTo sumTo_upd)
abbrev GP:=Goroutine→St→Prop
inductive Ph where
 | Bs (k:Nat) | Eg | FQ | EP | Ef | Eo | CQ
 | BD | DG (m:Nat) | EN (v:Nat) | EV | BU | Ep | Dt | Eu | Cc
 | Dq (j:Nat) | Fv (j:Nat) | Er (j:Nat) | D2 (j:Nat) | Di (j:Nat) | DI | Bh (K:List Nat) (vs:List Value)
 | BB | Fz | Ft | EU (j:Nat)
inductive Nx where
 | ph (p:Ph) | gone (d:Nat)
structure Fam where
 wg:Nat
 ch:Nat
 ty:TypeId
 n:Nat
 has:Nat→Bool
 msg:Nat→Value→LH→Prop
 fin:GP
namespace Fam
variable (F:Fam)
def KK:Int:=4294967296
def Ew(st sm:Int):Obj:= .cells #[.int .u64 st,.int .u32 sm] F.ty (0,0)
def word(v wt:Nat):Int:=(v:Int)*KK+wt
def WG(w:World)(v wt sm:Nat):Prop:=w.heap[F.wg]? =some (F.Ew (word v wt) sm)
def put(w:World)(v wt sm:Nat):World:={w with heap:=w.heap.setIfInBounds F.wg (F.Ew (word v wt) sm)}
def sA:Addr:=⟨F.wg,0,none⟩
def mA:Addr:=⟨F.wg,1,none⟩
def Df(a:Addr):Event:=⟨.cell a,false,true⟩
def Gn(a:Addr):Event:=⟨.cell a,true,true⟩
def CI(m:Mark):Event:=⟨.mark m,false,true⟩
def ChanAt(w:World)(closed:Bool)(k:Nat):Prop:=w.heap[F.ch]? =some (.chan 0 #[] closed k k false)
def act:Ph→Nat→Nat→Nat→Option ((Nat×Nat×Nat)×Array Event×Nx)
 | .Eg,v,wt,sm=>some ((v,wt,sm),#[CI (.releaseMerge F.sA)],.ph .FQ)
 | .FQ,v,wt,sm=>some ((v,wt,sm),#[CI .disable],.ph .EP)
 | .EP,v,wt,sm=>if 1≤v∧v<2147483648∧wt≤1 then some ((v - 1,wt,sm),#[Df F.sA,Gn F.sA],if v=1∧wt=1 then .ph .Ef else .gone 1) else none
 | .Ef,v,wt,sm=>if v=0∧wt=1 then some ((0,1,sm),#[Df F.sA],.ph .Eo) else none
 | .Eo,v,wt,sm=>if v=0∧wt=1 then some ((0,0,sm),#[Gn F.sA],.ph .CQ) else none
 | .CQ,v,wt,sm=>if sm=0 then some ((v,wt,1),semEvents F.mA,.gone 1) else none
 | .BD,v,wt,sm=>some ((v,wt,sm),#[CI .disable],.ph (.DG F.n))
 | .DG m,v,wt,sm=>if v≤m∧wt=0 then some ((v,0,sm),#[Df F.sA],if v=0 then .ph .Dt else .ph (.EN v)) else none
 | .EN m,v,wt,sm=>if v≤m∧1≤m∧wt=0 then some (if v=m then((v,1,sm),#[Df F.sA,Gn F.sA],.ph .Fz) else((v,0,sm),#[Df F.sA],.ph (.DG (m - 1)))) else none
 | .EV,v,wt,sm=>some ((v,wt,sm),#[CI (.write F.mA)],.ph .BU)
 | .BU,v,wt,sm=>if sm=1 then some ((v,wt,0),semEvents F.mA,.ph .Ep) else none
 | .Ep,v,wt,sm=>if v=0∧wt=0 then some ((0,0,sm),#[Df F.sA],.ph .Dt) else none
 | .Dt,v,wt,sm=>some ((v,wt,sm),#[CI .enable],.ph .Ft)
 | .BB,v,wt,sm=>some ((v,wt,sm),#[],.ph .Eg)
 | .Fz,v,wt,sm=>some ((v,wt,sm),#[],.ph .EV)
 | .Ft,v,wt,sm=>some ((v,wt,sm),#[],.ph .Eu)
 | .EU j,v,wt,sm=>some ((v,wt,sm),#[],.ph (.Er j))
 | .Eu,v,wt,sm=>some ((v,wt,sm),#[CI (.acquire F.sA)],.ph .Cc)
 | .Dq j,v,wt,sm=>some ((v,wt,sm),#[CI .disable],.ph (.Fv j))
 | .Fv j,v,wt,sm=>if v<2147483647∧wt=0 then some ((v+1,0,sm),#[Df F.sA,Gn F.sA],if v=0 then .ph (.EU j) else .ph (.D2 j)) else none
 | .Er j,v,wt,sm=>some ((v,wt,sm),#[CI (.read F.mA)],.ph (.D2 j))
 | .D2 j,v,wt,sm=>some ((v,wt,sm),#[CI .enable],.ph (.Di j))
 | _,_,_,_=>none
def B4:Ph→Bool
 | .Dq _ | .Fv _ | .Er _ | .D2 _ | .Di _ | .DI | .Bh _ _ | .EU _=>true
 | _=>false
def Cr:Ph→Bool
 | .FQ | .EP | .Ef | .Eo | .CQ=>true
 | _=>false
def Ez:Ph→St→St
 | .Eg,_=> .quiet
 | _,s=>s
def start(k:Nat):Ph:=if F.has k then .Bs k else .BB
def Cd(j:Nat):Ph:=if j+1=F.n then .DI else .Dq (j+1)
end Fam
def Way(P:Program)(main:Bool)(X:GP):GP:=(AO P main).ok X
theorem Jr.moq{P:Program}{main:Bool}{Q K:GP}(h:∀g s,Q g s→K g s):∀{r:Rk} {g:Goroutine} {s:St},Jr P main Q r g s→Jr P main K r g s
 | .leaf,_,_,x=>h _ _ x
 | .node _,_,_,.inl x=> .inl (h _ _ x)
 | .node _,_,_,.inr ⟨O,x⟩=> .inr ⟨O,fun w f=>let ⟨g',s',w',es,U,V,h3⟩:=x w f;⟨g',s',w',es,U,Jr.moq h V,h3⟩⟩
theorem Way.moq{P:Program}{main:Bool}{Q K:GP}(h:∀g s,Q g s→K g s){g:Goroutine}{s:St}(x:Way P main Q g s):Way P main K g s:=
 let ⟨r,O⟩:=x;⟨r,Jr.moq (fun g s ⟨s₀,a,b⟩=>⟨s₀,a,h g s₀ b⟩) O⟩
section
variable (P:Program)(F:Fam)
def Iv(X:Ph→GP)(main:Bool):Nx→GP
 | .ph p,g,s=>Way P main (X p) g s
 | .gone d,g,_=>∃q,QuitsD P q d g
structure DJ (X:Ph→GP) (p:Ph) (g:Goroutine) (s:St):Prop where
 run:g.status= .running
 offers:g.offers=none
 quiet:Fam.Cr p=true→s= .quiet
 live:Fam.Cr p=false→s.q=false
 act:∀v wt sm v' wt' sm' es nx,F.act p v wt sm=some ((v',wt',sm'),es,nx)→
  ∃g',(∀w,F.WG w v wt sm→stepG P (Fam.B4 p) g w= .go g' (F.put w v' wt' sm') es)∧g'.status= .running∧Iv P X (Fam.B4 p) nx g' (Fam.Ez p s)
 EO:p= .CQ∨p= .Cc→mayWake P g=true
 CS:p= .BU→∀w v wt,F.WG w v wt 0→stepG P false g w= .go {g with status:= .blocked} w #[]
 close:p= .Cc→∃g',g'.status= .running∧(∀w k,F.ChanAt w false k→stepG P false g w= .go g' (w.setChan F.ch 0 #[] true k k false) (closeEvents F.ch))∧∃q,QuitsD P q 0 g'
 send:∀k,p= .Bs k→∃v z,F.msg k v s.E∧(∀w,stepG P false g w= .comm g #[scase F.ch v z] true .send w #[])∧Way P false (X .BB) (served g undef) s
 go:∀j,p= .Di j→∃g' child,g'.status= .running∧child.status= .running∧(∀w,stepG P true g w= .spawn g' child w #[])∧Way P false (X (F.start j)) child ⟨s.E,fun _=>none,false⟩∧Way P true (X (F.Cd j)) g' s
 Ey:p= .DI→∃g' child,g'.status= .running∧child.status= .running∧(∀w,stepG P true g w= .spawn g' child w #[])∧Way P false (X .BD) child ⟨s.E,fun _=>none,false⟩∧Way P true (X (.Bh [] [])) g' s
 recv:∀K vs,p= .Bh K vs→∃z,(∀w,stepG P true g w= .comm g #[rcase F.ch z] true (.recv true) w #[])∧
  (∀k v E',k<F.n→F.has k=true→k ∉ K→Le s.E E'→(∀b,E' b≠none→s.H b=none)→F.msg k v E'→Way P true (X (.Bh (K++ [k]) (vs++ [v]))) (served g (.tuple #[v,.bool true])) ⟨E',s.H,false⟩)∧
  ((∀k,k<F.n→F.has k=true→k∈K)→F.fin (served g (.tuple #[z,.bool false])) s)
theorem Iv.moq{X K:Ph→GP}(h:∀p g s,X p g s→K p g s){main:Bool}{nx:Nx}{g:Goroutine}{s:St}(x:Iv P X main nx g s):Iv P K main nx g s:=by
 cases nx with
 | ph p=>exact Way.moq (h p) x
 | gone d=>exact x
theorem DJ.moq{X Y:Ph→GP}(h:∀p g s,X p g s→Y p g s){p:Ph}{g:Goroutine}{s:St}(x:DJ P F X p g s):DJ P F Y p g s where
 run:=x.run
 offers:=x.offers
 quiet:=x.quiet
 live:=x.live
 act v wt sm v' wt' sm' es nx e:=let ⟨g',K,O,h3⟩:=x.act v wt sm v' wt' sm' es nx e;⟨g',K,O,h3.moq P h⟩
 EO:=x.EO
 CS:=x.CS
 close:=x.close
 send k e:=let ⟨v,z,K,O,h3⟩:=x.send k e;⟨v,z,K,O,h3.moq (h _)⟩
 go j e:=let ⟨g',c,K,O,h3,U,V⟩:=x.go j e;⟨g',c,K,O,h3,U.moq (h _),V.moq (h _)⟩
 Ey e:=let ⟨g',c,K,O,h3,U,V⟩:=x.Ey e;⟨g',c,K,O,h3,U.moq (h _),V.moq (h _)⟩
 recv Z vs e:=let ⟨z,K,O,h3⟩:=x.recv Z vs e;⟨z,K,fun k v E' a b c d e f=>(O k v E' a b c d e f).moq (h _),h3⟩
def Stop(p:Ph)(g:Goroutine)(s:St):Prop:=∃X:Ph→GP,(∀p g s,X p g s→DJ P F X p g s)∧X p g s
variable {P F}
theorem Stop.law{p:Ph}{g:Goroutine}{s:St}(h:Stop P F p g s):DJ P F (Stop P F) p g s:=by
 obtain⟨X,O,K⟩:=h;exact(O p g s K).moq P F fun p g s K=>⟨X,O,K⟩
theorem DJ.stop{p:Ph}{g:Goroutine}{s:St}(h:DJ P F (Stop P F) p g s):Stop P F p g s:=
 ⟨fun p g s=>DJ P F (Stop P F) p g s,fun _ _ _ x=>x.moq P F fun _ _ _ y=>y.law,h⟩
end
end Pal
namespace Pal
open Go Go.Conc
open Go.ConcN (upd upd_same upd_ne sumTo sumTo_upd sumTo_upd_out sumTo_congr le_sumTo sumTo_le)
def cU:Nx→Nat
 | .ph (.Bs _) | .ph .BB | .ph .Eg | .ph .FQ | .ph .EP=>1
 | _=>0
def cL:Nx→Nat
 | .ph .Ef | .ph .Eo=>1
 | _=>0
def cS:Nx→Nat
 | .ph .CQ=>1
 | _=>0
def pend:Nx→Nat
 | .ph (.EU _) | .ph (.Er _) | .ph (.D2 _) | .ph (.Di _)=>1
 | _=>0
def got:Nx→List Nat
 | .ph (.Bh K _)=>K
 | _=> []
def Dd:Nx→Prop
 | .gone _=>True
 | _=>False
def Fi(n j:Nat)(c:Bool):Ph→Prop
 | .Dq K | .Fv K | .EU K | .Er K | .D2 K | .Di K=>K=j∧j<n∧c=false
 | .DI=>j=n∧c=false
 | .Bh _ _=>j=n∧c=true
 | _=>False
def FI(F:Fam)(k:Nat):Nx→Prop
 | .gone _=>True
 | .ph (.Bs k')=>k'=k∧F.has k=true
 | .ph .BB | .ph .Eg | .ph .FQ | .ph .EP | .ph .Ef | .ph .Eo | .ph .CQ=>True
 | _=>False
def Fj:Nx→Prop
 | .gone _=>True
 | .ph .BD | .ph (.DG _) | .ph (.EN _) | .ph .Fz | .ph .EV | .ph .BU | .ph .Ep | .ph .Dt | .ph .Ft | .ph .Eu | .ph .Cc=>True
 | _=>False
def BA(x:Nx)(v wt sm L S:Nat)(cl:Bool):Prop:=
 match x with
 | .ph .BD=>L=0∧S=0∧sm=0∧wt=0∧cl=false
 | .ph (.DG m)=>L=0∧S=0∧sm=0∧wt=0∧cl=false∧v≤m
 | .ph (.EN m)=>L=0∧S=0∧sm=0∧wt=0∧cl=false∧v≤m∧1≤m
 | .ph .Fz | .ph .EV | .ph .BU=>L+S+sm+min v 1=1∧wt=L+min v 1∧cl=false
 | .ph .Ep | .ph .Dt | .ph .Ft | .ph .Eu | .ph .Cc=>L=0∧S=0∧sm=0∧wt=0∧v=0∧cl=false
 | .gone _=>L=0∧S=0∧sm=0∧wt=0∧v=0∧cl=true
 | _=>False
structure Bi (F:Fam) (N0 N j:Nat) (c:Bool) (φ:Nat→Nx) (v wt sm:Nat) (cl:Bool):Prop where
 pos:0<N0
 n1:1≤F.n
 Gm:F.n<2147483647
 size:N=N0+j+c.toNat
 jn:j≤F.n
 cj:c=true→j=F.n
 main:∃p,φ 0= .ph p∧Fi F.n j c p
 old:∀i,0<i→i<N0→Dd (φ i)
 work:∀k,k<j→FI F k (φ (N0+k))
 cls:c=true→Fj (φ (N0+F.n))
 cnt:v=sumTo N (fun i=>cU (φ i))+pend (φ 0)
 FX:v≤j+pend (φ 0)
 mode:BA (if c=true then φ (N0+F.n) else .ph .BD) v wt sm (sumTo N fun i=>cL (φ i)) (sumTo N fun i=>cS (φ i)) cl
 ET:∀k,k<j→F.has k=true→(φ (N0+k)= .ph (.Bs k)↔k ∉ got (φ 0))
 nd:(got (φ 0)).Nodup
 sub:∀k∈got (φ 0),k<j∧F.has k=true
section
variable {F:Fam}{N0 N j:Nat}{c:Bool}{φ:Nat→Nx}{v wt sm v' wt' sm':Nat}{cl cl':Bool}
theorem Bi.Du(h:Bi F N0 N j c φ v wt sm cl){i:Nat}(hi:i<N):i=0∨(0<i∧i<N0)∨(∃k,k<j∧i=N0+k)∨(c=true∧i=N0+F.n):=by
 have:=h.size;rcases Nat.eq_zero_or_pos i with K | K
 ·exact .inl K
 rcases Nat.lt_or_ge i N0 with U | U
 ·exact .inr (.inl ⟨K,U⟩)
 rcases Nat.lt_or_ge i (N0+j) with V | V
 ·exact .inr (.inr (.inl ⟨i - N0,by omega,by omega⟩))
 ·cases O:c with
  | false=>rw [O] at this;simp at this;omega
  | true=>have e:=h.cj O;rw [O] at this;simp at this;exact .inr (.inr (.inr ⟨rfl,by omega⟩))
theorem Bi.P3(h:Bi F N0 N j c φ v wt sm cl):v≤F.n:=by
 have K:=h.FX;obtain⟨p,O,hm⟩:=h.main;have:=h.jn;rw [O] at K;cases p <;> simp [Fi] at hm <;> simp [pend] at K <;> omega
theorem Bi.FR(h:Bi F N0 N j c φ v wt sm cl){k:Nat}(ab:k<j){x:Nx}(ac:FI F k x)(hs:∀k',φ (N0+k)≠ .ph (.Bs k'))(ae:∀k',x≠ .ph (.Bs k'))
  (an:v'+cU (φ (N0+k))=v+cU x)
  (hm:∀L S,L+cL (φ (N0+k))=(sumTo N fun i=>cL (φ i))+cL x→S+cS (φ (N0+k))=(sumTo N fun i=>cS (φ i))+cS x→BA (if c=true then φ (N0+F.n) else .ph .BD) v' wt' sm' L S cl'):
  Bi F N0 N j c (upd φ (N0+k) x) v' wt' sm' cl':=by
 have ao:=h.size;have ap:=h.jn;have aq:=h.pos;have V:N0+k<N:=by omega
 have K:upd φ (N0+k) x 0=φ 0:=upd_ne _ _ (by omega);have ag:(if c=true then upd φ (N0+k) x (N0+F.n) else .ph .BD)=(if c=true then φ (N0+F.n) else .ph .BD):=by
  cases O:c with
  | false=>rfl
  | true=>have:=h.cj O;simp only [if_true];exact upd_ne _ _ (by omega)
 have s1:=sumTo_upd φ x cU V;have s2:=sumTo_upd φ x cL V;have ah:=sumTo_upd φ x cS V;have ar:=h.cnt;have au:=h.FX;refine⟨h.pos,h.n1,h.Gm,h.size,h.jn,h.cj,by rw [K];exact h.main,fun i ai aj=>by rw [upd_ne _ _ (by omega)];exact h.old i ai aj,fun k' U=>?_,fun O=>?_,by rw [K];omega,?_,?_,fun k' U hh=>?_,by rw [K];exact h.nd,by rw [K];exact h.sub⟩
 ·by_cases e:k'=k
  ·subst e;rw [upd_same];exact ac
  ·rw [upd_ne _ _ (by omega)];exact h.work k' U
 ·have:=h.cj O;rw [upd_ne _ _ (by omega)];exact h.cls O
 ·rw [K];have:cU x≤1:=by cases x with
   | gone d=>simp [cU]
   | ph p=>cases p <;> simp [cU]
  have hw:=h.work k ab;have key:cU x≤cU (φ (N0+k))∨cU (φ (N0+k))<cU x:=by omega
  rcases key with hle | av
  ·omega
  ·
   have:(sumTo N fun a=>cU (upd φ (N0+k) x a))≤j:=by
    have hb:∀M,M≤N→(sumTo M fun a=>cU (upd φ (N0+k) x a))≤min (M - N0) j:=by
     intro M
     induction M with
     | zero=>intro _;simp [sumTo]
     | succ M ak=>
      intro aw;have:=ak (by omega);simp only [sumTo];have ay:cU (upd φ (N0+k) x M)≤1:=by
       generalize upd φ (N0+k) x M=y;cases y with
       | gone d=>simp [cU]
       | ph p=>cases p <;> simp [cU]
      have Z:(M<N0∨N0+j≤M)→cU (upd φ (N0+k) x M)=0:=by
       intro az;rw [upd_ne _ _ (by omega)];rcases h.Du (i:=M) (by omega) with rfl | ⟨a,b⟩ | ⟨k',a,rfl⟩ | ⟨a,rfl⟩
       ·obtain⟨p,al,hm⟩:=h.main;rw [al];cases p <;> simp [Fi] at hm <;> rfl
       ·have:=h.old M a b;cases Y:φ M with
        | gone d=>rfl
        | ph p=>rw [Y] at this;exact this.elim
       ·omega
       ·have:=h.cls a;cases Y:φ (N0+F.n) with
        | gone d=>rfl
        | ph p=>rw [Y] at this;cases p <;> simp [Fj] at this <;> rfl
      rcases Nat.lt_or_ge M N0 with q | q
      ·rw [Z (.inl q)];omega
      ·rcases Nat.lt_or_ge M (N0+j) with aa | aa
       ·omega
       ·rw [Z (.inr aa)];omega
    have:=hb N (Nat.le_refl _);omega
   omega
 ·rw [ag];exact hm _ _ s2 ah
 ·rw [K];by_cases e:k'=k
  ·subst e;rw [upd_same];have:=h.ET k' U hh;constructor
   ·intro am;exact absurd am (ae k')
   ·intro hg;exact absurd (this.2 hg) (hs k')
  ·rw [upd_ne _ _ (by omega)];exact h.ET k' U hh
theorem Bi.D1(h:Bi F N0 N j c φ v wt sm cl)(O:c=true){x:Nx}(Y:Fj x)
  (hm:BA x v wt' sm' (sumTo N fun i=>cL (φ i)) (sumTo N fun i=>cS (φ i)) cl'):
  Bi F N0 N j c (upd φ (N0+F.n) x) v wt' sm' cl':=by
 have Z:=h.size;have ah:=h.pos;have ai:=h.cj O;have U:N0+F.n<N:=by rw [O] at Z;simp at Z;omega
 have K:upd φ (N0+F.n) x 0=φ 0:=upd_ne _ _ (by omega);have z:∀y,Fj y→cU y=0∧cL y=0∧cS y=0:=by
  intro y aa;cases y with
  | gone d=>exact⟨rfl,rfl,rfl⟩
  | ph p=>cases p <;> simp [Fj] at aa <;> exact⟨rfl,rfl,rfl⟩
 have z1:=z _ (h.cls O);have aj:=z x Y;have s1:=sumTo_upd φ x cU U;have s2:=sumTo_upd φ x cL U;have ak:=sumTo_upd φ x cS U;have al:=h.cnt;refine⟨h.pos,h.n1,h.Gm,h.size,h.jn,h.cj,by rw [K];exact h.main,fun i ab ac=>by rw [upd_ne _ _ (by omega)];exact h.old i ab ac,fun k' V=>?_,fun O=>?_,by rw [K];omega,by rw [K];exact h.FX,?_,fun k' V hh=>?_,by rw [K];exact h.nd,by rw [K];exact h.sub⟩
 ·rw [upd_ne _ _ (by omega)];exact h.work k' V
 ·rw [upd_same];exact Y
 ·rw [if_pos O,upd_same];have ae:(sumTo N fun i=>cL (upd φ (N0+F.n) x i))=sumTo N fun i=>cL (φ i):=by omega
  have ag:(sumTo N fun i=>cS (upd φ (N0+F.n) x i))=sumTo N fun i=>cS (φ i):=by omega
  rw [ae,ag];exact hm
 ·rw [K,upd_ne _ _ (by omega)];exact h.ET k' V hh
theorem No{n j:Nat}{c:Bool}{p:Ph}(h:Fi n j c p):cU (.ph p)=0∧cL (.ph p)=0∧cS (.ph p)=0:=by
 cases p <;> simp [Fi] at h <;> exact⟨rfl,rfl,rfl⟩
theorem Bi.Hw(h:Bi F N0 N j c φ v wt sm cl){p:Ph}(U:Fi F.n j c p)(hg:got (.ph p)=got (φ 0))(ai:v'+pend (φ 0)=v+pend (.ph p))(V:v'≤j+pend (.ph p))
  (hm:BA (if c=true then φ (N0+F.n) else .ph .BD) v' wt' sm' (sumTo N fun i=>cL (φ i)) (sumTo N fun i=>cS (φ i)) cl'):
  Bi F N0 N j c (upd φ 0 (.ph p)) v' wt' sm' cl':=by
 have aj:=h.size;have ak:=h.pos;have K:0<N:=by omega
 obtain⟨al,Y,Z⟩:=h.main;have z1:=No Z;have am:=No U;rw [← Y] at z1;have s1:=sumTo_upd φ (.ph p) cU K;have s2:=sumTo_upd φ (.ph p) cL K;have an:=sumTo_upd φ (.ph p) cS K;have ao:=h.cnt;have aa:(if c=true then upd φ 0 (.ph p) (N0+F.n) else .ph .BD)=(if c=true then φ (N0+F.n) else .ph .BD):=by rw [upd_ne _ _ (by omega)]
 refine⟨h.pos,h.n1,h.Gm,h.size,h.jn,h.cj,⟨p,upd_same _ _ _,U⟩,fun i ab ac=>by rw [upd_ne _ _ (by omega)];exact h.old i ab ac,fun k' O=>by rw [upd_ne _ _ (by omega)];exact h.work k' O,fun ae=>by rw [upd_ne _ _ (by omega)];exact h.cls ae,by rw [upd_same];omega,by rw [upd_same];exact V,?_,fun k' O hh=>?_,by rw [upd_same,hg];exact h.nd,by rw [upd_same,hg];exact h.sub⟩
 ·rw [aa];have ag:(sumTo N fun i=>cL (upd φ 0 (.ph p) i))=sumTo N fun i=>cL (φ i):=by omega
  have ah:(sumTo N fun i=>cS (upd φ 0 (.ph p) i))=sumTo N fun i=>cS (φ i):=by omega
  rw [ag,ah];exact hm
 ·rw [upd_same,hg,upd_ne _ _ (by omega)];exact h.ET k' O hh
theorem Bi.act(h:Bi F N0 N j c φ v wt sm cl){i:Nat}(hi:i<N){p:Ph}(U:φ i= .ph p){es:Array Event}{nx:Nx}(K:F.act p v wt sm=some ((v',wt',sm'),es,nx)):
  Bi F N0 N j c (upd φ i nx) v' wt' sm' cl:=by
 have O:=h.mode;have aq:=h.P3;rcases h.Du hi with rfl | ⟨a,b⟩ | ⟨k,ah,rfl⟩ | ⟨Z,rfl⟩
 ·
  obtain⟨al,ap,ai⟩:=h.main;have:al=p:=by rw [ap] at U;exact Nx.ph.inj U
  subst this;have au:∀q,Fi F.n j c q→(∀ar vs,q≠ .Bh ar vs)→c=false:=by
   intro q am an;cases q <;> simp [Fi] at am <;> first | exact am.2.2 | exact am.2 | exact absurd rfl (an _ _)
  have ae:=h.FX;cases al <;> simp only [Fi] at ai <;> (try exact ai.elim) <;> simp only [Fam.act] at K <;> (try (cases K;done))
  ·cases K;obtain⟨rfl,ag,rfl⟩:=ai;exact h.Hw (p:= .Fv _) ⟨rfl,ag,rfl⟩ (by rw [U];rfl) (by rw [U];rfl) (by rw [U] at ae;exact ae) (by simpa [BA] using O)
  ·split at K
   ·rename_i aa;cases K;obtain⟨rfl,ag,rfl⟩:=ai;rw [U] at ae;simp only [pend,Nat.add_zero] at ae;simp only [Bool.false_eq_true,if_false,BA] at O;split
    ·exact h.Hw (p:= .EU _) ⟨rfl,ag,rfl⟩ (by rw [U];rfl) (by rw [U];simp [pend]) (by simp [pend];omega) ⟨O.1,O.2.1,O.2.2.1,rfl,O.2.2.2.2⟩
    ·exact h.Hw (p:= .D2 _) ⟨rfl,ag,rfl⟩ (by rw [U];rfl) (by rw [U];simp [pend]) (by simp [pend];omega) ⟨O.1,O.2.1,O.2.2.1,rfl,O.2.2.2.2⟩
   ·cases K
  ·cases K;obtain⟨rfl,ag,rfl⟩:=ai;exact h.Hw (p:= .D2 _) ⟨rfl,ag,rfl⟩ (by rw [U];rfl) (by rw [U];rfl) (by rw [U] at ae;exact ae) (by simpa [BA] using O)
  ·cases K;obtain⟨rfl,ag,rfl⟩:=ai;exact h.Hw (p:= .Di _) ⟨rfl,ag,rfl⟩ (by rw [U];rfl) (by rw [U];rfl) (by rw [U] at ae;exact ae) (by simpa [BA] using O)
  ·cases K;obtain⟨rfl,ag,rfl⟩:=ai;exact h.Hw (p:= .Er _) ⟨rfl,ag,rfl⟩ (by rw [U];rfl) (by rw [U];rfl) (by rw [U] at ae;exact ae) (by simpa [BA] using O)
 ·have:=h.old i a b;rw [U] at this;exact this.elim
 ·
  have hw:=h.work k ah;rw [U] at hw;have av:∀q k',q=Nx.ph p→(∀k',p≠ .Bs k')→q≠ .ph (.Bs k'):=by
   rintro q k' rfl an e;exact an k' (Nx.ph.inj e)
  cases p <;> simp only [FI] at hw <;> (try exact hw.elim) <;> simp only [Fam.act] at K <;> (try (cases K;done))
  ·cases K;refine h.FR ah (x:= .ph .FQ) trivial (fun k'=>by rw [U];simp) (by simp) (by rw [U];rfl) fun L S V Y=>?_;rw [U] at V Y;simp only [cL,cS,Nat.add_zero] at V Y;subst V Y;exact O
  ·cases K;refine h.FR ah (x:= .ph .EP) trivial (fun k'=>by rw [U];simp) (by simp) (by rw [U];rfl) fun L S V Y=>?_;rw [U] at V Y;simp only [cL,cS,Nat.add_zero] at V Y;subst V Y;exact O
  ·split at K
   ·rename_i aa;cases K;have ak:∀y ab ac L S,y=(if c=true then φ (N0+F.n) else .ph .BD)→BA y v wt sm ab ac cl→(if v=1∧wt=1 then L=ab+1 else L=ab)→S=ac→BA y (v - 1) wt sm L S cl:=by
     intro y ab ac L S aw hm V Y;cases y with
     | gone d=>simp only [BA] at hm ⊢;split at V <;> omega
     | ph q=>
      cases q <;> simp only [BA] at hm ⊢ <;> (try exact hm) <;> (try (split at V <;> omega))
      ·split at V
       ·exfalso;omega
       ·exact⟨by omega,by omega,by omega,by omega,hm.2.2.2.2⟩
      ·split at V
       ·exfalso;omega
       ·exact⟨by omega,by omega,by omega,by omega,hm.2.2.2.2.1,by omega⟩
      ·split at V
       ·exfalso;omega
       ·exact⟨by omega,by omega,by omega,by omega,hm.2.2.2.2.1,by omega,by omega⟩
      ·split at V
       ·exact⟨by omega,by omega,hm.2.2⟩
       ·exact⟨by omega,by omega,hm.2.2⟩
      ·split at V
       ·exact⟨by omega,by omega,hm.2.2⟩
       ·exact⟨by omega,by omega,hm.2.2⟩
      ·split at V
       ·exact⟨by omega,by omega,hm.2.2⟩
       ·exact⟨by omega,by omega,hm.2.2⟩
    split
    ·rename_i aj;refine h.FR ah (x:= .ph .Ef) trivial (fun k'=>by rw [U];simp) (by simp) (by rw [U];simp [cU];omega) fun L S V Y=>?_;rw [U] at V Y;simp only [cL,cS,Nat.add_zero] at V Y;exact ak _ _ _ L S rfl O (by rw [if_pos aj];exact V) Y
    ·rename_i aj;refine h.FR ah (x:= .gone 1) trivial (fun k'=>by rw [U];simp) (by simp) (by rw [U];simp [cU];omega) fun L S V Y=>?_;rw [U] at V Y;simp only [cL,cS,Nat.add_zero] at V Y;exact ak _ _ _ L S rfl O (by rw [if_neg aj];exact V) Y
   ·cases K
  ·split at K
   ·rename_i aa;cases K;refine h.FR ah (x:= .ph .Eo) trivial (fun k'=>by rw [U];simp) (by simp) (by rw [U];simp [cU];omega) fun L S V Y=>?_;rw [U] at V Y;simp only [cL,cS,Nat.add_zero] at V Y;have e:L=sumTo N fun i=>cL (φ i):=by
     have ay:L+1=(sumTo N fun i=>cL (φ i))+1:=V;omega
    obtain⟨aj,ao⟩:=aa;subst e Y aj ao;exact O
   ·cases K
  ·split at K
   ·rename_i aa;cases K;obtain⟨aj,ao⟩:=aa;subst aj ao;refine h.FR ah (x:= .ph .CQ) trivial (fun k'=>by rw [U];simp) (by simp) (by rw [U];simp [cU]) fun L S V Y=>?_;rw [U] at V Y;simp only [cL,cS,Nat.add_zero] at V Y;have ak:∀y ab ac,BA y 0 1 sm ab ac cl→L+1=ab→S=ac+1→BA y 0 0 sm L S cl:=by
     intro y ab ac hm V Y;cases y with
     | gone d=>simp only [BA] at hm ⊢;omega
     | ph q=>
      cases q <;> simp only [BA] at hm ⊢ <;> (try exact hm) <;> (try (exfalso;omega))
      ·exact⟨by omega,by omega,hm.2.2⟩
      ·exact⟨by omega,by omega,hm.2.2⟩
      ·exact⟨by omega,by omega,hm.2.2⟩
    exact ak _ _ _ O V Y
   ·cases K
  ·split at K
   ·rename_i aa;cases K;subst aa;refine h.FR ah (x:= .gone 1) trivial (fun k'=>by rw [U];simp) (by simp) (by rw [U];simp [cU]) fun L S V Y=>?_;rw [U] at V Y;simp only [cL,cS,Nat.add_zero] at V Y;have ak:∀y ab ac,BA y v wt 0 ab ac cl→L=ab→S+1=ac→BA y v wt 1 L S cl:=by
     intro y ab ac hm V Y;cases y with
     | gone d=>simp only [BA] at hm ⊢;omega
     | ph q=>
      cases q <;> simp only [BA] at hm ⊢ <;> (try exact hm) <;> (try (exfalso;omega))
      ·exact⟨by omega,by omega,hm.2.2⟩
      ·exact⟨by omega,by omega,hm.2.2⟩
      ·exact⟨by omega,by omega,hm.2.2⟩
    exact ak _ _ _ O V Y
   ·cases K
  ·cases K;refine h.FR ah (x:= .ph .Eg) trivial (fun k'=>by rw [U];simp) (by simp) (by rw [U];rfl) fun L S V Y=>?_;rw [U] at V Y;simp only [cL,cS,Nat.add_zero] at V Y;subst V Y;exact O
 ·
  have hw:=h.cls Z;rw [if_pos Z,U] at O;rw [U] at hw;obtain⟨al,ap,ai⟩:=h.main;cases p <;> simp only [Fj] at hw <;> (try exact hw.elim) <;> simp only [Fam.act] at K <;> (try (cases K;done)) <;> simp only [BA] at O
  ·cases K;exact h.D1 Z (x:= .ph (.DG F.n)) trivial ⟨O.1,O.2.1,O.2.2.1,O.2.2.2.1,O.2.2.2.2,aq⟩
  ·split at K
   ·rename_i m aa;cases K;split
    ·exact h.D1 Z (x:= .ph .Dt) trivial ⟨O.1,O.2.1,O.2.2.1,rfl,by assumption,O.2.2.2.2.1⟩
    ·exact h.D1 Z (x:= .ph (.EN _)) trivial ⟨O.1,O.2.1,O.2.2.1,rfl,O.2.2.2.2.1,Nat.le_refl _,by omega⟩
   ·cases K
  ·split at K
   ·rename_i m aa;split at K
    ·cases K;exact h.D1 Z (x:= .ph .Fz) trivial ⟨by omega,by omega,O.2.2.2.2.1⟩
    ·cases K;exact h.D1 Z (x:= .ph (.DG _)) trivial ⟨O.1,O.2.1,O.2.2.1,rfl,O.2.2.2.2.1,by omega⟩
   ·cases K
  ·cases K;exact h.D1 Z (x:= .ph .BU) trivial O
  ·split at K
   ·rename_i aa;cases K;exact h.D1 Z (x:= .ph .Ep) trivial ⟨by omega,by omega,rfl,by omega,by omega,O.2.2⟩
   ·cases K
  ·split at K
   ·rename_i aa;obtain⟨rfl,rfl⟩:=aa;cases K;exact h.D1 Z (x:= .ph .Dt) trivial O
   ·cases K
  ·cases K;exact h.D1 Z (x:= .ph .Ft) trivial O
  ·cases K;exact h.D1 Z (x:= .ph .Cc) trivial O
  ·cases K;exact h.D1 Z (x:= .ph .EV) trivial O
  ·cases K;exact h.D1 Z (x:= .ph .Eu) trivial O
end
end Pal
namespace Pal
open Go Go.Conc
open Go.ConcN (upd upd_same upd_ne sumTo sumTo_upd sumTo_upd_out sumTo_congr le_sumTo sumTo_le fork_knows)
section
variable {F:Fam}{N0 N j:Nat}{c:Bool}{φ:Nat→Nx}{v wt sm:Nat}{cl:Bool}
theorem Bi.spawn(h:Bi F N0 N j c φ v wt sm cl)(U:φ 0= .ph (.Di j)):
  Bi F N0 (N+1) (j+1) c (upd (upd φ N (.ph (F.start j))) 0 (.ph (F.Cd j))) v wt sm cl:=by
 obtain⟨ai,aj,ak⟩:=h.main;obtain rfl:ai= .Di j:=by rw [aj] at U;exact Nx.ph.inj U
 obtain⟨_,aq,rfl⟩:=ak;have al:=h.size;have ar:=h.pos;simp only [Bool.toNat_false,Nat.add_zero] at al;have Y:cU (.ph (F.start j))=1∧cL (.ph (F.start j))=0∧cS (.ph (F.start j))=0:=by
  unfold Fam.start;split <;> exact⟨rfl,rfl,rfl⟩
 have K:cU (.ph (F.Cd j))=0∧cL (.ph (F.Cd j))=0∧cS (.ph (F.Cd j))=0∧pend (.ph (F.Cd j))=0∧got (.ph (F.Cd j))= []:=by
  unfold Fam.Cd;split <;> exact⟨rfl,rfl,rfl,rfl,rfl⟩
 have Z:cU (φ 0)=0∧cL (φ 0)=0∧cS (φ 0)=0:=by rw [U];exact⟨rfl,rfl,rfl⟩
 let V:Nat→Nx:=upd (upd φ N (.ph (F.start j))) 0 (.ph (F.Cd j));have O:V 0= .ph (F.Cd j):=upd_same _ _ _;have aa:V N= .ph (F.start j):=by show upd _ _ _ _=_;rw [upd_ne _ _ (by omega),upd_same]
 have ab:∀i,0<i→i≠N→V i=φ i:=fun i ac ae=>by show upd _ _ _ _=_;rw [upd_ne _ _ (by omega),upd_ne _ _ ae]
 have sum:∀f:Nx→Nat,f (φ 0)=0→f (.ph (F.Cd j))=0→(sumTo (N+1) fun i=>f (V i))=(sumTo N fun i=>f (φ i))+f (.ph (F.start j)):=by
  intro f f0 f1;simp only [sumTo,aa];congr 1;have am:0<N:=by omega
  have:=sumTo_upd (upd φ N (.ph (F.start j))) (.ph (F.Cd j)) f am;have an:upd φ N (.ph (F.start j)) 0=φ 0:=upd_ne _ _ (by omega);rw [an,f0,f1] at this;have au:=sumTo_upd_out φ (.ph (F.start j)) f (i:=N) (j:=N) (Nat.le_refl _);show sumTo N (fun i=>f (upd (upd φ N (.ph (F.start j))) 0 (.ph (F.Cd j)) i))=_;omega
 have ag:=h.cnt;have ah:=h.FX;rw [U] at ag ah;simp only [pend] at ag ah;show Bi F N0 (N+1) (j+1) false V v wt sm cl;have ao:got (φ 0)= []:=by rw [U];rfl
 refine⟨h.pos,h.n1,h.Gm,by simp;omega,by omega,by simp,⟨F.Cd j,O,?_⟩,fun i ac ae=>by rw [ab i ac (by omega)];exact h.old i ac ae,fun k ap=>?_,by simp,?_,?_,?_,fun k ap hh=>?_,by rw [O,K.2.2.2.2];exact .nil,by rw [O,K.2.2.2.2];simp⟩
 ·unfold Fam.Cd;split
  ·exact⟨by assumption,rfl⟩
  ·exact⟨rfl,by omega,rfl⟩
 ·by_cases e:k=j
  ·subst e;rw [show N0+k=N by omega,aa];unfold Fam.start;split
   ·exact⟨rfl,by assumption⟩
   ·trivial
  ·rw [ab _ (by omega) (by omega)];exact h.work k (by omega)
 ·rw [O,K.2.2.2.1,sum cU Z.1 K.1,Y.1];exact ag
 ·rw [O,K.2.2.2.1];exact ah
 ·have hm:=h.mode;simp only [Bool.false_eq_true,if_false] at hm ⊢;rw [sum cL Z.2.1 K.2.1,sum cS Z.2.2 K.2.2.1,Y.2.1,Y.2.2];exact hm
 ·rw [O,K.2.2.2.2];by_cases e:k=j
  ·subst e;rw [show N0+k=N by omega,aa];unfold Fam.start;simp [hh]
  ·rw [ab _ (by omega) (by omega)];have:=h.ET k (by omega) hh
   rwa [ao] at this
theorem Bi.Um(h:Bi F N0 N j c φ v wt sm cl)(O:φ 0= .ph .DI):
  Bi F N0 (N+1) j true (upd (upd φ N (.ph .BD)) 0 (.ph (.Bh [] []))) v wt sm cl:=by
 obtain⟨ai,aj,ak⟩:=h.main;obtain rfl:ai= .DI:=by rw [aj] at O;exact Nx.ph.inj O
 obtain⟨ah,rfl⟩:=ak;have al:=h.size;have ap:=h.pos;simp only [Bool.toNat_false,Nat.add_zero] at al;have V:cU (φ 0)=0∧cL (φ 0)=0∧cS (φ 0)=0:=by rw [O];exact⟨rfl,rfl,rfl⟩
 let U:Nat→Nx:=upd (upd φ N (.ph .BD)) 0 (.ph (.Bh [] []));have K:U 0= .ph (.Bh [] []):=upd_same _ _ _;have Y:U N= .ph .BD:=by show upd _ _ _ _=_;rw [upd_ne _ _ (by omega),upd_same]
 have Z:∀i,0<i→i≠N→U i=φ i:=fun i aa ab=>by show upd _ _ _ _=_;rw [upd_ne _ _ (by omega),upd_ne _ _ ab]
 have sum:∀f:Nx→Nat,f (φ 0)=0→f (.ph (.Bh [] []))=0→f (.ph .BD)=0→(sumTo (N+1) fun i=>f (U i))=(sumTo N fun i=>f (φ i)):=by
  intro f f0 f1 f2;simp only [sumTo,Y,f2];have am:0<N:=by omega
  have:=sumTo_upd (upd φ N (.ph .BD)) (.ph (.Bh [] [])) f am;have an:upd φ N (.ph .BD) 0=φ 0:=upd_ne _ _ (by omega);rw [an,f0,f1] at this;have aq:=sumTo_upd_out φ (.ph .BD) f (i:=N) (j:=N) (Nat.le_refl _);show sumTo N (fun i=>f (upd (upd φ N (.ph .BD)) 0 (.ph (.Bh [] [])) i))+0=_;omega
 have ac:=h.cnt;have ae:=h.FX;rw [O] at ac ae;simp only [pend] at ac ae;show Bi F N0 (N+1) j true U v wt sm cl;have ao:got (φ 0)= []:=by rw [O];rfl
 refine⟨h.pos,h.n1,h.Gm,by simp;omega,h.jn,fun _=>ah,⟨.Bh [] [],K,ah,rfl⟩,fun i aa ab=>by rw [Z i aa (by omega)];exact h.old i aa ab,fun k ag=>?_,fun _=>by rw [show N0+F.n=N by omega,Y];trivial,?_,?_,?_,fun k ag hh=>?_,by rw [K];exact .nil,by rw [K];simp [got]⟩
 ·rw [Z _ (by omega) (by omega)];exact h.work k ag
 ·rw [K,sum cU V.1 rfl rfl];exact ac
 ·rw [K];exact ae
 ·have hm:=h.mode;simp only [Bool.false_eq_true,if_false,if_true] at hm ⊢;rw [show N0+F.n=N by omega,Y,sum cL V.2.1 rfl rfl,sum cS V.2.2 rfl rfl];exact hm
 ·rw [K];rw [Z _ (by omega) (by omega)];have:=h.ET k ag hh
  rwa [ao] at this
theorem Bi.meet(h:Bi F N0 N j c φ v wt sm cl){K:List Nat}{vs:List Value}{k:Nat}{x:Value}(O:φ 0= .ph (.Bh K vs))(ac:k<j)(hw:φ (N0+k)= .ph (.Bs k)):
  Bi F N0 N j c (upd (upd φ (N0+k) (.ph .BB)) 0 (.ph (.Bh (K++ [k]) (vs++ [x])))) v wt sm cl:=by
 obtain⟨aj,ak,al⟩:=h.main;obtain rfl:aj= .Bh K vs:=by rw [ak] at O;exact Nx.ph.inj O
 obtain⟨am,rfl⟩:=al;have an:=h.size;have av:=h.pos;have ae:F.has k=true:=by have:=h.work k ac;rw [hw] at this;exact this.2
 have ao:k ∉ K:=by have:=(h.ET k ac ae).1 hw;rwa [O] at this
 let V:Nat→Nx:=upd (upd φ (N0+k) (.ph .BB)) 0 (.ph (.Bh (K++ [k]) (vs++ [x])));have U:V 0= .ph (.Bh (K++ [k]) (vs++ [x])):=upd_same _ _ _;have ag:V (N0+k)= .ph .BB:=by show upd _ _ _ _=_;rw [upd_ne _ _ (by omega),upd_same]
 have Y:∀i,0<i→i≠N0+k→V i=φ i:=fun i Z aa=>by show upd _ _ _ _=_;rw [upd_ne _ _ (by omega),upd_ne _ _ aa]
 have sum:∀f:Nx→Nat,f (φ 0)=f (.ph (.Bh (K++ [k]) (vs++ [x])))→f (.ph (.Bs k))=f (.ph .BB)→(sumTo N fun i=>f (V i))=(sumTo N fun i=>f (φ i)):=by
  intro f f0 f1;have ap:0<N:=by omega
  have Z:=sumTo_upd (upd φ (N0+k) (.ph .BB)) (.ph (.Bh (K++ [k]) (vs++ [x]))) f ap;have aq:upd φ (N0+k) (.ph .BB) 0=φ 0:=upd_ne _ _ (by omega);have aa:=sumTo_upd φ (.ph .BB) f (show N0+k<N by omega);rw [aq] at Z;rw [hw] at aa;show sumTo N (fun i=>f (upd (upd φ (N0+k) (.ph .BB)) 0 (.ph (.Bh (K++ [k]) (vs++ [x]))) i))=_;omega
 have ah:=h.cnt;have ai:=h.FX;rw [O] at ah ai;show Bi F N0 N j true V v wt sm cl;refine⟨h.pos,h.n1,h.Gm,an,h.jn,h.cj,⟨_,U,am,rfl⟩,fun i Z aa=>by rw [Y i Z (by omega)];exact h.old i Z aa,fun k' ab=>?_,fun ar=>?_,?_,?_,?_,fun k' ab hh=>?_,?_,?_⟩
 ·by_cases e:k'=k
  ·subst e;rw [ag];trivial
  ·rw [Y _ (by omega) (by omega)];exact h.work k' ab
 ·rw [Y _ (by omega) (by omega)];exact h.cls ar
 ·rw [U,sum cU (by rw [O];rfl) rfl];exact ah
 ·rw [U];exact ai
 ·have hm:=h.mode;simp only [if_true] at hm ⊢;rw [Y _ (by omega) (by omega),sum cL (by rw [O];rfl) rfl,sum cS (by rw [O];rfl) rfl];exact hm
 ·rw [U];show _↔k' ∉ K++ [k];by_cases e:k'=k
  ·subst e;rw [ag];simp
  ·rw [Y _ (by omega) (by omega)];have:=h.ET k' ab hh;rw [O] at this;rw [this];show k' ∉ K↔_;simp [e]
 ·rw [U];have:=h.nd;rw [O] at this;show(K++ [k]).Nodup;rw [List.nodup_append];exact⟨this,by simp,fun a au b hb=>by simp at hb;subst hb;exact fun e=>ao (e▸au)⟩
 ·rw [U];intro k' ab;have hs:=h.sub;rw [O] at hs;rcases List.mem_append.1 ab with q | q
  ·exact hs k' q
  ·simp at q;subst q;exact⟨ac,ae⟩
theorem Bi.close(h:Bi F N0 N j c φ v wt sm cl)(K:c=true)(O:φ (N0+F.n)= .ph .Cc):Bi F N0 N j c (upd φ (N0+F.n) (.gone 0)) v wt sm true:=by
 have hm:=h.mode;rw [if_pos K,O] at hm;exact h.D1 K (x:= .gone 0) trivial ⟨hm.1,hm.2.1,hm.2.2.1,hm.2.2.2.1,hm.2.2.2.2.1,rfl⟩
theorem Bi.leave(h:Bi F N0 N j c φ v wt sm cl){i d K:Nat}(hi:i<N)(O:φ i= .gone d):Bi F N0 N j c (upd φ i (.gone K)) v wt sm cl:=by
 rcases h.Du hi with rfl | ⟨a,b⟩ | ⟨k,V,rfl⟩ | ⟨Y,rfl⟩
 ·obtain⟨p,Z,_⟩:=h.main;rw [O] at Z;cases Z
 ·have ae:=hi;have z:∀f:Nx→Nat,f (.gone d)=0→f (.gone K)=0→(sumTo N fun a=>f (upd φ i (.gone K) a))=sumTo N fun a=>f (φ a):=by
   intro f f0 f1;have:=sumTo_upd φ (.gone K) f ae;rw [O] at this;omega
  have ak:=h.size;have U:upd φ i (.gone K) 0=φ 0:=upd_ne _ _ (by omega);refine⟨h.pos,h.n1,h.Gm,h.size,h.jn,h.cj,by rw [U];exact h.main,fun aa ag ah=>?_,fun k V=>by rw [upd_ne _ _ (by omega)];exact h.work k V,fun Y=>by rw [upd_ne _ _ (by omega)];exact h.cls Y,by rw [U,z cU rfl rfl];exact h.cnt,by rw [U];exact h.FX,?_,fun k V hh=>by rw [U,upd_ne _ _ (by omega)];exact h.ET k V hh,by rw [U];exact h.nd,by rw [U];exact h.sub⟩
  ·by_cases e:aa=i
   ·subst e;rw [upd_same];trivial
   ·rw [upd_ne _ _ e];exact h.old aa ag ah
  ·rw [z cL rfl rfl,z cS rfl rfl,upd_ne _ _ (by omega)];exact h.mode
 ·refine h.FR V (x:= .gone K) trivial (by rw [O];simp) (by simp) (by rw [O];rfl) fun L S ab ac=>?_;rw [O] at ab ac;have ai:L=sumTo N fun i=>cL (φ i):=ab;have aj:S=sumTo N fun i=>cS (φ i):=ac;subst ai aj;exact h.mode
 ·have hm:=h.mode;rw [if_pos Y,O] at hm;exact h.D1 Y (x:= .gone K) trivial hm
theorem Bi.LG(h:Bi F N0 N j c φ v wt sm cl)(O:c=true)(U:φ (N0+F.n)= .ph .Ep∨φ (N0+F.n)= .ph .Dt∨φ (N0+F.n)= .ph .Eu∨φ (N0+F.n)= .ph .Cc∨Dd (φ (N0+F.n))):∀k,k<j→Dd (φ (N0+k)):=by
 intro k V;have hm:=h.mode;rw [if_pos O] at hm;have Y:=h.size;have Z:=h.cnt;have aa:cU (φ (N0+k))≤sumTo N fun i=>cU (φ i):=le_sumTo (f:=fun i=>cU (φ i)) (show N0+k<N by omega);have ab:cL (φ (N0+k))≤sumTo N fun i=>cL (φ i):=le_sumTo (f:=fun i=>cL (φ i)) (show N0+k<N by omega);have h3:cS (φ (N0+k))≤sumTo N fun i=>cS (φ i):=le_sumTo (f:=fun i=>cS (φ i)) (show N0+k<N by omega);have ac:v=0∧(sumTo N fun i=>cL (φ i))=0∧(sumTo N fun i=>cS (φ i))=0:=by
  rcases U with e | e | e | e | e
  ·rw [e] at hm;exact⟨hm.2.2.2.2.1,hm.1,hm.2.1⟩
  ·rw [e] at hm;exact⟨hm.2.2.2.2.1,hm.1,hm.2.1⟩
  ·rw [e] at hm;exact⟨hm.2.2.2.2.1,hm.1,hm.2.1⟩
  ·rw [e] at hm;exact⟨hm.2.2.2.2.1,hm.1,hm.2.1⟩
  ·cases K:φ (N0+F.n) with
   | gone d=>rw [K] at hm;exact⟨hm.2.2.2.2.1,hm.1,hm.2.1⟩
   | ph p=>rw [K] at e;exact e.elim
 have hw:=h.work k V;cases K:φ (N0+k) with
 | gone d=>trivial
 | ph p=>
  have ae:1≤cU (φ (N0+k))+cL (φ (N0+k))+cS (φ (N0+k)):=by
   rw [K] at hw ⊢;cases p <;> simp only [FI] at hw <;> simp [cU,cL,cS]
  exfalso;omega
end
open Go.ConcN (RelBy)
def Cx:Nx→Nat
 | .gone d=>d
 | .ph .EP | .ph .Ef | .ph .Eo | .ph .CQ=>1
 | .ph (.DG _) | .ph (.EN _) | .ph .Fz | .ph .EV | .ph .BU | .ph .Ep | .ph .Dt=>1
 | .ph (.Fv _) | .ph (.EU _) | .ph (.Er _) | .ph (.D2 _)=>1
 | _=>0
def late:Nx→Prop
 | .ph (.Bs _) | .ph .BB | .ph .Eg=>False
 | _=>True
def GN(F:Fam)(N0 t0:Nat)(t:Trace)(q:Nat):Prop:=
 t.act? q=some (.mark (.acquire F.sA))∧t.g? q=some (N0+F.n)∧t.heard q∧∀k,k<F.n→∃ρ,t0≤ρ∧ρ<q∧RelBy F.sA t (N0+k) ρ
def Il(F:Fam)(N0 t0:Nat)(t:Trace)(p:Nat):Prop:=
 t.act? p=some (.close F.ch)∧t.g? p=some (N0+F.n)∧t.heard p∧(∃q,q<p∧GN F N0 t0 t q)∧∀x,p<x→t.g? x=some (N0+F.n)→¬t.counts x
structure Cl (F:Fam) (N0 t0 N j:Nat) (c:Bool) (φ:Nat→Nx) (t:Trace):Prop where
 deaf:∀i,i<N→Deaf t i=Cx (φ i)
 above:∀i,N≤i→Deaf t i=0
 plain:∀x a b,touchAt t x=some a→Cb a.loc=some b→(b=F.wg∨b=F.ch)→a.kind= .plain→∀i,i<N→(i=0∨N0≤i)→Knows t i x
 said:∀x a b,touchAt t x=some a→Cb a.loc=some b→(b=F.wg∨b=F.ch)→a.kind= .said→Knows t (if c=true then N0+F.n else 0) x
 over:∀x g,t.g? x=some g→g≠0→t.counts x→(∃y,t.g? y=some 0∧HappensBefore t x y)∨(N0≤g∧g<N)
 norel:∀x,t0≤x→t.act? x≠some (.mark (.release F.sA))
 Io:t0≤t.size
 rel:∀k,k<j→late (φ (N0+k))→∃ρ,t0≤ρ∧RelBy F.sA t (N0+k) ρ
 acq:c=true→(φ (N0+F.n)= .ph .Cc∨Dd (φ (N0+F.n)))→∃q,GN F N0 t0 t q
 HC:c=true→Dd (φ (N0+F.n))→∃p,Il F N0 t0 t p
section
variable {F:Fam}{N0 t0 N j:Nat}{c:Bool}{φ:Nat→Nx}{t u:Trace}
def EvS(F:Fam)(K:Prop)(e:Event):Prop:=
 (∀a,(MemAct.ofEvent e).touch? =some a→(∃b,Cb a.loc=some b∧(b=F.wg∨b=F.ch))∧a.kind≠ .plain∧(a.kind= .said→K))∧e.loc≠ .mark (.release F.sA)
theorem Cl.noRace(h:Cl F N0 t0 N j c φ t)(Y:∀said,¬Race said t){i:Nat}(hi:i<N)(Z:i=0∨N0≤i){fn:FuncId}{pos:String}{es:Array Event}
  (aa:∀e∈es,EvS F (i=if c=true then N0+F.n else 0) e):∀said,¬Race said (t++MemOp.ofEvents i fn pos es):=by
 intro said;refine noRace_append (g:=i) (Y said) (fun op K=>by obtain⟨e,_,rfl⟩:=mem_ofEvents K;rfl) fun x a O op K d ab ac=>?_;obtain⟨e,he,rfl⟩:=mem_ofEvents K;obtain⟨⟨b,hb,U⟩,ae,hs⟩:=(aa e he).1 d ab;obtain⟨ag,hm,aj,ah⟩:=ac;have V:Cb a.loc=some b:=by rw [ag];exact hb
 rcases ah with q | q | ⟨_,q,ai⟩
 ·exact h.plain x a b O V U q i hi Z
 ·exact absurd q ae
 ·have:=h.said x a b O V U q
  rwa [← hs ai] at this
theorem GN.app{q:Nat}(h:GN F N0 t0 t q)(V:∀k ρ,k<F.n→RelBy F.sA t (N0+k) ρ→RelBy F.sA (t++u) (N0+k) ρ):GN F N0 t0 (t++u) q:=by
 obtain⟨O,Y,h3,Z⟩:=h;have K:=lt_of_act? O;exact⟨by rw [act?_old K];exact O,by rw [g?_old K];exact Y,(heard_old K).2 h3,fun k U=>let ⟨ρ,a,b,d⟩:=Z k U;⟨ρ,a,b,V k ρ U d⟩⟩
theorem Il.app{p:Nat}(h:Il F N0 t0 t p)(V:∀k ρ,k<F.n→RelBy F.sA t (N0+k) ρ→RelBy F.sA (t++u) (N0+k) ρ)(Y:∀x,t.size≤x→(t++u).g? x=some (N0+F.n)→¬(t++u).counts x):Il F N0 t0 (t++u) p:=by
 obtain⟨O,Z,h3,⟨q,aa,ab⟩,h6⟩:=h;have K:=lt_of_act? O;refine⟨by rw [act?_old K];exact O,by rw [g?_old K];exact Z,(heard_old K).2 h3,⟨q,aa,ab.app V⟩,fun x ac hg U=>?_⟩;rcases Nat.lt_or_ge x t.size with q | q
 ·exact h6 x ac (by rw [← g?_old (u:=u) q];exact hg) ((counts_old q).1 U)
 ·exact Y x q hg U
theorem NH(h:∀x g,t.g? x=some g→g≠0→t.counts x→(∃y,t.g? y=some 0∧HappensBefore t x y)∨(N0≤g∧g<N))(hu:∀op∈u,op.g=0∨(N0≤op.g∧op.g<N)∨op.act.touch? =none):
  ∀x g,(t++u).g? x=some g→g≠0→(t++u).counts x→(∃y,(t++u).g? y=some 0∧HappensBefore (t++u) x y)∨(N0≤g∧g<N):=by
 intro x g hg O U;rcases Nat.lt_or_ge x t.size with q | q
 ·rcases h x g (by rw [← g?_old (u:=u) q];exact hg) O ((counts_old q).1 U) with⟨y,K,hb⟩ | hh
  ·have aa:y<t.size:=by
    unfold Trace.g? at K;obtain⟨z,ab,_⟩:=Option.map_eq_some_iff.1 K;exact lt_size_of_getElem? ab
   exact .inl ⟨y,by rw [g?_old aa];exact K,hb_app u hb⟩
  ·exact .inr hh
 ·obtain⟨a,ac,_⟩:=U;obtain⟨op,V,Y⟩:=touch_of ac;have Z:op.g=g:=by simpa [Trace.g?,V] using hg
  rcases getElem?_append_cases V with⟨ag,_⟩ | ⟨_,ae⟩
  ·omega
  ·rcases hu op ae with z | z | z
   ·exact absurd (Z▸z) O
   ·exact .inr (Z▸z)
   ·rw [z] at Y;cases Y
theorem Nf(h:∀x,t0≤x→t.act? x≠some (.mark (.release F.sA)))(hu:∀op∈u,op.act≠ .mark (.release F.sA)):∀x,t0≤x→(t++u).act? x≠some (.mark (.release F.sA)):=by
 intro x O e;obtain⟨op,U,K⟩:=Option.map_eq_some_iff.1 e;rcases getElem?_append_cases U with⟨_,V⟩ | ⟨_,Y⟩
 ·exact h x O (by rw [act?_of V,K])
 ·exact hu op Y K
theorem Qa{i g:Nat}(hu:∀op∈u,op.g=i)(K:i≠g):∀x,t.size≤x→(t++u).g? x=some g→¬(t++u).counts x:=by
 intro x Y hg;obtain⟨op,O,U⟩:=Option.map_eq_some_iff.1 hg;rcases getElem?_append_cases O with⟨Z,_⟩ | ⟨_,V⟩
 ·omega
 ·exact absurd ((hu op V).symm.trans U) K
theorem Mx{g:Nat}(hu:∀op∈u,op.g=g→op.act.touch? =none):∀x,t.size≤x→(t++u).g? x=some g→¬(t++u).counts x:=by
 intro x Z hg U;obtain⟨a,V,_⟩:=U;obtain⟨op,K,O⟩:=touch_of V;rcases getElem?_append_cases K with⟨aa,_⟩ | ⟨_,Y⟩
 ·omega
 ·rw [hu op Y (by simpa [Trace.g?,K] using hg)] at O;cases O
theorem Cl.app(h:Cl F N0 t0 N j c φ t){i:Nat}(hi:i<N){x:Nx}{fn:FuncId}{pos:String}{es:Array Event}(aF:j≤F.n)
  (au:deafBehind (Cx (φ i)) es=Cx x)
  (ak:∀e∈es,(∀a b,(MemAct.ofEvent e).touch? =some a→Cb a.loc=some b→(b=F.wg∨b=F.ch)→a.kind≠ .plain∧(a.kind= .said→i=if c=true then N0+F.n else 0))∧e.loc≠ .mark (.release F.sA))
  (av:(i=0∨N0≤i)∨∀e∈es,(MemAct.ofEvent e).touch? =none)
  (al:c=true→(φ (N0+F.n)= .ph .Cc∨Dd (φ (N0+F.n)))→∀k,k<F.n→late (φ (N0+k)))
  (aw:∀k,k<F.n→i=N0+k→late (φ i)→∀ρ,RelBy F.sA t i ρ→RelBy F.sA (t++MemOp.ofEvents i fn pos es) i ρ)
  (ay:∀k,k<j→i=N0+k→late x→¬late (φ i)→∃ρ,t0≤ρ∧RelBy F.sA (t++MemOp.ofEvents i fn pos es) i ρ)
  (az:c=true→i=N0+F.n→(x= .ph .Cc∨Dd x)→(∃q,GN F N0 t0 (t++MemOp.ofEvents i fn pos es) q)∨(φ i= .ph .Cc∨Dd (φ i)))
  (aA:c=true→i=N0+F.n→Dd x→(∃p,Il F N0 t0 (t++MemOp.ofEvents i fn pos es) p)∨(Dd (φ i)∧∀e∈es,(MemAct.ofEvent e).touch? =none)):
  Cl F N0 t0 N j c (upd φ i x) (t++MemOp.ofEvents i fn pos es):=by
 generalize hu:MemOp.ofEvents i fn pos es=u at*;have Z:∀op∈u,op.g=i:=fun op O=>by rw [← hu] at O;obtain⟨e,_,rfl⟩:=mem_ofEvents O;rfl
 have ai:∀op∈u,∃e∈es,op.act=MemAct.ofEvent e:=fun op O=>by rw [← hu] at O;obtain⟨e,he,rfl⟩:=mem_ofEvents O;exact⟨e,he,rfl⟩
 have hold:∀{y a},touchAt (t++u) y=some a→touchAt t y=some a∨(Knows (t++u) i y∧∃e∈es,(MemAct.ofEvent e).touch? =some a):=by
  intro y a U;obtain⟨op,O,aq⟩:=touch_of U;rcases getElem?_append_cases O with⟨aG,aB⟩ | ⟨_,ar⟩
  ·left;rw [touchAt_of aB];exact aq
  ·right;obtain⟨e,he,aa⟩:=ai op ar;exact⟨by have:=knows_own O;rwa [Z op ar] at this,e,he,by rw [← aa];exact aq⟩
 have aj:∀k ρ,k<F.n→late (φ (N0+k))→RelBy F.sA t (N0+k) ρ→RelBy F.sA (t++u) (N0+k) ρ:=by
  intro k ρ K ac Y;by_cases e:i=N0+k
  ·have:=aw k K e (e▸ac) ρ (e▸Y)
   rwa [e] at this
  ·exact Y.appOther Z e
 refine⟨fun ab ae=>?_,fun ab ae=>?_,fun y a b am hb ag K ab ae ah=>?_,fun y a b am hb ag K=>?_,NH h.over fun op O=>?_,Nf h.norel fun op O e=>?_,by simp;have:=h.Io;omega,fun k K ac=>?_,fun V U=>?_,fun V U=>?_⟩
 ·by_cases e:ab=i
  ·subst e;rw [upd_same,← hu,Deaf_own,h.deaf ab hi,au]
  ·rw [upd_ne _ _ e,Deaf_other t (Ne.symm e) u Z];exact h.deaf ab ae
 ·rw [Deaf_other t (by omega) u Z];exact h.above ab ae
 ·rcases hold am with q | ⟨_,e,he,an⟩
  ·exact(h.plain y a b q hb ag K ab ae ah).app _
  ·exact absurd K ((ak e he).1 a b an hb ag).1
 ·rcases hold am with q | ⟨aC,e,he,an⟩
  ·exact(h.said y a b q hb ag K).app _
  ·rw [← ((ak e he).1 a b an hb ag).2 K];exact aC
 ·rw [Z op O];rcases av with(q | q) | q
  ·exact .inl q
  ·exact .inr (.inl ⟨q,hi⟩)
  ·obtain⟨e,he,aa⟩:=ai op O;rw [aa];exact .inr (.inr (q e he))
 ·obtain⟨ev,ao,aa⟩:=ai op O;rw [aa] at e;exact(ak ev ao).2 (by
   obtain⟨loc,wr,aD⟩:=ev
   cases loc with
   | mark m=>simp only [MemAct.ofEvent,MemAct.mark.injEq] at e;rw [e]
   | obj r=>cases wr <;> cases aD <;> simp [MemAct.ofEvent] at e
   | _=>simp [MemAct.ofEvent] at e)
 ·by_cases e:i=N0+k
  ·subst e;rw [upd_same] at ac;by_cases ap:late (φ (N0+k))
   ·obtain⟨ρ,a,b⟩:=h.rel k K ap;exact⟨ρ,a,aj k ρ (by omega) ap b⟩
   ·exact ay k K rfl ac ap
  ·rw [upd_ne _ _ (Ne.symm e)] at ac;obtain⟨ρ,a,b⟩:=h.rel k K ac;exact⟨ρ,a,b.appOther Z e⟩
 ·have old:(φ (N0+F.n)= .ph .Cc∨Dd (φ (N0+F.n)))→∃q,GN F N0 t0 (t++u) q:=by
   intro U;obtain⟨q,aE⟩:=h.acq V U;exact⟨q,aE.app fun k ρ K Y=>aj k ρ K (al V U k K) Y⟩
  by_cases e:i=N0+F.n
  ·subst e;rw [upd_same] at U;rcases az V rfl U with q | q
   ·exact q
   ·exact old q
  ·rw [upd_ne _ _ (Ne.symm e)] at U;exact old U
 ·by_cases e:i=N0+F.n
  ·subst e;rw [upd_same] at U;rcases aA V rfl U with q | ⟨q,hm⟩
   ·exact q
   ·obtain⟨p,ah⟩:=h.HC V q;exact⟨p,ah.app (fun k ρ K Y=>aj k ρ K (al V (.inr q) k K) Y) (Mx fun op O _=>by obtain⟨ev,ao,aa⟩:=ai op O;rw [aa];exact hm ev ao)⟩
  ·rw [upd_ne _ _ (Ne.symm e)] at U;obtain⟨p,ah⟩:=h.HC V U;exact⟨p,ah.app (fun k ρ K Y=>aj k ρ K (al V (.inr U) k K) Y) (Qa Z e)⟩
end
end Pal
namespace Pal
open Go Go.Conc
open Go.ConcN (upd upd_same upd_ne sumTo sumTo_upd sumTo_upd_out sumTo_congr le_sumTo sumTo_le fork_knows RelBy)
section
variable {F:Fam}{N0 t0 N j:Nat}{c:Bool}{φ:Nat→Nx}{t u:Trace}{v wt sm v' wt' sm':Nat}{cl:Bool}
theorem MC{x:Nx}(h:Dd x):late x:=by
 cases x with
 | gone d=>trivial
 | ph p=>exact h.elim
theorem Ls{α:Type}(f:Nat→α)(i:Nat):upd f i (f i)=f:=by
 funext a;unfold upd;split
 ·rename_i e;rw [e]
 ·rfl
theorem Bi.Jq(K:Bi F N0 N j c φ v wt sm cl)(O:c=true)(h:φ (N0+F.n)= .ph .Cc∨Dd (φ (N0+F.n))):∀k,k<F.n→late (φ (N0+k)):=fun k U=>
 MC (K.LG O (h.elim (fun e=> .inr (.inr (.inr (.inl e)))) fun e=> .inr (.inr (.inr (.inr e)))) k (by rw [K.cj O];exact U))
theorem RF{m:Mark}(K:∀a,m≠ .read a)(O:∀a,m≠ .write a):(MemAct.ofEvent (Fam.CI m)).touch? =none:=by
 cases m <;> first | rfl | exact absurd rfl (K _) | exact absurd rfl (O _)
theorem Pq(p:Ph){es:Array Event}{nx:Nx}(K:F.act p v wt sm=some ((v',wt',sm'),es,nx)):
  (∀e∈es,EvS F (p= .EV∨∃j,p= .Er j) e)∧deafBehind (Cx (.ph p)) es=Cx nx∧(∀e∈es,∀B,F.wg<B→(MemAct.ofEvent e).low B):=by
 have ak:∀b w,(MemAct.ofEvent ⟨.cell F.sA,w,b⟩).touch? =some ⟨.cell F.sA,w,if b then .atomic else .plain⟩:=by intro b w;cases b <;> cases w <;> rfl
 have aa:∀(a:Addr) w (T:Prop),a.block=F.wg→EvS F T ⟨.cell a,w,true⟩:=by
  intro a w T hb;refine⟨fun x U=>?_,by simp⟩;have:x=⟨.cell a,w,.atomic⟩:=by cases w <;> (simp [MemAct.ofEvent,MemAct.touch?] at U;exact U.symm)
  subst this;exact⟨⟨F.wg,by simp [Cb,hb],.inl rfl⟩,by simp,by simp⟩
 have ab:∀(a:Addr) w B,a.block=F.wg→F.wg<B→(MemAct.ofEvent ⟨.cell a,w,true⟩).low B:=by
  intro a w B hb O;cases w <;> simp [MemAct.ofEvent,MemAct.low,Loc.low,hb,O]
 have Z:∀(m:Mark) (T:Prop),(∀a,m≠ .read a)→(∀a,m≠ .write a)→(∀a,m≠ .release a)→EvS F T (Fam.CI m):=by
  intro m T ai aj h3;exact⟨fun x U=>(by rw [RF ai aj] at U;cases U),fun e=>h3 _ (Loc.mark.inj e)⟩
 have ac:F.mA.block=F.wg:=rfl;have Y:F.sA.block=F.wg:=rfl;have CS:∀(T:Prop),∀e∈semEvents F.mA,EvS F T e:=by
  intro T e he;simp only [semEvents,List.mem_toArray,List.mem_cons,List.not_mem_nil,or_false] at he;rcases he with rfl | rfl | rfl | rfl
  ·exact Z .disable T (by simp) (by simp) (by simp)
  ·exact aa _ _ _ ac
  ·exact aa _ _ _ ac
  ·exact Z .enable T (by simp) (by simp) (by simp)
 have ah:∀e∈semEvents F.mA,∀B,F.wg<B→(MemAct.ofEvent e).low B:=by
  intro e he B O;simp only [semEvents,List.mem_toArray,List.mem_cons,List.not_mem_nil,or_false] at he;rcases he with rfl | rfl | rfl | rfl
  ·trivial
  ·exact ab _ _ _ ac O
  ·exact ab _ _ _ ac O
  ·trivial
 have ae:∀(T:Prop),∀e∈(#[Fam.Df F.sA,Fam.Gn F.sA]:Array Event),EvS F T e:=by
  intro T e he;simp only [List.mem_toArray,List.mem_cons,List.not_mem_nil,or_false] at he;rcases he with rfl | rfl <;> exact aa _ _ _ Y
 have ag:∀e∈(#[Fam.Df F.sA,Fam.Gn F.sA]:Array Event),∀B,F.wg<B→(MemAct.ofEvent e).low B:=by
  intro e he B O;simp only [List.mem_toArray,List.mem_cons,List.not_mem_nil,or_false] at he;rcases he with rfl | rfl <;> exact ab _ _ _ Y O
 have one:∀{e:Event} {T:Prop},EvS F T e→∀x∈(#[e]:Array Event),EvS F T x:=by
  intro e T h x U;simp at U;subst U;exact h
 have V:∀{e:Event},(∀B,F.wg<B→(MemAct.ofEvent e).low B)→∀x∈(#[e]:Array Event),∀B,F.wg<B→(MemAct.ofEvent x).low B:=by
  intro e h x U;simp at U;subst U;exact h
 cases p <;> simp only [Fam.act] at K <;> (try (cases K;done))
 ·cases K;exact⟨one (Z _ _ (by simp) (by simp) (by simp)),rfl,V fun B O=>O⟩
 ·cases K;exact⟨one (Z _ _ (by simp) (by simp) (by simp)),rfl,V fun B O=>trivial⟩
 ·split at K
  ·cases K;exact⟨ae _,by split <;> rfl,ag⟩
  ·cases K
 ·split at K
  ·cases K;exact⟨one (aa _ _ _ Y),rfl,V fun B O=>ab _ _ _ Y O⟩
  ·cases K
 ·split at K
  ·cases K;exact⟨one (aa _ _ _ Y),rfl,V fun B O=>ab _ _ _ Y O⟩
  ·cases K
 ·split at K
  ·cases K;exact⟨CS _,rfl,ah⟩
  ·cases K
 ·cases K;exact⟨one (Z _ _ (by simp) (by simp) (by simp)),rfl,V fun B O=>trivial⟩
 ·split at K
  ·cases K;exact⟨one (aa _ _ _ Y),by split <;> rfl,V fun B O=>ab _ _ _ Y O⟩
  ·cases K
 ·split at K
  ·split at K
   ·cases K;exact⟨ae _,rfl,ag⟩
   ·cases K;exact⟨one (aa _ _ _ Y),rfl,V fun B O=>ab _ _ _ Y O⟩
  ·cases K
 ·cases K;refine⟨one ⟨fun x U=>?_,by simp [Fam.CI]⟩,rfl,V fun B O=>O⟩;simp [Fam.CI,MemAct.ofEvent,MemAct.touch?] at U;subst U;exact⟨⟨F.wg,rfl,.inl rfl⟩,by simp,fun _=> .inl rfl⟩
 ·split at K
  ·cases K;exact⟨CS _,rfl,ah⟩
  ·cases K
 ·split at K
  ·cases K;exact⟨one (aa _ _ _ Y),rfl,V fun B O=>ab _ _ _ Y O⟩
  ·cases K
 ·cases K;exact⟨one (Z _ _ (by simp) (by simp) (by simp)),rfl,V fun B O=>trivial⟩
 ·cases K;exact⟨one (Z _ _ (by simp) (by simp) (by simp)),rfl,V fun B O=>O⟩
 ·cases K;exact⟨one (Z _ _ (by simp) (by simp) (by simp)),rfl,V fun B O=>trivial⟩
 ·split at K
  ·cases K;exact⟨ae _,by split <;> rfl,ag⟩
  ·cases K
 ·cases K;refine⟨one ⟨fun x U=>?_,by simp [Fam.CI]⟩,rfl,V fun B O=>O⟩;simp [Fam.CI,MemAct.ofEvent,MemAct.touch?] at U;subst U;exact⟨⟨F.wg,rfl,.inl rfl⟩,by simp,fun _=> .inr ⟨_,rfl⟩⟩
 ·cases K;exact⟨one (Z _ _ (by simp) (by simp) (by simp)),rfl,V fun B O=>trivial⟩
 all_goals
  cases K;exact⟨by simp,rfl,by simp⟩
theorem R2(p:Ph){es:Array Event}{nx:Nx}(K:F.act p v wt sm=some ((v',wt',sm'),es,nx)){k:Nat}(hw:FI F k (.ph p))(O:late (.ph p)):
  ∀m e,es[m]? =some e→(MemAct.ofEvent e).touch? =none∨((∃ad wr,e=⟨.cell ad,wr,true⟩)∧0<deafBehind (Cx (.ph p)) (es.extract 0 m)):=by
 have two:∀m e,(#[Fam.Df F.sA,Fam.Gn F.sA]:Array Event)[m]? =some e→(∃ad wr,e=⟨.cell ad,wr,true⟩)∧0<deafBehind 1 ((#[Fam.Df F.sA,Fam.Gn F.sA]:Array Event).extract 0 m):=by
  intro m e h
  match m with
  | 0=>simp at h;subst h;exact⟨⟨_,_,rfl⟩,by simp [deafBehind]⟩
  | 1=>simp at h;subst h;exact⟨⟨_,_,rfl⟩,by simp [deafBehind,Fam.Df]⟩
  | m+2=>simp at h
 cases p <;> simp only [FI] at hw <;> (try exact hw.elim) <;> simp only [late] at O <;> (try exact O.elim) <;> simp only [Fam.act] at K <;> (try (cases K;done))
 ·cases K;intro m e h
  match m with
  | 0=>simp at h;subst h;exact .inl rfl
  | m+1=>simp at h
 ·split at K
  ·cases K;exact fun m e h=> .inr (two m e h)
  ·cases K
 ·split at K
  ·cases K;intro m e h
   match m with
   | 0=>simp at h;subst h;exact .inr ⟨⟨_,_,rfl⟩,by simp [deafBehind,Cx]⟩
   | m+1=>simp at h
  ·cases K
 ·split at K
  ·cases K;intro m e h
   match m with
   | 0=>simp at h;subst h;exact .inr ⟨⟨_,_,rfl⟩,by simp [deafBehind,Cx]⟩
   | m+1=>simp at h
  ·cases K
 ·split at K
  ·cases K;intro m e h
   match m with
   | 0=>simp [semEvents] at h;subst h;exact .inl rfl
   | 1=>simp [semEvents] at h;subst h;exact .inr ⟨⟨_,_,rfl⟩,by simp [deafBehind,Cx,semEvents]⟩
   | 2=>simp [semEvents] at h;subst h;exact .inr ⟨⟨_,_,rfl⟩,by simp [deafBehind,Cx,semEvents]⟩
   | 3=>simp [semEvents] at h;subst h;exact .inl rfl
   | m+4=>simp [semEvents] at h
  ·cases K
theorem Cl.act(h:Cl F N0 t0 N j c φ t)(O:Bi F N0 N j c φ v wt sm cl){i:Nat}(hi:i<N){p:Ph}(U:φ i= .ph p){es:Array Event}{nx:Nx}(K:F.act p v wt sm=some ((v',wt',sm'),es,nx))(fn:FuncId)(pos:String):
  Cl F N0 t0 N j c (upd φ i nx) (t++MemOp.ofEvents i fn pos es)∧(∀e∈es,EvS F (i=if c=true then N0+F.n else 0) e)∧(i=0∨N0≤i):=by
 obtain⟨ag,ak,_⟩:=Pq p K;have av:=O.size;have al:=O.jn;have am:(p= .EV∨∃j,p= .Er j)→i=if c=true then N0+F.n else 0:=by
  rintro(rfl | ⟨aw,rfl⟩)
  ·rcases O.Du hi with rfl | ⟨a,b⟩ | ⟨k,Y,rfl⟩ | ⟨V,rfl⟩
   ·obtain⟨q,ab,hm⟩:=O.main;rw [U] at ab;cases ab;exact hm.elim
   ·have:=O.old i a b;rw [U] at this;exact this.elim
   ·have:=O.work k Y;rw [U] at this;exact this.elim
   ·rw [if_pos V]
  ·rcases O.Du hi with rfl | ⟨a,b⟩ | ⟨k,Y,rfl⟩ | ⟨V,rfl⟩
   ·obtain⟨q,ab,hm⟩:=O.main;rw [U] at ab;cases ab;obtain⟨_,_,rfl⟩:=hm;rfl
   ·have:=O.old i a b;rw [U] at this;exact this.elim
   ·have:=O.work k Y;rw [U] at this;exact this.elim
   ·have:=O.cls V;rw [U] at this;exact this.elim
 have ah:∀e∈es,EvS F (i=if c=true then N0+F.n else 0) e:=fun e he=>⟨fun a ac=>let ⟨x,y,z⟩:=(ag e he).1 a ac;⟨x,y,fun q=>am (z q)⟩,(ag e he).2⟩
 have ai:i=0∨N0≤i:=by
  rcases O.Du hi with rfl | ⟨a,b⟩ | ⟨k,Y,rfl⟩ | ⟨V,rfl⟩
  ·exact .inl rfl
  ·have:=O.old i a b;rw [U] at this;exact this.elim
  ·exact .inr (by omega)
  ·exact .inr (by omega)
 refine⟨h.app hi al (by rw [U];exact ak) (fun e he=>⟨fun a b ac hb ay=>⟨((ah e he).1 a ac).2.1,((ah e he).1 a ac).2.2⟩,(ag e he).2⟩) (.inl ai) (fun V Z=>O.Jq V Z) (fun k Y e ae ρ an=>?_) (fun k Y e ae aj=>?_) (fun V e Z=>?_) (fun V e Z=>?_),ah,ai⟩
 ·subst e;rw [U] at ae;refine an.appOwn fn pos es fun m e he=>?_;have aa:k<j∨(c=true∧F.n=k):=by
   rcases O.Du hi with q | ⟨a,b⟩ | ⟨k',az,q⟩ | ⟨V,q⟩
   ·have:=O.pos;omega
   ·omega
   ·left;omega
   ·omega
  rcases aa with aa | ⟨_,q⟩
  ·have hw:=O.work k aa;rw [U] at hw;rw [h.deaf _ hi,U];exact R2 p K hw ae m e he
  ·omega
 ·subst e;rw [U] at aj;have hw:=O.work k Y;rw [U] at hw;have ao:p= .Eg:=by
   cases p <;> simp only [FI] at hw <;> (try exact hw.elim) <;> simp [late] at aj
   ·simp [Fam.act] at K
   ·rfl
   ·simp only [Fam.act] at K;cases K;exact ae.elim
  subst ao;simp only [Fam.act] at K;cases K;exact⟨t.size,h.Io,.new (by rw [h.deaf _ hi,U];rfl) fn pos⟩
 ·subst e;left;have hw:=O.cls V;rw [U] at hw;have ap:p= .Eu∧nx= .ph .Cc:=by
   rcases Z with rfl | Z
   ·cases p <;> simp only [Fj] at hw <;> (try exact hw.elim) <;> simp only [Fam.act] at K <;> (try (cases K;done))
    ·split at K
     ·split at K <;> cases K
     ·cases K
    ·split at K
     ·split at K <;> cases K
     ·cases K
    ·split at K <;> cases K
    ·split at K <;> cases K
    ·exact⟨rfl,rfl⟩
   ·cases nx with
    | ph q=>exact Z.elim
    | gone d=>
     exfalso;cases p <;> simp only [Fj] at hw <;> (try exact hw.elim) <;> simp only [Fam.act] at K <;> (try (cases K;done))
     ·split at K
      ·split at K <;> cases K
      ·cases K
     ·split at K
      ·split at K <;> cases K
      ·cases K
     ·split at K <;> cases K
     ·split at K <;> cases K
  obtain⟨rfl,rfl⟩:=ap;simp only [Fam.act] at K;cases K;have aq:MemOp.ofEvents (N0+F.n) fn pos #[Fam.CI (.acquire F.sA)]= #[{g:=N0+F.n,fn,pos,act:= .mark (.acquire F.sA)}]:=by rw [ofEvents_eq];simp [Fam.CI,MemAct.ofEvent]
  rw [aq];have ar:(t++ #[({g:=N0+F.n,fn,pos,act:= .mark (.acquire F.sA)}:MemOp)])[t.size]? =some {g:=N0+F.n,fn,pos,act:= .mark (.acquire F.sA)}:=by simp
  refine⟨t.size,by rw [act?_of ar],by simp [Trace.g?],⟨N0+F.n,by simp [Trace.g?],by rw [deaf_old (Nat.le_refl _)];have:=h.deaf _ hi;rw [U] at this;exact this⟩,fun k Y=>?_⟩;have au:=O.LG V (.inr (.inr (.inl U)));have aa:k<j:=by rw [O.cj V];exact Y
  obtain⟨ρ,a,b⟩:=h.rel k aa (MC (au k aa));exact⟨ρ,a,lt_of_act? b.act,b.appOther (g:=N0+F.n) (by simp) (by omega)⟩
 ·subst e;exfalso;have hw:=O.cls V;rw [U] at hw;cases nx with
  | ph q=>exact Z.elim
  | gone d=>
   cases p <;> simp only [Fj] at hw <;> (try exact hw.elim) <;> simp only [Fam.act] at K <;> (try (cases K;done))
   ·split at K
    ·split at K <;> cases K
    ·cases K
   ·split at K
    ·split at K <;> cases K
    ·cases K
   ·split at K <;> cases K
   ·split at K <;> cases K
theorem Cl.BO(h:Cl F N0 t0 N j c φ t)(ao:Bi F N0 N j c φ v wt sm cl)(hu:∀op∈u,op.act.touch? =none∧∀m,op.act≠ .mark m):Cl F N0 t0 N j c φ (t++u):=by
 have hD:∀g,Deaf (t++u) g=Deaf t g:=by
  intro g;obtain⟨l⟩:=u;rw [Deaf_append]
  induction l generalizing t with
  | nil=>rfl
  | cons y l ap=>
   have U:=(hu y (by simp)).2;have ah:deafStep g (Deaf t g) y=Deaf t g:=by
    unfold deafStep;split <;> first | (rename_i e;exact absurd e (U _)) | rfl
   rw [List.foldl_cons,ah];have key:∀(l:List MemOp) (d:Nat),(∀op∈l,∀m,op.act≠ .mark m)→l.foldl (deafStep g) d=d:=by
    intro l
    induction l with
    | nil=>intro d _;rfl
    | cons z l ai=>
     intro d Z;have aj:=Z z (by simp);have ak:deafStep g d z=d:=by
      unfold deafStep;split <;> first | (rename_i e;exact absurd e (aj _)) | rfl
     rw [List.foldl_cons,ak];exact ai d fun op K=>Z op (by simp [K])
   exact key l _ fun op K=>(hu op (by simp at K ⊢;exact .inr K)).2
 have hold:∀{y a},touchAt (t++u) y=some a→touchAt t y=some a:=by
  intro y a O;obtain⟨op,K,aa⟩:=touch_of O;rcases getElem?_append_cases K with⟨aq,al⟩ | ⟨_,am⟩
  ·rw [touchAt_of al];exact aa
  ·rw [(hu op am).1] at aa;cases aa
 have ag:∀g x,t.size≤x→(t++u).g? x=some g→¬(t++u).counts x:=fun g=>Mx fun op K _=>(hu op K).1;have V:∀g ρ,RelBy F.sA t g ρ→RelBy F.sA (t++u) g ρ:=fun g ρ V=>V.app fun x O hg=>ag g x O hg;refine⟨fun i hi=>by rw [hD];exact h.deaf i hi,fun i hi=>by rw [hD];exact h.above i hi,fun y a b U hb ab Y i hi ac=>(h.plain y a b (hold U) hb ab Y i hi ac).app _,fun y a b U hb ab Y=>(h.said y a b (hold U) hb ab Y).app _,
  NH h.over fun op K=> .inr (.inr (hu op K).1),Nf h.norel fun op K=>(hu op K).2 _,by simp;have:=h.Io;omega,fun k Y Z=>let ⟨ρ,a,b⟩:=h.rel k Y Z;⟨ρ,a,V _ _ b⟩,
  fun ae O=>let ⟨q,an⟩:=h.acq ae O;⟨q,an.app fun k ρ _=>V _ ρ⟩,fun ae O=>let ⟨p,ac⟩:=h.HC ae O;⟨p,ac.app (fun k ρ _=>V _ ρ) (ag _)⟩⟩
theorem Cl.Tc(h:Cl F N0 t0 N j c φ t){U:Nat→Nx}(Z:∀i,i<N→Cx (U i)=Cx (φ i))(aa:∀k,k<j→late (U (N0+k))→late (φ (N0+k)))(V:c=true→U (N0+F.n)=φ (N0+F.n)):Cl F N0 t0 N j c U t:=
 ⟨fun i hi=>by rw [Z i hi];exact h.deaf i hi,h.above,h.plain,h.said,h.over,h.norel,h.Io,fun k Y K=>h.rel k Y (aa k Y K),fun O K=>h.acq O (by rwa [V O] at K),fun O K=>h.HC O (by rwa [V O] at K)⟩
theorem Cl.spawn(h:Cl F N0 t0 N j c φ t)(aa:Bi F N0 N j c φ v wt sm cl)(al:c=false){Y:Nat→Nx}{ae:Nat}{ag:Bool}(am:∀i,i<N→Cx (Y i)=Cx (φ i))(an:Cx (Y N)=0)(ao:Cx (φ 0)=0)
  (ap:∀k,k<ae→late (Y (N0+k))→k<j∧late (φ (N0+k))) (ab:ag=true→N0+F.n=N∧Y (N0+F.n)= .ph .BD)
  {x y:MemOp} (K:x.g=0∧x.act= .go N) (ah:y.g=N∧y.act= .start):Cl F N0 t0 (N+1) ae ag Y (t++ #[x,y]):=by
 have ai:0<N:=by have:=aa.size;have:=aa.pos;omega
 have hu:∀op∈(#[x,y]:Array MemOp),op.act.touch? =none∧∀m,op.act≠ .mark m:=by
  intro op aj;simp only [List.mem_toArray,List.mem_cons,List.not_mem_nil,or_false] at aj;rcases aj with rfl | rfl
  ·rw [K.2];exact⟨rfl,by simp⟩
  ·rw [ah.2];exact⟨rfl,by simp⟩
 have O:=h.BO aa hu;have ak:∀z,Knows t 0 z→Knows (t++ #[x,y]) N z:=fun z U=>fork_knows K ah (by rw [h.deaf 0 ai];exact ao) (h.above N (Nat.le_refl _)) U;have hold:∀{z a},touchAt (t++ #[x,y]) z=some a→touchAt t z=some a:=by
  intro z a U;obtain⟨op,aq,ac⟩:=touch_of U;rcases getElem?_append_cases aq with⟨az,ar⟩ | ⟨_,au⟩
  ·rw [touchAt_of ar];exact ac
  ·rw [(hu op au).1] at ac;cases ac
 refine⟨fun i hi=>?_,fun i hi=>O.above i (by omega),fun z a b U hb Z V i hi av=>?_,fun z a b U hb Z V=>?_,fun z g hg aw ay=>?_,O.norel,O.Io,fun k V K=>?_,fun e K=>?_,fun e K=>?_⟩
 ·rcases Nat.lt_or_ge i N with q | q
  ·rw [am i q];exact O.deaf i q
  ·obtain rfl:i=N:=by omega
   rw [an];exact O.above i (Nat.le_refl _)
 ·rcases Nat.lt_or_ge i N with q | q
  ·exact O.plain z a b U hb Z V i q av
  ·obtain rfl:i=N:=by omega
   exact ak z (h.plain z a b (hold U) hb Z V 0 ai (.inl rfl))
 ·have:=h.said z a b (hold U) hb Z V;rw [al] at this;simp only [Bool.false_eq_true,if_false] at this;split
  ·rename_i e;rw [(ab e).1];exact ak z this
  ·exact this.app _
 ·rcases O.over z g hg aw ay with q | q
  ·exact .inl q
  ·exact .inr ⟨q.1,by omega⟩
 ·obtain⟨a,b⟩:=ap k V K;exact O.rel k a b
 ·have:=(ab e).2;rw [this] at K;rcases K with q | q
  ·cases q
  ·exact q.elim
 ·have:=(ab e).2;rw [this] at K;exact K.elim
end
end Pal
namespace Pal
open Go Go.Conc
open Go.ConcN (upd upd_same upd_ne sumTo sumTo_upd sumTo_upd_out sumTo_congr le_sumTo sumTo_le fork_knows RelBy)
def Dn(N:Nat)(K r:Nat→Rk):Prop:=∃i,i<N∧Rk.sub (K i) (r i)∧∀j,j≠i→K j=r j
theorem Dn.wf:∀N,WellFounded (Dn N)
 | 0=>⟨fun _=>⟨_,fun _ ⟨_,h,_⟩=>by omega⟩⟩
 | N+1=>⟨by
  have key:∀x:Rk,∀r:Nat→Rk,r N=x→Acc (Dn (N+1)) r:=by
   intro x
   induction x using Rk.wf.induction with
   | _ x U=>
    intro r
    induction r using (Dn.wf N).induction with
    | _ r V=>
     intro e
     refine⟨_,fun K ⟨i,hi,hs,O⟩=>?_⟩
     by_cases hN:i=N
     ·subst hN;exact U (K i) (by rw [← e];exact hs) K rfl
     ·exact V K ⟨i,by omega,hs,O⟩ (by rw [O N (Ne.symm hN),e])
  exact fun r=>key _ r rfl⟩
def chain:Nat→Rk
 | 0=> .leaf
 | n+1=> .node fun _=>chain n
theorem Q6(n:Nat)(w:World):Rk.sub (chain n) (chain (n+1)):=⟨_,w,rfl,rfl⟩
def Mu:=Nat×(Nat×((Nat→Rk)×Nat))
def Mu.lt(a b:Mu):Prop:=a.1<b.1∨(a.1=b.1∧a.2.1=b.2.1∧(Dn b.2.1 a.2.2.1 b.2.2.1∨(a.2.2.1=b.2.2.1∧a.2.2.2<b.2.2.2)))
theorem Mu.wf:WellFounded Mu.lt:=⟨by
 have key:∀(A:Nat) (N:Nat) (r:Nat→Rk) (B:Nat),Acc Mu.lt (A,N,r,B):=by
  intro A
  induction A using Nat.strongRecOn with
  | _ A Y=>
   intro N r
   induction r using (Dn.wf N).induction with
   | _ r Z=>
    intro B
    induction B using Nat.strongRecOn with
    | _ B aa=>
     refine⟨_,fun⟨ab,ac,U,B'⟩ h=>?_⟩
     rcases h with h | ⟨K,O,h | ⟨h3,V⟩⟩
     ·exact Y ab h ac U B'
     ·simp only at K O h;subst K O;exact Z U h B'
     ·simp only at K O h3 V;subst K O h3;exact aa B' V
 exact fun⟨A,N,r,B⟩=>key A N r B⟩
def wt(n:Nat):Nx→Nat
 | .gone _=>0
 | .ph p=>match p with
  | .Bs _=>10 | .BB=>9 | .Eg=>8 | .FQ=>7 | .EP=>6 | .Ef=>5 | .Eo=>4 | .CQ=>3
  | .BD=>3*n+25 | .DG m=>3*m+20 | .EN m=>3*m+19 | .Fz=>14 | .EV=>13 | .BU=>12 | .Ep=>11 | .Dt=>10 | .Ft=>9 | .Eu=>8 | .Cc=>7
  | .Dq j=>5*n+60+20*(n - j) | .Fv j=>5*n+59+20*(n - j) | .EU j=>5*n+58+20*(n - j) | .Er j=>5*n+57+20*(n - j) | .D2 j=>5*n+56+20*(n - j) | .Di j=>5*n+55+20*(n - j)
  | .DI=>5*n+60 | .Bh _ _=>2
theorem Pa{F:Fam}{p:Ph}{v w sm v' w' sm':Nat}{es:Array Event}{nx:Nx}(h:F.act p v w sm=some ((v',w',sm'),es,nx)):wt F.n nx<wt F.n (.ph p):=by
 cases p <;> simp only [Fam.act] at h <;> (try (cases h;done))
 ·cases h;simp [wt]
 ·cases h;simp [wt]
 ·split at h
  ·cases h;split <;> simp [wt]
  ·cases h
 ·split at h
  ·cases h;simp [wt]
  ·cases h
 ·split at h
  ·cases h;simp [wt]
  ·cases h
 ·split at h
  ·cases h;simp [wt]
  ·cases h
 ·cases h;simp [wt]
 ·split at h
  ·cases h;split <;> simp [wt] <;> omega
  ·cases h
 ·split at h
  ·split at h <;> cases h <;> simp [wt] <;> omega
  ·cases h
 ·cases h;simp [wt]
 ·split at h
  ·cases h;simp [wt]
  ·cases h
 ·split at h
  ·cases h;simp [wt]
  ·cases h
 ·cases h;simp [wt]
 ·cases h;simp [wt]
 ·cases h;simp [wt]
 ·split at h
  ·cases h;split <;> simp [wt]
  ·cases h
 ·cases h;simp [wt]
 ·cases h;simp [wt]
 all_goals cases h;simp [wt]
inductive B7 (P:Program) (F:Fam) (main:Bool):Nx→Rk→Bool→Goroutine→St→Prop
 | walk {p:Ph} {r:Rk} {g:Goroutine} {s:St}:main=Fam.B4 p→(Fam.Cr p=true→s= .quiet)→Jr P main (JQ (Stop P F p)) r g s→B7 P F main (.ph p) r true g s
 | again {K:List Nat} {vs:List Value} {r:Rk} {g:Goroutine} {s:St} {z:Value}:main=true→Stop P F (.Bh K vs) g s→B7 P F main (.ph (.Bh K vs)) r true {parked g #[rcase F.ch z] (.recv true) with status:= .running} s
 | DF {K:List Nat} {vs:List Value} {r:Rk} {g:Goroutine} {s:St} {z:Value}:main=true→Stop P F (.Bh K vs) g s→B7 P F main (.ph (.Bh K vs)) r false (parked g #[rcase F.ch z] (.recv true)) s
 | DZ {k:Nat} {r:Rk} {g:Goroutine} {s:St} {v z:Value}:main=false→F.msg k v s.E→s.q=false→Way P false (Stop P F .BB) (served g undef) s→B7 P F main (.ph (.Bs k)) r false (parked g #[scase F.ch v z] .send) s
 | blk {r:Rk} {g:Goroutine} {s:St}:main=false→Stop P F .BU g s→B7 P F main (.ph .BU) r false {g with status:= .blocked} s
 | gone {q d:Nat} {g:Goroutine}:main=false→QuitsD P q d g→B7 P F main (.gone d) (chain q) true g .quiet
section
variable {P:Program}{F:Fam}{main:Bool}
theorem Jr.running{p:Ph}{r:Rk}{g:Goroutine}{s:St}(h:Jr P main (JQ (Stop P F p)) r g s):g.status= .running:=by
 cases r with
 | leaf=>obtain⟨s₀,_,hs⟩:=h;exact hs.law.run
 | node f=>
  rcases h with⟨s₀,_,hs⟩ | ⟨K,_⟩
  ·exact hs.law.run
  ·exact K
theorem Jr.at_{Q:GP}{r:Rk}{g:Goroutine}{s:St}(h:Q g s):Jr P main Q r g s:=by
 cases r with
 | leaf=>exact h
 | node f=>exact .inl h
theorem B7.awake{x:Nx}{r:Rk}{b:Bool}{g:Goroutine}{s:St}(h:B7 P F main x r b g s):Go.Conc.awake g:=by
 cases h with
 | walk _ _ K=>exact awake_of (.inl K.running)
 | again _ _=>exact awake_of (.inl rfl)
 | DF _ _=>exact awake_of (.inr (.inl rfl))
 | DZ _ _ _ _=>exact awake_of (.inr (.inl rfl))
 | blk _ _=>exact awake_of (.inr (.inl rfl))
 | gone _ O=>exact awake_of (O.status.elim .inl fun x=> .inr (.inr x))
theorem Qn{g:Goroutine}(h:g.status= .running):{({g with status:= .blocked}:Goroutine) with status:= .running}=g:=by
 obtain⟨a,b,c,d,e⟩:=g;simp only at h;subst h;rfl
theorem B7.woken{x:Nx}{r:Rk}{b:Bool}{o:Goroutine}{s:St}(h:B7 P F main x r b o s){g g':Goroutine}{w':World}{cl:Bool}{k:Nat}(Y:F.ChanAt w' cl k)(ah:cl=true→∀k,x≠ .ph (.Bs k)):
  ∃Z,B7 P F main x r Z (Go.Conc.woken P g g' w' o) s∧(b=true→Z=true)∧(mayWake P g=true→g'.status= .running→(x= .ph .BU∨cl=true)→Z=true):=by
 have hw:∀(o:Goroutine),mayWake P g=true→g'.status= .running→Go.Conc.woken P g g' w' o=o.again w':=by
  intro o K U;unfold Go.Conc.woken;rw [if_pos (by simp [K,U])]
 have V:∀(o:Goroutine),Go.Conc.woken P g g' w' o=o.again w'∨Go.Conc.woken P g g' w' o=o:=by
  intro o;unfold Go.Conc.woken;split
  ·exact .inl rfl
  ·exact .inr rfl
 cases h with
 | walk K U aa=>exact⟨true,by rw [woken_run aa.running];exact .walk K U aa,fun _=>rfl,fun _ _ _=>rfl⟩
 | again K hs=>exact⟨true,by rw [woken_run rfl];exact .again K hs,fun _=>rfl,fun _ _ _=>rfl⟩
 | @DF aj vs _ go _ z K hs=>
  cases cl with
  | false=>
   have:=again_recv_open (g:=go) (z:=z) (sh:= .recv true) (w:=w') Y;rcases V (parked go #[rcase F.ch z] (.recv true)) with e | e
   ·exact⟨false,by rw [e,this];exact .DF K hs,fun e=>e,fun _ _ h=>by simp at h⟩
   ·exact⟨false,by rw [e];exact .DF K hs,fun e=>e,fun _ _ h=>by simp at h⟩
  | true=>
   have:=again_recv_closed (g:=go) (z:=z) (sh:= .recv true) (w:=w') Y;by_cases O:mayWake P g=true∧g'.status= .running
   ·exact⟨true,by rw [hw _ O.1 O.2,this];exact .again K hs,fun e=>rfl,fun _ _ _=>rfl⟩
   ·rcases V (parked go #[rcase F.ch z] (.recv true)) with e | e
    ·exact⟨true,by rw [e,this];exact .again K hs,fun _=>rfl,fun a b=>absurd ⟨a,b⟩ O⟩
    ·exact⟨false,by rw [e];exact .DF K hs,fun e=>e,fun a b=>absurd ⟨a,b⟩ O⟩
 | @DZ k' _ go _ v z K U h3 ab=>
  cases cl with
  | true=>exact absurd rfl (ah rfl k')
  | false=>
   have:=again_send_open (g:=go) (v:=v) (z:=z) (sh:= .send) (w:=w') Y;rcases V (parked go #[scase F.ch v z] .send) with e | e
   ·exact⟨false,by rw [e,this];exact .DZ K U h3 ab,fun e=>e,fun _ _ h=>by simp at h⟩
   ·exact⟨false,by rw [e];exact .DZ K U h3 ab,fun e=>e,fun _ _ h=>by simp at h⟩
 | @blk _ go _ K hs=>
  have ac:({go with status:= .blocked}:Goroutine).again w'=go:=by
   have:=hs.law.offers;have ai:({go with status:= .blocked}:Goroutine).again w'={({go with status:= .blocked}:Goroutine) with status:= .running}:=by simp [Goroutine.again,this]
   rw [ai];exact Qn hs.law.run
  have ae:B7 P F main (.ph .BU) r true go s:= .walk (p:= .BU) (by rw [K];rfl) (by simp [Fam.Cr]) (Jr.at_ ⟨s,.refl _,hs⟩);by_cases O:mayWake P g=true∧g'.status= .running
  ·exact⟨true,by rw [hw _ O.1 O.2,ac];exact ae,fun _=>rfl,fun _ _ _=>rfl⟩
  ·rcases V ({go with status:= .blocked}:Goroutine) with e | e
   ·exact⟨true,by rw [e,ac];exact ae,fun _=>rfl,fun a b=>absurd ⟨a,b⟩ O⟩
   ·exact⟨false,by rw [e];exact .blk K hs,fun e=>e,fun a b=>absurd ⟨a,b⟩ O⟩
 | gone K ag=>exact⟨true,by rw [woken_quitsD ag];exact .gone K ag,fun _=>rfl,fun _ _ _=>rfl⟩
end
structure Base where
 N0:Nat
 t0:Nat
 E0:LH
 w0:World
structure Inv (P:Program) (F:Fam) (B:Base) (gs:Array Goroutine) (w:World) (t:Trace) (φ:Nat→Nx) (r:Nat→Rk) (bt:Nat→Bool) (S:Nat→St) (Sh:Nat→Prop) (j:Nat) (c:Bool) (v wt sm:Nat) (cl:Bool) (k:Nat):Prop where
 AP:Bi F B.N0 gs.size j c φ v wt sm cl
 CO:Cl F B.N0 B.t0 gs.size j c φ t
 CR:∀i g,gs[i]? =some g→B7 P F (i==0) (φ i) (r i) (bt i) g (S i)
 Bx:Bj t w gs.size S Sh
 FV:Sh F.wg
 Ej:Sh F.ch
 ne:F.wg≠F.ch
 wg:F.WG w v wt sm
 ES:F.ChanAt w cl k
 Kw:bt 0=false→cl=false∧∀i k',i<gs.size→φ i= .ph (.Bs k')→bt i=true
 blk:c=true→bt (B.N0+F.n)=false→sm=0
 le:Le B.E0 (S 0).E
 tape:w.tape=B.w0.tape
 os:w.os=B.w0.os
 output:w.output=B.w0.output
def bit(b:Bool):Nat:=if b then 1 else 0
def mu(F:Fam)(N:Nat)(φ:Nat→Nx)(r:Nat→Rk)(bt:Nat→Bool):Mu:=(sumTo N fun i=>wt F.n (φ i),N,r,sumTo N fun i=>bit (bt i))
section
variable {P:Program}{F:Fam}{B:Base}{gs:Array Goroutine}{w w':World}{t:Trace}{φ:Nat→Nx}{r:Nat→Rk}{bt:Nat→Bool}{S:Nat→St}{Sh:Nat→Prop}{j:Nat}{c:Bool}{v wt' sm v₁ wt₁ sm₁:Nat}{cl cl₁:Bool}{k k₁:Nat}
theorem Inv.at_(h:Inv P F B gs w t φ r bt S Sh j c v wt' sm cl k)(d:Nat):Inv P F B gs (w.at d) t φ r bt S Sh j c v wt' sm cl k:=
 have K:Bj t (w.at d) gs.size S Sh:=by
  have:=h.Bx.mute (u:= #[]) (w':=w.at d) (g:=0) (by simp) (by simp) (by simp) rfl;simpa using this
 {h with Bx:=K}
theorem Inv.go(h:Inv P F B gs w t φ r bt S Sh j c v wt' sm cl k){i:Nat}{g g':Goroutine}{es:Array Event}{x:Nx}{ρ:Rk}{s':St}(hi:gs[i]? =some g)
  (ao:Bi F B.N0 gs.size j c (upd φ i x) v₁ wt₁ sm₁ cl₁)
  (ap:Cl F B.N0 B.t0 gs.size j c (upd φ i x) (t++MemOp.ofEvents i g.frame.fn g.frame.place es))
  (aq:B7 P F (i==0) x ρ true g' s')
  (hC:Bj (t++MemOp.ofEvents i g.frame.fn g.frame.place es) w' gs.size (upd S i s') Sh)
  (ar:F.WG w' v₁ wt₁ sm₁) (ai:F.ChanAt w' cl₁ k₁)
  (au:cl₁=cl∨(mayWake P g=true∧g'.status= .running))
  (av:cl₁=true→∀aj k',aj<gs.size→φ aj≠ .ph (.Bs k'))
  (aw:sm₁=sm∨sm₁=0∨(mayWake P g=true∧g'.status= .running∧φ (B.N0+F.n)= .ph .BU)∨(c=true→bt (B.N0+F.n)=true))
  (ay:i=0→Le (S 0).E s'.E) (az:w'.tape=w.tape) (aA:w'.os=w.os) (aB:w'.output=w.output) (aK:∀k',x= .ph (.Bs k')→φ i= .ph (.Bs k')):
  ∃O,Inv P F B ((gs.map (woken P g g' w')).setIfInBounds i g') w' (t++MemOp.ofEvents i g.frame.fn g.frame.place es) (upd φ i x) (upd r i ρ) O (upd S i s') Sh j c v₁ wt₁ sm₁ cl₁ k₁:=by
 have aC:i<gs.size:=(Array.getElem?_eq_some_iff.1 hi).1;have aa:((gs.map (woken P g g' w')).setIfInBounds i g').size=gs.size:=by simp
 have ak:∀a,∃Z,(a=i→Z=true)∧(a≠i→∀o,gs[a]? =some o→B7 P F (a==0) (φ a) (r a) Z (woken P g g' w' o) (S a)∧(bt a=true→Z=true)∧(mayWake P g=true→g'.status= .running→(φ a= .ph .BU∨cl₁=true)→Z=true)):=by
  intro a;by_cases e:a=i
  ·exact⟨true,fun _=>rfl,fun q=>absurd e q⟩
  ·cases K:gs[a]? with
   | none=>exact⟨true,fun _=>rfl,fun _ o q=>by cases q⟩
   | some o=>
    have V:a<gs.size:=(Array.getElem?_eq_some_iff.1 K).1;obtain⟨Z,aD,aE,h3⟩:=(h.CR a o K).woken (g:=g) (g':=g') ai fun q k'=>av q a k' V;exact⟨Z,fun q=>absurd q e,fun _ o' q=>by cases q;exact⟨aD,aE,h3⟩⟩
 let O:Nat→Bool:=fun a=>Classical.choose (ak a);have hb:∀a,(a=i→O a=true)∧(a≠i→∀o,gs[a]? =some o→B7 P F (a==0) (φ a) (r a) (O a) (woken P g g' w' o) (S a)∧(bt a=true→O a=true)∧(mayWake P g=true→g'.status= .running→(φ a= .ph .BU∨cl₁=true)→O a=true)):=fun a=>Classical.choose_spec (ak a);have ab:∀a,a<gs.size→bt a=true→O a=true:=by
  intro a V aF;by_cases e:a=i
  ·exact(hb a).1 e
  ·exact((hb a).2 e _ (Array.getElem?_eq_getElem V)).2.1 aF
 refine⟨O,by rw [aa];exact ao,by rw [aa];exact ap,fun a o K=>?_,by rw [aa];exact hC,h.FV,h.Ej,h.ne,ar,ai,fun U=>⟨?_,fun a k' V al=>?_⟩,fun ac U=>?_,fun b o K=>?_,az.trans h.tape,aA.trans h.os,aB.trans h.output⟩
 ·by_cases e:a=i
  ·subst e;rw [Array.getElem?_setIfInBounds_self_of_lt (by simpa using aC)] at K;obtain rfl:=Option.some.inj K;rw [upd_same,upd_same,upd_same,(hb a).1 rfl];exact aq
  ·rw [Array.getElem?_setIfInBounds_ne (Ne.symm e),Array.getElem?_map] at K;obtain⟨o',aG,rfl⟩:=Option.map_eq_some_iff.1 K;rw [upd_ne _ _ e,upd_ne _ _ e,upd_ne _ _ e];exact((hb a).2 e o' aG).1
 ·have ae:0<gs.size:=by omega
  have aH:0≠i:=fun e=>by have:=(hb 0).1 e;rw [U] at this;cases this
  have Y:bt 0=false:=by
   cases q:bt 0 with
   | false=>rfl
   | true=>have:=ab 0 ae q;rw [U] at this;cases this
  cases am:cl₁ with
  | false=>rfl
  | true=>
   rcases au with e | ⟨ag,ah⟩
   ·have:=(h.Kw Y).1;rw [← e,am] at this;cases this
   ·have:=((hb 0).2 aH _ (Array.getElem?_eq_getElem ae)).2.2 ag ah (.inr am);rw [U] at this;cases this
 ·rw [aa] at V;have ae:0<gs.size:=by omega
  have Y:bt 0=false:=by
   cases q:bt 0 with
   | false=>rfl
   | true=>have:=ab 0 ae q;rw [U] at this;cases this
  by_cases e:a=i
  ·exact(hb a).1 e
  ·rw [upd_ne _ _ e] at al;exact ab a V ((h.Kw Y).2 a k' V al)
 ·have an:B.N0+F.n<gs.size:=by have:=h.AP.size;have:=h.AP.cj ac;rw [ac] at*;simp at*;omega
  have aI:B.N0+F.n≠i:=fun e=>by have:=(hb _).1 e;rw [U] at this;cases this
  have Y:bt (B.N0+F.n)=false:=by
   cases q:bt (B.N0+F.n) with
   | false=>rfl
   | true=>have:=ab _ an q;rw [U] at this;cases this
  rcases aw with e | e | ⟨ag,ah,aJ⟩ | e
  ·rw [e];exact h.blk ac Y
  ·exact e
  ·have:=((hb _).2 aI _ (Array.getElem?_eq_getElem an)).2.2 ag ah (.inl aJ);rw [U] at this;cases this
  ·rw [e ac] at Y;cases Y
 ·by_cases e:i=0
  ·subst e;rw [upd_same];exact ay rfl b o (h.le b o K)
  ·rw [upd_ne _ _ (Ne.symm e)];exact h.le b o K
end
end Pal
namespace Pal
open Go Go.Conc
open Go.ConcN (upd upd_same upd_ne sumTo sumTo_upd sumTo_upd_out sumTo_congr le_sumTo sumTo_le fork_knows RelBy)
def Over(P:Program)(F:Fam)(B:Base)(gs:Array Goroutine)(w:World)(t:Trace):Prop:=
 ∃q Sh g s,Ei P gs w t q Sh g s∧F.fin g s∧Le B.E0 s.E∧w.tape=B.w0.tape∧w.os=B.w0.os∧w.output=B.w0.output
def Fo(P:Program)(F:Fam)(B:Base)(gs:Array Goroutine)(w:World)(sl:Option (Nat×Nat))(t:Trace)(i:Nat)(K:Mu):Prop:=
 ∃gs' w' O u,runT P (crowd gs w sl) i=(.next (crowd gs' w' O),u)∧
  ((∃φ r bt S Sh j c v wt' sm cl k,Inv P F B gs' w' (t++u) φ r bt S Sh j c v wt' sm cl k∧Mu.lt (mu F gs'.size φ r bt) K)∨Over P F B gs' w' (t++u))
section
variable {P:Program}{F:Fam}{B:Base}{gs:Array Goroutine}{w w':World}{sl:Option (Nat×Nat)}{t:Trace}{φ:Nat→Nx}{r:Nat→Rk}{bt:Nat→Bool}{S:Nat→St}{Sh:Nat→Prop}{j:Nat}{c:Bool}{v wt' sm v₁ wt₁ sm₁:Nat}{cl cl₁:Bool}{k k₁:Nat}
theorem PR{N:Nat}{φ K:Nat→Nx}{r U:Nat→Rk}{b V:Nat→Bool}{O:Nat}(h:(sumTo O fun i=>wt F.n (K i))<sumTo N fun i=>wt F.n (φ i)):Mu.lt (mu F O K U V) (mu F N φ r b):= .inl h
theorem UL{N i:Nat}{x:Nx}{ρ:Rk}{K:Nat→Bool}(hi:i<N)(h:wt F.n x<wt F.n (φ i)∨(wt F.n x=wt F.n (φ i)∧Rk.sub ρ (r i))):Mu.lt (mu F N (upd φ i x) (upd r i ρ) K) (mu F N φ r bt):=by
 have:=sumTo_upd φ x (wt F.n) hi;rcases h with h | ⟨V,O⟩
 ·exact .inl (by show(sumTo N fun a=>wt F.n (upd φ i x a))<sumTo N fun a=>wt F.n (φ a);omega)
 ·exact .inr ⟨by show(sumTo N fun a=>wt F.n (upd φ i x a))=sumTo N fun a=>wt F.n (φ a);omega,rfl,.inl ⟨i,hi,by show Rk.sub (upd r i ρ i) _;rw [upd_same];exact O,fun a U=>upd_ne _ _ U⟩⟩
theorem Inv.go'(h:Inv P F B gs w t φ r bt S Sh j c v wt' sm cl k){i:Nat}{g g':Goroutine}{es:Array Event}{x:Nx}{ρ:Rk}{s':St}(hi:gs[i]? =some g)(O:stepG P (i==0) g w= .go g' w' es)
  (U:Bi F B.N0 gs.size j c (upd φ i x) v₁ wt₁ sm₁ cl₁)
  (V:Cl F B.N0 B.t0 gs.size j c (upd φ i x) (t++MemOp.ofEvents i g.frame.fn g.frame.place es))
  (Y:B7 P F (i==0) x ρ true g' s')
  (hC:Bj (t++MemOp.ofEvents i g.frame.fn g.frame.place es) w' gs.size (upd S i s') Sh)
  (Z:F.WG w' v₁ wt₁ sm₁) (aa:F.ChanAt w' cl₁ k₁)
  (ab:cl₁=cl∨(mayWake P g=true∧g'.status= .running))
  (ac:cl₁=true→∀K k',K<gs.size→φ K≠ .ph (.Bs k'))
  (ae:sm₁=sm∨sm₁=0∨(mayWake P g=true∧g'.status= .running∧φ (B.N0+F.n)= .ph .BU)∨(c=true→bt (B.N0+F.n)=true))
  (ag:i=0→Le (S 0).E s'.E) (ah:w'.tape=w.tape) (ai:w'.os=w.os) (aj:w'.output=w.output) (ak:∀k',x= .ph (.Bs k')→φ i= .ph (.Bs k'))
  (hm:wt F.n x<wt F.n (φ i)∨(wt F.n x=wt F.n (φ i)∧Rk.sub ρ (r i))):Fo P F B gs w sl t i (mu F gs.size φ r bt):=by
 obtain⟨an,al⟩:=h.go hi U V Y hC Z aa ab ac ae ag ah ai aj ak;refine⟨_,_,_,_,runT_crowd_go hi O,.inl ⟨_,_,_,_,_,_,_,_,_,_,_,_,al,?_⟩⟩;have am:((gs.map (woken P g g' w')).setIfInBounds i g').size=gs.size:=by simp
 rw [am];exact UL (Array.getElem?_eq_some_iff.1 hi).1 hm
theorem Inv.noSend(h:Inv P F B gs w t φ r bt S Sh j c v wt' sm cl k)(V:cl=true):∀K k',K<gs.size→φ K≠ .ph (.Bs k'):=by
 intro K k' O e;have hm:=h.AP.mode;subst V;have Y:v=0:=by
  split at hm
  ·cases U:φ (B.N0+F.n) with
   | gone d=>rw [U] at hm;exact hm.2.2.2.2.1
   | ph p=>rw [U] at hm;cases p <;> simp [BA] at hm
  ·simp [BA] at hm
 have Z:=h.AP.cnt;have:=le_sumTo (f:=fun a=>cU (φ a)) O;simp only [e,cU] at this;have aa:(sumTo gs.size fun a=>cU (φ a))=0:=by omega
 have h3:cU (φ K)≤sumTo gs.size fun a=>cU (φ a):=le_sumTo (f:=fun a=>cU (φ a)) O;rw [e] at h3;simp only [cU] at h3;have ab:1≤sumTo gs.size fun a=>cU (φ a):=h3;omega
theorem Cl.To{F:Fam}{N0 t0 N j:Nat}{c:Bool}{φ:Nat→Nx}{t:Trace}(h:Cl F N0 t0 N j c φ t)(K:Bi F N0 N j c φ v wt' sm cl){i:Nat}(hi:i<N){fn:FuncId}{pos:String}{es:Array Event}{p:Ph}(V:φ i= .ph p)
  (Y:∀e∈es,(∀a b,(MemAct.ofEvent e).touch? =some a→Cb a.loc=some b→b≠F.wg∧b≠F.ch)∧e.loc≠ .mark (.release F.sA)∧e.loc≠ .mark .disable∧e.loc≠ .mark .enable)
  (ab:Fam.Cr p=true→es= #[]):Cl F N0 t0 N j c φ (t++MemOp.ofEvents i fn pos es):=by
 have ac:i=0∨N0≤i:=by
  rcases K.Du hi with rfl | ⟨a,b⟩ | ⟨k,aa,rfl⟩ | ⟨U,rfl⟩
  ·exact .inl rfl
  ·have:=K.old i a b;rw [V] at this;exact this.elim
  ·exact .inr (by omega)
  ·exact .inr (by omega)
 have:=h.app (x:=φ i) (fn:=fn) (pos:=pos) (es:=es) hi K.jn (deafBehind_still (fun e he=>⟨(Y e he).2.2.1,(Y e he).2.2.2⟩) _) (fun e he=>⟨fun a b ae hb ag=>absurd ag (by have:=(Y e he).1 a b ae hb;rintro(q | q);exact this.1 q;exact this.2 q),(Y e he).2.1⟩) (.inl ac)
  (fun U O=>K.Jq U O) (fun k aa e Z ρ ah=>?_) (fun k aa e Z ai=>absurd Z ai) (fun U e O=> .inr O) (fun U e O=>by rw [V] at O;exact O.elim)
 ·rwa [Ls] at this
 ·
  have ak:=K.size;have al:=K.jn;have aj:k<j:=by
   rcases K.Du hi with q | ⟨a,b⟩ | ⟨k',am,q⟩ | ⟨U,q⟩
   ·have:=K.pos;omega
   ·omega
   ·omega
   ·omega
  have hw:=K.work k aj;rw [← e,V] at hw;rw [V] at Z;have:es= #[]:=ab (by cases p <;> simp only [FI] at hw <;> (try exact hw.elim) <;> first | rfl | exact Z.elim)
  subst this;have:MemOp.ofEvents i fn pos #[]= #[]:=by rw [ofEvents_eq];simp
  rw [this];simpa using ah
theorem Inv.own(h:Inv P F B gs w t φ r bt S Sh j c v wt' sm cl k){i:Nat}{g g':Goroutine}{es:Array Event}{p:Ph}{ρ:Rk}{s':St}(hi:gs[i]? =some g)(O:φ i= .ph p)(ae:(i==0)=Fam.B4 p)(aa:Fam.Cr p=true→S i= .quiet)
  (ag:stepG P (i==0) g w= .go g' w' es) (ah:Jr P (i==0) (JQ (Stop P F p)) ρ g' s') (ai:Fits s' w') (K:Fr (S i) w s' w') (V:∀e∈es,Ev (S i) w w' e) (ab:S i= .quiet→s'= .quiet∧w'=w∧es= #[]) (aj:Rk.sub ρ (r i)):
  Fo P F B gs w sl t i (mu F gs.size φ r bt):=by
 have U:i<gs.size:=(Array.getElem?_eq_some_iff.1 hi).1;have ac:upd φ i (.ph p)=φ:=by rw [← O];exact Ls _ _
 have Y:=h.Bx.sh i U F.wg h.FV;have Z:=h.Bx.sh i U F.ch h.Ej;have ak:=h.Bx.Dr F.wg h.FV;have al:=h.Bx.Dr F.ch h.Ej;have am:∀b wr,DX (S i) w w' b wr→b≠F.wg∧b≠F.ch:=by
  intro b wr ht;constructor
  ·rintro rfl;rcases ht.2 with q | q | ⟨q,_⟩
   ·exact q Y.1
   ·omega
   ·exact q Y.2
  ·rintro rfl;rcases ht.2 with q | q | ⟨q,_⟩
   ·exact q Z.1
   ·omega
   ·exact q Z.2
 refine h.go' hi ag (k₁:=k) (x:= .ph p) (ρ:=ρ) (s':=s') (by rw [ac];exact h.AP) (by
   rw [ac]
   refine h.CO.To h.AP U O (fun e he=>⟨fun a b an hb=>am b a.write (I5 (V e he) an hb),?_,?_,?_⟩) fun q=>(ab (aa q)).2.2
   all_goals
    intro ao
    have:=V e he
    unfold Ev at this
    rw [ao] at this
    exact this)
  (.walk ae (fun q=>(ab (aa q)).1) ah) (h.Bx.own U ai K V) ?_ ?_ (.inl rfl) (fun q=>h.noSend q) (.inl rfl) (fun e=>by subst e;exact fun b o ap=>K.ext b o ap) K.tape K.os K.output (fun k' e=>by rw [O];exact e) (.inr ⟨by rw [O],aj⟩)
 ·show w'.heap[F.wg]? =_;rw [K.keep _ ak Y.1];exact h.wg
 ·show w'.heap[F.ch]? =_;rw [K.keep _ al Z.1];exact h.ES
theorem Inv.slip(h:Inv P F B gs w t φ r bt S Sh j c v wt' sm cl k){i:Nat}{g:Goroutine}(hi:gs[i]? =some g)(U:g.status= .running){d q:Nat}(K:φ i= .gone d)(V:r i=chain q)(Y:(i==0)=false)(ab:QuitsD P q d g)(ai:S i= .quiet):
  Fo P F B gs w sl t i (mu F gs.size φ r bt):=by
 have ac:i<gs.size:=(Array.getElem?_eq_some_iff.1 hi).1;cases q with
 | zero=>rw [ab.1] at U;cases U
 | succ q=>
  rcases ab with⟨aj,_⟩ | ⟨_,g',es,hm,ak,al⟩
  ·rw [aj] at U;cases U
  have am:∀op∈MemOp.ofEvents i g.frame.fn g.frame.place es,op.act.touch? =none:=fun op O=>by obtain⟨e,he,rfl⟩:=mem_ofEvents O;exact touch_mute (hm e he)
  have an:∀e∈es,e.loc≠ .mark (.release F.sA):=by
   intro e he ae;have:=hm e he;obtain⟨loc,wr,ar⟩:=e;simp only at ae;subst ae;simp [Event.mute] at this
  refine h.go' hi (by rw [Y];exact ak w) (x:= .gone (deafBehind d es)) (ρ:=chain q) (s':= .quiet) (h.AP.leave ac K) ?_ (.gone Y al) ?_ h.wg h.ES (.inl rfl) (fun q=>h.noSend q) (.inl rfl) (fun e=>by subst e;simp at Y) rfl rfl rfl (by simp) (.inr ⟨by rw [K];rfl,by rw [V];exact Q6 q w⟩)
  ·refine h.CO.app ac h.AP.jn (by rw [K];rfl) (fun e he=>⟨fun a b ag=>(by rw [touch_mute (hm e he)] at ag;cases ag),an e he⟩) (.inr fun e he=>touch_mute (hm e he)) (fun Z aa=>h.AP.Jq Z aa) (fun k ao e ap ρ V=>?_) (fun k ao e ap ah=>by rw [K] at ah;exact absurd trivial ah) (fun Z e aa=> .inr (.inr (by rw [K];trivial))) (fun Z e aa=> .inr ⟨by rw [K];trivial,fun e he=>touch_mute (hm e he)⟩);exact V.appOwn _ _ es fun m e he=> .inl (touch_mute (hm e (Array.mem_of_getElem? he)))
  ·have aq:upd S i .quiet=S:=by rw [← ai];exact Ls _ _
   rw [aq];exact h.Bx.mute (g:=i) (fun op O=>by obtain⟨e,_,rfl⟩:=mem_ofEvents O;rfl) am (fun op O=>by obtain⟨e,he,rfl⟩:=mem_ofEvents O;exact low_mute (hm e he) _) rfl
theorem Bi.enabled{N0 N:Nat}(h:Bi F N0 N j c φ v wt' sm cl){i:Nat}(hi:i<N){p:Ph}(K:φ i= .ph p)(ak:∀k,p≠ .Bs k)(al:∀k,p≠ .Di k)(h3:p≠ .DI)(am:∀an vs,p≠ .Bh an vs)(ao:p≠ .Cc)(h6:p= .BU→sm=1):
  ∃v' w' sm' es nx,F.act p v wt' sm=some ((v',w',sm'),es,nx):=by
 have hm:=h.mode;have au:=h.P3;have av:=h.Gm;have O:=h.cnt;have Z:cU (φ i)≤sumTo N fun a=>cU (φ a):=le_sumTo (f:=fun a=>cU (φ a)) hi;have aa:cL (φ i)≤sumTo N fun a=>cL (φ a):=le_sumTo (f:=fun a=>cL (φ a)) hi;have ag:cS (φ i)≤sumTo N fun a=>cS (φ a):=le_sumTo (f:=fun a=>cS (φ a)) hi;rw [K] at Z aa ag;have ap:wt'≤1:=by
  generalize (if c=true then φ (N0+F.n) else Nx.ph .BD)=y at hm
  cases y with
  | gone d=>simp only [BA] at hm;omega
  | ph q=>cases q <;> simp only [BA] at hm <;> (try exact hm.elim) <;> omega
 have ab:1≤(sumTo N fun a=>cL (φ a))+(sumTo N fun a=>cS (φ a))→v=0∧sm=0∧wt'=sumTo N fun a=>cL (φ a):=by
  intro hh;generalize (if c=true then φ (N0+F.n) else Nx.ph .BD)=y at hm
  cases y with
  | gone d=>simp only [BA] at hm;omega
  | ph q=>cases q <;> simp only [BA] at hm <;> (try exact hm.elim) <;> omega
 have ac:∀x,φ i= .ph x→Fj (.ph x)→c=true∧(if c=true then φ (N0+F.n) else Nx.ph .BD)= .ph x:=by
  intro x V ah;rcases h.Du hi with rfl | ⟨a,b⟩ | ⟨k,ae,rfl⟩ | ⟨O,rfl⟩
  ·obtain⟨q,U,Y⟩:=h.main;rw [V] at U;cases U;cases x <;> simp [Fi] at Y <;> exact ah.elim
  ·have:=h.old i a b;rw [V] at this;exact this.elim
  ·have:=h.work k ae;rw [V] at this;cases x <;> simp [FI] at this <;> exact ah.elim
  ·exact⟨O,by rw [if_pos O];exact V⟩
 cases p <;> simp only [Fam.act]
 ·exact absurd rfl (ak _)
 ·exact⟨_,_,_,_,_,rfl⟩
 ·exact⟨_,_,_,_,_,rfl⟩
 ·simp only [cU] at Z;have:1≤v:=by
   have aw:1≤sumTo N fun a=>cU (φ a):=Z;omega
  rw [if_pos ⟨this,by omega,ap⟩];exact⟨_,_,_,_,_,rfl⟩
 ·have aq:1≤sumTo N fun a=>cL (φ a):=aa;have:=ab (by omega);rw [if_pos ⟨this.1,by omega⟩];exact⟨_,_,_,_,_,rfl⟩
 ·have aq:1≤sumTo N fun a=>cL (φ a):=aa;have:=ab (by omega);rw [if_pos ⟨this.1,by omega⟩];exact⟨_,_,_,_,_,rfl⟩
 ·have ay:1≤sumTo N fun a=>cS (φ a):=ag;have:=ab (by omega);rw [if_pos this.2.1];exact⟨_,_,_,_,_,rfl⟩
 ·exact⟨_,_,_,_,_,rfl⟩
 ·obtain⟨ai,e⟩:=ac _ K trivial;rw [e] at hm;rw [if_pos ⟨hm.2.2.2.2.2,hm.2.2.2.1⟩];exact⟨_,_,_,_,_,rfl⟩
 ·obtain⟨ai,e⟩:=ac _ K trivial;rw [e] at hm;rw [if_pos ⟨hm.2.2.2.2.2.1,hm.2.2.2.2.2.2,hm.2.2.2.1⟩];split <;> exact⟨_,_,_,_,_,rfl⟩
 ·exact⟨_,_,_,_,_,rfl⟩
 ·rw [if_pos (h6 rfl)];exact⟨_,_,_,_,_,rfl⟩
 ·obtain⟨ai,e⟩:=ac _ K trivial;rw [e] at hm;rw [if_pos ⟨hm.2.2.2.2.1,hm.2.2.2.1⟩];exact⟨_,_,_,_,_,rfl⟩
 ·exact⟨_,_,_,_,_,rfl⟩
 ·exact⟨_,_,_,_,_,rfl⟩
 ·exact absurd rfl ao
 ·exact⟨_,_,_,_,_,rfl⟩
 ·have ar:c=false∧v≤j∧j<F.n:=by
   rcases h.Du hi with rfl | ⟨a,b⟩ | ⟨k,ae,rfl⟩ | ⟨O,rfl⟩
   ·obtain⟨q,U,Y⟩:=h.main;rw [K] at U;cases U;have aj:=h.FX;rw [K] at aj;exact⟨Y.2.2,by simpa [pend] using aj,Y.2.1⟩
   ·have:=h.old i a b;rw [K] at this;exact this.elim
   ·have:=h.work k ae;rw [K] at this;exact this.elim
   ·have:=h.cls O;rw [K] at this;exact this.elim
  rw [ar.1] at hm;simp only [Bool.false_eq_true,if_false,BA] at hm;rw [if_pos ⟨by omega,hm.2.2.2.1⟩];exact⟨_,_,_,_,_,rfl⟩
 ·exact⟨_,_,_,_,_,rfl⟩
 ·exact⟨_,_,_,_,_,rfl⟩
 ·exact absurd rfl (al _)
 ·exact absurd rfl h3
 ·exact absurd rfl (am _ _)
 all_goals exact⟨_,_,_,_,_,rfl⟩
end
end Pal
namespace Pal
open Go Go.Conc
open Go.ConcN (upd upd_same upd_ne sumTo sumTo_upd sumTo_upd_out sumTo_congr le_sumTo sumTo_le fork_knows RelBy)
theorem LF{α:Type}(f:Nat→α)(i:Nat)(x y:α):upd (upd f i x) i y=upd f i y:=by
 funext a;unfold upd;split <;> rfl
section
variable {P:Program}{F:Fam}{B:Base}{gs:Array Goroutine}{w w':World}{sl:Option (Nat×Nat)}{t:Trace}{φ:Nat→Nx}{r:Nat→Rk}{bt:Nat→Bool}{S:Nat→St}{Sh:Nat→Prop}{j:Nat}{c:Bool}{v wt' sm v₁ wt₁ sm₁:Nat}{cl cl₁:Bool}{k k₁:Nat}
theorem Vd{p:Ph}{es:Array Event}{nx:Nx}(K:F.act p v wt' sm=some ((v₁,wt₁,sm₁),es,nx)):
  (∀q,nx= .ph q→Fam.B4 q=Fam.B4 p∧(Fam.Cr q=true→p= .Eg∨Fam.Cr p=true))∧(∀k,nx≠ .ph (.Bs k))∧(sm₁=sm∨sm₁=0∨p= .CQ)∧(∀d,nx= .gone d→Fam.B4 p=false):=by
 cases p <;> simp only [Fam.act] at K <;> (try (cases K;done))
 ·cases K;exact⟨fun q e=>by cases e;exact⟨rfl,fun _=> .inl rfl⟩,by simp,.inl rfl,by simp⟩
 ·cases K;exact⟨fun q e=>by cases e;exact⟨rfl,fun _=> .inr rfl⟩,by simp,.inl rfl,by simp⟩
 ·split at K
  ·cases K;refine⟨fun q e=>?_,?_,.inl rfl,fun _ _=>rfl⟩
   ·split at e
    ·cases e;exact⟨rfl,fun _=> .inr rfl⟩
    ·cases e
   ·intro k;split <;> simp
  ·cases K
 ·split at K
  ·cases K;exact⟨fun q e=>by cases e;exact⟨rfl,fun _=> .inr rfl⟩,by simp,.inl rfl,by simp⟩
  ·cases K
 ·split at K
  ·cases K;exact⟨fun q e=>by cases e;exact⟨rfl,fun _=> .inr rfl⟩,by simp,.inl rfl,by simp⟩
  ·cases K
 ·split at K
  ·cases K;exact⟨fun q e=>(by cases e),by simp,.inr (.inr rfl),fun _ _=>rfl⟩
  ·cases K
 ·cases K;exact⟨fun q e=>by cases e;exact⟨rfl,fun h=>by cases h⟩,by simp,.inl rfl,by simp⟩
 ·split at K
  ·cases K;refine⟨fun q e=>?_,?_,.inl rfl,?_⟩
   ·split at e <;> cases e <;> exact⟨rfl,fun h=>by cases h⟩
   ·intro k;split <;> simp
   ·intro d;split <;> simp
  ·cases K
 ·split at K
  ·split at K
   ·cases K;exact⟨fun q e=>by cases e;exact⟨rfl,fun h=>by cases h⟩,by simp,.inl rfl,by simp⟩
   ·cases K;exact⟨fun q e=>by cases e;exact⟨rfl,fun h=>by cases h⟩,by simp,.inl rfl,by simp⟩
  ·cases K
 ·cases K;exact⟨fun q e=>by cases e;exact⟨rfl,fun h=>by cases h⟩,by simp,.inl rfl,by simp⟩
 ·split at K
  ·cases K;exact⟨fun q e=>by cases e;exact⟨rfl,fun h=>by cases h⟩,by simp,.inr (.inl rfl),by simp⟩
  ·cases K
 ·split at K
  ·cases K;exact⟨fun q e=>by cases e;exact⟨rfl,fun h=>by cases h⟩,by simp,.inl rfl,by simp⟩
  ·cases K
 ·cases K;exact⟨fun q e=>by cases e;exact⟨rfl,fun h=>by cases h⟩,by simp,.inl rfl,by simp⟩
 ·cases K;exact⟨fun q e=>by cases e;exact⟨rfl,fun h=>by cases h⟩,by simp,.inl rfl,by simp⟩
 ·cases K;exact⟨fun q e=>by cases e;exact⟨rfl,fun h=>by cases h⟩,by simp,.inl rfl,by simp⟩
 ·split at K
  ·cases K;refine⟨fun q e=>?_,?_,.inl rfl,?_⟩
   ·split at e <;> cases e <;> exact⟨rfl,fun h=>by cases h⟩
   ·intro k;split <;> simp
   ·intro d;split <;> simp
  ·cases K
 ·cases K;exact⟨fun q e=>by cases e;exact⟨rfl,fun h=>by cases h⟩,by simp,.inl rfl,by simp⟩
 all_goals
  cases K;exact⟨fun q e=>by cases e;exact⟨rfl,fun h=>by cases h⟩,by simp,.inl rfl,by simp⟩
theorem Sz(w:World)(v wt sm:Nat):(F.put w v wt sm).heap.size=w.heap.size:=by simp [Fam.put]
theorem O3(w:World)(v wt sm:Nat){b:Nat}(h:b≠F.wg):(F.put w v wt sm).heap[b]? =w.heap[b]? :=by simp [Fam.put,Array.getElem?_setIfInBounds_ne (Ne.symm h)]
theorem Pk(w:World)(v wt sm:Nat)(h:F.wg<w.heap.size):F.WG (F.put w v wt sm) v wt sm:=by simp [Fam.WG,Fam.put,h]
theorem Inv.act(h:Inv P F B gs w t φ r bt S Sh j c v wt' sm cl k){i:Nat}{g:Goroutine}(hi:gs[i]? =some g){p:Ph}(Y:φ i= .ph p)(U:(i==0)=Fam.B4 p){s₀:St}(hg:BH (S i) s₀)(hs:Stop P F p g s₀)
  {es:Array Event} {nx:Nx} (O:F.act p v wt' sm=some ((v₁,wt₁,sm₁),es,nx)):Fo P F B gs w sl t i (mu F gs.size φ r bt):=by
 have Z:i<gs.size:=(Array.getElem?_eq_some_iff.1 hi).1;obtain⟨g',av,aw,aj⟩:=hs.law.act _ _ _ _ _ _ _ _ O;obtain⟨n1,n2,ay,az⟩:=Vd O;have aa:=h.Bx.Dr F.wg h.FV;have ak:=h.AP.act Z Y O;obtain⟨al,am,aA⟩:=h.CO.act h.AP Z Y O g.frame.fn g.frame.place;have aB:Bj t w gs.size (upd S i s₀) Sh:=h.Bx.ghost Z hg;have ab:Bj (t++MemOp.ofEvents i g.frame.fn g.frame.place es) (F.put w v₁ wt₁ sm₁) gs.size (upd S i s₀) Sh:=by
  refine aB.ext (h.CO.noRace h.Bx.clean Z aA am) (fun op ac a aC b hb=>?_) (fun op ac=>?_) (Sz ..) (fun b hb=>O3 _ _ _ _ fun e=>hb (e▸h.FV))
  ·obtain⟨e,he,rfl⟩:=mem_ofEvents ac;obtain⟨⟨aJ,an,aD⟩,_⟩:=(am e he).1 a aC;rw [hb] at an;cases an;rcases aD with rfl | rfl
   ·exact h.FV
   ·exact h.Ej
  ·obtain⟨e,he,rfl⟩:=mem_ofEvents ac;exact(Pq p O).2.2 e he _ aa
 have ao:stepG P (i==0) g w= .go g' (F.put w v₁ wt₁ sm₁) es:=by rw [U];exact av w h.wg
 have ap:F.ChanAt (F.put w v₁ wt₁ sm₁) cl k:=by show(F.put w v₁ wt₁ sm₁).heap[F.ch]? =_;rw [O3 _ _ _ _ (Ne.symm h.ne)];exact h.ES
 have aq:sm₁=sm∨sm₁=0∨(mayWake P g=true∧g'.status= .running∧φ (B.N0+F.n)= .ph .BU)∨(c=true→bt (B.N0+F.n)=true):=by
  rcases ay with q | q | q
  ·exact .inl q
  ·exact .inr (.inl q)
  ·subst q;have aE:=hs.law.EO (.inl rfl);by_cases e:φ (B.N0+F.n)= .ph .BU
   ·exact .inr (.inr (.inl ⟨aE,aw,e⟩))
   ·refine .inr (.inr (.inr fun ae=>?_));have aF:B.N0+F.n<gs.size:=by have ar:=h.AP.size;have aK:=h.AP.cj ae;rw [ae] at ar;simp at ar;omega
    obtain⟨o,K⟩:∃o,gs[B.N0+F.n]? =some o:=⟨_,Array.getElem?_eq_getElem aF⟩;have V:=h.CR _ _ K;generalize r (B.N0+F.n)=aL at V;generalize S (B.N0+F.n)=aM at V;have ag:=h.AP.cls ae;generalize hb:bt (B.N0+F.n)=b at V ⊢;generalize aN:φ (B.N0+F.n)=x at V ag e;cases V with
    | walk _ _ _=>rfl
    | again _ _=>rfl
    | DF _ _=>exact ag.elim
    | DZ _ _ _ _=>exact ag.elim
    | blk _ _=>exact absurd rfl e
    | gone _ _=>rfl
 cases nx with
 | ph q=>
  obtain⟨aG,aH⟩:=n1 q rfl;obtain⟨ρ,aI⟩:=aj;have ah:Bj (t++MemOp.ofEvents i g.frame.fn g.frame.place es) (F.put w v₁ wt₁ sm₁) gs.size (upd S i (Fam.Ez p s₀)) Sh:=by
   by_cases e:p= .Eg
   ·subst e;have:=ab.less (i:=i) (s':= .quiet) (fun b o K=>by cases K) (fun b o K=>by cases K)
    rwa [LF] at this
   ·have:Fam.Ez p s₀=s₀:=by cases p <;> first | rfl | exact absurd rfl e
    rw [this];exact ab
  refine h.go' hi ao ak al (x:= .ph q) (ρ:=ρ) (s':=Fam.Ez p s₀) (.walk (by rw [U,aG]) (fun ai=>?_) (by rw [U];exact aI)) ah (Pk _ _ _ _ aa) ap (.inl rfl) (fun e=>h.noSend e) aq (fun e=>?_) rfl rfl rfl (fun k' e=>absurd e (n2 k')) (.inl (by rw [Y];exact Pa O))
  ·rcases aH ai with e | e
   ·subst e;rfl
   ·have:Fam.Ez p s₀=s₀:=by cases p <;> first | rfl | cases e
    rw [this];exact hs.law.quiet e
  ·have:Fam.Ez p s₀=s₀:=by
    cases p <;> first | rfl | (subst e;simp [Fam.B4] at U)
   rw [this];subst e;exact fun b o K=>hg.ext b o K
 | gone d=>
  obtain⟨q,ai⟩:=aj;have au:(i==0)=false:=by rw [U];exact az d rfl
  have ah:Bj (t++MemOp.ofEvents i g.frame.fn g.frame.place es) (F.put w v₁ wt₁ sm₁) gs.size (upd S i .quiet) Sh:=by
   have:=ab.less (i:=i) (s':= .quiet) (fun b o K=>by cases K) (fun b o K=>by cases K)
   rwa [LF] at this
  exact h.go' hi ao ak al (x:= .gone d) (ρ:=chain q) (s':= .quiet) (.gone au ai) ah (Pk _ _ _ _ aa) ap (.inl rfl) (fun e=>h.noSend e) aq (fun e=>by subst e;simp at au) rfl rfl rfl (fun k' e=>absurd e (n2 k')) (.inl (by rw [Y];exact Pa O))
theorem Qk{g g' o:Goroutine}(h:g'.status= .blocked):woken P g g' w o=o:=by
 unfold woken;rw [if_neg (by simp [h])]
theorem Inv.rest(h:Inv P F B gs w t φ r bt S Sh j c v wt' sm cl k){i:Nat}{g':Goroutine}{u:Trace}{s₀:St}(ab:i<gs.size)(aj:bt i=true)(hg:BH (S i) s₀)(ak:B7 P F (i==0) (φ i) (r i) false g' s₀)(hu:u= #[])
  (al:i=0→cl=false∧∀a k',a<gs.size→φ a= .ph (.Bs k')→bt a=true) (hsend:∀k',φ i= .ph (.Bs k')→bt 0=true) (am:c=true→i=B.N0+F.n→sm=0):
  ∃ag,Inv P F B (gs.setIfInBounds i g') w (t++u) φ r ag (upd S i s₀) Sh j c v wt' sm cl k∧Mu.lt (mu F (gs.setIfInBounds i g').size φ r ag) (mu F gs.size φ r bt):=by
 subst hu;have O:(gs.setIfInBounds i g').size=gs.size:=by simp
 have an:t++(#[]:Trace)=t:=by simp
 have aa:∀{a},a≠i→upd bt i false a=bt a:=fun e=>upd_ne _ _ e;rw [an];refine⟨upd bt i false,⟨by rw [O];exact h.AP,by rw [O];exact h.CO,fun a o U=>?_,by rw [O];exact h.Bx.ghost ab hg,h.FV,h.Ej,h.ne,h.wg,h.ES,fun K=>?_,fun ah K=>?_,?_,h.tape,h.os,h.output⟩,?_⟩
 ·by_cases e:a=i
  ·subst e;rw [Array.getElem?_setIfInBounds_self_of_lt ab] at U;obtain rfl:=Option.some.inj U;rw [upd_same,upd_same];exact ak
  ·rw [Array.getElem?_setIfInBounds_ne (Ne.symm e)] at U;rw [upd_ne _ _ e,upd_ne _ _ e];exact h.CR a o U
 ·by_cases e:0=i
  ·subst e;obtain⟨ac,ae⟩:=al rfl;refine⟨ac,fun a k' V Y=>?_⟩;rw [O] at V;by_cases Z:a=0
   ·subst Z;obtain⟨p,ai,hm⟩:=h.AP.main;rw [Y] at ai;cases ai;exact hm.elim
   ·rw [aa Z];exact ae a k' V Y
  ·rw [aa e] at K;obtain⟨ac,ae⟩:=h.Kw K;refine⟨ac,fun a k' V Y=>?_⟩;rw [O] at V;by_cases Z:a=i
   ·subst Z;rw [hsend k' Y] at K;cases K
   ·rw [aa Z];exact ae a k' V Y
 ·by_cases e:B.N0+F.n=i
  ·exact am ah e.symm
  ·rw [aa e] at K;exact h.blk ah K
 ·by_cases e:0=i
  ·subst e;rw [upd_same];exact fun b o U=>hg.ext b o (h.le b o U)
  ·rw [upd_ne _ _ e];exact h.le
 ·rw [O];have:=sumTo_upd bt false bit ab;rw [aj] at this;exact .inr ⟨rfl,rfl,.inr ⟨rfl,by show(sumTo gs.size fun a=>bit (upd bt i false a))<sumTo gs.size fun a=>bit (bt a);simp only [bit] at this ⊢;simp only [if_true,Bool.false_eq_true,if_false] at this;omega⟩⟩
theorem Inv.block(h:Inv P F B gs w t φ r bt S Sh j c v wt' sm cl k){i:Nat}{g:Goroutine}(hi:gs[i]? =some g)(O:φ i= .ph .BU)(V:bt i=true)(K:(i==0)=false){s₀:St}(hg:BH (S i) s₀)(hs:Stop P F .BU g s₀)(Y:sm=0):
  Fo P F B gs w sl t i (mu F gs.size φ r bt):=by
 have Z:i<gs.size:=(Array.getElem?_eq_some_iff.1 hi).1;subst Y;have aa:=hs.law.CS rfl w v wt' h.wg;have U:=runT_crowd_go (P:=P) (sl:=sl) (i:=i) hi (by rw [K];exact aa);have ab:(gs.map (woken P g {g with status:= .blocked} w)).setIfInBounds i {g with status:= .blocked}=gs.setIfInBounds i {g with status:= .blocked}:=by
  have:(woken P g {g with status:= .blocked} w)=id:=by funext o;exact Qk rfl
  rw [this,Array.map_id]
 rw [ab] at U;obtain⟨ag,ac,ae⟩:=h.rest (g':={g with status:= .blocked}) (u:=MemOp.ofEvents i g.frame.fn g.frame.place #[]) Z V hg (by rw [O];exact .blk K hs) (by rw [ofEvents_eq];simp) (fun e=>by subst e;simp at K) (fun k' e=>by rw [O] at e;cases e) (fun _ _=>rfl);exact⟨_,_,_,_,U,.inl ⟨_,_,_,_,_,_,_,_,_,_,_,_,ac,ae⟩⟩
theorem Inv.close(h:Inv P F B gs w t φ r bt S Sh j c v wt' sm cl k){i:Nat}{g:Goroutine}(hi:gs[i]? =some g)(K:φ i= .ph .Cc)(ab:(i==0)=false){s₀:St}(hs:Stop P F .Cc g s₀):
  Fo P F B gs w sl t i (mu F gs.size φ r bt):=by
 have Y:i<gs.size:=(Array.getElem?_eq_some_iff.1 hi).1;have an:c=true∧i=B.N0+F.n:=by
  rcases h.AP.Du Y with rfl | ⟨a,b⟩ | ⟨k',ao,rfl⟩ | q
  ·simp at ab
  ·have:=h.AP.old i a b;rw [K] at this;exact this.elim
  ·have:=h.AP.work k' ao;rw [K] at this;exact this.elim
  ·exact q
 obtain⟨O,rfl⟩:=an;have ap:cl=false:=by
  have hm:=h.AP.mode;rw [if_pos O,K] at hm;exact hm.2.2.2.2.2
 subst ap;have aF:v=0:=by
  have hm:=h.AP.mode;rw [if_pos O,K] at hm;exact hm.2.2.2.2.1
 obtain⟨g',aq,ar,q,au⟩:=hs.law.close rfl;have ag:=h.Bx.Dr F.ch h.Ej;have av:=hs.law.EO (.inr rfl);have aw:MemOp.ofEvents (B.N0+F.n) g.frame.fn g.frame.place (closeEvents F.ch)= #[{g:=B.N0+F.n,fn:=g.frame.fn,pos:=g.frame.place,act:= .access ⟨.obj F.ch,false,true⟩},{g:=B.N0+F.n,fn:=g.frame.fn,pos:=g.frame.place,act:= .close F.ch}]:=by
  simp [MemOp.ofEvents,closeEvents,MemAct.ofEvent]
 have ah:∀b,b≠F.ch→(w.setChan F.ch 0 #[] true k k false).heap[b]? =w.heap[b]? :=fun b hb=>by simp [World.setChan,Array.getElem?_setIfInBounds_ne (Ne.symm hb)]
 have ai:∀e∈closeEvents F.ch,∀a,(MemAct.ofEvent e).touch? =some a→a=⟨.obj F.ch,false,.atomic⟩:=by
  intro e he a U;simp only [closeEvents,List.mem_toArray,List.mem_cons,List.not_mem_nil,or_false] at he;rcases he with rfl | rfl
  ·simp [MemAct.ofEvent,MemAct.touch?] at U;exact U.symm
  ·simp [MemAct.ofEvent,MemAct.touch?] at U
 have Z:∀e∈closeEvents F.ch,EvS F (B.N0+F.n=if c=true then B.N0+F.n else 0) e:=by
  intro e he;refine⟨fun a U=>?_,?_⟩
  ·have:=ai e he a U;subst this;exact⟨⟨F.ch,rfl,.inr rfl⟩,by simp,by simp⟩
  ·simp only [closeEvents,List.mem_toArray,List.mem_cons,List.not_mem_nil,or_false] at he;rcases he with rfl | rfl <;> simp
 have aG:=h.AP.n1;have aH:=h.AP.pos;refine h.go' hi (w':=w.setChan F.ch 0 #[] true k k false) (by rw [ab];exact ar w k h.ES) (x:= .gone 0) (ρ:=chain q) (s':= .quiet) (cl₁:=true) (k₁:=k) (h.AP.close O K) ?_ (.gone ab au) ?_ ?_ ?_ (.inr ⟨av,aq⟩) (fun _ ay k' az e=>?_) (.inl rfl) (fun e=>absurd e (by omega)) rfl rfl rfl (by simp) (.inl (by rw [K];simp [wt]))
 ·refine h.CO.app Y h.AP.jn (by rw [K];rfl) (fun e he=>⟨fun a b U hb aI=>⟨((Z e he).1 a U).2.1,((Z e he).1 a U).2.2⟩,(Z e he).2⟩) (.inl (.inr (by omega))) (fun O aa=>h.AP.Jq O aa) (fun k' aj e aA ρ ak=>by omega) (fun k' aj e aA aJ=>by have:=h.AP.cj O;omega) (fun O e aa=> .inr (.inl K)) (fun aK e aa=> .inl ?_);obtain⟨al,am⟩:=h.CO.acq O (.inl K);have aL:al<t.size:=lt_of_act? am.1;rw [aw];generalize hu:(#[({g:=B.N0+F.n,fn:=g.frame.fn,pos:=g.frame.place,act:= .access ⟨.obj F.ch,false,true⟩}:MemOp),{g:=B.N0+F.n,fn:=g.frame.fn,pos:=g.frame.place,act:= .close F.ch}]:Trace)=u;have aB:(t++u)[t.size]? =some {g:=B.N0+F.n,fn:=g.frame.fn,pos:=g.frame.place,act:= .access ⟨.obj F.ch,false,true⟩}:=by subst hu;simp
  have ac:(t++u)[t.size+1]? =some {g:=B.N0+F.n,fn:=g.frame.fn,pos:=g.frame.place,act:= .close F.ch}:=by
   subst hu;rw [Array.getElem?_append_right (by omega)];simp
  refine⟨t.size+1,by rw [act?_of ac],by simp [Trace.g?,ac],⟨B.N0+F.n,by simp [Trace.g?,ac],?_⟩,⟨al,by omega,am.app fun k' ρ aj ak=>ak.appOther (g:=B.N0+F.n) (by subst hu;simp) (by omega)⟩,fun x aa hg aC=>?_⟩
  ·rw [deaf_succ aB,deaf_old (Nat.le_refl _)];have:=h.CO.deaf _ Y;rw [K] at this;show deafStep _ (Deaf t _) _=0;rw [this];rfl
  ·obtain⟨op,V,_⟩:=Option.map_eq_some_iff.1 hg;have:=lt_size_of_getElem? V;subst hu;simp at this;omega
 ·have aD:Bj (t++MemOp.ofEvents (B.N0+F.n) g.frame.fn g.frame.place (closeEvents F.ch)) (w.setChan F.ch 0 #[] true k k false) gs.size S Sh:=by
   refine h.Bx.ext (h.CO.noRace h.Bx.clean Y (.inr (by omega)) Z) (fun op ae a aE b hb=>?_) (fun op ae=>?_) (by simp [World.setChan]) (fun b hb=>ah b fun e=>hb (e▸h.Ej))
   ·obtain⟨e,he,rfl⟩:=mem_ofEvents ae;have:=ai e he a aE;subst this;simp [Cb] at hb;subst hb;exact h.Ej
   ·obtain⟨e,he,rfl⟩:=mem_ofEvents ae;simp only [closeEvents,List.mem_toArray,List.mem_cons,List.not_mem_nil,or_false] at he;rcases he with rfl | rfl <;> simpa [MemAct.ofEvent,MemAct.low,Loc.low] using ag
  exact aD.less (i:=B.N0+F.n) (s':= .quiet) (fun b o V=>by cases V) (fun b o V=>by cases V)
 ·show(w.setChan F.ch 0 #[] true k k false).heap[F.wg]? =_;rw [ah _ h.ne];exact h.wg
 ·show(w.setChan F.ch 0 #[] true k k false).heap[F.ch]? =_;simp [World.setChan,ag]
 ·have aC:=h.AP.cnt;have h3:cU (φ ay)≤sumTo gs.size fun a=>cU (φ a):=le_sumTo (f:=fun a=>cU (φ a)) az;rw [e] at h3;have aM:1≤sumTo gs.size fun a=>cU (φ a):=h3;omega
end
end Pal
namespace Pal
open Go Go.Conc
open Go.ConcN (upd upd_same upd_ne sumTo sumTo_upd sumTo_upd_out sumTo_congr le_sumTo sumTo_le fork_knows RelBy)
section
variable {P:Program}{F:Fam}{B:Base}{gs gs':Array Goroutine}{w w':World}{sl:Option (Nat×Nat)}{t:Trace}{φ:Nat→Nx}{r:Nat→Rk}{bt:Nat→Bool}{S:Nat→St}{Sh:Nat→Prop}{j:Nat}{c:Bool}{v wt' sm v₁ wt₁ sm₁:Nat}{cl cl₁:Bool}{k k₁:Nat}{main:Bool}
theorem B7.O6{x:Nx}{r:Rk}{b:Bool}{o:Goroutine}{s:St}(h:B7 P F main x r b o s)(hb:main=true→b=true):offersAt o F.ch false= []:=by
 cases h with
 | walk _ _ K=>exact offersAt_of_not_blocked (by rw [K.running];simp) _ _
 | again _ _=>exact offersAt_of_not_blocked (by simp) _ _
 | DF O _=>cases hb O
 | DZ _ _ _ _=>exact offersAt_parked_send' _ _ _ _ _ _
 | blk _ hs=>simp [offersAt,hs.law.offers]
 | gone _ U=>exact offersAt_of_not_blocked (by rcases U.status with e | e <;> rw [e] <;> simp) _ _
theorem B7.LO{k:Nat}{r:Rk}{o:Goroutine}{s:St}(h:B7 P F main (.ph (.Bs k)) r false o s):∃g v z,o=parked g #[scase F.ch v z] .send∧F.msg k v s.E∧s.q=false∧Way P false (Stop P F .BB) (served g undef) s:=by
 generalize K:Nx.ph (.Bs k)=x at h;generalize hb:false=b at h;cases h with
 | walk _ _ _=>cases hb
 | again _ _=>cases K
 | DF _ _=>cases K
 | DZ _ O h3 U=>cases K;exact⟨_,_,_,rfl,O,h3,U⟩
 | blk _ _=>cases K
 | gone _ _=>cases K
theorem B7.Lj{x:Nx}{r:Rk}{b:Bool}{o:Goroutine}{s:St}(h:B7 P F main x r b o s)(K:offersAt o F.ch true≠ []):∃k,x= .ph (.Bs k)∧b=false:=by
 cases h with
 | walk _ _ O=>exact absurd (offersAt_of_not_blocked (by rw [O.running];simp) _ _) K
 | again _ _=>exact absurd (offersAt_of_not_blocked (by simp) _ _) K
 | DF V _=>exact absurd (offersAt_parked_recv' _ _ _ _ _) K
 | DZ _ _ _ _=>exact⟨_,rfl,rfl⟩
 | blk _ hs=>exact absurd (by simp [offersAt,hs.law.offers]) K
 | gone _ U=>exact absurd (offersAt_of_not_blocked (by rcases U.status with e | e <;> rw [e] <;> simp) _ _) K
theorem B7.receiver{p:Ph}{r:Rk}{b:Bool}{o:Goroutine}{s:St}(h:B7 P F main (.ph p) r b o s)(hb:b=false)(hm:main=true):∃O vs g z,p= .Bh O vs∧o=parked g #[rcase F.ch z] (.recv true)∧Stop P F (.Bh O vs) g s:=by
 generalize U:Nx.ph p=x at h;cases h with
 | walk _ _ _=>cases hb
 | again _ _=>cases hb
 | DF _ V=>cases U;exact⟨_,_,_,_,rfl,rfl,V⟩
 | DZ K _ _ _=>rw [K] at hm;cases hm
 | blk K _=>rw [K] at hm;cases hm
 | gone _ _=>cases U
theorem QT{g g':Goroutine}{cs K:Array CommCase}{sh O:CommShape}(h:parked g cs sh=parked g' K O):cs=K∧sh=O∧∀x,served g x=served g' x:=by
 obtain⟨a,b,c,d,e⟩:=g;obtain⟨U,V,Y,Z,aa⟩:=g';simp only [parked,Goroutine.mk.injEq,Option.some.injEq,Prod.mk.injEq,true_and] at h;obtain⟨rfl,rfl,rfl,rfl,rfl⟩:=h;exact⟨rfl,rfl,fun _=>rfl⟩
theorem M0(w:World)(c cap:Nat)(buf:Array Value)(cl:Bool)(s r:Nat)(K:Bool){b:Nat}(h:b≠c):(w.setChan c cap buf cl s r K).heap[b]? =w.heap[b]? :=by simp [World.setChan,Array.getElem?_setIfInBounds_ne (Ne.symm h)]
def Fp(E E':LH):LH:=fun b=>match E b with | some o=>some o | none=>E' b
def D9(i s:Nat)(c:Nat)(f1 f2:FuncId)(p1 p2:String):Trace:=
 #[{g:=i,fn:=f1,pos:=p1,act:= .send c s},{g:=0,fn:=f2,pos:=p2,act:= .recv c s 0},{g:=i,fn:=f1,pos:=p1,act:= .sendDone c s},{g:=0,fn:=f2,pos:=p2,act:= .recvDone c s}]
theorem QK{i s K:Nat}{f1 f2:FuncId}{p1 p2:String}(hi:i≠0)(V:Deaf t i=0)(Y:Deaf t 0=0){x:Nat}(Z:Knows t i x):Knows (t++D9 i s K f1 f2 p1 p2) 0 x:=by
 generalize hu:D9 i s K f1 f2 p1 p2=u;have O:(t++u)[t.size]? =some {g:=i,fn:=f1,pos:=p1,act:= .send K s}:=by subst hu;rw [Array.getElem?_append_right (by omega)];simp [D9]
 have aa:(t++u)[t.size+1]? =some {g:=0,fn:=f2,pos:=p2,act:= .recv K s 0}:=by subst hu;rw [Array.getElem?_append_right (by omega)];simp [D9]
 have ab:(t++u)[t.size+2]? =some {g:=i,fn:=f1,pos:=p1,act:= .sendDone K s}:=by subst hu;rw [Array.getElem?_append_right (by omega)];simp [D9]
 have U:(t++u)[t.size+3]? =some {g:=0,fn:=f2,pos:=p2,act:= .recvDone K s}:=by subst hu;rw [Array.getElem?_append_right (by omega)];simp [D9]
 have ac:=Z.hb_new (Nat.le_refl _) O rfl;have ae:(t++u).heard t.size:=⟨i,by simp [Trace.g?,O],by rw [deaf_old (Nat.le_refl _)];exact V⟩;have ag:(t++u).heard (t.size+3):=⟨0,by simp [Trace.g?,U],by
  rw [deaf_succ ab,deaf_succ aa,deaf_succ O,deaf_old (Nat.le_refl _)]
  simp only [deafStep];exact Y⟩
 exact⟨t.size+3,_,U,rfl,.inr (ac.trans (.single (.inr ⟨.handOver (by rw [act?_of O]) (by rw [act?_of U]),ae,ag⟩)))⟩
theorem Inv.meet(h:Inv P F B gs w t φ r bt S Sh j c v wt' sm cl k)(aK:∀k v E E',Le E E'→F.msg k v E→F.msg k v E'){i k':Nat}(ai:k'<j)(aj:i=B.N0+k')(Z:φ i= .ph (.Bs k')){U:List Nat}{vs:List Value}(ag:φ 0= .ph (.Bh U vs))
  {ay az:Goroutine} {s₀ K:St} (aA:BH (S 0) s₀) (aL:BH (S i) K) (aM:Stop P F (.Bh U vs) ay s₀) {x:Value} (aN:F.msg k' x K.E) (aO:Way P false (Stop P F .BB) (served az undef) K)
  (ak:gs'.size=gs.size) (aP:gs'[0]? =some (served ay (.tuple #[x,.bool true]))) (hi:gs'[i]? =some (served az undef)) (V:∀a,a≠0→a≠i→gs'[a]? =gs[a]?) (aQ:cl=false) {f1 f2:FuncId} {p1 p2:String}:
  ∃aB aC aD S',Inv P F B gs' (w.setChan F.ch 0 #[] false (k+1) (k+1) false) (t++D9 i k F.ch f1 f2 p1 p2) aB aC aD S' Sh j c v wt' sm false (k+1)∧Mu.lt (mu F gs'.size aB aC aD) (mu F gs.size φ r bt):=by
 subst aQ;have bf:=h.AP.pos;have bg:=h.AP.size;have aa:i<gs.size:=by omega
 have ab:0<gs.size:=by omega
 have ah:i≠0:=by omega
 have aE:F.has k'=true:=by have:=h.AP.work k' ai;rw [← aj,Z] at this;exact this.2
 have aR:k' ∉ U:=by have:=(h.AP.ET k' ai aE).1 (by rw [← aj];exact Z);rwa [ag] at this
 have aF:=h.AP.meet (x:=x) ag ai (by rw [← aj];exact Z);rw [← aj] at aF;have hu:∀op∈D9 i k F.ch f1 f2 p1 p2,op.act.touch? =none∧∀m,op.act≠ .mark m:=by
  intro op O;simp only [D9,List.mem_toArray,List.mem_cons,List.not_mem_nil,or_false] at O;rcases O with rfl | rfl | rfl | rfl <;> exact⟨rfl,by simp⟩
 have aS:=h.CO.BO h.AP hu;have aG:=h.Bx.Dr F.ch h.Ej;have al:Bj t w gs.size (upd (upd S i K) 0 s₀) Sh:=by
  have:=(h.Bx.ghost aa aL).ghost (i:=0) (s₀:=s₀) ab (by rw [upd_ne _ _ (Ne.symm ah)];exact aA);exact this
 have aq:upd (upd S i K) 0 s₀ 0=s₀:=upd_same _ _ _;have ar:upd (upd S i K) 0 s₀ i=K:=by rw [upd_ne _ _ ah,upd_same]
 have aT:Bj (t++D9 i k F.ch f1 f2 p1 p2) (w.setChan F.ch 0 #[] false (k+1) (k+1) false) gs.size (upd (upd S i K) 0 s₀) Sh:=by
  refine al.ext (fun said=>?_) (fun op O a am=>by rw [(hu op O).1] at am;cases am) (fun op O=>?_) (by simp [World.setChan]) (fun b hb=>M0 _ _ _ _ _ _ _ _ fun e=>hb (e▸h.Ej))
  ·have key:∀(l:List MemOp) (t:Trace),¬Race said t→(∀op∈l,op.act.touch? =none)→¬Race said (t++l.toArray):=by
    intro l
    induction l with
    | nil=>intro t ht _;simpa using ht
    | cons y l aU=>
     intro t ht ac;have e:t++(y::l).toArray=(t++ #[y])++l.toArray:=by apply Array.ext';simp
     rw [e];exact aU _ (noRace_append (g:=y.g) ht (by simp) fun z a _ op O b hb _=>by simp at O;subst O;rw [ac op (by simp)] at hb;cases hb) fun op O=>ac op (by simp [O])
   exact key _ t (h.Bx.clean said) fun op O=>(hu op (by simpa [D9] using O)).1
  ·simp only [D9,List.mem_toArray,List.mem_cons,List.not_mem_nil,or_false] at O;rcases O with rfl | rfl | rfl | rfl <;> exact aG
 have aV:∀b o o',s₀.E b=some o→K.E b=some o'→o=o':=by
  intro b o o' au av;have a1:=(al.fits 0 ab).e b o (by rw [aq];exact au);have an:=(al.fits i aa).e b o' (by rw [ar];exact av);rw [a1] at an;exact Option.some.inj an
 have aH:Le s₀.E (Fp s₀.E K.E):=fun b o V=>by simp [Fp,V]
 have aW:Le K.E (Fp s₀.E K.E):=fun b o V=>by
  unfold Fp;cases ao:s₀.E b with
  | none=>exact V
  | some o'=>simp only;rw [aV b o' o ao V]
 have aX:Deaf t 0=0:=by rw [h.CO.deaf 0 ab,ag];rfl
 have aY:Deaf t i=0:=by rw [h.CO.deaf i aa,Z];rfl
 have aI:Bj (t++D9 i k F.ch f1 f2 p1 p2) (w.setChan F.ch 0 #[] false (k+1) (k+1) false) gs.size (upd (upd S i K) 0 ⟨Fp s₀.E K.E,s₀.H,false⟩) Sh:=by
  have:=aT.grow (i:=0) (E':=Fp s₀.E K.E) (q:=false) ab (fun b o hb=>by
   rw [aq]
   unfold Fp at hb
   cases ao:s₀.E b with
   | some o'=>rw [ao] at hb;exact .inl hb
   | none=>
    rw [ao] at hb
    have aJ:K.E b=some o:=hb
    refine .inr ⟨i,aa,by rw [ar];exact aJ,fun y a aZ a0 a2=>?_⟩
    have hold:touchAt t y=some a:=by
     obtain⟨op,V,aw⟩:=touch_of aZ
     rcases getElem?_append_cases V with⟨_,a3⟩ | ⟨_,a5⟩
     ·rw [touchAt_of a3];exact aw
     ·rw [(hu op a5).1] at aw;cases aw
    exact QK ah aY aX (al.kE i aa b (by rw [ar,aJ];simp) y a hold a0 a2))
  rw [aq,LF] at this;exact this
 have a6:∀b,Fp s₀.E K.E b≠none→s₀.H b=none:=by
  intro b hb;have:=(aI.fits 0 ab).d b (by rw [upd_same];exact hb)
  rwa [upd_same] at this
 have a8:k'<F.n:=Nat.lt_of_lt_of_le ai h.AP.jn;obtain⟨z,_,a9,_⟩:=aM.law.recv U vs rfl;obtain⟨ba,bb⟩:=a9 k' x (Fp s₀.E K.E) a8 aE aR aH a6 (aK _ _ _ _ aW aN);obtain⟨bc,bd⟩:=aO;have f0:∀a,a≠0→a≠i→upd (upd φ i (.ph .BB)) 0 (.ph (.Bh (U++ [k']) (vs++ [x]))) a=φ a:=fun a au av=>by rw [upd_ne _ _ au,upd_ne _ _ av]
 have fi:upd (upd φ i (.ph .BB)) 0 (.ph (.Bh (U++ [k']) (vs++ [x]))) i= .ph .BB:=by rw [upd_ne _ _ ah,upd_same]
 refine⟨upd (upd φ i (.ph .BB)) 0 (.ph (.Bh (U++ [k']) (vs++ [x]))),upd (upd r i bc) 0 ba,upd (upd bt i true) 0 true,upd (upd S i K) 0 ⟨Fp s₀.E K.E,s₀.H,false⟩,⟨by rw [ak];exact aF,?_,fun a o ae=>?_,by rw [ak];exact aI,h.FV,h.Ej,h.ne,?_,?_,fun hb=>(by rw [upd_same] at hb;cases hb),fun ap hb=>?_,?_,h.tape,h.os,h.output⟩,?_⟩
 ·rw [ak];refine aS.Tc (fun a am=>?_) (fun a am ac=>?_) (fun ap=>?_)
  ·by_cases q:a=0
   ·subst q;rw [upd_same,ag];rfl
   ·by_cases Y:a=i
    ·subst Y;rw [fi,Z];rfl
    ·rw [f0 a q Y]
  ·by_cases q:B.N0+a=i
   ·rw [q,fi] at ac;exact ac.elim
   ·rwa [f0 _ (by omega) q] at ac
  ·have:=h.AP.cj ap;exact f0 _ (by omega) (by omega)
 ·by_cases q:a=0
  ·subst q;rw [aP] at ae;obtain rfl:=Option.some.inj ae;rw [upd_same,upd_same,upd_same,upd_same];exact .walk rfl (fun q=>by cases q) bb
  ·by_cases Y:a=i
   ·subst Y;rw [hi] at ae;obtain rfl:=Option.some.inj ae;rw [fi,upd_ne _ _ q,upd_same,upd_ne _ _ q,upd_same,upd_ne _ _ q,upd_same];have hm:(a==0)=false:=by simp [q]
    exact .walk (by rw [hm];rfl) (fun q=>by cases q) (by rw [hm];exact bd)
   ·rw [V a q Y] at ae;rw [f0 a q Y,upd_ne _ _ q,upd_ne _ _ Y,upd_ne _ _ q,upd_ne _ _ Y,upd_ne _ _ q,upd_ne _ _ Y];exact h.CR a o ae
 ·show(w.setChan F.ch 0 #[] false (k+1) (k+1) false).heap[F.wg]? =_;rw [M0 _ _ _ _ _ _ _ _ h.ne];exact h.wg
 ·show(w.setChan F.ch 0 #[] false (k+1) (k+1) false).heap[F.ch]? =_;simp [World.setChan,aG]
 ·have bh:=h.AP.cj ap;rw [upd_ne _ _ (by omega),upd_ne _ _ (by omega)] at hb;exact h.blk ap hb
 ·rw [upd_same];exact(h.le.trans fun b o V=>aA.ext b o V).trans aH
 ·rw [ak];refine PR ?_;have a1:=sumTo_upd (upd φ i (.ph .BB)) (.ph (.Bh (U++ [k']) (vs++ [x]))) (wt F.n) ab;have an:=sumTo_upd φ (.ph .BB) (wt F.n) aa;rw [upd_ne _ _ (Ne.symm ah),ag] at a1;rw [Z] at an;have bi:wt F.n (.ph (.Bh U vs))=2:=rfl;have bj:wt F.n (.ph (.Bh (U++ [k']) (vs++ [x])))=2:=rfl;have bk:wt F.n (.ph (.Bs k'))=10:=rfl;have bl:wt F.n (.ph .BB)=9:=rfl;omega
theorem Inv.send(h:Inv P F B gs w t φ r bt S Sh j c v wt' sm cl k)(av:∀k v E E',Le E E'→F.msg k v E→F.msg k v E'){i k':Nat}{g:Goroutine}(hi:gs[i]? =some g)(K:φ i= .ph (.Bs k'))(aw:bt i=true)(aa:(i==0)=false){s₀:St}(hg:BH (S i) s₀)(hs:Stop P F (.Bs k') g s₀):
  Fo P F B gs w sl t i (mu F gs.size φ r bt):=by
 have V:i<gs.size:=(Array.getElem?_eq_some_iff.1 hi).1;have ak:0<gs.size:=by omega
 have O:i≠0:=by simpa using aa
 have ay:k'<j∧i=B.N0+k':=by
  rcases h.AP.Du V with rfl | ⟨a,b⟩ | ⟨az,Y,rfl⟩ | ⟨ab,rfl⟩
  ·exact absurd rfl O
  ·have:=h.AP.old i a b;rw [K] at this;exact this.elim
  ·have:=h.AP.work az Y;rw [K] at this;obtain⟨rfl,_⟩:=this;exact⟨Y,rfl⟩
  ·have:=h.AP.cls ab;rw [K] at this;exact this.elim
 obtain⟨Y,aA⟩:=ay;have aB:cl=false:=by
  cases aC:cl with
  | false=>rfl
  | true=>exact absurd K (h.noSend aC i k' V)
 subst aB;obtain⟨x,z,al,aD,am⟩:=hs.law.send k' rfl;have an:stepG P (i==0) g w= .comm g #[scase F.ch x z] true .send w #[]:=by rw [aa];exact aD w
 have ao:∀(a:Nat) (fn:FuncId) (pos:String),MemOp.ofEvents a fn pos #[]= #[]:=fun a fn pos=>by rw [ofEvents_eq];simp
 cases ac:bt 0 with
 | true=>
  have aE:partners (gs.setIfInBounds i ph) F.ch false= []:=by
   refine partners_nil fun a o ae=>?_;rcases getElem?_stand gs i a o ae with⟨_,rfl⟩ | ⟨_,ag⟩
   ·exact offersAt_ph _ _
   ·exact(h.CR a o ag).O6 fun e=>by
     have:a=0:=by simpa using e
     subst this;exact ac
  have Z:=crowd_waits (sl:=sl) hi an fun aP ap=>by
   simp at ap;subst ap;exact ways_send_none (v:=x) (z:=z) h.ES (Nat.le_refl _) aE
  obtain⟨aq,ah,ai⟩:=h.rest (g':=parked g #[scase F.ch x z] .send) (u:=MemOp.ofEvents i g.frame.fn g.frame.place #[]) V aw hg (by rw [K];exact .DZ aa al (hs.law.live rfl) am) (ao _ _ _) (fun e=>absurd e O) (fun _ _=>ac) (fun ab e=>by have:=h.AP.cj ab;omega);exact⟨_,_,_,_,Z,.inl ⟨_,_,_,_,_,_,_,_,_,_,_,_,ah,ai⟩⟩
 | false=>
  obtain⟨aF,aj⟩:∃o,gs[0]? =some o:=⟨_,Array.getElem?_eq_getElem ak⟩;obtain⟨p0,ar,hm⟩:=h.AP.main;have au:=h.CR 0 aF aj;rw [ac,ar] at au;obtain⟨aQ,vs,U,aG,rfl,rfl,aH⟩:=au.receiver rfl rfl;have aI:partners (gs.setIfInBounds i ph) F.ch false= [(0,0)]:=by
   rw [partners_one (j:=0) (g:=parked U #[rcase F.ch aG] (.recv true)) (stand_get (Ne.symm O) aj) fun a o aJ ae=>?_]
   ·rw [offersAt_parked_recv];simp
   ·rcases getElem?_stand gs i a o ae with⟨_,rfl⟩ | ⟨_,ag⟩
    ·exact offersAt_ph _ _
    ·exact(h.CR a o ag).O6 fun e=>by
      have:a=0:=by simpa using e
      exact absurd this aJ
  have Z:=crowd_send_meets (sl:=sl) hi an h.ES (Ne.symm O) aj aI;rw [finishComm_recv,finishComm_send,ao] at Z;have aK:((gs.setIfInBounds 0 (served U (recvd true x true))).setIfInBounds i (served g undef)).size=gs.size:=by simp
  obtain⟨aL,aM,aq,S',ah,ai⟩:=h.meet av Y aA K ar (.refl _) hg aH al am (gs':=(gs.setIfInBounds 0 (served U (recvd true x true))).setIfInBounds i (served g undef)) aK
   (by rw [Array.getElem?_setIfInBounds_ne O,Array.getElem?_setIfInBounds_self_of_lt ak];rfl) (by rw [Array.getElem?_setIfInBounds_self_of_lt (by simpa using V)]) (fun a aN aO=>by rw [Array.getElem?_setIfInBounds_ne (Ne.symm aO),Array.getElem?_setIfInBounds_ne (Ne.symm aN)]) rfl
   (f1:=g.frame.fn) (f2:=U.frame.fn) (p1:=g.frame.place) (p2:=U.frame.place)
  refine⟨_,_,_,_,Z,.inl ⟨aL,aM,aq,S',Sh,j,c,v,wt',sm,false,k+1,?_,ai⟩⟩;rw [Array.empty_append];exact ah
end
end Pal
namespace Pal
open Go Go.Conc
open Go.ConcN (upd upd_same upd_ne sumTo sumTo_upd sumTo_upd_out sumTo_congr le_sumTo sumTo_le fork_knows RelBy)
section
variable {P:Program}{F:Fam}{B:Base}{gs gs':Array Goroutine}{w w':World}{sl:Option (Nat×Nat)}{t:Trace}{φ:Nat→Nx}{r:Nat→Rk}{bt:Nat→Bool}{S:Nat→St}{Sh:Nat→Prop}{j:Nat}{c:Bool}{v wt' sm v₁ wt₁ sm₁:Nat}{cl cl₁:Bool}{k k₁:Nat}{main:Bool}
theorem Inv.Of(h:Inv P F B gs w t φ r bt S Sh j c v wt' sm true k):c=true∧Dd (φ (B.N0+F.n))∧∀i,0<i→i<gs.size→∃d,φ i= .gone d:=by
 have hm:=h.AP.mode;have K:c=true∧Dd (φ (B.N0+F.n)):=by
  split at hm
  ·rename_i K;refine⟨K,?_⟩;cases O:φ (B.N0+F.n) with
   | gone d=>trivial
   | ph p=>rw [O] at hm;cases p <;> simp [BA] at hm
  ·simp [BA] at hm
 refine⟨K.1,K.2,fun i hi U=>?_⟩;have:Dd (φ i):=by
  rcases h.AP.Du U with rfl | ⟨a,b⟩ | ⟨k',V,rfl⟩ | ⟨_,rfl⟩
  ·omega
  ·exact h.AP.old i a b
  ·exact h.AP.LG K.1 (.inr (.inr (.inr (.inr K.2)))) k' V
  ·exact K.2
 cases O:φ i with
 | gone d=>exact⟨d,rfl⟩
 | ph p=>rw [O] at this;exact this.elim
theorem Inv.over(h:Inv P F B gs w t φ r bt S Sh j c v wt' sm true k){aC:List Nat}{vs:List Value}(an:φ 0= .ph (.Bh aC vs)){s₀:St}(ao:BH (S 0) s₀){g':Goroutine}(aD:F.fin g' s₀)
  (ap:gs'.size=gs.size) (aE:gs'[0]? =some g') (Z:∀a,a≠0→gs'[a]? =gs[a]?) {f1:FuncId} {p1:String}:
  Over P F B gs' w (t++ #[{g:=0,fn:=f1,pos:=p1,act:= .recvClosed F.ch}]):=by
 obtain⟨ac,aq,aF⟩:=h.Of;have aW:=h.AP.pos;have ar:=h.AP.size;have ah:0<gs.size:=by omega
 have aG:F.ch<w.heap.size:=h.Bx.Dr F.ch h.Ej;generalize hu:(#[{g:=0,fn:=f1,pos:=p1,act:= .recvClosed F.ch}]:Trace)=u;have au:∀op∈u,op.act.touch? =none∧∀m,op.act≠ .mark m:=by
  intro op K;subst hu;simp at K;subst K;exact⟨rfl,by simp⟩
 have aa:=h.CO.BO h.AP au;have aH:Deaf t 0=0:=by rw [h.CO.deaf 0 ah,an];rfl
 have av:∀i g,0<i→gs[i]? =some g→∃q d,φ i= .gone d∧QuitsD P q d g∧S i= .quiet:=by
  intro i g hi hg;obtain⟨d,aw⟩:=aF i hi (Array.getElem?_eq_some_iff.1 hg).1;have hs:=h.CR i g hg;rw [aw] at hs;generalize U:Nx.gone d=x at hs;generalize S i=s at hs ⊢;generalize r i=ρ at hs;generalize bt i=aX at hs;cases hs with
  | gone _ ae=>cases U;exact⟨_,_,aw,ae,rfl⟩
  | _=>cases U
 have ae:∀i,∃q,∀g,0<i→gs[i]? =some g→QuitsD P q (Deaf t i) g:=by
  intro i;by_cases hi:0<i∧i<gs.size
  ·obtain⟨q,d,O,Y,_⟩:=av i _ hi.1 (Array.getElem?_eq_getElem hi.2);refine⟨q,fun g _ hg=>?_⟩;rw [Array.getElem?_eq_getElem hi.2] at hg;obtain rfl:=Option.some.inj hg;rw [h.CO.deaf i hi.2,O];exact Y
  ·exact⟨0,fun g O Y=>absurd ⟨O,(Array.getElem?_eq_some_iff.1 Y).1⟩ hi⟩
 have ay:∀op∈u,op.g=0:=by intro op K;subst hu;simp at K;subst K;rfl
 have aI:Bj t w gs.size (lone s₀) Sh:=by
  have O:=h.Bx.ghost ah ao;refine O.congr fun i hi=>?_;by_cases e:i=0
  ·subst e;rw [upd_same];exact⟨rfl,rfl⟩
  ·rw [upd_ne _ _ e];obtain⟨_,_,_,_,aJ⟩:=av i _ (by omega) (Array.getElem?_eq_getElem hi);rw [aJ];simp [lone,e]
 have aK:Bj (t++u) w gs.size (lone s₀) Sh:=aI.mute (g:=0) ay (fun op Z=>(au op Z).1) (fun op K=>by subst hu;simp at K;subst K;exact aG) rfl;refine⟨fun i=>Classical.choose (ae i),Sh,g',s₀,⟨aE,⟨fun i g hi hg=>?_,fun i hi=>?_⟩,by rw [ap];exact aK,fun x g hg aL ai=>?_,?_⟩,aD,h.le.trans fun b o Z=>ao.ext b o Z,h.tape,h.os,h.output⟩
 ·rw [Deaf_other t (by omega) u ay];rw [Z i (by omega)] at hg;exact Classical.choose_spec (ae i) g hi hg
 ·exact aa.above i (by rw [← ap];exact hi)
 ·rcases aa.over x g hg aL ai with q | ⟨q1,q2⟩
  ·exact q
  obtain⟨p,V⟩:=aa.HC ac aq;have aY:p<t.size:=by
   obtain⟨aZ,a0⟩:=h.CO.HC ac aq;rcases Nat.lt_or_ge p t.size with q | q
   ·exact q
   ·have O:=V.1;obtain⟨op,K,aM⟩:=Option.map_eq_some_iff.1 O;rcases getElem?_append_cases K with⟨aN,_⟩ | ⟨_,hm⟩
    ·exact aN
    ·subst hu;simp at hm;subst hm;cases aM
  have aj:(t++u)[t.size]? =some {g:=0,fn:=f1,pos:=p1,act:= .recvClosed F.ch}:=by subst hu;simp
  have aO:(t++u).heard t.size:=⟨0,by simp [Trace.g?,aj],by rw [deaf_old (Nat.le_refl _)];exact aH⟩;have ag:HappensBefore (t++u) p t.size:= .single (.inr ⟨.closed V.1 (by rw [act?_of aj]),V.2.2.1,aO⟩);have az:(t++u).g? t.size=some 0:=by simp [Trace.g?,aj]
  have ak:∀{a b:Nat} {g:Nat},a<b→(t++u).g? a=some g→(t++u).g? b=some g→HappensBefore (t++u) a b:=fun O Y h3=> .single (.inl ⟨O,_,Y,h3⟩);rcases Nat.lt_or_ge g (B.N0+F.n) with aP | aP
  ·
   obtain⟨q,aQ,aR,aS,aT,aU⟩:=V.2.2.2.1;obtain⟨ρ,a2,aV,ab⟩:=aU (g - B.N0) (by omega);have al:B.N0+(g - B.N0)=g:=by omega
   rw [al] at ab;have aA:HappensBefore (t++u) ρ q:= .single (.inr ⟨.marked aV (.inr ab.act) aR (fun z O Y=>aa.norel z (by omega)),ab.heard,aT⟩);have aB:HappensBefore (t++u) q p:=ak aQ aS V.2.1;have hle:x≤ρ:=Nat.le_of_not_lt fun am=>ab.after x am hg ai;refine⟨t.size,az,?_⟩;rcases Nat.lt_or_ge x ρ with U | U
   ·exact((ak U hg ab.g).trans (aA.trans aB)).trans ag
   ·obtain rfl:x=ρ:=by omega
    exact(aA.trans aB).trans ag
  ·
   have al:g=B.N0+F.n:=by rw [ac] at ar;have:=h.AP.cj ac;simp at ar;omega
   subst al;have hle:x≤p:=Nat.le_of_not_lt fun am=>V.2.2.2.2 x am hg ai;refine⟨t.size,az,?_⟩;rcases Nat.lt_or_ge x p with U | U
   ·exact(ak U hg V.2.1).trans ag
   ·obtain rfl:x=p:=by omega
    exact ag
 ·have:=aa.deaf 0 ah;rw [an] at this;exact this
theorem Inv.recv(h:Inv P F B gs w t φ r bt S Sh j c v wt' sm cl k)(aJ:∀k v E E',Le E E'→F.msg k v E→F.msg k v E'){x:Goroutine}(hi:gs[0]? =some x){ai:List Nat}{vs:List Value}(aa:φ 0= .ph (.Bh ai vs))(aK:bt 0=true)
  {O:Goroutine} {s₀:St} (hg:BH (S 0) s₀) (hs:Stop P F (.Bh ai vs) O s₀) (aj:∀w,stepG P true x w=stepG P true O w) (a5:x.frame=O.frame):
  Fo P F B gs w sl t 0 (mu F gs.size φ r bt):=by
 have ak:0<gs.size:=(Array.getElem?_eq_some_iff.1 hi).1;obtain⟨z,aL,_,aM⟩:=hs.law.recv ai vs rfl;have al:stepG P (0==0) x w= .comm O #[rcase F.ch z] true (.recv true) w #[]:=by rw [show((0:Nat)==0)=true from rfl,aj];exact aL w
 have am:∀(a:Nat) (fn:FuncId) (pos:String),MemOp.ofEvents a fn pos #[]= #[]:=fun a fn pos=>by rw [ofEvents_eq];simp
 by_cases ab:partners (gs.setIfInBounds 0 ph) F.ch true= []
 ·cases ac:cl with
  | false=>
   have Y:=h.ES;rw [ac] at Y;have Z:=crowd_waits (sl:=sl) hi al fun a6 ay=>by
    simp at ay;subst ay;exact ways_recv_none (z:=z) Y ab
   have aN:∀a k',a<gs.size→φ a= .ph (.Bs k')→bt a=true:=by
    intro a k' ag an;cases hb:bt a with
    | true=>rfl
    | false=>
     have V:=h.CR a _ (Array.getElem?_eq_getElem ag);rw [an,hb] at V;obtain⟨g,y,ao,hgo,_⟩:=V.LO;have ah:a≠0:=fun e=>by subst e;rw [aa] at an;cases an
     have:(a,0)∈partners (gs.setIfInBounds 0 ph) F.ch true:=mem_partners.2 ⟨gs[a],stand_get ah (Array.getElem?_eq_getElem ag),by rw [hgo,offersAt_parked_send];simp⟩;rw [ab] at this;cases this
   obtain⟨az,ap,aq⟩:=h.rest (g':=parked O #[rcase F.ch z] (.recv true)) (u:=MemOp.ofEvents 0 x.frame.fn x.frame.place #[]) ak aK hg (by rw [aa];exact .DF rfl hs) (am _ _ _) (fun _=>⟨ac,aN⟩) (fun k' e=>by rw [aa] at e;cases e) (fun Y e=>by have:=h.AP.pos;omega);exact⟨_,_,_,_,Z,.inl ⟨_,_,_,_,_,_,_,_,_,_,_,_,ap,aq⟩⟩
  | true=>
   subst ac;have Z:=crowd_recv_closed (sl:=sl) hi al h.ES ab;rw [finishComm_recv,am] at Z;obtain⟨Y,a8,aO⟩:=h.Of;have aP:=aM fun k' U hh=>by
    have aQ:k'<j:=by rw [h.AP.cj Y];exact U
    have aA:=h.AP.ET k' aQ hh;rw [aa] at aA;have a9:=h.AP.size;have ba:=h.AP.pos;obtain⟨d,aB⟩:=aO (B.N0+k') (by omega) (by omega);apply Classical.byContradiction;intro aR;rw [aA.2 aR] at aB;cases aB
   have aS:=h.over (gs':=gs.setIfInBounds 0 (served O (recvd true z false))) aa hg aP (by simp) (by rw [Array.getElem?_setIfInBounds_self_of_lt ak];rfl) (fun a ag=>by rw [Array.getElem?_setIfInBounds_ne (Ne.symm ag)]) (f1:=O.frame.fn) (p1:=O.frame.place);refine⟨_,_,_,_,Z,.inr ?_⟩;rw [Array.empty_append];exact aS
 ·have ac:cl=false:=by
   obtain⟨⟨a,b⟩,ar⟩:=List.exists_mem_of_ne_nil _ ab;obtain⟨o,au,K⟩:=mem_partners.1 ar;rcases getElem?_stand gs 0 a o au with⟨_,rfl⟩ | ⟨_,ae⟩
   ·rw [offersAt_ph] at K;cases K
   ·obtain⟨k',U,_⟩:=(h.CR a o ae).Lj fun e=>by rw [e] at K;cases K
    cases aj:cl with
    | false=>rfl
    | true=>exact absurd U (h.noSend aj a k' (Array.getElem?_eq_some_iff.1 ae).1)
  subst ac;obtain⟨a,av,aC,bb,bc,d,ah,aD,Z⟩:=crowd_recv_meets_some (sl:=sl) hi al h.ES ab fun a b ar=>by
   obtain⟨o,au,K⟩:=mem_partners.1 ar;rcases getElem?_stand gs 0 a o au with⟨_,rfl⟩ | ⟨aT,ae⟩
   ·rw [offersAt_ph] at K;cases K
   ·have V:=h.CR a o ae;obtain⟨k',U,aw⟩:=V.Lj fun e=>by rw [e] at K;cases K
    rw [U,aw] at V;obtain⟨g,y,ao,hgo,_⟩:=V.LO;rw [hgo,offersAt_parked_send] at K;simp at K;exact⟨K,aT,g,y,ao,_,by rw [ae,hgo]⟩
  have aE:a<gs.size:=(Array.getElem?_eq_some_iff.1 aD).1;have V:=h.CR a _ aD;obtain⟨k',U,aw⟩:=V.Lj (by rw [offersAt_parked_send];simp);rw [U,aw] at V;obtain⟨g,y,ao,hgo,aU,bd,aF⟩:=V.LO;obtain⟨aG,aV,aW⟩:=QT hgo;have aX:aC=y:=by simp [scase] at aG;exact aG.1
  subst aX;subst aV;rw [finishComm_recv,finishComm_send,am] at Z;rw [← aW] at aF;have aH:k'<j∧a=B.N0+k':=by
   rcases h.AP.Du aE with rfl | ⟨q1,q2⟩ | ⟨aY,aI,rfl⟩ | ⟨Y,rfl⟩
   ·exact absurd rfl ah
   ·have:=h.AP.old a q1 q2;rw [U] at this;exact this.elim
   ·have:=h.AP.work aY aI;rw [U] at this;obtain⟨rfl,_⟩:=this;exact⟨aI,rfl⟩
   ·have:=h.AP.cls Y;rw [U] at this;exact this.elim
  obtain⟨aZ,a0,az,S',ap,aq⟩:=(h.at_ d).meet aJ aH.1 aH.2 U aa hg (.refl _) hs aU aF (gs':=(gs.setIfInBounds a (served av undef)).setIfInBounds 0 (served O (recvd true aC true))) (by simp)
   (by rw [Array.getElem?_setIfInBounds_self_of_lt (by simpa using ak)];rfl) (by rw [Array.getElem?_setIfInBounds_ne (Ne.symm ah),Array.getElem?_setIfInBounds_self_of_lt aE]) (fun b a2 a3=>by rw [Array.getElem?_setIfInBounds_ne (Ne.symm a2),Array.getElem?_setIfInBounds_ne (Ne.symm a3)]) rfl
   (f1:=av.frame.fn) (f2:=O.frame.fn) (p1:=av.frame.place) (p2:=O.frame.place)
  refine⟨_,_,_,_,Z,.inl ⟨aZ,a0,az,S',Sh,j,c,v,wt',sm,false,k+1,?_,aq⟩⟩;rw [Array.empty_append];exact ap
theorem Inv.spawn(h:Inv P F B gs w t φ r bt S Sh j c v wt' sm cl k){g g' child:Goroutine}(hi:gs[0]? =some g){p U O:Ph}(ah:φ 0= .ph p)(au:c=false){s₀:St}(hg:BH (S 0) s₀)(av:stepG P true g w= .spawn g' child w #[])
  (aw:Way P true (Stop P F U) g' s₀) (hN:Way P false (Stop P F O) child ⟨s₀.E,fun _=>none,false⟩) (ay:Fam.B4 U=true) (az:Fam.B4 O=false) (aA:Fam.Cr U=false) (aB:Fam.Cr O=false) {ai:Nat} {aj:Bool}
  (aC:Bi F B.N0 (gs.size+1) ai aj (upd (upd φ gs.size (.ph O)) 0 (.ph U)) v wt' sm cl)
  (aa:Cx (.ph p)=0∧Cx (.ph U)=0∧Cx (.ph O)=0) (aD:∀k,k<ai→late (upd (upd φ gs.size (.ph O)) 0 (.ph U) (B.N0+k))→k<j∧late (φ (B.N0+k))) (an:aj=true→B.N0+F.n=gs.size∧O= .BD)
  (hm:wt F.n (.ph U)+wt F.n (.ph O)<wt F.n (.ph p)) (aE:sm=0):
  Fo P F B gs w sl t 0 (mu F gs.size φ r bt):=by
 have Y:0<gs.size:=(Array.getElem?_eq_some_iff.1 hi).1;have ak:=runT_crowd_spawn (P:=P) (sl:=sl) (i:=0) hi (show stepG P (0==0) g w=_ from av);have aF:∀(a:Nat) (fn:FuncId) (pos:String),MemOp.ofEvents a fn pos #[]= #[]:=fun a fn pos=>by rw [ofEvents_eq];simp
 rw [aF] at ak;generalize aG:({g:=0,fn:=g.frame.fn,pos:=g.frame.place,act:= .go gs.size}:MemOp)=x at ak;generalize aH:({g:=gs.size,fn:=child.frame.fn,pos:=g.frame.place,act:= .start}:MemOp)=y at ak;have ab:x.g=0∧x.act= .go gs.size:=by subst aG;exact⟨rfl,rfl⟩
 have ac:y.g=gs.size∧y.act= .start:=by subst aH;exact⟨rfl,rfl⟩
 have aI:((#[]:Trace).push x).push y= #[x,y]:=rfl;have al:((gs.setIfInBounds 0 g').push child).size=gs.size+1:=by simp
 have f0:upd (upd φ gs.size (.ph O)) 0 (.ph U) 0= .ph U:=upd_same _ _ _;have am:upd (upd φ gs.size (.ph O)) 0 (.ph U) gs.size= .ph O:=by rw [upd_ne _ _ (by omega),upd_same]
 have aq:∀a,a≠0→a≠gs.size→upd (upd φ gs.size (.ph O)) 0 (.ph U) a=φ a:=fun a aJ aK=>by rw [upd_ne _ _ aJ,upd_ne _ _ aK]
 have hu:∀op∈(#[x,y]:Array MemOp),op.act.touch? =none∧∀m,op.act≠ .mark m:=by
  intro op K;simp only [List.mem_toArray,List.mem_cons,List.not_mem_nil,or_false] at K;rcases K with rfl | rfl
  ·rw [ab.2];exact⟨rfl,by simp⟩
  ·rw [ac.2];exact⟨rfl,by simp⟩
 have aL:Cl F B.N0 B.t0 (gs.size+1) ai aj (upd (upd φ gs.size (.ph O)) 0 (.ph U)) (t++ #[x,y]):=by
  refine h.CO.spawn h.AP au (fun a ao=>?_) (by rw [am];exact aa.2.2) (by rw [ah];exact aa.1) aD (fun e=>⟨(an e).1,by rw [(an e).1,am,(an e).2]⟩) ab ac;by_cases e:a=0
  ·subst e;rw [f0,ah,aa.1,aa.2.1]
  ·rw [aq a e (by omega)]
 have ar:Bj t w gs.size (upd S 0 s₀) Sh:=h.Bx.ghost Y hg;have aM:Bj (t++ #[x,y]) w gs.size (upd S 0 s₀) Sh:=by
  refine ar.ext (fun said=>?_) (fun op K a ao=>by rw [(hu op K).1] at ao;cases ao) (fun op K=>?_) rfl fun _ _=>rfl
  ·have e:t++ #[x,y]=(t++ #[x])++ #[y]:=by apply Array.ext';simp
   rw [e];exact noRace_append (g:=gs.size) (noRace_append (g:=0) (h.Bx.clean said) (fun op K=>by simp at K;subst K;exact ab.1) fun z a _ op K b hb _=>by rw [(hu op (by simp at K ⊢;exact .inl K)).1] at hb;cases hb)
    (fun op K=>by simp at K;subst K;exact ac.1) fun z a _ op K b hb _=>by rw [(hu op (by simp at K ⊢;exact .inr K)).1] at hb;cases hb
  ·simp only [List.mem_toArray,List.mem_cons,List.not_mem_nil,or_false] at K;rcases K with rfl | rfl
   ·rw [ab.2];trivial
   ·rw [ac.2];trivial
 have aN:Bj (t++ #[x,y]) w (gs.size+1) (upd (upd S 0 s₀) gs.size ⟨s₀.E,fun _=>none,false⟩) Sh:=by
  refine aM.push (i:=0) Y (E:=s₀.E) (fun b o ae=>by rw [upd_same];exact ae) fun b hb z a aO aP aQ=>?_;have hold:touchAt t z=some a:=by
   obtain⟨op,ae,ap⟩:=touch_of aO;rcases getElem?_append_cases ae with⟨_,aR⟩ | ⟨_,aS⟩
   ·rw [touchAt_of aR];exact ap
   ·rw [(hu op aS).1] at ap;cases ap
  exact fork_knows ab ac (by rw [h.CO.deaf 0 Y,ah];exact aa.1) (h.CO.above _ (Nat.le_refl _)) (ar.kE 0 Y b (by rw [upd_same];exact hb) z a hold aP aQ)
 obtain⟨aT,aU⟩:=aw;obtain⟨aV,aW⟩:=hN;have ag:∀{α:Type} (f:Nat→α) (a b:α),upd (upd f 0 a) gs.size b 0=a:=fun f a b=>by rw [upd_ne _ _ (by omega),upd_same]
 refine⟨_,_,_,_,ak,.inl ⟨upd (upd φ gs.size (.ph O)) 0 (.ph U),upd (upd r 0 aT) gs.size aV,upd (upd bt 0 true) gs.size true,upd (upd S 0 s₀) gs.size ⟨s₀.E,fun _=>none,false⟩,Sh,ai,aj,v,wt',sm,cl,k,?_,?_⟩⟩
 ·rw [aI];refine⟨by rw [al];exact aC,by rw [al];exact aL,fun a o V=>?_,by rw [al];exact aN,h.FV,h.Ej,h.ne,h.wg,h.ES,fun hb=>(by rw [ag] at hb;cases hb),fun _ _=>aE,?_,h.tape,h.os,h.output⟩
  ·by_cases e:a=0
   ·subst e;rw [Array.getElem?_push_lt (by simpa using Y)] at V;simp at V;subst V;rw [f0,ag,ag,ag];exact .walk ay.symm (fun q=>by rw [aA] at q;cases q) aU
   ·by_cases Z:a=gs.size
    ·subst Z;have:child=o:=by
      rw [show gs.size=(gs.setIfInBounds 0 g').size by simp,Array.getElem?_push_size] at V;exact Option.some.inj V
     subst this;rw [am,upd_same,upd_same,upd_same];have aX:(gs.size==0)=false:=by rw [beq_eq_false_iff_ne];omega
     rw [aX];exact .walk az.symm (fun q=>by rw [aB] at q;cases q) aW
    ·rw [aq a e Z,upd_ne _ _ Z,upd_ne _ _ e,upd_ne _ _ Z,upd_ne _ _ e,upd_ne _ _ Z,upd_ne _ _ e];have:gs[a]? =some o:=by
      rw [Array.getElem?_push] at V;simp [Z] at V;simpa [Array.getElem?_setIfInBounds_ne (Ne.symm e)] using V
     exact h.CR a o this
  ·rw [ag];exact h.le.trans fun b o ae=>hg.ext b o ae
 ·rw [al];refine PR ?_;simp only [sumTo];rw [am];have a1:=sumTo_upd (upd φ gs.size (.ph O)) (.ph U) (wt F.n) Y;rw [upd_ne _ _ (by omega),ah] at a1;have aY:=sumTo_upd_out φ (.ph O) (wt F.n) (i:=gs.size) (j:=gs.size) (Nat.le_refl _);omega
theorem Inv.step(h:Inv P F B gs w t φ r bt S Sh j c v wt' sm cl k)(aA:∀k v E E',Le E E'→F.msg k v E→F.msg k v E'):
  ∃gs' w' aB u,stepT P (crowd gs w sl)=(.next (crowd gs' w' aB),u)∧
  ((∃aN aO aP S' aX O aY v' aZ sm' cl' k',Inv P F B gs' w' (t++u) aN aO aP S' aX O aY v' aZ sm' cl' k'∧Mu.lt (mu F gs'.size aN aO aP) (mu F gs.size φ r bt))∨Over P F B gs' w' (t++u)):=by
 have br:=h.AP.pos;have ah:=h.AP.size;have aC:0<gs.size:=by omega
 have a0:∀x∈gs,awake x:=by
  intro x K;obtain⟨i,hi,rfl⟩:=Array.mem_iff_getElem.1 K;exact(h.CR i _ (Array.getElem?_eq_getElem hi)).awake
 have aD:∀i (hi:i<gs.size) p,φ i= .ph p→bt i=true→(gs[i]).status= .running:=by
  intro i hi p a2 hb;have hs:=h.CR i _ (Array.getElem?_eq_getElem hi);rw [a2,hb] at hs;generalize K:Nx.ph p=x at hs;generalize Z:true=b at hs;generalize gs[i]=o at hs ⊢;generalize r i=ρ at hs;generalize S i=s at hs;cases hs with
  | walk _ _ al=>exact al.running
  | again _ _=>rfl
  | DF _ _=>cases Z
  | DZ _ _ _ _=>cases Z
  | blk _ _=>cases Z
  | gone _ _=>cases K
 have a3:∃(i:Nat) (g:Goroutine),gs[i]? =some g∧g.status= .running:=by
  obtain⟨p0,aa,am⟩:=h.AP.main;cases aE:bt 0 with
  | true=>exact⟨0,_,Array.getElem?_eq_getElem aC,aD 0 aC p0 aa aE⟩
  | false=>
   obtain⟨a5,a6⟩:=h.Kw aE;have aQ:=h.CR 0 _ (Array.getElem?_eq_getElem aC);rw [aa,aE] at aQ;obtain⟨ai,vs,aR,bu,rfl,_,_⟩:=aQ.receiver rfl rfl;obtain⟨al,U⟩:=am;have aF:B.N0+F.n<gs.size:=by rw [U] at ah;simp at ah;omega
   have a8:=h.AP.cls U;have ab:=h.AP.mode;rw [if_pos U] at ab;cases ap:φ (B.N0+F.n) with
   | gone d=>rw [ap] at ab;have:=ab.2.2.2.2.2;rw [a5] at this;cases this
   | ph aG=>
    cases aH:bt (B.N0+F.n) with
    | true=>exact⟨_,_,Array.getElem?_eq_getElem aF,aD _ aF aG ap aH⟩
    | false=>
     have aq:=h.blk U aH;have ac:=h.CR _ _ (Array.getElem?_eq_getElem aF);have a9:aG= .BU:=by
      have ar:=a8;rw [ap] at ac ar;rw [aH] at ac;generalize gs[B.N0+F.n]=o at ac;generalize r (B.N0+F.n)=ρ at ac;generalize S (B.N0+F.n)=s at ac;generalize K:Nx.ph aG=x at ac ar;generalize Z:false=b at ac;cases ac with
      | walk _ _ _=>cases Z
      | again _ _=>cases Z
      | DF _ _=>cases K;exact ar.elim
      | DZ _ _ _ _=>cases K;exact ar.elim
      | blk _ _=>cases K;rfl
      | gone _ _=>cases K
     subst a9;rw [ap] at ab;obtain⟨ba,_,_⟩:=ab;have aS:=h.AP.cnt;rw [aa] at aS;simp only [pend,Nat.add_zero] at aS;have hex:∃i,i<gs.size∧1≤cU (φ i)+cL (φ i)+cS (φ i):=by
      apply Classical.byContradiction;intro bb;have aI:∀i,i<gs.size→cU (φ i)=0∧cL (φ i)=0∧cS (φ i)=0:=fun i hi=>by
       have:¬1≤cU (φ i)+cL (φ i)+cS (φ i):=fun q=>bb ⟨i,hi,q⟩;omega
      have zero:∀f:Nat→Nat,(∀i,i<gs.size→f i=0)→sumTo gs.size f=0:=fun f bc=>by
       have:=sumTo_le (f:=f) (c:=0) (j:=gs.size) (fun i hi=>by rw [bc i hi];exact Nat.le_refl _);omega
      have z1:=zero (fun i=>cU (φ i)) fun i hi=>(aI i hi).1;have bv:=zero (fun i=>cL (φ i)) fun i hi=>(aI i hi).2.1;have bw:=zero (fun i=>cS (φ i)) fun i hi=>(aI i hi).2.2;omega
     obtain⟨i,hi,aj⟩:=hex;cases an:φ i with
     | gone d=>rw [an] at aj;simp [cU,cL,cS] at aj
     | ph pi=>
      have bd:bt i=true:=by
       cases hb:bt i with
       | true=>rfl
       | false=>
        have hs:=h.CR i _ (Array.getElem?_eq_getElem hi);rw [an,hb] at hs;rw [an] at aj;generalize gs[i]=o at hs;generalize r i=ρ at hs;generalize S i=s at hs;generalize K:Nx.ph pi=x at hs aj;generalize Z:false=b at hs;cases hs with
        | walk _ _ _=>cases Z
        | again _ _=>cases Z
        | DF _ _=>simp [cU,cL,cS] at aj
        | DZ _ _ _ _=>have:=a6 i _ hi (an.trans K);rw [hb] at this;cases this
        | blk _ _=>simp [cU,cL,cS] at aj
        | gone _ _=>cases K
      exact⟨i,_,Array.getElem?_eq_getElem hi,aD i hi pi an bd⟩
 obtain⟨i,g,d,aB,hi,au,bf⟩:=crowd_pick (P:=P) (w:=w) (sl:=sl) a0 a3
 suffices Fo P F B gs (w.at d) aB t i (mu F gs.size φ r bt) by
  obtain⟨gs',w',bg,u,aJ,av⟩:=this;exact⟨gs',w',bg,u,bf.trans aJ,av⟩
 have V:=h.at_ d;have aK:i<gs.size:=(Array.getElem?_eq_some_iff.1 hi).1;have hs:=h.CR i g hi;generalize K:φ i=x at hs;generalize aT:r i=ρ at hs;generalize hb:bt i=b at hs;generalize aw:S i=s at hs;cases hs with
 | DF _ _=>cases au
 | DZ _ _ _ _=>cases au
 | blk _ _=>cases au
 | gone hm ak=>exact V.slip hi au K aT hm ak aw
 | @again ai vs _ aR _ z hm Y=>
  have ag:i=0:=by simpa using hm
  subst ag;refine V.recv aA hi K hb (by rw [aw];exact .refl _) Y (fun w=>?_) rfl;rw [stepG_tries];congr 1;have:=Y.law.run;obtain⟨a,b,c,d,e⟩:=aR;simp only at this;subst this;rfl
 | @walk p _ _ _ hm ak al=>
  have bh:JQ (Stop P F p) g s∨∃f,ρ= .node f∧(∀w,Fits s w→∃g' s' w' es,stepG P (i==0) g w= .go g' w' es∧Jr P (i==0) (JQ (Stop P F p)) (f w) g' s'∧Fits s' w'∧Fr s w s' w'∧(∀e∈es,Ev s w w' e)∧(s= .quiet→s'= .quiet∧w'=w∧es= #[])):=by
   cases ρ with
   | leaf=>exact .inl al
   | node f=>
    rcases al with q | ⟨_,q⟩
    ·exact .inl q
    ·exact .inr ⟨f,rfl,q⟩
  rcases bh with⟨s₀,hg,Y⟩ | ⟨f,rfl,hgo⟩
  ·subst aw;by_cases aU:∃k',p= .Bs k'
   ·obtain⟨k',rfl⟩:=aU;exact V.send aA hi K hb hm hg Y
   by_cases c2:∃O,p= .Di O
   ·obtain⟨O,rfl⟩:=c2;have ag:i=0:=by simpa [Fam.B4] using hm
    subst ag;obtain⟨p0,aa,am⟩:=h.AP.main;have:p0= .Di O:=by rw [K] at aa;exact(Nx.ph.inj aa).symm
    subst this;obtain⟨rfl,bi,U⟩:=am;obtain⟨g',child,_,_,hgo,aL,aM⟩:=Y.law.go _ rfl;have aq:sm=0:=by have:=h.AP.mode;rw [U] at this;exact this.2.2.1
    have bj:=h.AP.spawn K;have ay:F.Cd O= .DI∨F.Cd O= .Dq (O+1):=by unfold Fam.Cd;split;exact .inl rfl;exact .inr rfl
    have ao:F.start O= .Bs O∨F.start O= .BB:=by unfold Fam.start;split;exact .inl rfl;exact .inr rfl
    have bk:gs.size=B.N0+O:=by rw [U] at ah;simpa using ah
    refine V.spawn hi K U hg (hgo _) aM aL ?_ ?_ ?_ ?_ bj ⟨rfl,?_,?_⟩ (fun k' aV ae=>?_) (fun e=>by rw [U] at e;cases e) ?_ aq
    ·rcases ay with e | e <;> rw [e] <;> rfl
    ·rcases ao with e | e <;> rw [e] <;> rfl
    ·rcases ay with e | e <;> rw [e] <;> rfl
    ·rcases ao with e | e <;> rw [e] <;> rfl
    ·rcases ay with e | e <;> rw [e] <;> rfl
    ·rcases ao with e | e <;> rw [e] <;> rfl
    ·by_cases e:k'=O
     ·subst e;rw [upd_ne _ _ (by omega),show B.N0+k'=gs.size by omega,upd_same] at ae;rcases ao with e | e <;> rw [e] at ae <;> exact ae.elim
     ·rw [upd_ne _ _ (by omega),upd_ne _ _ (by omega)] at ae;exact⟨by omega,ae⟩
    ·have:wt F.n (.ph (F.start O))≤10:=by rcases ao with e | e <;> rw [e] <;> simp [wt]
     have av:wt F.n (.ph (F.Cd O))+20≤5*F.n+60+20*(F.n - O):=by
      rcases ay with e | e <;> rw [e] <;> simp only [wt] <;> omega
     have h3:wt F.n (.ph (.Di O))=5*F.n+55+20*(F.n - O):=rfl;omega
   by_cases c3:p= .DI
   ·subst c3;have ag:i=0:=by simpa [Fam.B4] using hm
    subst ag;obtain⟨p0,aa,am⟩:=h.AP.main;have:p0= .DI:=by rw [K] at aa;exact(Nx.ph.inj aa).symm
    subst this;obtain⟨bi,U⟩:=am;obtain⟨g',child,_,_,hgo,aL,aM⟩:=Y.law.Ey rfl;have aq:sm=0:=by have:=h.AP.mode;rw [U] at this;exact this.2.2.1
    have bk:gs.size=B.N0+j:=by rw [U] at ah;simpa using ah
    refine V.spawn hi K U hg (hgo _) aM aL rfl rfl rfl rfl (h.AP.Um K) ⟨rfl,rfl,rfl⟩ (fun k' aV ae=>?_) (fun _=>⟨by omega,rfl⟩) (by simp only [wt];omega) aq;rw [upd_ne _ _ (by omega),upd_ne _ _ (by omega)] at ae;exact⟨aV,ae⟩
   by_cases c4:∃ai vs,p= .Bh ai vs
   ·obtain⟨ai,vs,rfl⟩:=c4;have ag:i=0:=by simpa [Fam.B4] using hm
    subst ag;exact V.recv aA hi K hb hg Y (fun _=>rfl) rfl
   by_cases c5:p= .Cc
   ·subst c5;exact V.close hi K hm Y
   by_cases az:p= .BU∧sm=0
   ·obtain⟨rfl,az⟩:=az;exact V.block hi K hb hm hg Y az
   obtain⟨v',w',sm',es,nx,bl⟩:=h.AP.enabled aK K (fun k e=>aU ⟨k,e⟩) (fun k e=>c2 ⟨k,e⟩) c3 (fun ai vs e=>c4 ⟨ai,vs,e⟩) c5 (fun e=>by
    have ab:=h.AP.mode
    subst e
    have aW:c=true∧i=B.N0+F.n:=by
     rcases h.AP.Du aK with rfl | ⟨a,b⟩ | ⟨k',bm,rfl⟩ | q
     ·obtain⟨q,ak,bn⟩:=h.AP.main;rw [K] at ak;cases ak;exact bn.elim
     ·have:=h.AP.old i a b;rw [K] at this;exact this.elim
     ·have:=h.AP.work k' bm;rw [K] at this;exact this.elim
     ·exact q
    rw [if_pos aW.1,← aW.2,K] at ab
    obtain⟨ba,_⟩:=ab
    have:sm≠0:=fun q=>az ⟨rfl,q⟩
    omega)
   exact V.act hi K hm hg Y bl
  ·subst aw;have bo:Fits (S i) (w.at d):=V.Bx.fits i aK;obtain⟨g',s',w',es,aJ,av,h3,bp,bq,h6⟩:=hgo (w.at d) bo;exact V.own hi K hm ak aJ av h3 bp bq h6 (by rw [aT];exact⟨f,_,rfl,rfl⟩)
theorem Inv.run(Y:∀k v E E',Le E E'→F.msg k v E→F.msg k v E'):∀(K:Mu) (gs:Array Goroutine) (w:World) (sl:Option (Nat×Nat)) (t:Trace) (φ:Nat→Nx) (r:Nat→Rk) (bt:Nat→Bool) (S:Nat→St) (Sh:Nat→Prop) (j:Nat) (c:Bool) (v wt' sm:Nat) (cl:Bool) (k:Nat),
  mu F gs.size φ r bt=K→Inv P F B gs w t φ r bt S Sh j c v wt' sm cl k→∃n gs' w' O U,runNT P n (crowd gs w sl) t=(.next (crowd gs' w' O),U)∧Over P F B gs' w' U:=by
 intro K
 induction K using Mu.wf.induction with
 | _ K Z=>
  intro gs w sl t φ r bt S Sh j c v wt' sm cl k aa h;obtain⟨gs',w',O,u,V,hh⟩:=h.step (sl:=sl) Y;rcases hh with⟨ab,ac,ae,S',ag,ah,ai,v',aj,sm',cl',k',ak,al⟩ | am
  ·obtain⟨n,an,ao,ap,aq,ar,au⟩:=Z _ (aa▸al) gs' w' O (t++u) ab ac ae S' ag ah ai v' aj sm' cl' k' rfl ak;exact⟨n+1,an,ao,ap,aq,IY V ar,au⟩
  ·exact⟨1,gs',w',O,t++u,IY V rfl,am⟩
end
end Pal
namespace Pal
open Go Go.Conc
open Go.ConcN (upd upd_same upd_ne sumTo sumTo_upd sumTo_upd_out sumTo_congr le_sumTo sumTo_le)
def Gc(H:LH)(a b:Nat):LH:=fun x=>if x=b then none else if x=a then none else H x
theorem TY{P:Program}(F:Fam){Q:GP}{g:Goroutine}{s:St}(ac:1≤F.n)(al:F.n<2147483647)(am:∀k v E E',Le E E'→F.msg k v E→F.msg k v E')
  (V:F.wg≠F.ch) (Y:s.H F.wg=some (F.Ew 0 0)) (Z:s.H F.ch=some (.chan 0 #[] false 0 0 false))
  (an:Way P true (Stop P F (.Dq 0)) g ⟨s.E,Gc s.H F.wg F.ch,false⟩) (ao:∀g s,F.fin g s→(mainWay P).ok Q g s):(mainWay P).ok Q g s:=by
 intro gs w sl t q Sh hC;have O:0<gs.size:=(Array.getElem?_eq_some_iff.1 hC.main).1;let s1:St:={s with H:=fun b=>if b=F.wg then none else s.H b}
 have ae:lone s 0=s:=rfl;have ap:Bj t w gs.size (upd (lone s) 0 s1) (fun b=>Sh b∨b=F.wg):=by
  have:=hC.Bx.share (i:=0) O (b₀:=F.wg) (o₀:=F.Ew 0 0) (by rw [ae];exact Y);exact this
 have c2:Bj t w gs.size (upd (upd (lone s) 0 s1) 0 ⟨s.E,Gc s.H F.wg F.ch,false⟩) (fun b=>(Sh b∨b=F.wg)∨b=F.ch):=by
  have:=ap.share (i:=0) O (b₀:=F.ch) (o₀:= .chan 0 #[] false 0 0 false) (by rw [upd_same];simp [s1,Ne.symm V,Z]);refine this.congr fun i hi=>?_;by_cases e:i=0
  ·subst e;rw [upd_same,upd_same,upd_same];exact⟨rfl,rfl⟩
  ·have h:∀(f:Nat→St) (x:St),upd f 0 x i=f i:=fun f x=>upd_ne f x e;constructor <;> simp only [h]
 have ag:∀b,s.H b≠none→∀x a,touchAt t x=some a→Cb a.loc=some b→Knows t 0 x:=fun b hb=>hC.Bx.kH 0 O b (by rw [ae];exact hb);have ah:∀b,(b=F.wg∨b=F.ch)→s.H b≠none:=by rintro b (rfl | rfl) <;> simp [Y,Z]
 have ai:=hC.Bx.fits 0 O;obtain⟨ρ,aq⟩:=an;let φ:Nat→Nx:=fun i=>if i=0 then .ph (.Dq 0) else .gone (Deaf t i)
 have z:∀f:Nx→Nat,(∀d,f (.gone d)=0)→f (.ph (.Dq 0))=0→(sumTo gs.size fun i=>f (φ i))=0:=by
  intro f aj ak;have:=sumTo_le (f:=fun i=>f (φ i)) (c:=0) (j:=gs.size) fun i _=>by
   show f (φ i)≤0;by_cases e:i=0
   ·simp [φ,e,ak]
   ·simp [φ,e,aj]
  omega
 have ar:∀i,(upd (upd (lone s) 0 s1) 0 ⟨s.E,Gc s.H F.wg F.ch,false⟩) i=if i=0 then⟨s.E,Gc s.H F.wg F.ch,false⟩ else .quiet:=by
  intro i;by_cases e:i=0
  ·subst e;rw [upd_same];rfl
  ·rw [upd_ne _ _ e,upd_ne _ _ e];simp [lone,e]
 have au:F.Ew (Fam.word 0 0) (0:Nat)=F.Ew 0 0:=by simp [Fam.word]
 have av:Inv P F ⟨gs.size,t.size,s.E,w⟩ gs w t φ (fun i=>if i=0 then ρ else chain (q i)) (fun _=>true) (upd (upd (lone s) 0 s1) 0 ⟨s.E,Gc s.H F.wg F.ch,false⟩) (fun b=>(Sh b∨b=F.wg)∨b=F.ch) 0 false 0 0 0 false 0:=by
  refine⟨⟨O,ac,al,by simp,Nat.zero_le _,by simp,⟨.Dq 0,rfl,rfl,ac,rfl⟩,fun i aj ak=>?_,fun k K=>by omega,by simp,?_,by simp [φ,pend],?_,fun k K=>by omega,.nil,fun k K=>by cases K⟩,
   ⟨fun i hi=>?_,fun i hi=>hC.lv.above i hi,fun x a b U hb aa K i hi aw=>?_,fun x a b U hb aa K=>?_,fun x g hg V ay=> .inl (hC.over x g hg V ay),fun x U e=>?_,Nat.le_refl _,fun k K=>by omega,by simp,by simp⟩,fun i g' ab=>?_,c2,.inl (.inr rfl),.inr rfl,V,?_,?_,by simp,by simp,?_,rfl,rfl,rfl⟩
  ·have:i≠0:=by omega
   simp [φ,this,Dd]
  ·rw [z cU (fun _=>rfl) rfl];simp [φ,pend]
  ·simp only [Bool.false_eq_true,if_false,BA];exact⟨z cL (fun _=>rfl) rfl,z cS (fun _=>rfl) rfl,trivial,trivial,trivial⟩
  ·by_cases e:i=0
   ·subst e;simp [φ,Cx];exact hC.hears
   ·simp [φ,e,Cx]
  ·have:i=0:=by
    rcases aw with e | e
    ·exact e
    ·exact absurd hi (Nat.not_lt.2 e)
   subst this;exact ag b (ah b aa) x a U hb
  ·exact ag b (ah b aa) x a U hb
  ·have:=lt_of_act? e;have aT:t.size≤x:=U;omega
  ·rw [ar];by_cases e:i=0
   ·subst e;rw [hC.main] at ab;obtain rfl:=Option.some.inj ab;simp only [if_true,φ];exact .walk rfl (fun h=>by cases h) aq
   ·have hm:(i==0)=false:=by rw [beq_eq_false_iff_ne];exact e
    simp only [e,if_false,φ];exact .gone hm (hC.lv.old i g' (by omega) ab)
  ·show w.heap[F.wg]? =_;rw [au];exact ai.h _ _ Y
  ·exact ai.h _ _ Z
  ·rw [upd_same];exact Le.refl _
 obtain⟨n,gs',w',az,aA,aB,aC,aD,g',s',aE,aF,hle,aG,aH,aI⟩:=Inv.run am _ _ _ sl _ _ _ _ _ _ _ _ _ _ _ _ _ rfl av;obtain⟨n2,aJ,w2,aK,t2,q2,aL,aM,s2,k1,aN,aO,aP,aQ,aR,aS⟩:=ao g' s' aF gs' w' az aA aC aD aE;refine⟨n+n2,aJ,w2,aK,t2,q2,aL,aM,s2,?_,aN,aO,fun b o h=>aP b o (hle b o h),aQ.trans aG,aR.trans aH,aS.trans aI⟩;rw [runNT_add,aB];exact k1
end Pal
namespace Pal
open Go Go.Conc
section
variable {P:Program}{F:Fam}{J:Judge P}{Q:GP}{n:Nat}{L L':Env}{ds:List Deferred}{k:List Item}{cs:List Frame}{s s':St}{b:Frame}{main:Bool}
theorem By(hb:b.roundOf=none)(T:Array Value)(todo:List Item):fr b T ds todo=b.at ⟨T,ds⟩ todo:=by simp [fr,Frame.at,hb]
theorem G2(hb:b.roundOf=none)(T:Array Value)(todo:List Item):CC b T ds todo={b.at ⟨T,ds⟩ todo with mode:= .returning}:=by simp [CC,Frame.at,hb]
theorem Db(T:Array Value)(ds:List Deferred)(x:Operand):(⟨T,ds⟩:Act).eval x=AY T x:=by cases x <;> rfl
theorem DW(T:Array Value)(ds:List Deferred)(d:Option Tmp)(v:Value):(⟨T,ds⟩:Act).put d v=⟨Bv T d v,ds⟩:=by cases d <;> rfl
def JO(J:Judge P)(Q:GP)(b:Frame)(n:Nat)(L:Env)(ds:List Deferred)(cs:List Frame)(s:St):Prop:=
 ∀T,Has n L T→∀todo,J.ok Q (G (CC b T ds todo) cs) s
theorem JL.out(K:b.roundOf=none)(h:JO J Q b n L ds cs s):JL J Q b n L ds [] cs s:=fun T O=>
 Judge.BO rfl (fun w=>by simp [G,stepG,stepG.exec,fr,CC,K]) (h T O [])
theorem JLoutRet_(K:b.roundOf=none)(h:JO J Q b n L ds cs s):JL J Q b n L ds (.code .ret::k) cs s:=fun T O=>
 Judge.BO rfl (fun w=>by simp [G,stepG,stepG.exec,fr,CC,K]) (h T O (.code .ret::k))
theorem JO.leave{c:Frame}{v:Value}(O:b.kind= .normal)(K:Bc P b.fn L n s v)(h:J.ok Q (G (c.finish v) cs) s):JO J Q b n L [] (c::cs) s:=fun T U todo=>by
 obtain⟨fn,V,K⟩:=K
 exact Judge.leave O V (K T U) h
theorem JO.leaveD{c:Frame}{fn:Func}(O:b.kind= .deferred)(U:P.funcs[b.fn]? =some fn)(K:fn.results= #[])(V:c.mode= .returning∨c.mode= .panicking [goexitEntry])(h:J.ok Q (G c cs) s):JO J Q b n L [] (c::cs) s:=fun T aa todo=>by
 refine Judge.BO rfl (fun w=>?_) h
 have Y:=results_none K T P w
 have Z:=fun(x:Array Event)=>events_results_none (P:=P) (w:=w) K T x
 rcases V with e | e <;> simp [G,stepG,unwind,CC,U,Y,Z,doReturn,O,GStep.after,seen_none,e,goexitEntry]
theorem JO.enter{f:FuncId}{fn:Func}{c:Code}{vs:List Value}(O:b.roundOf=none)(V:P.funcs[f]? =some fn)(Y:(fn.name== "runtime.NumGoroutine")=false)(hb:fn.body=some c)(ab:vs.length≤fn.ntmps)
  (h:∀T,Has n L T→∀todo,JL J Q (baseD f) fn.ntmps (DY 0 vs) [] [.code c] (CC b T ds todo::cs) s):JO J Q b n L (dcall f vs.toArray::ds) cs s:=fun T Z todo=>by
 refine Judge.BO rfl (fun w=>?_) (h T Z todo (vs.toArray++Array.replicate (fn.ntmps - vs.length) undef) ⟨by simp;omega,fun t v ht=>?_⟩)
 ·rw [G2 O,stepG_unwind_enter (a:=⟨T,dcall f vs.toArray::ds⟩) rfl V Y hb,G2 O]
  rw [By (b:=baseD f) rfl];simp
 ·obtain⟨_,K⟩:=GZ ht;have aa:t<vs.length:=by
   rcases Nat.lt_or_ge t vs.length with U | U
   ·exact U
   ·simp at K;have:=(List.getElem?_eq_some_iff.1 K).1;omega
  rw [Array.getD_eq_getD_getElem?,Array.getElem?_append_left (by simpa using aa)];simp at K;simp [K]
theorem JL.defer{ops:Array Oper}{i:Nat}{rest:List Nat}{d:Option Tmp}{f:FuncId}{args:Array Operand}{ats:Array TypeId}{ty:TypeId}{p:String}{af:Array Edge}{g:Option (Nat×Bool)}{vs:List Value}
  (U:ops[i]? =some ⟨d,.defer ⟨.value (.func f),args,ats⟩,ty,p,af,g⟩) (V:b.roundOf=none) (hw:Az L ops ⟨d,.defer ⟨.value (.func f),args,ats⟩,ty,p,af,g⟩=some true) (K:((b.kind != .early)&&AQ n d)=true)
  (Y:evs L args.toList=some vs) (h:JL J Q b n (Aj L d undef) (dcall f vs.toArray::ds) (.inRegion ops rest::k) cs s):
  JL J Q b n L ds (.inRegion ops (i::rest)::k) cs s:=fun T O=>by
 simp only [Bool.and_eq_true] at K
 have Z:args.map (AY T)=vs.toArray:=by
  rw [← DV O.Ee Y];apply Array.ext';simp
 refine Judge.oper U (BF O hw) (by simpa using K.1) (.inl V) ?_;have aa:execOp (AY T) ⟨d,.defer ⟨.value (.func f),args,ats⟩,ty,p,af,g⟩= .pure (.defer (dcall f vs.toArray)):=by
  simp only [execOp,resolve,bind,Sem.bind,Deferred.ofValue,AY,pure,dcall];rw [Z];simp
 rw [aa];exact h _ (O.put K.2 undef)
def G9:Ph→Bool
 | .Bs _ | .Di _ | .DI | .Bh _ _ | .Cc | .BU=>false
 | _=>true
theorem Fe{p:Ph}{g:Goroutine}(K:G9 p=true)(U:g.status= .running)(V:g.offers=none)(O:if Fam.Cr p=true then s= .quiet else s.q=false)(Y:p= .CQ→mayWake P g=true)
  (h:∀v wt sm v' wt' sm' es nx,F.act p v wt sm=some ((v',wt',sm'),es,nx)→∃g',(∀w,F.WG w v wt sm→stepG P (Fam.B4 p) g w= .go g' (F.put w v' wt' sm') es)∧g'.status= .running∧Iv P (Stop P F) (Fam.B4 p) nx g' (Fam.Ez p s)):Stop P F p g s:=
 DJ.stop {
  run:=U
  offers:=V
  quiet:=fun e=>by rw [if_pos e] at O;exact O
  live:=fun e=>by rw [if_neg (by rw [e];simp)] at O;exact O
  act:=h
  EO:=fun e=>by rcases e with e | e;exact Y e;subst e;cases K
  CS:=fun e=>by subst e;cases K
  close:=fun e=>by subst e;cases K
  send:=fun k e=>by subst e;cases K
  go:=fun j e=>by subst e;cases K
  Ey:=fun e=>by subst e;cases K
  recv:=fun Z vs e=>by subst e;cases K}
theorem G3{w:World}{v wt sm:Nat}(h:F.WG w v wt sm):F.put w v wt sm=w:=by
 unfold Fam.put;have:w.heap.setIfInBounds F.wg (F.Ew (Fam.word v wt) sm)=w.heap:=by
  apply Array.ext_getElem?;intro i;by_cases e:F.wg=i
  ·subst e;unfold Fam.WG at h;have O:F.wg<w.heap.size:=by
    rcases Nat.lt_or_ge F.wg w.heap.size with K | K
    ·exact K
    ·simp [Array.getElem?_eq_none K] at h
   rw [Array.getElem?_setIfInBounds_self_of_lt O,h]
  ·rw [Array.getElem?_setIfInBounds_ne e]
 rw [this]
theorem Fg{w:World}{v wt sm:Nat}(h:F.WG w v wt sm):w.cell? F.sA=some (.int .u64 (Fam.word v wt))∧w.cell? F.mA=some (.int .u32 sm)∧w.frozen? F.sA=false∧w.frozen? F.mA=false:=by
 unfold Fam.WG Fam.Ew at h;refine⟨?_,?_,?_,?_⟩
 ·simp [World.cell?,Fam.sA,h]
 ·simp [World.cell?,Fam.mA,h]
 ·simp [World.frozen?,Fam.sA,h]
 ·simp [World.frozen?,Fam.mA,h]
theorem IX{w:World}{v wt sm v' wt':Nat}(h:F.WG w v wt sm):w.setCell F.sA (.int .u64 (Fam.word v' wt'))=F.put w v' wt' sm:=by
 unfold Fam.put World.setCell;congr 1;apply Array.ext_getElem?;intro i;unfold Fam.WG Fam.Ew at h;rw [Array.getElem?_modify];have O:F.wg<w.heap.size:=by
  rcases Nat.lt_or_ge F.wg w.heap.size with K | K
  ·exact K
  ·simp [Array.getElem?_eq_none K] at h
 by_cases e:F.wg=i
 ·subst e;rw [Array.getElem?_setIfInBounds_self_of_lt O,h];simp [Fam.sA,Fam.Ew]
 ·rw [Array.getElem?_setIfInBounds_ne e];simp [Fam.sA,e]
theorem MX{w:World}{v wt sm sm':Nat}(h:F.WG w v wt sm):w.setCell F.mA (.int .u32 sm')=F.put w v wt sm':=by
 unfold Fam.put World.setCell;congr 1;apply Array.ext_getElem?;intro i;unfold Fam.WG Fam.Ew at h;rw [Array.getElem?_modify];have O:F.wg<w.heap.size:=by
  rcases Nat.lt_or_ge F.wg w.heap.size with K | K
  ·exact K
  ·simp [Array.getElem?_eq_none K] at h
 by_cases e:F.wg=i
 ·subst e;rw [Array.getElem?_setIfInBounds_self_of_lt O,h];simp [Fam.mA,Fam.Ew]
 ·rw [Array.getElem?_setIfInBounds_ne e];simp [Fam.mA,e]
structure Bt (P:Program) (f:FuncId) (e:Array Value→Sem Value):Prop where
 h:∃fn,P.funcs[f]? =some fn∧(fn.name== "runtime.NumGoroutine")=false∧fn.body.isNone=true∧Extern.findNext fn=none∧Extern.find fn=some e
section
variable {ops:Array Oper}{i:Nat}{rest:List Nat}{d:Option Tmp}{f:FuncId}{args:Array Operand}{ats:Array TypeId}{ty:TypeId}{pp:String}{af:Array Edge}{g:Option (Nat×Bool)}{vs:List Value}{p q:Ph}
theorem Mj{T:Array Value}(K:Has n L T)(O:evs L args.toList=some vs):args.map (⟨T,ds⟩:Act).eval=vs.toArray:=by
 have:(⟨T,ds⟩:Act).eval=AY T:=funext fun x=>Db T ds x;rw [this,← DV K.Ee O];apply Array.ext';simp
theorem HW{m:Mark}(Y:G9 p=true)(Z:if Fam.Cr p=true then s= .quiet else s.q=false)(aa:p≠ .CQ)(ab:∀v wt sm,F.act p v wt sm=some ((v,wt,sm),#[Fam.CI m],.ph q))(ac:Fam.Ez p s=s)
  (ae:ops[i]? =some ⟨d,.call ⟨.value (.func f),args,ats⟩,ty,pp,af,g⟩) (O:b.roundOf=none) (hw:Az L ops ⟨d,.call ⟨.value (.func f),args,ats⟩,ty,pp,af,g⟩=some true) (K:((b.kind != .early)&&AQ n d)=true)
  (hm:∀x,m≠ .extern x) (he:Bt P f (fun _=>do mark m;pure Extern.Race.none_))
  (h:JL (AO P (Fam.B4 p)) (Stop P F q) b n (Aj L d (.tuple #[])) ds (.inRegion ops rest::k) cs s):
  JL (AO P (Fam.B4 p)) (Stop P F p) b n L ds (.inRegion ops (i::rest)::k) cs s:=fun T U=>by
 simp only [Bool.and_eq_true] at K
 obtain⟨fn,ag,ah,hb,ai,he⟩:=he.h
 refine(AO P _).stop (Fe Y rfl rfl Z (fun e=>absurd e aa) fun v wt sm v' wt' sm' es nx V=>?_)
 rw [ab] at V;cases V
 refine⟨_,fun w aj=>?_,rfl,by rw [ac];exact h _ (U.put K.2 _)⟩
 rw [By O,By O,stepG_mark0 (a:=⟨T,ds⟩) m hm ae (BF U hw) (by simpa using K.1) rfl ag ah hb ai he,G3 aj,DW]
 rfl
theorem HO{mk:Addr→Mark}{ad:Addr}(Y:G9 p=true)(Z:if Fam.Cr p=true then s= .quiet else s.q=false)(aa:p≠ .CQ)(ab:∀v wt sm,F.act p v wt sm=some ((v,wt,sm),#[Fam.CI (mk ad)],.ph q))
  (ac:ops[i]? =some ⟨d,.call ⟨.value (.func f),args,ats⟩,ty,pp,af,g⟩) (U:b.roundOf=none) (hw:Az L ops ⟨d,.call ⟨.value (.func f),args,ats⟩,ty,pp,af,g⟩=some true) (K:((b.kind != .early)&&AQ n d)=true)
  (hm:∀ad x,mk ad≠ .extern x) (he:Bt P f (Extern.Race.marked mk)) (ae:evs L args.toList=some vs) (ag:vs[0]? =some (.pointer (some ad)))
  (h:JL (AO P (Fam.B4 p)) (Stop P F q) b n (Aj L d (.tuple #[])) ds (.inRegion ops rest::k) cs (Fam.Ez p s)):
  JL (AO P (Fam.B4 p)) (Stop P F p) b n L ds (.inRegion ops (i::rest)::k) cs s:=fun T O=>by
 simp only [Bool.and_eq_true] at K
 obtain⟨fn,ah,ai,hb,aj,he⟩:=he.h
 refine(AO P _).stop (Fe Y rfl rfl Z (fun e=>absurd e aa) fun v wt sm v' wt' sm' es nx V=>?_)
 rw [ab] at V;cases V
 refine⟨_,fun w ak=>?_,rfl,h _ (O.put K.2 _)⟩
 rw [By U,By U,stepG_markAt (a:=⟨T,ds⟩) mk hm ac (BF O hw) (by simpa using K.1) rfl ah ai hb aj he (ad:=ad) (by rw [Mj O ae];simpa using ag),G3 ak,DW]
 rfl
end
end
end Pal
namespace Pal
open Go Go.Conc
section
variable {E H:LH}{S:List Seg}{j l:Nat}{o o':Obj}
theorem Ju(hN:NdS E H S)(U:S[j]? =some [(l,o)])(o':Obj):(mkS E H S).upd l o'=mkS E H (S.set j [(l,o')])∧NdS E H (S.set j [(l,o')]):=by
 obtain⟨K,V⟩:=D8 hN U;have h3:=Nd.iff.1 V;have Y:E l=none:=(h3.2 (l,o) (by simp)).1;have ac:H l=none:=(h3.2 (l,o) (by simp)).2;have Z:Nd E H (S.set j []).flatten:=F6.Nd.left V;have ae:∀q∈(S.set j []).flatten,q.1≠l:=fun q O e=>by
  have:=h3.1;rw [List.map_append,List.nodup_append] at this;exact this.2.2 q.1 (List.mem_map_of_mem O) l (by simp) e
 have aa:AB (S.set j []).flatten H l=none:=by
  have key:∀(B:List (Nat×Obj)),(∀q∈B,q.1≠l)→AB B H l=none:=by
   intro B
   induction B with
   | nil=>intro _;exact ac
   | cons q B ag=>
    intro O;obtain⟨c,ah⟩:=q;have ab:l≠c:=fun e=>O (c,ah) (by simp) e.symm;have K:=ag fun ai aj=>O ai (List.mem_cons_of_mem _ aj);simp only [AB]
    first
    | rw [if_neg ab];exact K
    | rw [if_neg (Ne.symm ab)];exact K
  exact key _ ae
 have f1:=Gv (E:=E) (H:=H) (B:=(S.set j []).flatten) (r:=l) Y aa o Z;have f2:=Gv (E:=E) (H:=H) (B:=(S.set j []).flatten) (r:=l) Y aa o' Z;obtain⟨ak,al⟩:=Fh (seg:= [(l,o)]) U f2.1;refine⟨?_,al⟩;rw [K,← ak,← f1.2,← f2.2];unfold St.upd;congr 1;funext x;by_cases am:x=l <;> simp [am]
end
section
variable {P:Program}{J:Judge P}{Q:Goroutine→St→Prop}{b:Frame}{n:Nat}{L:Env}{ds:List Deferred}{k:List Item}{cs:List Frame}{E H:LH}{S:List Seg}{j l:Nat}
theorem Judge.CS{α:Type}{g:Goroutine}{g':α→Goroutine}{s:St}(x:Sem α)(Y:s.q=false)(Z:g.status= .running)
  (aa:∀w a w',x.run P w= .ok a w'→∃es,stepG P J.main g w= .go (g' a) w' es∧∀e∈es,e∈x.events P w #[])
  (h:lp P x s (fun a s'=>J.ok Q (g' a) s') (fun _ _=>False)):J.ok Q g s:=by
 refine J.step ⟨Z,fun w f=>?_,fun e=>by subst e;cases Y⟩;obtain⟨s',O,U,h3,K⟩:=I9 _ h f;cases V:x.run P w with
 | ok a w'=>
  rw [V] at O U h3 K;simp only [GM] at O U h3;obtain⟨es,he,hm⟩:=aa w a w' V;exact⟨g' a,s',w',es,he,K,O,U,fun e ab=>h3 e (hm e ab)⟩
 | halt a w'=>rw [V] at K;exact K.elim
theorem IW{r:Loop}{s:St}{K:Loop→St→Prop}{X:Halt→St→Prop}(h:s.get l=some (.loop r))(k:K r s):lp P (Instr.getLoop l) s K X:=by
 unfold Instr.getLoop getObj;simp only [bind,Sem.bind,lp];exact⟨_,h,rfl,k⟩
theorem MO{r:Loop}{T:Array Value}(j:Nat)(hN:NdS E H S)(K:S[j]? =some [(l,.loop r)])(hs:(r.state== .busy)=false)(O:r.pending=none)
  (h:NdS E H (S.set j [(l,.loop {r with state:= .exhausted})])→J.ok Q (G (fr b T ds k) cs) (mkS E H (S.set j [(l,.loop {r with state:= .exhausted})]))):
  J.ok Q (G (fr b T ds (.endRangeFunc l::k)) cs) (mkS E H S):=by
 obtain⟨u1,u2⟩:=Ju hN K (.loop {r with state:= .exhausted});have U:lp P (Instr.endLoop l) (mkS E H S) (fun a s'=>a=none∧s'=mkS E H (S.set j [(l,.loop {r with state:= .exhausted})])) (fun _ _=>False):=by
  unfold Instr.endLoop;refine Ah _ _ (IW (C5 (i:=0) hN K rfl) ?_);rw [if_neg (by rw [hs];simp)];have V:(mkS E H S).H l=some (.loop r):=by
   have:=C5 (i:=0) hN K rfl;have Y:E l=none:=J1 hN K;unfold St.get at this;rw [show(mkS E H S).E l=none from Y] at this;exact this
  simp only [bind,Sem.bind,lp,setObj,pure];refine⟨⟨_,V,rfl⟩,rfl,O,?_⟩;exact u1
 refine Judge.CS (g':=fun Z=>G (fr b T ds ((Z.map Item.code).toList++k)) cs) (Instr.endLoop l) rfl rfl (fun w a w' aa=>?_) (BS _ U (fun a s' ⟨ab,ac⟩=>by subst ab ac;exact h u2) (fun _ _ h=>h));refine⟨seen P b.fn ((Instr.endLoop l).events P w #[])++ #[],?_,fun e he=>?_⟩
 ·simp [G,stepG,stepG.exec,fr,aa,GStep.after]
 ·exact mem_seen (by simpa using he)
def PN(l:Nat)(f:FuncId):Frame:={(default:Frame) with fn:=f,kind:= .normal,roundOf:=some l}
theorem C7.yield{r:Loop}{t:Tmp}{v:Value}{B:Seg}{R:Value→LH→Seg→Prop}{i:Nat}(K:B[i]? =some (l,.loop r))(O:r.params= #[t])
  (h:∀(Q:Goroutine→St→Prop) (U:Frame) (cs:List Frame) (H:LH),NdS E H [B]→(∀w E' S' B',Le E E'→S'.flatten=B'→R w E' B'→NdS E' H S'→J.ok Q (G (U.finish w) cs) (mkS E' H S'))→
   J.ok Q (G (fr (PN l r.fn) (r.tmps.setIfInBounds t v) [] [.code r.assign,.beginRound,.code r.body]) (U::cs)) (mkS E H [B])):
  C7 J (.func (.yield l) #[] #[]) [v] E B R:=fun H hN Q c cs V=>by
 have hg:(mk E H B).get l=some (.loop r):=Li hN K
 simp only [Deferred.ofValue,bind,Sem.bind,pure,invoke]
 unfold Instr.yield
 refine Ah _ _ (IW hg ?_)
 have Y:¬((#[]:Array Value)++ [v].toArray).size≠r.params.size:=by rw [O];simp
 rw [if_neg Y];have Z:((r.params.zip ((#[]:Array Value)++ [v].toArray)).foldl (fun tmps (t,a)=>tmps.setIfInBounds t a) r.tmps)=r.tmps.setIfInBounds t v:=by rw [O];simp [Array.zip,Array.zipWith,Array.zipWithMAux]
 simp only [lp,pure];have aa:mk E H B=mkS E H [B]:=by unfold mkS;simp
 rw [Z,aa];exact h Q c cs H (by unfold NdS;simpa using hN) fun w E' S' B' hle K ab ac=>by
  subst K;exact V w _ ⟨E',S'.flatten,hle,ab,ac,rfl⟩
theorem JL.beginRound{r:Loop}(j:Nat)(O:b.roundOf=some l)(U:b.kind= .normal)(hN:NdS E H S)(K:S[j]? =some [(l,.loop r)])(hs:r.state= .ready)
  (h:NdS E H (S.set j [(l,.loop {r with state:= .busy})])→JL J Q b n L ds k cs (mkS E H (S.set j [(l,.loop {r with state:= .busy})]))):
  JL J Q b n L ds (.beginRound::k) cs (mkS E H S):=fun T V=>by
 obtain⟨u1,u2⟩:=Ju hN K (.loop {r with state:= .busy})
 have Y:lp P (Instr.beginRound l) (mkS E H S) (fun _ s'=>s'=mkS E H (S.set j [(l,.loop {r with state:= .busy})])) (fun _ _=>False):=by
  unfold Instr.beginRound;refine Ah _ _ (IW (C5 (i:=0) hN K rfl) ?_);have Z:(mkS E H S).H l=some (.loop r):=by
   have:=C5 (i:=0) hN K rfl;have aa:E l=none:=J1 hN K;unfold St.get at this;rw [show(mkS E H S).E l=none from aa] at this;exact this
  simp only [bind,Sem.bind,lp,setObj,pure,hs];exact⟨⟨_,Z,rfl⟩,rfl,u1⟩
 refine Judge.CS (g':=fun _=>G (fr b T ds k) cs) (Instr.beginRound l) rfl rfl (fun w a w' ab=>?_) (BS _ Y (fun a s' ac=>by subst ac;exact h u2 T V) (fun _ _ h=>h));refine⟨seen P b.fn ((Instr.beginRound l).events P w #[])++ #[],?_,fun e he=>?_⟩
 ·simp [G,stepG,stepG.exec,fr,stepG.apply,O,U,ab,GStep.after,Frame.finish]
 ·exact mem_seen (by simpa using he)
theorem Kv{o:Obj}{seg:Seg}(hN:NdS E H S)(K:S[j]? =some ((l,o)::seg)):(mkS E H S).H l=some o:=by
 have:=C5 (i:=0) hN K rfl;have O:E l=none:=J1 hN K;unfold St.get at this;rw [show(mkS E H S).E l=none from O] at this;exact this
theorem JL.endRound{r:Loop}{c:Frame}(j:Nat)(O:b.roundOf=some l)(U:b.kind= .normal)(hN:NdS E H S)(K:S[j]? =some [(l,.loop r)])
  (h:NdS E H (S.set j [(l,.loop {r with state:= .ready,pending:=none})])→J.ok Q (G (c.finish (.bool true)) cs) (mkS E H (S.set j [(l,.loop {r with state:= .ready,pending:=none})]))):
  JL J Q b n L [] [] (c::cs) (mkS E H S):=fun T ab=>by
 obtain⟨u1,u2⟩:=Ju hN K (.loop {r with state:= .ready,pending:=none})
 have V:lp P (Instr.endRound l none) (mkS E H S) (fun a s'=>a= .bool true∧s'=mkS E H (S.set j [(l,.loop {r with state:= .ready,pending:=none})])) (fun _ _=>False):=by
  unfold Instr.endRound;refine Ah _ _ (IW (C5 (i:=0) hN K rfl) ?_);simp only [bind,Sem.bind,lp,setObj,pure];exact⟨⟨_,Kv hN K,rfl⟩,rfl,rfl,u1⟩
 refine Judge.CS (g':=fun v=>G (c.finish v) cs) (Instr.endRound l none) rfl rfl (fun w a w' Y=>?_) (BS _ V (fun a s' ⟨Z,aa⟩=>by subst Z aa;exact h u2) (fun _ _ h=>h));refine⟨seen P b.fn ((Instr.endRound l none).events P w #[])++ #[],?_,fun e he=>?_⟩
 ·simp [G,stepG,stepG.exec,fr,O,U,Y,GStep.after,doReturn]
 ·exact mem_seen (by simpa using he)
theorem JL.rangeFunc{x:Operand}{params:Array Tmp}{as O:Code}{f:FuncId}{caps:List Value}(ae:b.roundOf=none)(ag:b.kind≠ .early)(Z:ev L x=some (.func (.func f) #[] caps.toArray))(hb:Ch P f=true)(hN:NdS E H S)
  (h:∀K l T,Has n L T→NdS E H (S++ [[(K,.deferred (some []))]]++ [[(l,.loop ⟨.ready,none,b.fn,T,params,as,O,K⟩)]])→
   J.ok Q (G (Frame.enter P f (.func (.yield l) #[] #[]::caps).toArray .normal) (fr b T (⟨.collected K,#[]⟩::ds) (.inRangeFunc l::k)::cs)) (mkS E H (S++ [[(K,.deferred (some []))]]++ [[(l,.loop ⟨.ready,none,b.fn,T,params,as,O,K⟩)]]))):
  JL J Q b n L ds (.code (.rangeFunc x params as O)::k) cs (mkS E H S):=fun T aa=>by
 have ah:lp P (Instr.enterLoop b.fn T params as O b.roundOf) (mkS E H S) (fun q s'=>∃K,q.2= [⟨.collected K,#[]⟩]∧NdS E H (S++ [[(K,.deferred (some []))]]++ [[(q.1,.loop ⟨.ready,none,b.fn,T,params,as,O,K⟩)]])∧s'=mkS E H (S++ [[(K,.deferred (some []))]]++ [[(q.1,.loop ⟨.ready,none,b.fn,T,params,as,O,K⟩)]])) (fun _ _=>False):=by
  unfold Instr.enterLoop;rw [ae];simp only [newObj,bind,Sem.bind,lp,pure];refine⟨rfl,fun K V Y=>?_⟩;obtain⟨h3,ai⟩:=Gv V Y (.deferred (some [])) hN;obtain⟨p1,p2⟩:=CM h3;have aj:(mkS E H S).upd K (.deferred (some []))=mkS E H (S++ [[(K,.deferred (some []))]]):=by rw [← p1,← ai];rfl
  rw [aj];refine⟨rfl,fun l ak h6=>?_⟩;obtain⟨al,am⟩:=Gv ak h6 (.loop ⟨.ready,none,b.fn,T,params,as,O,K⟩) p2;obtain⟨p3,p4⟩:=CM al;exact⟨K,rfl,p4,by rw [← p3,← am];rfl⟩
 refine Judge.CS (g':=fun q=>G (Frame.enter P f (.func (.yield q.1) #[] #[]::caps).toArray .normal) (fr b T (q.2++ds) (.inRangeFunc q.1::k)::cs)) (Instr.enterLoop b.fn T params as O b.roundOf) rfl rfl (fun w a w' an=>?_) (BS _ ah (fun a s' ⟨K,V,Y,h3⟩=>by subst h3;simp only [V];exact h K a.1 T aa Y) (fun _ _ h=>h));obtain⟨l,mk⟩:=a;have ao:AY T x= .func (.func f) #[] caps.toArray:=aa.ev Z;obtain⟨fn,U,ap,ab⟩:∃fn,P.funcs[f]? =some fn∧(fn.name== "runtime.NumGoroutine")=false∧fn.body.isNone=false:=by
  unfold Ch at hb;cases U:P.funcs[f]? with
  | none=>rw [U] at hb;cases hb
  | some fn=>
   rw [U] at hb;simp only [Bool.and_eq_true,Bool.not_eq_true'] at hb;exact⟨fn,rfl,hb.1,by cases Z:fn.body <;> simp_all⟩
 refine⟨seen P b.fn ((Instr.enterLoop b.fn T params as O b.roundOf).events P w #[])++ #[],?_,fun e he=>?_⟩
 ·have ac:=NG (b:=b) (ds:=mk++ds) T (.inRangeFunc l::k);simp only [fr] at ac;have aq:¬fn.name= "runtime.NumGoroutine" :=by simpa using ap
  have ar:¬fn.body=none:=by intro e;rw [e] at ab;cases ab
  have au:AY T (.const (.func (.yield l) #[] #[]))= .func (.yield l) #[] #[]:=rfl;simp [G,stepG,stepG.exec,fr,an,GStep.after,stepG.apply,resolve,ac,ao,Deferred.ofValue,invoke,callFunc,U,aq,ar,ag,au,seen_none]
 ·exact mem_seen (by simpa using he)
theorem JO.collected{K:Nat}(j:Nat)(ab:b.roundOf=none)(hN:NdS E H S)(O:S[j]? =some [(K,.deferred (some []))])
  (h:NdS E H (S.set j [(K,.deferred none)])→JO J Q b n L ds cs (mkS E H (S.set j [(K,.deferred none)]))):JO J Q b n L (⟨.collected K,#[]⟩::ds) cs (mkS E H S):=fun T U todo=>by
 obtain⟨u1,u2⟩:=Ju hN O (.deferred none)
 have V:lp P (Instr.takeDeferred K) (mkS E H S) (fun a s'=>a= []∧s'=mkS E H (S.set j [(K,.deferred none)])) (fun _ _=>False):=by
  unfold Instr.takeDeferred getObj;simp only [bind,Sem.bind,lp,setObj,pure];exact⟨_,C5 (i:=0) hN O rfl,rfl,⟨_,Kv hN O,rfl⟩,rfl,rfl,u1⟩
 refine Judge.CS (g':=fun l=>G (CC b T (l++ds) todo) cs) (Instr.takeDeferred K) rfl rfl (fun w a w' Y=>?_) (BS _ V (fun a s' ⟨Z,aa⟩=>by subst Z aa;exact h u2 T U todo) (fun _ _ h=>h));refine⟨seen P b.fn ((Instr.takeDeferred K).events P w #[])++ #[],?_,fun e he=>?_⟩
 ·simp [G,stepG,unwind,CC,Y,GStep.after]
 ·exact mem_seen (by simpa using he)
def Iq(f:FuncId)(args caps:Array Value):Deferred:={target:= .fn (.func f) caps,args:=args}
theorem JO.Pn{f:FuncId}{fn:Func}{c:Code}{vs caps:List Value}(ac:b.roundOf=none)(O:P.funcs[f]? =some fn)(V:(fn.name== "runtime.NumGoroutine")=false)(hb:fn.body=some c)(Y:(vs++caps).length≤fn.ntmps){s:St}
  (h:∀T,Has n L T→∀todo,JL J Q (baseD f) fn.ntmps (DY 0 (vs++caps)) [] [.code c] (CC b T ds todo::cs) s):JO J Q b n L (Iq f vs.toArray caps.toArray::ds) cs s:=fun T Z todo=>by
 have aa:¬fn.name= "runtime.NumGoroutine" :=by simpa using V
 refine Judge.BO rfl (fun w=>?_) (h T Z todo ((vs++caps).toArray++Array.replicate (fn.ntmps - (vs++caps).length) undef) ⟨by simp;simp at Y;omega,fun t v ht=>?_⟩)
 ·rw [By (b:=baseD f) rfl];have:=enter_atD (P:=P) (vs++caps).toArray O hb;simp only [List.size_toArray] at this;rw [← this];simp [G,stepG,unwind,callDeferred,CC,Iq,invoke,callFunc,O,aa,hb,GStep.after,seen_none]
 ·obtain⟨_,K⟩:=GZ ht;have ab:t<(vs++caps).length:=by
   rcases Nat.lt_or_ge t (vs++caps).length with U | U
   ·exact U
   ·simp only [Nat.sub_zero] at K;have:=(List.getElem?_eq_some_iff.1 K).1;omega
  rw [Array.getD_eq_getD_getElem?,Array.getElem?_append_left (by simpa using ab)];simp only [Nat.sub_zero] at K;rw [List.getElem?_toArray,K];rfl
theorem Ns{ops:Array Oper}{i:Nat}{rest:List Nat}{d:Option Tmp}{x:Operand}{f:FuncId}{caps:List Value}{args:Array Operand}{ats:Array TypeId}{ty:TypeId}{p:String}{af:Array Edge}{g:Option (Nat×Bool)}{vs:List Value}{s:St}
  (U:ops[i]? =some ⟨d,.defer ⟨.value x,args,ats⟩,ty,p,af,g⟩) (V:b.roundOf=none) (hw:Az L ops ⟨d,.defer ⟨.value x,args,ats⟩,ty,p,af,g⟩=some true) (O:((b.kind != .early)&&AQ n d)=true)
  (Y:ev L x=some (.func (.func f) #[] caps.toArray)) (Z:evs L args.toList=some vs) (h:JL J Q b n (Aj L d undef) (Iq f vs.toArray caps.toArray::ds) (.inRegion ops rest::k) cs s):
  JL J Q b n L ds (.inRegion ops (i::rest)::k) cs s:=fun T K=>by
 simp only [Bool.and_eq_true] at O
 have aa:args.map (AY T)=vs.toArray:=by
  rw [← DV K.Ee Z];apply Array.ext';simp
 refine Judge.oper U (BF K hw) (by simpa using O.1) (.inl V) ?_;have ab:execOp (AY T) ⟨d,.defer ⟨.value x,args,ats⟩,ty,p,af,g⟩= .pure (.defer (Iq f vs.toArray caps.toArray)):=by
  simp only [execOp,resolve,bind,Sem.bind,Deferred.ofValue,K.ev Y,pure,Iq];rw [aa];simp
 rw [ab];exact h _ (K.put O.2 undef)
end
end Pal
namespace Pal
open Go Go.Conc
section
variable {P:Program}{s:St}{ρ:Operand→Value}{x y z:Operand}{d:Option Tmp}{t u ty e:TypeId}{p:String}{af:Array Edge}{g:Option (Nat×Bool)}{a:Option Addr}{l c:Nat}
theorem IZ(ht:P.underlying t=some (.slice e))(K:ρ x= .slice a l c)(O:ρ (.const (.slice none 0 0))= .slice none 0 0):Yl P ⟨d,.binOp .eql t x (.const (.slice none 0 0)) u,ty,p,af,g⟩ ρ s (.bool a.isNone):=by
 refine Dl (sm:=do eqGuard .eql t x (.const (.slice none 0 0)) (ρ x) (ρ (.const (.slice none 0 0)));binOp .eql t (ρ x) (ρ (.const (.slice none 0 0)))) rfl ?_
 rw [K,O];have hg:lp P (eqGuard .eql t x (.const (.slice none 0 0)) (.slice a l c) (.slice none 0 0)) s (fun _ s'=>s'=s) (fun _ _=>False):=by
  simp [eqGuard,lp,pure]
 refine Ah _ _ (BS _ hg ?_ (fun _ _ h=>h));rintro _ _ rfl;have hb:binOp .eql t (.slice a l c) (.slice none 0 0)=(do pure (.bool (← Op.equal t (.slice a l c) (.slice none 0 0)))):=rfl
 rw [hb];refine Ah (x:=Op.equal t (.slice a l c) (.slice none 0 0)) _ ?_;unfold Op.equal Op.maxDepth Op.equalIn;refine Ah _ _ (BM ht ?_);cases a <;> exact⟨rfl,rfl⟩
end
def Fq{α B:Type}(step:B→α→Option B):List α→B→Option B
 | [],b=>some b
 | x::l,b=>(step b x).bind fun K=>Fq step l K
section
variable {P:Program}{J:Judge P}{Q:Goroutine→St→Prop}{b:Frame}{n:Nat}{L:Env}{ds:List Deferred}{k:List Item}{cs:List Frame}{s:St}
theorem Qy{α B:Type}{c:Code}{l:List α}{step:B→α→Option B}{acc acc':B}(ac:Fq step l acc=some acc')(I:Env→St→Nat→B→Prop)(ae:I L s 0 acc)
  (round:∀L s i K x O,I L s i K→l[i]? =some x→i<l.length→step K x=some O→(∀L' s',I L' s' (i+1) O→JL J Q b n L' ds (.inLoop c::k) cs s')→JL J Q b n L ds (.code c:: .inLoop c::k) cs s)
  (exit:∀L s,I L s l.length acc'→JL J Q b n L ds (.code c:: .inLoop c::k) cs s):JL J Q b n L ds (.code (.loop c)::k) cs s:=by
 refine Gt ?_;have key:∀(rest:List α) (i:Nat) (K:B),l.drop i=rest→Fq step rest K=some acc'→∀L s,I L s i K→i≤l.length→JL J Q b n L ds (.code c:: .inLoop c::k) cs s:=by
  intro rest
  induction rest with
  | nil=>
   intro i K U V L s Y hle;have:l.length≤i:=by simpa using U
   obtain rfl:i=l.length:=by omega
   obtain rfl:K=acc':=Option.some.inj V;exact exit L s Y
  | cons x rest ag=>
   intro i K U V L s Y hle;have aa:l[i]? =some x:=by
    have Z:(l.drop i)[0]? =some x:=by rw [U];rfl
    simpa using Z
   have ab:i<l.length:=(List.getElem?_eq_some_iff.1 aa).1;obtain⟨O,Z,ah⟩:=Option.bind_eq_some_iff.1 V;refine round L s i K x O Y aa ab Z fun L' s' ai=>JL.again (ag (i+1) O ?_ ah L' s' ai ab);rw [← List.drop_drop,U];rfl
 exact key l 0 acc rfl ac L s ae (Nat.zero_le _)
end
section
variable {P:Program}{J:Judge P}{Q:Goroutine→St→Prop}{b:Frame}{n:Nat}{ds:List Deferred}{ops:Array Oper}{k:List Item}{cs:List Frame}{m fuel:Nat}{listed:Array Bool}{L:Env}{E H:LH}{S:List Seg}
variable {d:Option Tmp}{x y:Operand}{t u ty e:TypeId}{p:String}{af:Array Edge}{g:Option (Nat×Bool)}{v:Value}{i:Nat}
theorem Take.P4(hN:NdS E H S)(O:ops[i]? =some ⟨d,.box e x,ty,p,af,g⟩)(hw:Az L ops ⟨d,.box e x,ty,p,af,g⟩=some true)(U:AQ n d=true)(V:ev L x=some v)
  (h:∀r,NdS E H (S++ [[(r,.cells v.cells e (0,0))]])→JAL J Q b n ds ops k cs m CP fuel (AF listed i) (Aj L d (.pointer (some ⟨r,0,none⟩))) (mkS E H (S++ [[(r,.cells v.cells e (0,0))]]))):
  Take J Q b n ds ops k cs m CP fuel listed L (mkS E H S) i:=
 Take.Ky O (by simp [B5,U]) hw fun ρ Y=>by
  show lp P (do pure (Next.value (← Instr.box e (ρ x)))) _ _ _
  rw [Y x v V]
  refine Ah _ _ ?_
  unfold Instr.box
  refine Ah _ _ (Fc hN fun r K=>?_)
  rw [(CM K).1]
  exact h r (CM K).2
end
end Pal
namespace Pal
open Go Go.Conc
def ER(P:Program)(d:Nat):GP:=fun g _=>∃q,QuitsD P q d g
def FO(P:Program):Frame:={(default:Frame) with fn:=P.funcs.size,defers:= [],mode:= .panicking [goexitEntry]}
section
variable {P:Program}{F:Fam}{J:Judge P}{Q:GP}{n:Nat}{L L':Env}{ds:List Deferred}{k:List Item}{cs:List Frame}{s s':St}{b:Frame}{main:Bool}
theorem Lv.quits{d:Nat}:∀{m:Nat} {g:Goroutine},Lv P (ER P d) m g→∃q,QuitsD P q d g
 | 0,_,h=>h
 | m+1,_,h=>by
  rcases h with h | ⟨K,g',O,h⟩
  ·exact h
  ·obtain⟨q,U⟩:=h.quits;exact⟨q+1,.ctl K O U⟩
theorem IU{d:Nat}{g:Goroutine}(h:(El P).ok (ER P d) g .quiet):∃q,QuitsD P q d g:=by
 obtain⟨m,hm⟩:=h rfl;exact hm.quits
theorem HM:(El P).ok (ER P 0) (G (FO P) []) .quiet:=by
 refine Judge.BO (g':={frame:=FO P,callers:= [],status:= .finished,dying:=none}) rfl (fun w=>?_) ((El P).stop ⟨0,rfl,rfl⟩);have K:(default:Frame).todo= []:=rfl;have O:∀(m:FrameMode),Frame.catches P {fn:=P.funcs.size,tmps:=(default:Frame).tmps,todo:= [],defers:= [],mode:=m,kind:=(default:Frame).kind,roundOf:=(default:Frame).roundOf}=false:=fun m=>by simp [Frame.catches]
 simp [G,stepG,unwind,FO,goexitEntry,K,O]
theorem SC{ops:Array Oper}{i:Nat}{rest:List Nat}{d:Option Tmp}{f:FuncId}{args:Array Operand}{ats:Array TypeId}{ty:TypeId}{pp:String}{af:Array Edge}{g:Option (Nat×Bool)}{T:Array Value}{e:Array Value→Sem Value}
  (K:ops[i]? =some ⟨d,.call ⟨.value (.func f),args,ats⟩,ty,pp,af,g⟩) (he:Bt P f e):mayWake P (G (fr b T ds (.inRegion ops (i::rest)::k)) cs)=true:=by
 obtain⟨fn,O,_,hb,_⟩:=he.h;have U:fn.body.isSome=false:=by cases h:fn.body <;> simp_all
 simp [mayWake,G,fr,K,Frame.eval,O,U]
theorem SY{v wt:Nat}(K:1≤v)(O:v<2147483648)(h3:wt≤1):IntKind.u64.wrap (Fam.word v wt+18446744069414584320)=Fam.word (v - 1) wt:=by
 simp only [Fam.word,Fam.KK,IntKind.wrap,IntKind.bits,IntKind.signed];simp;omega
theorem SS{v:Nat}(h:v<2147483647):IntKind.u64.wrap (Fam.word v 0+4294967296)=Fam.word (v+1) 0:=by
 simp only [Fam.word,Fam.KK,IntKind.wrap,IntKind.bits,IntKind.signed];simp;omega
theorem word_inj{v v' wt:Nat}(h:Fam.word v wt=Fam.word v' wt):v=v':=by
 simp only [Fam.word,Fam.KK] at h;omega
section
variable {ops:Array Oper}{i:Nat}{rest:List Nat}{d:Option Tmp}{f:FuncId}{x y z:Operand}{ats:Array TypeId}{ty:TypeId}{pp:String}{af:Array Edge}{g:Option (Nat×Bool)}{p q:Ph}
theorem TL(aa:ops[i]? =some ⟨d,.call ⟨.value (.func f),#[x,y],ats⟩,ty,pp,af,g⟩)(Y:b.roundOf=none)(hw:Az L ops ⟨d,.call ⟨.value (.func f),#[x,y],ats⟩,ty,pp,af,g⟩=some true)(O:((b.kind != .early)&&AQ n d)=true)
  (he:Bt P f (Extern.Atomic.update (Op.intArith .add) .u64 true)) (ab:ev L x=some (.pointer (some F.sA))) (ac:ev L y=some (.int .u64 18446744069414584320))
  (ae:JL (AO P false) (Stop P F .Ef) b n (Aj L d (.int .u64 (Fam.word 0 1))) ds (.inRegion ops rest::k) cs .quiet)
  (ag:∀v wt:Nat,v<2147483647→wt≤1→¬(v=0∧wt=1)→JL (El P) (ER P 1) b n (Aj L d (.int .u64 (Fam.word v wt))) ds (.inRegion ops rest::k) cs .quiet):
  JL (AO P false) (Stop P F .EP) b n L ds (.inRegion ops (i::rest)::k) cs .quiet:=fun T K=>by
 simp only [Bool.and_eq_true] at O
 obtain⟨fn,ah,ai,hb,aj,he⟩:=he.h
 refine(AO P _).stop (Fe rfl rfl rfl rfl (by simp) fun v wt sm v' wt' sm' es nx U=>?_)
 simp only [Fam.act] at U
 split at U
 ·rename_i V
  cases U;refine⟨G (fr b (Bv T d (.int .u64 (Fam.word (v - 1) wt))) ds (.inRegion ops rest::k)) cs,fun w Z=>?_,rfl,?_⟩
  ·obtain⟨ak,_,c3,_⟩:=Fg Z;rw [By Y,By Y];show stepG P false _ w=_;rw [stepG_add_atomic (a:=⟨T,ds⟩) aa (BF K hw) (by simpa using O.1) rfl ah ai hb aj .u64 he (by rw [Db];exact K.ev ab) (by rw [Db];exact K.ev ac) ak c3,SY V.1 V.2.1 V.2.2,IX Z,DW]
   rfl
  ·split
   ·rename_i e;obtain⟨rfl,rfl⟩:=e;exact ae _ (K.put O.2 _)
   ·rename_i e;exact IU (ag (v - 1) wt (by omega) V.2.2 (by omega) _ (K.put O.2 _))
 ·cases U
theorem TH{j:Nat}(aa:s.q=false)(ab:ops[i]? =some ⟨d,.call ⟨.value (.func f),#[x,y],ats⟩,ty,pp,af,g⟩)(Y:b.roundOf=none)(hw:Az L ops ⟨d,.call ⟨.value (.func f),#[x,y],ats⟩,ty,pp,af,g⟩=some true)(O:((b.kind != .early)&&AQ n d)=true)
  (he:Bt P f (Extern.Atomic.update (Op.intArith .add) .u64 true)) (ac:ev L x=some (.pointer (some F.sA))) (ae:ev L y=some (.int .u64 4294967296))
  (ag:JL (AO P true) (Stop P F (.EU j)) b n (Aj L d (.int .u64 (Fam.word 1 0))) ds (.inRegion ops rest::k) cs s)
  (ah:∀v:Nat,1≤v→v<2147483647→JL (AO P true) (Stop P F (.D2 j)) b n (Aj L d (.int .u64 (Fam.word (v+1) 0))) ds (.inRegion ops rest::k) cs s):
  JL (AO P true) (Stop P F (.Fv j)) b n L ds (.inRegion ops (i::rest)::k) cs s:=fun T K=>by
 simp only [Bool.and_eq_true] at O
 obtain⟨fn,ai,aj,hb,ak,he⟩:=he.h
 refine(AO P _).stop (Fe rfl rfl rfl aa (by simp) fun v wt sm v' wt' sm' es nx U=>?_)
 simp only [Fam.act] at U
 split at U
 ·rename_i V
  obtain⟨V,rfl⟩:=V;cases U;refine⟨G (fr b (Bv T d (.int .u64 (Fam.word (v+1) 0))) ds (.inRegion ops rest::k)) cs,fun w Z=>?_,rfl,?_⟩
  ·obtain⟨al,_,c3,_⟩:=Fg Z;rw [By Y,By Y];show stepG P true _ w=_;rw [stepG_add_atomic (a:=⟨T,ds⟩) ab (BF K hw) (by simpa using O.1) rfl ai aj hb ak .u64 he (by rw [Db];exact K.ev ac) (by rw [Db];exact K.ev ae) al c3,SS V,IX Z,DW]
   rfl
  ·split
   ·rename_i e;subst e;exact ag _ (K.put O.2 _)
   ·rename_i e;exact ah v (by omega) V _ (K.put O.2 _)
 ·cases U
theorem Vx(ac:G9 p=true)(ae:if Fam.Cr p=true then s= .quiet else s.q=false)(ag:p≠ .CQ)(ah:Fam.Ez p s=s)(ai:∀v wt sm r,F.act p v wt sm=some r→r.1=(v,wt,sm)∧r.2.1= #[Fam.Df F.sA])
  (aj:ops[i]? =some ⟨d,.call ⟨.value (.func f),#[x],ats⟩,ty,pp,af,g⟩) (U:b.roundOf=none) (hw:Az L ops ⟨d,.call ⟨.value (.func f),#[x],ats⟩,ty,pp,af,g⟩=some true) (K:((b.kind != .early)&&AQ n d)=true)
  (he:Bt P f (Extern.Atomic.loadT (.int .u64))) (ak:ev L x=some (.pointer (some F.sA)))
  (h:∀v wt sm r,F.act p v wt sm=some r→∃q,r.2.2= .ph q∧JL (AO P (Fam.B4 p)) (Stop P F q) b n (Aj L d (.int .u64 (Fam.word v wt))) ds (.inRegion ops rest::k) cs s):
  JL (AO P (Fam.B4 p)) (Stop P F p) b n L ds (.inRegion ops (i::rest)::k) cs s:=fun T O=>by
 simp only [Bool.and_eq_true] at K
 obtain⟨fn,al,am,hb,an,he⟩:=he.h
 refine(AO P _).stop (Fe ac rfl rfl ae (fun e=>absurd e ag) fun v wt sm v' wt' sm' es nx V=>?_)
 obtain⟨Y,Z⟩:=ai _ _ _ _ V
 obtain⟨q,aa,ao⟩:=h _ _ _ _ V
 simp only at Y Z aa
 cases Y
 subst Z aa
 refine⟨_,fun w ab=>?_,rfl,by rw [ah];exact ao _ (O.put K.2 _)⟩
 obtain⟨ap,_,_,_⟩:=Fg ab
 rw [By U,By U,stepG_load_atomic (a:=⟨T,ds⟩) aj (BF O hw) (by simpa using K.1) rfl al am hb an .u64 he (by rw [Db];exact O.ev ak) ap,G3 ab,DW]
 rfl
theorem UW(Z:ops[i]? =some ⟨d,.call ⟨.value (.func f),#[x,y],ats⟩,ty,pp,af,g⟩)(V:b.roundOf=none)(hw:Az L ops ⟨d,.call ⟨.value (.func f),#[x,y],ats⟩,ty,pp,af,g⟩=some true)(U:((b.kind != .early)&&AQ n d)=true)
  (he:Bt P f Extern.Atomic.storeT) (aa:ev L x=some (.pointer (some F.sA))) (ab:ev L y=some (.int .u64 0))
  (h:JL (AO P false) (Stop P F .CQ) b n (Aj L d (.tuple #[])) ds (.inRegion ops rest::k) cs .quiet):
  JL (AO P false) (Stop P F .Eo) b n L ds (.inRegion ops (i::rest)::k) cs .quiet:=fun T K=>by
 simp only [Bool.and_eq_true] at U
 obtain⟨fn,ac,ae,hb,ag,he⟩:=he.h
 refine(AO P _).stop (Fe rfl rfl rfl rfl (by simp) fun v wt sm v' wt' sm' es nx O=>?_)
 simp only [Fam.act] at O
 split at O
 ·rename_i ah
  obtain⟨rfl,rfl⟩:=ah;cases O;refine⟨_,fun w Y=>?_,rfl,h _ (K.put U.2 _)⟩;obtain⟨ai,_,c3,_⟩:=Fg Y;have aj:(.int .u64 0:Value)= .int .u64 (Fam.word 0 0):=by simp [Fam.word]
  rw [By V,By V];show stepG P false _ w=_;rw [stepG_store_atomic (a:=⟨T,ds⟩) Z (BF K hw) (by simpa using U.1) rfl ac ae hb ag he (by rw [Db];exact K.ev aa) (by rw [Db];exact K.ev ab) ai c3,aj,IX Y,DW]
  rfl
 ·cases O
theorem Ut{m:Nat}(aj:s.q=false)(aa:ops[i]? =some ⟨d,.call ⟨.value (.func f),#[x,y,z],ats⟩,ty,pp,af,g⟩)(Y:b.roundOf=none)(hw:Az L ops ⟨d,.call ⟨.value (.func f),#[x,y,z],ats⟩,ty,pp,af,g⟩=some true)(U:((b.kind != .early)&&AQ n d)=true)
  (he:Bt P f (Extern.Atomic.casT (.int .u64))) (ab:ev L x=some (.pointer (some F.sA))) (ac:ev L y=some (.int .u64 (Fam.word m 0))) (ae:ev L z=some (.int .u64 (Fam.word m 1)))
  (ak:JL (AO P false) (Stop P F .Fz) b n (Aj L d (.bool true)) ds (.inRegion ops rest::k) cs s)
  (al:JL (AO P false) (Stop P F (.DG (m - 1))) b n (Aj L d (.bool false)) ds (.inRegion ops rest::k) cs s):
  JL (AO P false) (Stop P F (.EN m)) b n L ds (.inRegion ops (i::rest)::k) cs s:=fun T K=>by
 simp only [Bool.and_eq_true] at U
 obtain⟨fn,ag,ah,hb,ai,he⟩:=he.h
 refine(AO P _).stop (Fe rfl rfl rfl aj (by simp) fun v wt sm v' wt' sm' es nx O=>?_)
 simp only [Fam.act] at O
 split at O
 ·rename_i am
  obtain⟨_,_,rfl⟩:=am;split at O
  ·rename_i e;subst e;cases O;refine⟨_,fun w V=>?_,rfl,ak _ (K.put U.2 _)⟩;obtain⟨Z,_,c3,_⟩:=Fg V;rw [By Y,By Y];show stepG P false _ w=_;rw [stepG_cas_hit (a:=⟨T,ds⟩) aa (BF K hw) (by simpa using U.1) rfl ag ah hb ai .u64 he (by rw [Db];exact K.ev ab) (by rw [Db];exact K.ev ac) (by rw [Db];exact K.ev ae) Z c3,IX V,DW]
   rfl
  ·rename_i e;cases O;refine⟨_,fun w V=>?_,rfl,al _ (K.put U.2 _)⟩;obtain⟨Z,_,c3,_⟩:=Fg V;rw [By Y,By Y];show stepG P false _ w=_;rw [stepG_cas_miss (a:=⟨T,ds⟩) aa (BF K hw) (by simpa using U.1) rfl ag ah hb ai .u64 he (by rw [Db];exact K.ev ab) (by rw [Db];exact K.ev ac) (by rw [Db];exact K.ev ae) Z c3 (fun q=>e (word_inj q)),G3 V,DW]
   rfl
 ·cases O
theorem SR{args:Array Operand}{vs:List Value}(V:ops[i]? =some ⟨d,.call ⟨.value (.func f),args,ats⟩,ty,pp,af,g⟩)(Y:b.roundOf=none)(hw:Az L ops ⟨d,.call ⟨.value (.func f),args,ats⟩,ty,pp,af,g⟩=some true)(O:((b.kind != .early)&&AQ n d)=true)
  (he:Bt P f Extern.Sync.semrelease) (aa:evs L args.toList=some vs) (ab:vs[0]? =some (.pointer (some F.mA)))
  (h:JL (El P) (ER P 1) b n (Aj L d (.tuple #[])) ds (.inRegion ops rest::k) cs .quiet):
  JL (AO P false) (Stop P F .CQ) b n L ds (.inRegion ops (i::rest)::k) cs .quiet:=fun T U=>by
 simp only [Bool.and_eq_true] at O
 have ac:=SC (P:=P) (b:=b) (ds:=ds) (k:=k) (cs:=cs) (rest:=rest) (T:=T) V he
 obtain⟨fn,ae,ag,hb,ah,he⟩:=he.h
 refine(AO P _).stop (Fe rfl rfl rfl rfl (fun _=>ac) fun v wt sm v' wt' sm' es nx K=>?_)
 simp only [Fam.act] at K
 split at K
 ·rename_i ai
  subst ai;cases K;refine⟨_,fun w Z=>?_,rfl,IU (h _ (U.put O.2 _))⟩;obtain⟨_,c2,_,c4⟩:=Fg Z;rw [By Y,By Y];show stepG P false _ w=_;rw [stepG_semrelease (a:=⟨T,ds⟩) V (BF U hw) (by simpa using O.1) rfl ae ag hb ah he (ad:=F.mA) (by rw [Mj U aa];simpa using ab) c2 c4,DW];have aj:IntKind.u32.wrap (((0:Nat):Int)+1)=((1:Nat):Int):=by decide
  rw [aj,MX Z]
 ·cases K
theorem QS{args:Array Operand}{vs:List Value}(ag:s.q=false)(Z:ops[i]? =some ⟨d,.call ⟨.value (.func f),args,ats⟩,ty,pp,af,g⟩)(V:b.roundOf=none)(hw:Az L ops ⟨d,.call ⟨.value (.func f),args,ats⟩,ty,pp,af,g⟩=some true)(Y:((b.kind != .early)&&AQ n d)=true)
  (he:Bt P f Extern.Sync.semacquire) (ah:evs L args.toList=some vs) (ai:vs[0]? =some (.pointer (some F.mA)))
  (h:JL (AO P false) (Stop P F .Ep) b n (Aj L d (.tuple #[])) ds (.inRegion ops rest::k) cs s):
  JL (AO P false) (Stop P F .BU) b n L ds (.inRegion ops (i::rest)::k) cs s:=fun T K=>by
 simp only [Bool.and_eq_true] at Y
 obtain⟨fn,aa,ab,hb,ac,he⟩:=he.h
 have ae:(args.map (⟨T,ds⟩:Act).eval)[0]? =some (.pointer (some F.mA)):=by rw [Mj K ah];simpa using ai
 refine(AO P _).stop (DJ.stop {
  run:=rfl,offers:=rfl,quiet:=(by simp [Fam.Cr]),live:=fun _=>ag,act:=?_,EO:=(by simp),CS:=?_,close:=(by simp),send:=(by simp),go:=(by simp),Ey:=(by simp),recv:=(by simp)})
 ·intro v wt sm v' wt' sm' es nx O;simp only [Fam.act] at O;split at O
  ·rename_i aj;subst aj;cases O;refine⟨_,fun w U=>?_,rfl,h _ (K.put Y.2 _)⟩;obtain⟨_,c2,_,c4⟩:=Fg U;rw [By V,By V];show stepG P false _ w=_;rw [stepG_semacquire (a:=⟨T,ds⟩) Z (BF K hw) (by simpa using Y.1) rfl aa ab hb ac he (ad:=F.mA) ae c2 (by decide) c4,DW];have ak:(((1:Nat):Int) - 1)=((0:Nat):Int):=by decide
   rw [ak,MX U]
  ·cases O
 ·intro _ w v wt U;obtain⟨_,c2,_,c4⟩:=Fg U;rw [By V];exact stepG_semacquire_wait (a:=⟨T,ds⟩) Z (BF K hw) rfl aa ab hb ac he (ad:=F.mA) ae c2
theorem Rb(Y:s.q=false)(U:ops[i]? =some ⟨d,.call ⟨.builtin .close,#[x],ats⟩,ty,pp,af,g⟩)(V:b.roundOf=none)(hw:Az L ops ⟨d,.call ⟨.builtin .close,#[x],ats⟩,ty,pp,af,g⟩=some true)(K:((b.kind != .early)&&AQ n d)=true)
  (Z:ev L x=some (.chan (some F.ch))) (aa:(P.funcs[b.fn]?).any (·.norace)=false)
  (h:JL (El P) (ER P 0) b n (Aj L d (.tuple #[])) ds (.inRegion ops rest::k) cs .quiet):
  JL (AO P false) (Stop P F .Cc) b n L ds (.inRegion ops (i::rest)::k) cs s:=fun T O=>by
 simp only [Bool.and_eq_true] at K
 refine(AO P _).stop (DJ.stop {
  run:=rfl,offers:=rfl,quiet:=(by simp [Fam.Cr]),live:=fun _=>Y,act:=(by simp [Fam.act]),EO:=fun _=>(by simp [mayWake,G,fr,U]),CS:=(by simp),close:=fun _=>?_,send:=(by simp),go:=(by simp),Ey:=(by simp),recv:=(by simp)})
 refine⟨_,?_,fun w k' ab=>?_,IU (h _ (O.put K.2 _))⟩
 ·rfl
 ·rw [By V,By V,stepG_close (a:=⟨T,ds⟩) U (BF O hw) (by simpa using K.1) rfl (by rw [Db];exact O.ev Z) ab aa,DW]
theorem N2{kk:Nat}{v:Value}(Y:s.q=false)(U:ops[i]? =some ⟨d,.send x y,ty,pp,af,g⟩)(Z:b.roundOf=none)(hw:Az L ops ⟨d,.send x y,ty,pp,af,g⟩=some true)(O:((b.kind != .early)&&AQ n d)=true)
  (aa:ev L x=some (.chan (some F.ch))) (ab:ev L y=some v) (hm:F.msg kk v s.E)
  (h:JL (AO P false) (Stop P F .BB) b n (Aj L d undef) ds (.inRegion ops rest::k) cs s):
  JL (AO P false) (Stop P F (.Bs kk)) b n L ds (.inRegion ops (i::rest)::k) cs s:=fun T K=>by
 simp only [Bool.and_eq_true] at O
 have V:execOp (AY T) ⟨d,.send x y,ty,pp,af,g⟩= .pure (.comm #[scase F.ch v (.tuple #[])] true .send):=by
  simp [execOp,K.ev aa,K.ev ab,scase,pure]
 refine(AO P _).stop (DJ.stop {
  run:=rfl,offers:=rfl,quiet:=(by simp [Fam.Cr]),live:=fun _=>Y,act:=(by simp [Fam.act]),EO:=(by simp),CS:=(by simp),close:=(by simp),send:=fun k' e=>?_,go:=(by simp),Ey:=(by simp),recv:=(by simp)})
 cases e;refine⟨v,.tuple #[],hm,fun w=>?_,?_⟩
 ·have he:(⟨T,ds⟩:Act).eval=AY T:=funext fun x=>Db T ds x;rw [By Z,stepG_comm (a:=⟨T,ds⟩) (w':=w) U (BF K hw) (by simpa using O.1) (by rw [he,V];rfl),listed_none (by rw [he,V];simp [Sem.events_pure'])]
 ·have:Conc.served (G (fr b T ds (.inRegion ops (i::rest)::k)) cs) undef=G (fr b (Bv T d undef) ds (.inRegion ops rest::k)) cs:=by
   have:=D7 (b:=b) (ds:=ds) (k:=k) T ops i rest undef _ U;simp only [Conc.served,G,this]
  rw [this];exact h _ (K.put O.2 _)
end
end
end Pal
namespace Pal
open Go Go.Conc
section
variable {P:Program}{F:Fam}{J:Judge P}{Q:GP}{n:Nat}{L L':Env}{ds:List Deferred}{k:List Item}{cs:List Frame}{s s':St}{b:Frame}{main:Bool}
variable {ops:Array Oper}{i:Nat}{rest:List Nat}{d:Option Tmp}{f:FuncId}{x y z:Operand}{ats:Array TypeId}{ty t e:TypeId}{pp:String}{af:Array Edge}{g:Option (Nat×Bool)}{p q:Ph}
theorem Nn{T:Array Value}{o:Oper}(K:ops[i]? =some o)(v:Value):Conc.served (G (fr b T ds (.inRegion ops (i::rest)::k)) cs) v=G (fr b (Bv T o.dst v) ds (.inRegion ops rest::k)) cs:=by
 have:=D7 (b:=b) (ds:=ds) (k:=k) T ops i rest v _ K;simp only [Conc.served,G,this]
theorem Gr(T:Array Value)(ds:List Deferred):(⟨T,ds⟩:Act).eval=AY T:=funext fun x=>Db T ds x
theorem R9{O:List Nat}{vs:List Value}{K:Value}{dir:ChanDir}(ac:s.q=false)(Y:ops[i]? =some ⟨d,.recv t x true,ty,pp,af,g⟩)(ae:b.roundOf=none)(hw:Az L ops ⟨d,.recv t x true,ty,pp,af,g⟩=some true)(U:((b.kind != .early)&&AQ n d)=true)
  (ag:ev L x=some (.chan (some F.ch))) (ht:P.underlying t=some (.chan dir e)) (ah:zeroOf P e=some K)
  (Z:∀kk v E',kk<F.n→F.has kk=true→kk ∉ O→Le s.E E'→(∀b,E' b≠none→s.H b=none)→F.msg kk v E'→JL (AO P true) (Stop P F (.Bh (O++ [kk]) (vs++ [v]))) b n (Aj L d (.tuple #[v,.bool true])) ds (.inRegion ops rest::k) cs ⟨E',s.H,false⟩)
  (aa:(∀kk,kk<F.n→F.has kk=true→kk∈O)→∀T,Has n (Aj L d (.tuple #[K,.bool false])) T→F.fin (G (fr b T ds (.inRegion ops rest::k)) cs) s):
  JL (AO P true) (Stop P F (.Bh O vs)) b n L ds (.inRegion ops (i::rest)::k) cs s:=fun T V=>by
 simp only [Bool.and_eq_true] at U
 have ab:∀w,(execOp (AY T) ⟨d,.recv t x true,ty,pp,af,g⟩).run P w= .ok (.comm #[rcase F.ch K] true (.recv true)) w∧listed P b.fn ⟨T,ds⟩ ⟨d,.recv t x true,ty,pp,af,g⟩ w= #[]:=by
  have ai:∀s,lp P (execOp (AY T) ⟨d,.recv t x true,ty,pp,af,g⟩) s (fun nx s'=>nx= .comm #[rcase F.ch K] true (.recv true)∧s'=s) (fun _ _=>False):=by
   intro s;unfold execOp;simp only;refine Ah (x:=underlying t) _ (BM ht ?_);simp only;refine Ah (x:=zeroValue e) _ (D6 ah ?_);rw [V.ev ag];exact⟨rfl,rfl⟩
  obtain⟨es,Z,aa,h3⟩:=Lu _ (ai .quiet);rcases h3 with⟨a,⟨rfl,_⟩,aj⟩ | ⟨_,ak,_⟩
  ·intro w;refine⟨aj w,?_⟩;unfold listed;rw [Gr,Z];exact KZ aa
  ·exact ak.elim
 refine(AO P _).stop (DJ.stop {
  run:=rfl,offers:=rfl,quiet:=(by simp [Fam.Cr]),live:=fun _=>ac,act:=(by simp [Fam.act]),EO:=(by simp),CS:=(by simp),close:=(by simp),send:=(by simp),go:=(by simp),Ey:=(by simp),recv:=fun ar au al=>?_})
 cases al;refine⟨K,fun w=>?_,fun kk v E' a1 am an a4 ao ap=>?_,fun aq=>?_⟩
 ·rw [By ae,stepG_comm (a:=⟨T,ds⟩) (w':=w) Y (BF V hw) (by simpa using U.1) (by rw [Gr];exact(ab w).1),(ab w).2]
 ·rw [Nn Y];exact Z kk v E' a1 am an a4 ao ap _ (V.put U.2 _)
 ·rw [Nn Y];exact aa aq _ (V.put U.2 _)
theorem NX{X:GP}{fn:Func}{c:Code}{vs:List Value}{caps:Array Value}{args:Array Value}(O:P.funcs[f]? =some fn)(Y:(fn.name== "runtime.NumGoroutine")=false)(hb:fn.body=some c)(Z:args++caps=vs.toArray)(ac:vs.length≤fn.ntmps)
  (h:JL (AO P false) X (baseD f) fn.ntmps (DY 0 vs) [] [.code c] [FO P] s):Way P false X (born P {target:= .fn (.func f) caps,args:=args}) s:=by
 have aa:¬fn.name= "runtime.NumGoroutine" :=by simpa using Y
 refine Judge.BO (J:=AO P false) rfl (fun w=>?_) (h (vs.toArray++Array.replicate (fn.ntmps - vs.length) undef) ⟨by simp;omega,fun t v ht=>?_⟩)
 ·show stepG P false _ w=_;have U:=enter_atD (P:=P) vs.toArray O hb;rw [By (b:=baseD f) rfl];simp only [List.size_toArray] at U;simp [G,born,stepG,unwind,callDeferred,invoke,callFunc,O,aa,hb,GStep.after,seen_none,Z,FO,U]
 ·obtain⟨_,K⟩:=GZ ht;have ab:t<vs.length:=by
   rcases Nat.lt_or_ge t vs.length with V | V
   ·exact V
   ·simp at K;have:=(List.getElem?_eq_some_iff.1 K).1;omega
  rw [Array.getD_eq_getD_getElem?,Array.getElem?_append_left (by simpa using ab)];simp at K;simp [K]
theorem PC{T:Array Value}{args:Array Operand}{K:Go.Fn}{fi O:Array Value}{as:List Value}(U:Has n L T)(V:ev L x=some (.func K fi O))(Y:evs L args.toList=some as):
  execOp (AY T) ⟨d,.go ⟨.value x,args,ats⟩,ty,pp,af,g⟩= .pure (.spawn {target:= .fn K O,args:=fi++as.toArray}):=by
 have Z:args.map (AY T)=as.toArray:=by
  rw [← DV U.Ee Y];apply Array.ext';simp
 simp only [execOp,resolve,bind,Sem.bind,Deferred.ofValue,U.ev V,pure,Z]
theorem U4{j:Nat}{args:Array Operand}{fi U:Array Value}{as:List Value}{V:FuncId}(aa:s.q=false)(ab:ops[i]? =some ⟨d,.go ⟨.value x,args,ats⟩,ty,pp,af,g⟩)(Y:b.roundOf=none)(hw:Az L ops ⟨d,.go ⟨.value x,args,ats⟩,ty,pp,af,g⟩=some true)(K:((b.kind != .early)&&AQ n d)=true)
  (ac:ev L x=some (.func (.func V) fi U)) (ae:evs L args.toList=some as)
  (ag:Way P false (Stop P F (F.start j)) (born P {target:= .fn (.func V) U,args:=fi++as.toArray}) ⟨s.E,fun _=>none,false⟩)
  (ah:JL (AO P true) (Stop P F (F.Cd j)) b n (Aj L d undef) ds (.inRegion ops rest::k) cs s):
  JL (AO P true) (Stop P F (.Di j)) b n L ds (.inRegion ops (i::rest)::k) cs s:=fun T O=>by
 simp only [Bool.and_eq_true] at K
 have Z:=PC (d:=d) (ats:=ats) (ty:=ty) (pp:=pp) (af:=af) (g:=g) O ac ae
 refine(AO P _).stop (DJ.stop {
  run:=rfl,offers:=rfl,quiet:=(by simp [Fam.Cr]),live:=fun _=>aa,act:=(by simp [Fam.act]),EO:=(by simp),CS:=(by simp),close:=(by simp),send:=(by simp),go:=fun ai e=>?_,Ey:=(by simp),recv:=(by simp)})
 cases e
 refine⟨G (fr b (Bv T d undef) ds (.inRegion ops rest::k)) cs,_,rfl,rfl,fun w=>?_,ag,ah _ (O.put K.2 _)⟩
 rw [By Y,By Y,stepG_spawn (a:=⟨T,ds⟩) (w':=w) ab (BF O hw) (by simpa using K.1) (by rw [Gr,Z];rfl) rfl,listed_none (by rw [Gr,Z];simp [Sem.events_pure']),DW]
theorem JL.Ey{args:Array Operand}{fi U:Array Value}{as:List Value}{V:FuncId}(aa:s.q=false)(ab:ops[i]? =some ⟨d,.go ⟨.value x,args,ats⟩,ty,pp,af,g⟩)(Y:b.roundOf=none)(hw:Az L ops ⟨d,.go ⟨.value x,args,ats⟩,ty,pp,af,g⟩=some true)(K:((b.kind != .early)&&AQ n d)=true)
  (ac:ev L x=some (.func (.func V) fi U)) (ae:evs L args.toList=some as)
  (ag:Way P false (Stop P F .BD) (born P {target:= .fn (.func V) U,args:=fi++as.toArray}) ⟨s.E,fun _=>none,false⟩)
  (ah:JL (AO P true) (Stop P F (.Bh [] [])) b n (Aj L d undef) ds (.inRegion ops rest::k) cs s):
  JL (AO P true) (Stop P F .DI) b n L ds (.inRegion ops (i::rest)::k) cs s:=fun T O=>by
 simp only [Bool.and_eq_true] at K
 have Z:=PC (d:=d) (ats:=ats) (ty:=ty) (pp:=pp) (af:=af) (g:=g) O ac ae
 refine(AO P _).stop (DJ.stop {
  run:=rfl,offers:=rfl,quiet:=(by simp [Fam.Cr]),live:=fun _=>aa,act:=(by simp [Fam.act]),EO:=(by simp),CS:=(by simp),close:=(by simp),send:=(by simp),go:=(by simp),Ey:=fun _=>?_,recv:=(by simp)})
 refine⟨G (fr b (Bv T d undef) ds (.inRegion ops rest::k)) cs,_,rfl,rfl,fun w=>?_,ag,ah _ (O.put K.2 _)⟩
 rw [By Y,By Y,stepG_spawn (a:=⟨T,ds⟩) (w':=w) ab (BF O hw) (by simpa using K.1) (by rw [Gr,Z];rfl) rfl,listed_none (by rw [Gr,Z];simp [Sem.events_pure']),DW]
theorem JO.Ob{j:Nat}(V:s.q=false)(K:b.roundOf=none)(he:Bt P f (fun _=>do mark .enable;pure Extern.Race.none_))
  (h:JO (AO P true) (Stop P F (.Di j)) b n L ds cs s):JO (AO P true) (Stop P F (.D2 j)) b n L (dcall f #[]::ds) cs s:=fun T Y todo=>by
 obtain⟨fn,Z,aa,hb,ab,he⟩:=he.h
 refine(AO P _).stop (Fe rfl rfl rfl V (by simp) fun v wt sm v' wt' sm' es nx O=>?_)
 simp only [Fam.act] at O
 cases O
 refine⟨G (CC b T ds todo) cs,fun w ac=>?_,rfl,h T Y todo⟩
 rw [G2 K,G2 K,G3 ac]
 exact stepG_unwind_entry (a:=⟨T,dcall f #[]::ds⟩) (v:= .tuple #[]) (evs:= #[Fam.CI .enable]) rfl Z aa hb ab he (by simp [Extern.Race.none_]) (by simp;rfl) (by
  intro x U
  simp at U
  subst U
  exact⟨rfl,fun g h=>by cases h⟩)
theorem JO.Jo(K:b.roundOf=none)(he:Bt P f (fun _=>do mark .enable;pure Extern.Race.none_))
  (h:JO (El P) (ER P 0) b n L ds cs .quiet):JO (El P) (ER P 1) b n L (dcall f #[]::ds) cs .quiet:=fun T U todo=>by
 obtain⟨fn,V,Y,hb,Z,he⟩:=he.h
 refine(El P).stop ?_
 obtain⟨q,O⟩:=IU (h T U todo)
 rw [G2 K] at O
 rw [G2 K]
 exact⟨q+1,QuitsD.unwind_mark (a:=⟨T,dcall f #[]::ds⟩) .enable rfl (by simp) rfl V Y hb Z he O⟩
end
end Pal
namespace Pal
open Go Go.Conc
def P2:BinOp→Int→Int→Option Bool
 | .lss,m,m'=>some (decide (m<m'))
 | .leq,m,m'=>some (decide (m≤m'))
 | .gtr,m,m'=>some (decide (m'<m))
 | .geq,m,m'=>some (decide (m'≤m))
 | .eql,m,m'=>some (decide (m=m'))
 | .neq,m,m'=>some (decide (m≠m'))
 | _,_,_=>none
def GQ(L:Env):Op→Option Value
 | .move x=>ev L x
 | .assign x=>ev L x
 | .pick z x y=>match ev L z with
  | some (.bool true)=>ev L x
  | some (.bool false)=>ev L y
  | _=>none
 | .extract x i=>match ev L x with
  | some (.tuple vs)=>vs[i]?
  | _=>none
 | .nilCheck x=>match ev L x with
  | some (.pointer (some a))=>some (.pointer (some a))
  | _=>none
 | .binOp op _ x y _=>match ev L x with
  | some (.int kd m)=>match ev L y with
   | some (.int kd' m')=>if kd=kd' then(match P2 op m m' with | some t=>some (.bool t) | none=>none) else none
   | _=>none
  | _=>none
 | _=>none
theorem Td{P:Program}{s:St}{ρ:Operand→Value}{d:Option Tmp}{x y:Operand}{t u ty:TypeId}{p:String}{af:Array Edge}{g:Option (Nat×Bool)}{kd:IntKind}{m m':Int}(K:ρ x= .int kd m)(O:ρ y= .int kd m'):Yl P ⟨d,.binOp .neq t x y u,ty,p,af,g⟩ ρ s (.bool (decide (m≠m'))):=by
 have h:=Yl.neq (P:=P) (s:=s) (d:=d) (t:=t) (u:=u) (ty:=ty) (p:=p) (af:=af) (g:=g) K O;simpa using h
theorem Jt{P:Program}{L:Env}{ρ:Operand→Value}{s:St}{o:Oper}{v:Value}(K:CN L ρ)(h:GQ L o.op=some v):Yl P o ρ s v:=by
 obtain⟨d,op,ty,p,af,g⟩:=o;simp only at h;unfold GQ at h;split at h
 ·exact Yl.move (K _ _ h)
 ·exact Yl.assign (K _ _ h)
 ·split at h
  ·rename_i e;exact RB (K _ _ e) (K _ _ h)
  ·rename_i e;exact Rl (K _ _ e) (K _ _ h)
  ·cases h
 ·split at h
  ·rename_i e;exact Yl.extract (K _ _ e) h
  ·cases h
 ·split at h
  ·rename_i e;cases h;exact Yl.nilCheck (K _ _ e)
  ·cases h
 ·split at h
  ·rename_i O;split at h
   ·rename_i U;split at h
    ·rename_i e;subst e;split at h
     ·rename_i e;cases h;unfold P2 at e;split at e
      ·cases e;exact Yl.lss (K _ _ O) (K _ _ U)
      ·cases e;exact Yl.leq (K _ _ O) (K _ _ U)
      ·cases e;exact Yl.gtr (K _ _ O) (K _ _ U)
      ·cases e;exact Yl.geq (K _ _ O) (K _ _ U)
      ·cases e;exact Yl.eql (K _ _ O) (K _ _ U)
      ·cases e;exact Td (K _ _ O) (K _ _ U)
      ·cases e
     ·cases h
    ·cases h
   ·cases h
  ·cases h
 ·cases h
def FP:List Oper→Nat→Option Oper
 | [],_=>none
 | o::_,0=>some o
 | _::os,i+1=>FP os i
theorem Hd:∀(os:List Oper) (i:Nat),FP os i=os[i]?
 | [],i=>by simp [FP]
 | _::_,0=>rfl
 | _::os,i+1=>by simp [FP,Hd os i]
def Ki(b:Frame)(n:Nat)(L:Env):List Item→Option (List Item×Env)
 | .code (.seq x y)::k=>some (.code x:: .code y::k,L)
 | .code (.block i c)::k=>some (.code c:: .inBlock i::k,L)
 | .code (.scope c)::k=>some (.code c:: .inScope c::k,L)
 | .code .skip::k=>some (k,L)
 | .code (.exit i)::k=>match exitTo i k with
  | some k'=>some (k',L)
  | none=>none
 | .code (.cond c x y)::k=>match ev L c with
  | some (.bool true)=>some (.code x::k,L)
  | some (.bool false)=>some (.code y::k,L)
  | _=>none
 | .code (.region _ ops false)::k=>some (.inRegion ops (List.range ops.size)::k,L)
 | .inBlock _::k=>some (k,L)
 | .inScope _::k=>some (k,L)
 | .inRegion _ []::k=>some (k,L)
 | .inRegion ops (i::rest)::k=>match FP ops.toList i with
  | some ⟨d,op,ty,p,af,g⟩=>match Az L ops ⟨d,op,ty,p,af,g⟩ with
   | some true=>match Bw b n ⟨d,op,ty,p,af,g⟩ with
    | true=>match GQ L op with
     | some v=>match d with
      | some d=>some (.inRegion ops rest::k,(d,v)::L)
      | none=>some (.inRegion ops rest::k,L)
     | none=>none
    | false=>none
   | some false=>match AQ n d with
    | true=>match d with
     | some d=>some (.inRegion ops rest::k,(d,undef)::L)
     | none=>some (.inRegion ops rest::k,L)
    | false=>none
   | none=>none
  | none=>none
 | _=>none
def JY(b:Frame)(n:Nat):Nat→List Item→Env→Option (List Item×Env)
 | 0,k,L=>some (k,L)
 | m+1,k,L=>match Ki b n L k with
  | some (k',L')=>JY b n m k' L'
  | none=>none
section
variable {P:Program}{J:Judge P}{Q:Goroutine→St→Prop}{b:Frame}{n:Nat}{L L':Env}{ds:List Deferred}{k k':List Item}{cs:List Frame}{s:St}
theorem Po(h:Ki b n L k=some (k',L'))(K:JL J Q b n L' ds k' cs s):JL J Q b n L ds k cs s:=by
 unfold Ki at h;split at h
 ·cases h;exact JL.seq K
 ·cases h;exact JL.block K
 ·cases h;exact JL.scope K
 ·cases h;exact JL.skip K
 ·split at h
  ·rename_i e;cases h;exact JL.exit e K
  ·cases h
 ·split at h
  ·rename_i e;cases h;exact Rm e K
  ·rename_i e;cases h;exact RP e K
  ·cases h
 ·cases h;exact JL.region K
 ·cases h;exact ML K
 ·cases h;exact Qr K
 ·cases h;exact JL.done K
 ·split at h
  ·rename_i d op ty p af g O;rw [Hd,Array.getElem?_toList] at O;split at h
   ·rename_i hw;split at h
    ·rename_i U;split at h
     ·rename_i v Y;cases d with
      | none=>cases h;exact Ay O hw U (fun ρ V=>Jt V Y) K
      | some d=>cases h;exact Ay O hw U (fun ρ V=>Jt V Y) K
     ·cases h
    ·cases h
   ·rename_i hw;split at h
    ·rename_i U;cases d with
     | none=>cases h;exact PV O hw U K
     | some d=>cases h;exact PV O hw U K
    ·cases h
   ·cases h
  ·cases h
 ·cases h
theorem JL.go(m:Nat)(h:JY b n m k L=some (k',L'))(K:JL J Q b n L' ds k' cs s):JL J Q b n L ds k cs s:=by
 induction m generalizing k L with
 | zero=>cases h;exact K
 | succ m O=>
  unfold JY at h;split at h
  ·rename_i e;exact Po e (O h)
  ·cases h
end
abbrev pV(a o:Nat):Value:= .pointer (some ⟨a,o,none⟩)
abbrev sV{α:Type}(a:Option Addr)(l:List α)(c:Nat):Value:= .slice a l.length c
end Pal
namespace Pal
open Go Go.Conc Go.Conc.Lib
open Go.ConcR.Gen
theorem Dm{P:Program}{t:TypeId}{n:Nat}(h:∀w,Sem.run P (Go.sizeOf t) w= .ok n w):A0 P t=some n:=by
 have K:=h default;unfold A0;simp only [Go.sizeOf,typeInfo,bind,Sem.bind,program,Sem.run] at K;cases hi:P.info? t with
 | none=>rw [hi] at K;simp [stuck,Sem.run,Sem.bind] at K
 | some i=>
  rw [hi] at K;simp [pure,Sem.bind,Sem.run] at K;simp [K]
section
variable {P:Program}{L:WgLink}(H:WgLib P L)
include H
theorem K9:Bt P L.disable (fun _=>do mark .disable;pure Extern.Race.none_):=⟨⟨_,H.f_disable,x_disable_n L,x_disable_b L,x_disable_x L,x_disable_f L⟩⟩
theorem F5:Bt P L.enable (fun _=>do mark .enable;pure Extern.Race.none_):=⟨⟨_,H.f_enable,x_enable_n L,x_enable_b L,x_enable_x L,x_enable_f L⟩⟩
theorem Qp:Bt P L.relMerge (Extern.Race.marked .releaseMerge):=⟨⟨_,H.f_relMerge,x_relMerge_n L,x_relMerge_b L,x_relMerge_x L,x_relMerge_f L⟩⟩
theorem MM:Bt P L.acquire (Extern.Race.marked .acquire):=⟨⟨_,H.f_acquire,x_acquire_n L,x_acquire_b L,x_acquire_x L,x_acquire_f L⟩⟩
theorem R6:Bt P L.raceRead (Extern.Race.marked .read):=⟨⟨_,H.f_raceRead,x_raceRead_n L,x_raceRead_b L,x_raceRead_x L,x_raceRead_f L⟩⟩
theorem Rf:Bt P L.raceWrite (Extern.Race.marked .write):=⟨⟨_,H.f_raceWrite,x_raceWrite_n L,x_raceWrite_b L,x_raceWrite_x L,x_raceWrite_f L⟩⟩
theorem OM:Bt P L.addU64 (Extern.Atomic.update (Op.intArith .add) .u64 true):=⟨⟨_,H.f_addU64,x_addU64_n L,x_addU64_b L,x_addU64_x L,x_addU64_f L⟩⟩
theorem Sb:Bt P L.loadU64 (Extern.Atomic.loadT (.int .u64)):=⟨⟨_,H.f_loadU64,x_loadU64_n L,x_loadU64_b L,x_loadU64_x L,x_loadU64_f L⟩⟩
theorem RN:Bt P L.storeU64 Extern.Atomic.storeT:=⟨⟨_,H.f_storeU64,x_storeU64_n L,x_storeU64_b L,x_storeU64_x L,x_storeU64_f L⟩⟩
theorem S2:Bt P L.casU64 (Extern.Atomic.casT (.int .u64)):=⟨⟨_,H.f_casU64,x_casU64_n L,x_casU64_b L,x_casU64_x L,x_casU64_f L⟩⟩
theorem Q9:Bt P L.semrelease Extern.Sync.semrelease:=⟨⟨_,H.f_semrelease,x_semrelease_n L,x_semrelease_b L,x_semrelease_x L,x_semrelease_f L⟩⟩
theorem Qq:Bt P L.semacquire Extern.Sync.semacquire:=⟨⟨_,H.f_semacquire,x_semacquire_n L,x_semacquire_b L,x_semacquire_x L,x_semacquire_f L⟩⟩
theorem MQ:Bt P L.inBubble (fun _=>pure (.bool false)):=⟨⟨_,H.f_inBubble,x_inBubble_n L,x_inBubble_b L,x_inBubble_x L,x_inBubble_f L⟩⟩
end
section
variable {P:Program}{F:Fam}{J:Judge P}{Q:GP}{n:Nat}{L L':Env}{ds:List Deferred}{k:List Item}{cs:List Frame}{s s':St}{b:Frame}{main:Bool}
variable {ops:Array Oper}{i:Nat}{rest:List Nat}{d:Option Tmp}{f:FuncId}{x y z:Operand}{ats:Array TypeId}{ty t u e tw:TypeId}{pp:String}{af:Array Edge}{g:Option (Nat×Bool)}{p q:Ph}
theorem Yl.to{o:Oper}{ρ:Operand→Value}{v v':Value}(h:Yl P o ρ s v)(e:v=v'):Yl P o ρ s v':=e▸h
theorem H3{ad:Addr}(ag:G9 p=true)(ah:if Fam.Cr p=true then s= .quiet else s.q=false)(ai:p≠ .CQ)(aj:∀v wt sm,F.act p v wt sm=some ((v,wt,sm),#[],.ph q))(ak:Fam.Ez p s=s)
  (al:ops[i]? =some ⟨d,.convert t u x,ty,pp,af,g⟩) (U:b.roundOf=none) (hw:Az L ops ⟨d,.convert t u x,ty,pp,af,g⟩=some true) (K:((b.kind != .early)&&AQ n d)=true)
  (ht:P.underlying t=some (.pointer tw)) (hu:P.underlying u=some .unsafePointer) (V:(P.info? tw).map (fun i=>decide (i.size=0))=some false) (am:ev L x=some (.pointer (some ad))) (hb:ad=F.sA∨ad=F.mA)
  (h:JL (AO P (Fam.B4 p)) (Stop P F q) b n (Aj L d (.pointer (some ad))) ds (.inRegion ops rest::k) cs s):
  JL (AO P (Fam.B4 p)) (Stop P F p) b n L ds (.inRegion ops (i::rest)::k) cs s:=fun T O=>by
 simp only [Bool.and_eq_true] at K
 refine(AO P _).stop (Fe ag rfl rfl ah (fun e=>absurd e ai) fun v wt sm v' wt' sm' es nx Y=>?_)
 rw [aj] at Y;cases Y
 refine⟨_,fun w Z=>?_,rfl,by rw [ak];exact h _ (O.put K.2 _)⟩
 obtain⟨aa,ab⟩:∃aa,w.cell? ad=some aa:=by
  obtain⟨an,c2,_,_⟩:=Fg Z;rcases hb with e | e <;> rw [e]
  ·exact⟨_,an⟩
  ·exact⟨_,c2⟩
 have ac:=run_convert_to_unsafe (P:=P) (w:=w) ht hu V ab;have ao:=events_convert_to_unsafe (P:=P) (w:=w) ht hu V ab;have ae:execOp (⟨T,ds⟩:Act).eval ⟨d,.convert t u x,ty,pp,af,g⟩=(do pure (Next.value (← Go.convert t u (.pointer (some ad))))):=by
  rw [Gr];simp only [execOp,O.ev am]
 rw [By U,By U,stepG_value (a:=⟨T,ds⟩) (v:= .pointer (some ad)) (w':=w) al (BF O hw) (by simpa using K.1) (by rw [ae];simp [ac,Result.andThen]),G3 Z,DW];have ap:listed P b.fn ⟨T,ds⟩ ⟨d,.convert t u x,ty,pp,af,g⟩ w= #[]:=by
  unfold listed;rw [ae];simp [ac,ao,Result.evThen,seen_none]
 rw [ap]
end
end Pal
namespace Pal
open Go Go.Conc Go.Conc.Lib
open Go.ConcR.Gen
section
variable {P:Program}{F:Fam}{J:Judge P}{Q:GP}{n:Nat}{L L':Env}{ds:List Deferred}{k:List Item}{cs:List Frame}{s s':St}{b:Frame}{main:Bool}
variable {ops:Array Oper}{i:Nat}{rest:List Nat}{d:Option Tmp}{f:FuncId}{x y z:Operand}{args:Array Operand}{ats:Array TypeId}{ty t u e tw:TypeId}{pp:String}{af:Array Edge}{g:Option (Nat×Bool)}{p q:Ph}{vs:List Value}
def V6(P:Program)(b:Frame)(n:Nat)(L:Env)(d:Option Tmp)(ds:List Deferred)(todo:List Item)(cs:List Frame)(U:Frame):Prop:=
 ∀(K:Judge P) (O:GP) (v:Value) (s':St),JL K O b n (Aj L d v) ds todo cs s'→K.ok O (G (U.finish v) cs) s'
theorem Gb{fn:Func}{c:Code}(V:ops[i]? =some ⟨d,.call ⟨.value (.func f),args,ats⟩,ty,pp,af,g⟩)(hw:Az L ops ⟨d,.call ⟨.value (.func f),args,ats⟩,ty,pp,af,g⟩=some true)(O:((b.kind != .early)&&AQ n d)=true)
  (Y:P.funcs[f]? =some fn) (ab:(fn.name== "runtime.NumGoroutine")=false) (hb:fn.body=some c) (ac:evs L args.toList=some vs) (al:vs.length≤fn.ntmps)
  (h:∀Z:Frame,V6 P b n L d ds (.inRegion ops rest::k) cs Z→JL J Q (base f) fn.ntmps (DY 0 vs) [] [.code c] (Z::cs) s):
  JL J Q b n L ds (.inRegion ops (i::rest)::k) cs s:=fun T U=>by
 simp only [Bool.and_eq_true] at O
 have ae:args.map (AY T)=vs.toArray:=by
  rw [← DV U.Ee ac];apply Array.ext';simp
 refine Judge.oper V (BF U hw) (by simpa using O.1) (.inr fun c ag=>by cases ag) ?_;have ah:Ch P f=true:=by unfold Ch;rw [Y];simp [ab,hb]
 have ai:lp P (execOp (AY T) ⟨d,.call ⟨.value (.func f),args,ats⟩,ty,pp,af,g⟩) s (upon J Q b T ds ops i rest k cs d) (Kl J Q b T ds ops i rest k cs):=by
  simp only [execOp,resolve,bind,Sem.bind,Deferred.ofValue,AY,pure,invoke];have e: #[]++args.map (AY T)++ #[]=vs.toArray:=by rw [ae];simp
  rw [e];refine GX ah ?_;have he:Frame.enter P f vs.toArray .normal=fr (base f) (vs.toArray++Array.replicate (fn.ntmps - vs.length) undef) [] [.code c]:=by
   simp [Frame.enter,fr,Y,hb,base];rfl
  show J.ok Q (G (Frame.enter P f vs.toArray .normal) _) s;rw [he];refine h _ (fun am an v s' aj=>?_) _ ⟨by simp;omega,fun t v ht=>?_⟩
  ·rw [D7 (o:=⟨d,.call ⟨.value (.func f),args,ats⟩,ty,pp,af,g⟩) _ _ _ _ _ V];exact aj _ (U.put O.2 v)
  ·obtain⟨_,K⟩:=GZ ht;have ak:t<vs.length:=by
    rcases Nat.lt_or_ge t vs.length with aa | aa
    ·exact aa
    ·simp at K;have:=(List.getElem?_eq_some_iff.1 K).1;omega
   rw [Array.getD_eq_getD_getElem?,Array.getElem?_append_left (by simpa using ak)];simp at K;simp [K]
 exact ai
theorem Yl.ext{e:Array Value→Sem Value}{v:Value}{ρ:Operand→Value}(he:Bt P f e)(O:args.map ρ=vs.toArray)(h:e vs.toArray= .pure v):Yl P ⟨d,.call ⟨.value (.func f),args,ats⟩,ty,pp,af,g⟩ ρ s v∨ρ (.func f)≠ .func (.func f) #[] #[]:=by
 by_cases K:ρ (.func f)= .func (.func f) #[] #[]
 ·left;obtain⟨fn,U,V,h3,Y,Z⟩:=he.h;unfold Yl;simp only [execOp,resolve,bind,Sem.bind,Deferred.ofValue,K,pure,invoke];have aa: #[]++args.map ρ++ #[]=vs.toArray:=by rw [O];simp
  rw [aa];have ab:fn.body=none:=by simpa using h3
  simp only [callFunc,bind,Sem.bind,program,lp,U,V,ab,Option.isNone_none,Bool.false_eq_true,if_false,if_true,mark,Y,Z,h,pure];exact⟨.inr ⟨f,rfl⟩,trivial,trivial⟩
 ·exact .inr K
theorem JL.ext{e:Array Value→Sem Value}{v:Value}(O:ops[i]? =some ⟨d,.call ⟨.value (.func f),args,ats⟩,ty,pp,af,g⟩)(hw:Az L ops ⟨d,.call ⟨.value (.func f),args,ats⟩,ty,pp,af,g⟩=some true)(U:Bw b n ⟨d,.call ⟨.value (.func f),args,ats⟩,ty,pp,af,g⟩=true)
  (he:Bt P f e) (V:evs L args.toList=some vs) (Y:e vs.toArray= .pure v) (h:JL J Q b n (Aj L d v) ds (.inRegion ops rest::k) cs s):JL J Q b n L ds (.inRegion ops (i::rest)::k) cs s:=
 Ay O hw U (fun ρ K=>by
  have Z:args.map ρ=vs.toArray:=by
   rw [← DV K V]
   apply Array.ext';simp
  rcases Yl.ext (s:=s) (d:=d) (ats:=ats) (ty:=ty) (pp:=pp) (af:=af) (g:=g) he Z Y with q | q
  ·exact q
  ·exact absurd (K (.func f) _ rfl) q) h
end
section
variable {P:Program}{L:WgLink}(H:WgLib P L){F:Fam}{n:Nat}{M:Env}{ds:List Deferred}{k:List Item}{cs:List Frame}{s:St}{b:Frame}
variable {ops:Array Oper}{i:Nat}{rest:List Nat}{d:Option Tmp}{x y z:Operand}{ats:Array TypeId}{ty:TypeId}{pp:String}{af:Array Edge}{g:Option (Nat×Bool)}{p q:Ph}
include H
theorem Sd(K:ops[i]? =some ⟨d,.call ⟨.value (.func L.uAdd),#[x,y],ats⟩,ty,pp,af,g⟩)(hw:Az M ops ⟨d,.call ⟨.value (.func L.uAdd),#[x,y],ats⟩,ty,pp,af,g⟩=some true)(O:((b.kind != .early)&&AQ n d)=true)
  (U:ev M x=some (.pointer (some F.sA))) (V:ev M y=some (.int .u64 18446744069414584320))
  (Y:JL (AO P false) (Stop P F .Ef) b n (Aj M d (.int .u64 (Fam.word 0 1))) ds (.inRegion ops rest::k) cs .quiet)
  (Z:∀v wt:Nat,v<2147483647→wt≤1→¬(v=0∧wt=1)→JL (El P) (ER P 1) b n (Aj M d (.int .u64 (Fam.word v wt))) ds (.inRegion ops rest::k) cs .quiet):
  JL (AO P false) (Stop P F .EP) b n M ds (.inRegion ops (i::rest)::k) cs .quiet:=by
 refine Gb (vs:= [.pointer (some F.sA),.int .u64 18446744069414584320]) K hw O H.f_uAdd (nm_uAdd L) rfl (by simp [evs,U,V]) (Nat.le_of_ble_eq_true rfl) fun ae back=>?_;refine JL.go 8 rfl ?_;refine Ay rfl rfl rfl (fun ρ h=>Yl.fieldAddr H.underlying_tAU rfl (Dm H.sizeOf_tU64) (h _ _ rfl)) ?_;refine JL.go 1 rfl ?_;refine TL rfl rfl rfl rfl (OM H) rfl rfl ?_ fun v wt aa ab ac=>?_
 ·refine Ay rfl rfl rfl (fun ρ h=>Yl.assign (h _ _ rfl)) ?_;refine JL.done ?_;exact JL.ret rfl rfl (Bc.one H.f_uAdd rfl rfl) (back _ _ _ _ Y)
 ·refine Ay rfl rfl rfl (fun ρ h=>Yl.assign (h _ _ rfl)) ?_;refine JL.done ?_;exact JL.ret rfl rfl (Bc.one H.f_uAdd rfl rfl) (back _ _ _ _ (Z v wt aa ab ac))
theorem R7{j:Nat}(K:s.q=false)(O:ops[i]? =some ⟨d,.call ⟨.value (.func L.uAdd),#[x,y],ats⟩,ty,pp,af,g⟩)(hw:Az M ops ⟨d,.call ⟨.value (.func L.uAdd),#[x,y],ats⟩,ty,pp,af,g⟩=some true)(U:((b.kind != .early)&&AQ n d)=true)
  (V:ev M x=some (.pointer (some F.sA))) (Y:ev M y=some (.int .u64 4294967296))
  (Z:JL (AO P true) (Stop P F (.EU j)) b n (Aj M d (.int .u64 (Fam.word 1 0))) ds (.inRegion ops rest::k) cs s)
  (aa:∀v:Nat,1≤v→v<2147483647→JL (AO P true) (Stop P F (.D2 j)) b n (Aj M d (.int .u64 (Fam.word (v+1) 0))) ds (.inRegion ops rest::k) cs s):
  JL (AO P true) (Stop P F (.Fv j)) b n M ds (.inRegion ops (i::rest)::k) cs s:=by
 refine Gb (vs:= [.pointer (some F.sA),.int .u64 4294967296]) O hw U H.f_uAdd (nm_uAdd L) rfl (by simp [evs,V,Y]) (Nat.le_of_ble_eq_true rfl) fun ae back=>?_;refine JL.go 8 rfl ?_;refine Ay rfl rfl rfl (fun ρ h=>Yl.fieldAddr H.underlying_tAU rfl (Dm H.sizeOf_tU64) (h _ _ rfl)) ?_;refine JL.go 1 rfl ?_;refine TH K rfl rfl rfl rfl (OM H) rfl rfl ?_ fun v ab ac=>?_
 ·refine Ay rfl rfl rfl (fun ρ h=>Yl.assign (h _ _ rfl)) ?_;refine JL.done ?_;exact JL.ret rfl rfl (Bc.one H.f_uAdd rfl rfl) (back _ _ _ _ Z)
 ·refine Ay rfl rfl rfl (fun ρ h=>Yl.assign (h _ _ rfl)) ?_;refine JL.done ?_;exact JL.ret rfl rfl (Bc.one H.f_uAdd rfl rfl) (back _ _ _ _ (aa v ab ac))
theorem JL.uLoad(K:G9 p=true)(O:if Fam.Cr p=true then s= .quiet else s.q=false)(U:p≠ .CQ)(V:Fam.Ez p s=s)(Y:∀v wt sm r,F.act p v wt sm=some r→r.1=(v,wt,sm)∧r.2.1= #[Fam.Df F.sA])(Z:ops[i]? =some ⟨d,.call ⟨.value (.func L.uLoad),#[x],ats⟩,ty,pp,af,g⟩)(hw:Az M ops ⟨d,.call ⟨.value (.func L.uLoad),#[x],ats⟩,ty,pp,af,g⟩=some true)(aa:((b.kind != .early)&&AQ n d)=true)
  (ab:ev M x=some (.pointer (some F.sA)))
  (h:∀v wt sm r,F.act p v wt sm=some r→∃q,r.2.2= .ph q∧JL (AO P (Fam.B4 p)) (Stop P F q) b n (Aj M d (.int .u64 (Fam.word v wt))) ds (.inRegion ops rest::k) cs s):
  JL (AO P (Fam.B4 p)) (Stop P F p) b n M ds (.inRegion ops (i::rest)::k) cs s:=by
 refine Gb (vs:= [.pointer (some F.sA)]) Z hw aa H.f_uLoad (nm_uLoad L) rfl (by simp [evs,ab]) (Nat.le_of_ble_eq_true rfl) fun ah back=>?_;refine JL.go 8 rfl ?_;refine Ay rfl rfl rfl (fun ρ h=>Yl.fieldAddr H.underlying_tAU rfl (Dm H.sizeOf_tU64) (h _ _ rfl)) ?_;refine Vx K O U V Y rfl rfl rfl rfl (Sb H) rfl fun v wt sm r ac=>?_;obtain⟨q,ae,ag⟩:=h v wt sm r ac;refine⟨q,ae,?_⟩
 ·refine Ay rfl rfl rfl (fun ρ h=>Yl.assign (h _ _ rfl)) ?_;refine JL.done ?_;exact JL.ret rfl rfl (Bc.one H.f_uLoad rfl rfl) (back _ _ _ _ ag)
theorem JL.uStore(K:ops[i]? =some ⟨d,.call ⟨.value (.func L.uStore),#[x,y],ats⟩,ty,pp,af,g⟩)(hw:Az M ops ⟨d,.call ⟨.value (.func L.uStore),#[x,y],ats⟩,ty,pp,af,g⟩=some true)(O:((b.kind != .early)&&AQ n d)=true)
  (U:ev M x=some (.pointer (some F.sA))) (V:ev M y=some (.int .u64 0))
  (h:JL (AO P false) (Stop P F .CQ) b n (Aj M d (.tuple #[])) ds (.inRegion ops rest::k) cs .quiet):
  JL (AO P false) (Stop P F .Eo) b n M ds (.inRegion ops (i::rest)::k) cs .quiet:=by
 refine Gb (vs:= [.pointer (some F.sA),.int .u64 0]) K hw O H.f_uStore (nm_uStore L) rfl (by simp [evs,U,V]) (Nat.le_of_ble_eq_true rfl) fun Y back=>?_;refine JL.go 3 rfl ?_;refine Ay rfl rfl rfl (fun ρ h=>Yl.fieldAddr H.underlying_tAU rfl (Dm H.sizeOf_tU64) (h _ _ rfl)) ?_;refine JL.go 1 rfl ?_;refine UW rfl rfl rfl rfl (RN H) rfl rfl ?_;refine JL.done ?_;exact JL.fin rfl rfl (Bc.none H.f_uStore rfl) (back _ _ _ _ h)
theorem JL.uCas{m:Nat}(K:s.q=false)(O:ops[i]? =some ⟨d,.call ⟨.value (.func L.uCas),#[x,y,z],ats⟩,ty,pp,af,g⟩)(hw:Az M ops ⟨d,.call ⟨.value (.func L.uCas),#[x,y,z],ats⟩,ty,pp,af,g⟩=some true)(U:((b.kind != .early)&&AQ n d)=true)
  (V:ev M x=some (.pointer (some F.sA))) (Y:ev M y=some (.int .u64 (Fam.word m 0))) (Z:ev M z=some (.int .u64 (Fam.word m 1)))
  (aa:JL (AO P false) (Stop P F .Fz) b n (Aj M d (.bool true)) ds (.inRegion ops rest::k) cs s)
  (ab:JL (AO P false) (Stop P F (.DG (m - 1))) b n (Aj M d (.bool false)) ds (.inRegion ops rest::k) cs s):
  JL (AO P false) (Stop P F (.EN m)) b n M ds (.inRegion ops (i::rest)::k) cs s:=by
 refine Gb (vs:= [.pointer (some F.sA),.int .u64 (Fam.word m 0),.int .u64 (Fam.word m 1)]) O hw U H.f_uCas (nm_uCas L) rfl (by simp [evs,V,Y,Z]) (Nat.le_of_ble_eq_true rfl) fun ac back=>?_;refine JL.go 8 rfl ?_;refine Ay rfl rfl rfl (fun ρ h=>Yl.fieldAddr H.underlying_tAU rfl (Dm H.sizeOf_tU64) (h _ _ rfl)) ?_;refine JL.go 2 rfl ?_;refine Ut (m:=m) K rfl rfl rfl rfl (S2 H) rfl rfl rfl ?_ ?_
 ·refine Ay rfl rfl rfl (fun ρ h=>Yl.assign (h _ _ rfl)) ?_;refine JL.done ?_;exact JL.ret rfl rfl (Bc.one H.f_uCas rfl rfl) (back _ _ _ _ aa)
 ·refine Ay rfl rfl rfl (fun ρ h=>Yl.assign (h _ _ rfl)) ?_;refine JL.done ?_;exact JL.ret rfl rfl (Bc.one H.f_uCas rfl rfl) (back _ _ _ _ ab)
end
end Pal
namespace Pal
open Go Go.Conc Go.Conc.Lib
open Go.ConcR.Gen
theorem Hk{v wt:Nat}(K:v<2147483648)(O:wt≤1):IntKind.u64.wrap (BitVec.ofInt IntKind.u64.bits (Fam.word v wt)&&& BitVec.ofInt IntKind.u64.bits 2147483648).toNat=0:=by
 have:=Go.ConcN.st_flag v wt K O;simpa [bits,Fam.word,Fam.KK] using this
theorem Hl{v wt:Nat}(K:v<2147483648)(O:wt≤1):IntKind.u64.wrap (BitVec.ofInt IntKind.u64.bits (Fam.word v wt)&&& BitVec.ofInt IntKind.u64.bits 2147483647).toNat=(wt:Int):=by
 have:=Go.ConcN.st_waiters v wt K O;simpa [bits,Fam.word,Fam.KK] using this
theorem G4{v wt:Nat}(K:wt≤1):(Fam.word v wt).fdiv (2 ^ (min (32:Int).toNat IntKind.u64.bits))=(v:Int):=by
 have e:(2:Int) ^ (min (32:Int).toNat IntKind.u64.bits)=4294967296:=by decide
 rw [e,Int.fdiv_eq_ediv_of_nonneg _ (by decide)];simp only [Fam.word,Fam.KK];omega
theorem wrap_i32{v:Nat}(K:v<2147483648):IntKind.i32.wrap (v:Int)=v:=by
 simp only [IntKind.wrap,IntKind.bits,IntKind.signed];simp;split <;> omega
theorem wrap_u32{v:Nat}(K:v≤1):IntKind.u32.wrap (v:Int)=v:=by
 simp only [IntKind.wrap,IntKind.bits,IntKind.signed];simp;omega
theorem RL{F:Fam}:∀v wt sm r,F.act .Ef v wt sm=some r→r.1=(v,wt,sm)∧r.2.1= #[Fam.Df F.sA]:=by
 intro v wt sm r h;simp only [Fam.act] at h;split at h
 ·rename_i K;obtain⟨rfl,rfl⟩:=K;cases h;exact⟨rfl,rfl⟩
 ·cases h
theorem SB{F:Fam}{v wt sm:Nat}{r}(h:F.act .Ef v wt sm=some r):v=0∧wt=1∧r.2.2= .ph .Eo:=by
 simp only [Fam.act] at h;split at h
 ·rename_i K;cases h;exact⟨K.1,K.2,rfl⟩
 ·cases h
section
variable {P:Program}{L:WgLink}(H:WgLib P L){F:Fam}{n:Nat}{M:Env}{ds:List Deferred}{k:List Item}{cs:List Frame}{s:St}{b:Frame}
variable {ops:Array Oper}{i:Nat}{rest:List Nat}{d:Option Tmp}{x y z:Operand}{ats:Array TypeId}{ty:TypeId}{pp:String}{af:Array Edge}{g:Option (Nat×Bool)}{p q:Ph}
include H
theorem Re(U:s.q=false)(V:ops[i]? =some ⟨d,.call ⟨.value (.func L.add),#[x,y],ats⟩,ty,pp,af,g⟩)(hw:Az M ops ⟨d,.call ⟨.value (.func L.add),#[x,y],ats⟩,ty,pp,af,g⟩=some true)(Y:((b.kind != .early)&&AQ n d)=true)
  (Z:ev M x=some (.pointer (some F.sA))) (aa:ev M y=some (.int .i64 (-1)))
  (h:JL (El P) (ER P 0) b n (Aj M d (.tuple #[])) ds (.inRegion ops rest::k) cs .quiet):
  JL (AO P false) (Stop P F .BB) b n M ds (.inRegion ops (i::rest)::k) cs s:=by
 refine Gb (vs:= [.pointer (some F.sA),.int .i64 (-1)]) V hw Y H.f_add (nm_add L) rfl (by simp [evs,Z,aa]) (Nat.le_of_ble_eq_true rfl) fun ac back=>?_;refine JL.go 11 rfl ?_;refine H3 (p:= .BB) (q:= .Eg) (ad:=F.sA) rfl U (by simp) (fun _ _ _=>rfl) rfl rfl rfl rfl rfl H.underlying_tWgP H.underlying_tUP H.room_tWg rfl (.inl rfl) ?_
 refine HO (p:= .Eg) (q:= .FQ) (mk:= .releaseMerge) (ad:=F.sA) (vs:= [.pointer (some F.sA)]) rfl U (by simp) (fun _ _ _=>rfl) rfl rfl rfl rfl (by simp) (Qp H) rfl rfl ?_;refine JL.go 3 rfl ?_;refine HW (p:= .FQ) (q:= .EP) rfl rfl (by simp) (fun _ _ _=>rfl) rfl rfl rfl rfl rfl (by simp) (K9 H) ?_;refine JL.go 2 rfl ?_;refine JL.defer (vs:= []) rfl rfl rfl rfl rfl ?_;refine JL.go 8 rfl ?_;refine JL.ext (vs:= []) rfl rfl rfl (MQ H) rfl rfl ?_;refine JL.go 7 rfl ?_;refine Ay rfl rfl rfl (fun ρ h=>Yl.fieldAddr H.underlying_tWg rfl (Dm H.sizeOf_tAU) (h _ _ rfl)) ?_;refine JL.go 1 rfl ?_;refine Ay rfl rfl rfl (fun ρ h=>CB H.underlying_t3 H.underlying_tU64 (h _ _ rfl)) ?_
 refine Ay (v:= .int .u64 18446744069414584320) rfl rfl rfl (fun ρ h=>(Yl.shl (h _ _ rfl) (h _ _ rfl) (by decide)).to (congrArg _ (by decide))) ?_;refine Sd H rfl rfl rfl rfl rfl ?_ fun v wt ae K ag=>?_
 ·refine Ay rfl rfl rfl (fun ρ h=>Yl.assign (h _ _ rfl)) ?_;refine JL.go 5 rfl ?_;refine Ay (v:= .int .u64 0) rfl rfl rfl (fun ρ h=>(Yl.and (h _ _ rfl) (h _ _ rfl)).to (congrArg _ (Hk (v:=0) (wt:=1) (by decide) (by decide)))) ?_;refine Ay rfl rfl rfl (fun ρ h=>Yl.neq (h _ _ rfl) (h _ _ rfl)) ?_;refine JL.go 10 rfl ?_;refine Ay (v:= .int .u64 (0:Nat)) rfl rfl rfl (fun ρ h=>(Yl.shr (h _ _ rfl) (h _ _ rfl) (by decide)).to (congrArg _ (G4 (v:=0) (wt:=1) (by decide)))) ?_;refine Ay (v:= .int .i32 (0:Nat)) rfl rfl rfl (fun ρ h=>(CB H.underlying_tU64 H.underlying_t21 (h _ _ rfl)).to (congrArg _ (wrap_i32 (by decide)))) ?_
  refine JL.go 5 rfl ?_;refine Ay (v:= .int .u64 (1:Nat)) rfl rfl rfl (fun ρ h=>(Yl.and (h _ _ rfl) (h _ _ rfl)).to (congrArg _ (Hl (v:=0) (wt:=1) (by decide) (by decide)))) ?_;refine Ay (v:= .int .u32 (1:Nat)) rfl rfl rfl (fun ρ h=>(CB H.underlying_tU64 H.underlying_tU32 (h _ _ rfl)).to (congrArg _ (wrap_u32 (by decide)))) ?_
  refine JL.go 30 rfl ?_;refine Ay rfl rfl rfl (fun ρ h=>Yl.neq (h _ _ rfl) (h _ _ rfl)) ?_;refine JL.go 30 rfl ?_;refine Ay rfl rfl rfl (fun ρ h=>Yl.fieldAddr H.underlying_tWg rfl (Dm H.sizeOf_tAU) (h _ _ rfl)) ?_;refine JL.uLoad H (p:= .Ef) rfl rfl (by simp) rfl RL rfl rfl rfl rfl fun v wt sm r ab=>?_;obtain⟨rfl,rfl,e⟩:=SB ab;refine⟨.Eo,e,?_⟩;refine JL.go 1 rfl ?_;refine Ay (v:= .bool false) rfl rfl rfl (fun ρ h=>(Yl.neq (h _ _ rfl) (h _ _ rfl)).to (by simp)) ?_;refine JL.go 7 rfl ?_;refine Ay rfl rfl rfl (fun ρ h=>Yl.fieldAddr H.underlying_tWg rfl (Dm H.sizeOf_tAU) (h _ _ rfl)) ?_;refine JL.uStore H rfl rfl rfl rfl rfl ?_;refine JL.go 9 rfl ?_;refine Gt ?_;refine JL.go 4 rfl ?_;refine Ay rfl rfl rfl (fun ρ h=>Yl.neq (h _ _ rfl) (h _ _ rfl)) ?_;refine JL.go 8 rfl ?_;refine Ay rfl rfl rfl (fun ρ h=>Yl.fieldAddr H.underlying_tWg rfl (Dm H.sizeOf_tU32) (h _ _ rfl)) ?_;refine SR (vs:= [.pointer (some F.mA),.bool false,.int .i64 0]) rfl rfl rfl rfl (Q9 H) rfl rfl ?_;refine JL.go 4 rfl ?_;refine Ay (v:= .int .u32 ((0:Nat):Int)) rfl rfl rfl (fun ρ h=>(Yl.sub (h _ _ rfl) (h _ _ rfl)).to (congrArg _ (by decide))) ?_;refine JL.go 2 rfl ?_;refine JL.again ?_;refine JL.go 4 rfl ?_;refine Ay rfl rfl rfl (fun ρ h=>Yl.neq (h _ _ rfl) (h _ _ rfl)) ?_;refine JL.go 3 rfl ?_;refine JL.out rfl (JO.Jo rfl (F5 H) (JO.leave rfl (Bc.none H.f_add rfl) (back _ _ _ _ h)))
 ·refine Ay rfl rfl rfl (fun ρ h=>Yl.assign (h _ _ rfl)) ?_;refine JL.go 5 rfl ?_;refine Ay (v:= .int .u64 0) rfl rfl rfl (fun ρ h=>(Yl.and (h _ _ rfl) (h _ _ rfl)).to (congrArg _ (Hk (v:=v) (wt:=wt) (by omega) K))) ?_;refine Ay rfl rfl rfl (fun ρ h=>Yl.neq (h _ _ rfl) (h _ _ rfl)) ?_;refine JL.go 10 rfl ?_;refine Ay (v:= .int .u64 (v:Nat)) rfl rfl rfl (fun ρ h=>(Yl.shr (h _ _ rfl) (h _ _ rfl) (by decide)).to (congrArg _ (G4 (v:=v) (wt:=wt) K))) ?_;refine Ay (v:= .int .i32 (v:Nat)) rfl rfl rfl (fun ρ h=>(CB H.underlying_tU64 H.underlying_t21 (h _ _ rfl)).to (congrArg _ (wrap_i32 (by omega)))) ?_
  refine JL.go 5 rfl ?_;refine Ay (v:= .int .u64 (wt:Nat)) rfl rfl rfl (fun ρ h=>(Yl.and (h _ _ rfl) (h _ _ rfl)).to (congrArg _ (Hl (v:=v) (wt:=wt) (by omega) K))) ?_;refine Ay (v:= .int .u32 (wt:Nat)) rfl rfl rfl (fun ρ h=>(CB H.underlying_tU64 H.underlying_tU32 (h _ _ rfl)).to (congrArg _ (wrap_u32 K))) ?_
  refine JL.go 22 rfl ?_;refine Ay (v:= .bool false) rfl rfl rfl (fun ρ h=>(Yl.lss (h _ _ rfl) (h _ _ rfl)).to (by simp)) ?_;refine JL.go 6 rfl ?_;by_cases O:wt=0
  ·refine Ay rfl rfl rfl (fun ρ h=>Yl.move (h _ _ rfl)) ?_;refine Ay (v:= .bool false) rfl rfl rfl (fun ρ h=>(Yl.neq (h _ _ rfl) (h _ _ rfl)).to (by simp [O])) ?_;refine JL.go 16 rfl ?_;by_cases ah:0<v
   ·refine Ay rfl rfl rfl (fun ρ h=>Yl.move (h _ _ rfl)) ?_;refine Ay (v:= .bool true) rfl rfl rfl (fun ρ h=>(Yl.gtr (h _ _ rfl) (h _ _ rfl)).to (by simp <;> omega)) ?_;refine JL.go 6 rfl ?_;refine JLoutRet_ rfl (JO.Jo rfl (F5 H) (JO.leave rfl (Bc.none H.f_add rfl) (back _ _ _ _ h)))
   ·refine Ay rfl rfl rfl (fun ρ h=>Yl.move (h _ _ rfl)) ?_;refine Ay (v:= .bool false) rfl rfl rfl (fun ρ h=>(Yl.gtr (h _ _ rfl) (h _ _ rfl)).to (by simp <;> omega)) ?_;refine JL.go 2 rfl ?_;refine Ay (v:= .bool true) rfl rfl rfl (fun ρ h=>(Yl.eql (h _ _ rfl) (h _ _ rfl)).to (by simp [O])) ?_;refine JL.go 3 rfl ?_;refine JLoutRet_ rfl (JO.Jo rfl (F5 H) (JO.leave rfl (Bc.none H.f_add rfl) (back _ _ _ _ h)))
  ·refine Ay rfl rfl rfl (fun ρ h=>Yl.move (h _ _ rfl)) ?_;refine Ay (v:= .bool true) rfl rfl rfl (fun ρ h=>(Yl.neq (h _ _ rfl) (h _ _ rfl)).to (by simp [O])) ?_;refine JL.go 17 rfl ?_;refine Ay (v:= .bool true) rfl rfl rfl (fun ρ h=>(Yl.gtr (h _ _ rfl) (h _ _ rfl)).to (by simp <;> omega)) ?_;refine JL.go 6 rfl ?_;refine JLoutRet_ rfl (JO.Jo rfl (F5 H) (JO.leave rfl (Bc.none H.f_add rfl) (back _ _ _ _ h)))
theorem Q8{j:Nat}(K:s.q=false)(O:ops[i]? =some ⟨d,.call ⟨.value (.func L.add),#[x,y],ats⟩,ty,pp,af,g⟩)(hw:Az M ops ⟨d,.call ⟨.value (.func L.add),#[x,y],ats⟩,ty,pp,af,g⟩=some true)(U:((b.kind != .early)&&AQ n d)=true)
  (V:ev M x=some (.pointer (some F.sA))) (Y:ev M y=some (.int .i64 1))
  (h:JL (AO P true) (Stop P F (.Di j)) b n (Aj M d (.tuple #[])) ds (.inRegion ops rest::k) cs s):
  JL (AO P true) (Stop P F (.Dq j)) b n M ds (.inRegion ops (i::rest)::k) cs s:=by
 refine Gb (vs:= [.pointer (some F.sA),.int .i64 1]) O hw U H.f_add (nm_add L) rfl (by simp [evs,V,Y]) (Nat.le_of_ble_eq_true rfl) fun Z back=>?_;refine JL.go 12 rfl ?_;refine HW (p:= .Dq j) (q:= .Fv j) rfl K (by simp) (fun _ _ _=>rfl) rfl rfl rfl rfl rfl (by simp) (K9 H) ?_;refine JL.go 2 rfl ?_;refine JL.defer (vs:= []) rfl rfl rfl rfl rfl ?_;refine JL.go 8 rfl ?_;refine JL.ext (vs:= []) rfl rfl rfl (MQ H) rfl rfl ?_;refine JL.go 7 rfl ?_;refine Ay rfl rfl rfl (fun ρ h=>Yl.fieldAddr H.underlying_tWg rfl (Dm H.sizeOf_tAU) (h _ _ rfl)) ?_;refine JL.go 1 rfl ?_;refine Ay rfl rfl rfl (fun ρ h=>CB H.underlying_t3 H.underlying_tU64 (h _ _ rfl)) ?_
 refine Ay (v:= .int .u64 4294967296) rfl rfl rfl (fun ρ h=>(Yl.shl (h _ _ rfl) (h _ _ rfl) (by decide)).to (congrArg _ (by decide))) ?_;refine R7 H K rfl rfl rfl rfl rfl ?_ fun v aa ab=>?_
 ·refine Ay rfl rfl rfl (fun ρ h=>Yl.assign (h _ _ rfl)) ?_;refine JL.go 5 rfl ?_;refine Ay (v:= .int .u64 0) rfl rfl rfl (fun ρ h=>(Yl.and (h _ _ rfl) (h _ _ rfl)).to (congrArg _ (Hk (v:=1) (wt:=0) (by decide) (by decide)))) ?_;refine Ay rfl rfl rfl (fun ρ h=>Yl.neq (h _ _ rfl) (h _ _ rfl)) ?_;refine JL.go 10 rfl ?_;refine Ay (v:= .int .u64 (1:Nat)) rfl rfl rfl (fun ρ h=>(Yl.shr (h _ _ rfl) (h _ _ rfl) (by decide)).to (congrArg _ (G4 (v:=1) (wt:=0) (by decide)))) ?_;refine Ay (v:= .int .i32 (1:Nat)) rfl rfl rfl (fun ρ h=>(CB H.underlying_tU64 H.underlying_t21 (h _ _ rfl)).to (congrArg _ (wrap_i32 (by decide)))) ?_
  refine JL.go 5 rfl ?_;refine Ay (v:= .int .u64 (0:Nat)) rfl rfl rfl (fun ρ h=>(Yl.and (h _ _ rfl) (h _ _ rfl)).to (congrArg _ (Hl (v:=1) (wt:=0) (by decide) (by decide)))) ?_;refine Ay (v:= .int .u32 (0:Nat)) rfl rfl rfl (fun ρ h=>(CB H.underlying_tU64 H.underlying_tU32 (h _ _ rfl)).to (congrArg _ (wrap_u32 (by decide)))) ?_
  refine JL.go 12 rfl ?_;refine Ay (v:= .int .i32 1) rfl rfl rfl (fun ρ h=>(CB H.underlying_t3 H.underlying_t21 (h _ _ rfl)).to (congrArg _ (by decide))) ?_
  refine Ay (v:= .bool true) rfl rfl rfl (fun ρ h=>(Yl.eql (h _ _ rfl) (h _ _ rfl)).to (by simp)) ?_;refine JL.go 6 rfl ?_;refine Ay rfl rfl rfl (fun ρ h=>Yl.fieldAddr H.underlying_tWg rfl (Dm H.sizeOf_tU32) (h _ _ rfl)) ?_;refine H3 (p:= .EU j) (q:= .Er j) (ad:=F.mA) rfl K (by simp) (fun _ _ _=>rfl) rfl rfl rfl rfl rfl H.underlying_tPU32 H.underlying_tUP H.room_tU32 rfl (.inr rfl) ?_
  refine HO (p:= .Er j) (q:= .D2 j) (mk:= .read) (ad:=F.mA) (vs:= [.pointer (some F.mA)]) rfl K (by simp) (fun _ _ _=>rfl) rfl rfl rfl rfl (by simp) (R6 H) rfl rfl ?_;refine JL.go 5 rfl ?_;refine Ay (v:= .bool false) rfl rfl rfl (fun ρ h=>(Yl.lss (h _ _ rfl) (h _ _ rfl)).to (by simp)) ?_;refine JL.go 7 rfl ?_;refine Ay (v:= .bool false) rfl rfl rfl (fun ρ h=>(Yl.neq (h _ _ rfl) (h _ _ rfl)).to (by simp)) ?_;refine JL.go 17 rfl ?_;refine Ay (v:= .bool true) rfl rfl rfl (fun ρ h=>(Yl.gtr (h _ _ rfl) (h _ _ rfl)).to (by simp)) ?_;refine JL.go 6 rfl ?_;exact JLoutRet_ rfl (JO.Ob K rfl (F5 H) (JO.leave rfl (Bc.none H.f_add rfl) (back _ _ _ _ h)))
 ·refine Ay rfl rfl rfl (fun ρ h=>Yl.assign (h _ _ rfl)) ?_;refine JL.go 5 rfl ?_;refine Ay (v:= .int .u64 0) rfl rfl rfl (fun ρ h=>(Yl.and (h _ _ rfl) (h _ _ rfl)).to (congrArg _ (Hk (v:=(v+1)) (wt:=0) (by omega) (by decide)))) ?_;refine Ay rfl rfl rfl (fun ρ h=>Yl.neq (h _ _ rfl) (h _ _ rfl)) ?_;refine JL.go 10 rfl ?_;refine Ay (v:= .int .u64 ((v+1):Nat)) rfl rfl rfl (fun ρ h=>(Yl.shr (h _ _ rfl) (h _ _ rfl) (by decide)).to (congrArg _ (G4 (v:=(v+1)) (wt:=0) (by decide)))) ?_;refine Ay (v:= .int .i32 ((v+1):Nat)) rfl rfl rfl (fun ρ h=>(CB H.underlying_tU64 H.underlying_t21 (h _ _ rfl)).to (congrArg _ (wrap_i32 (by omega)))) ?_
  refine JL.go 5 rfl ?_;refine Ay (v:= .int .u64 (0:Nat)) rfl rfl rfl (fun ρ h=>(Yl.and (h _ _ rfl) (h _ _ rfl)).to (congrArg _ (Hl (v:=(v+1)) (wt:=0) (by omega) (by decide)))) ?_;refine Ay (v:= .int .u32 (0:Nat)) rfl rfl rfl (fun ρ h=>(CB H.underlying_tU64 H.underlying_tU32 (h _ _ rfl)).to (congrArg _ (wrap_u32 (by decide)))) ?_
  refine JL.go 12 rfl ?_;refine Ay (v:= .int .i32 1) rfl rfl rfl (fun ρ h=>(CB H.underlying_t3 H.underlying_t21 (h _ _ rfl)).to (congrArg _ (by decide))) ?_
  refine Ay (v:= .bool false) rfl rfl rfl (fun ρ h=>(Yl.eql (h _ _ rfl) (h _ _ rfl)).to (by simp <;> omega)) ?_;refine JL.go 8 rfl ?_;refine Ay (v:= .bool false) rfl rfl rfl (fun ρ h=>(Yl.lss (h _ _ rfl) (h _ _ rfl)).to (by simp <;> omega)) ?_;refine JL.go 7 rfl ?_;refine Ay (v:= .bool false) rfl rfl rfl (fun ρ h=>(Yl.neq (h _ _ rfl) (h _ _ rfl)).to (by simp)) ?_;refine JL.go 17 rfl ?_;refine Ay (v:= .bool true) rfl rfl rfl (fun ρ h=>(Yl.gtr (h _ _ rfl) (h _ _ rfl)).to (by simp <;> omega)) ?_;refine JL.go 6 rfl ?_;exact JLoutRet_ rfl (JO.Ob K rfl (F5 H) (JO.leave rfl (Bc.none H.f_add rfl) (back _ _ _ _ h)))
omit H in
theorem RI{m:Nat}:∀v wt sm r,F.act (.DG m) v wt sm=some r→r.1=(v,wt,sm)∧r.2.1= #[Fam.Df F.sA]:=by
 intro v wt sm r h;simp only [Fam.act] at h;split at h
 ·rename_i K;obtain⟨_,rfl⟩:=K;cases h;exact⟨rfl,rfl⟩
 ·cases h
omit H in
theorem SG{m v wt sm:Nat}{r}(h:F.act (.DG m) v wt sm=some r):v≤m∧wt=0∧r.2.2=if v=0 then .ph .Dt else .ph (.EN v):=by
 simp only [Fam.act] at h;split at h
 ·rename_i K;cases h;exact⟨K.1,K.2,rfl⟩
 ·cases h
omit H in
theorem QQ:∀v wt sm r,F.act .Ep v wt sm=some r→r.1=(v,wt,sm)∧r.2.1= #[Fam.Df F.sA]:=by
 intro v wt sm r h;simp only [Fam.act] at h;split at h
 ·rename_i K;obtain⟨rfl,rfl⟩:=K;cases h;exact⟨rfl,rfl⟩
 ·cases h
omit H in
theorem Q3{v wt sm:Nat}{r}(h:F.act .Ep v wt sm=some r):v=0∧wt=0∧r.2.2= .ph .Dt:=by
 simp only [Fam.act] at h;split at h
 ·rename_i K;cases h;exact⟨K.1,K.2,rfl⟩
 ·cases h
omit H in
theorem Ro{v:Nat}(K:v<2147483648):IntKind.u64.wrap (Fam.word v 0+1)=Fam.word v 1:=by
 simp only [Fam.word,Fam.KK,IntKind.wrap,IntKind.bits,IntKind.signed];simp;omega
theorem JL.wait(Y:F.n<2147483648)(K:s.q=false)(Z:ops[i]? =some ⟨d,.call ⟨.value (.func L.wait),#[x],ats⟩,ty,pp,af,g⟩)(hw:Az M ops ⟨d,.call ⟨.value (.func L.wait),#[x],ats⟩,ty,pp,af,g⟩=some true)(aa:((b.kind != .early)&&AQ n d)=true)
  (ab:ev M x=some (.pointer (some F.sA)))
  (h:JL (AO P false) (Stop P F .Cc) b n (Aj M d (.tuple #[])) ds (.inRegion ops rest::k) cs s):
  JL (AO P false) (Stop P F .BD) b n M ds (.inRegion ops (i::rest)::k) cs s:=by
 refine Gb (vs:= [.pointer (some F.sA)]) Z hw aa H.f_wait (nm_wait L) rfl (by simp [evs,ab]) (Nat.le_of_ble_eq_true rfl) fun ae back=>?_;refine JL.go 3 rfl ?_;refine HW (p:= .BD) (q:= .DG F.n) rfl K (by simp) (fun _ _ _=>rfl) rfl rfl rfl rfl rfl (by simp) (K9 H) ?_;refine JL.go 2 rfl ?_;refine Gt ?_;refine FG (L':= [(0,.pointer (some F.sA))]) ⟨rfl,trivial⟩ ?_;generalize F.n=m at Y ⊢
 induction m using Nat.strongRecOn with
 | _ m ac=>?_
 refine JL.go 5 rfl ?_;refine Ay rfl rfl rfl (fun ρ h=>Yl.fieldAddr H.underlying_tWg rfl (Dm H.sizeOf_tAU) (h _ _ rfl)) ?_;refine JL.uLoad H (p:= .DG m) rfl K (by simp) rfl RI rfl rfl rfl rfl fun v wt sm r U=>?_;obtain⟨ag,rfl,e⟩:=SG U;have O:v<2147483648:=by omega
 by_cases V:v=0
 ·subst V;refine⟨.Dt,e,?_⟩;refine JL.go 5 rfl ?_;refine Ay (v:= .int .u64 (0:Nat)) rfl rfl rfl (fun ρ h=>(Yl.shr (h _ _ rfl) (h _ _ rfl) (by decide)).to (congrArg _ (G4 (v:=0) (wt:=0) (by decide)))) ?_;refine Ay (v:= .int .i32 (0:Nat)) rfl rfl rfl (fun ρ h=>(CB H.underlying_tU64 H.underlying_t21 (h _ _ rfl)).to (congrArg _ (wrap_i32 (by decide)))) ?_
  refine JL.go 5 rfl ?_;refine Ay (v:= .int .u64 ((0:Nat):Int)) rfl rfl rfl (fun ρ h=>(Yl.and (h _ _ rfl) (h _ _ rfl)).to (congrArg _ (Hl (v:=0) (wt:=0) (by decide) (by decide)))) ?_;refine Ay (v:= .int .u32 ((0:Nat):Int)) rfl rfl rfl (fun ρ h=>(CB H.underlying_tU64 H.underlying_tU32 (h _ _ rfl)).to (congrArg _ (wrap_u32 (by decide)))) ?_
  refine JL.go 6 rfl ?_;refine Ay (v:= .bool true) rfl rfl rfl (fun ρ h=>(Yl.eql (h _ _ rfl) (h _ _ rfl)).to (by simp)) ?_;refine JL.go 6 rfl ?_;refine HW (p:= .Dt) (q:= .Ft) rfl K (by simp) (fun _ _ _=>rfl) rfl rfl rfl rfl rfl (by simp) (F5 H) ?_;refine JL.go 3 rfl ?_;refine H3 (p:= .Ft) (q:= .Eu) (ad:=F.sA) rfl K (by simp) (fun _ _ _=>rfl) rfl rfl rfl rfl rfl H.underlying_tWgP H.underlying_tUP H.room_tWg rfl (.inl rfl) ?_
  refine HO (p:= .Eu) (q:= .Cc) (mk:= .acquire) (ad:=F.sA) (vs:= [.pointer (some F.sA)]) rfl K (by simp) (fun _ _ _=>rfl) rfl rfl rfl rfl (by simp) (MM H) rfl rfl ?_;refine JL.go 5 rfl ?_;refine Ay (v:= .bool true) rfl rfl rfl (fun ρ h=>(Yl.eql (h _ _ rfl) (h _ _ rfl)).to (by simp)) ?_;refine JL.go 2 rfl ?_;refine Ay (v:= .int .u64 0) rfl rfl rfl (fun ρ h=>(Yl.and (h _ _ rfl) (h _ _ rfl)).to (congrArg _ (Hk (v:=0) (wt:=0) (by decide) (by decide)))) ?_;refine Ay (v:= .bool false) rfl rfl rfl (fun ρ h=>(Yl.neq (h _ _ rfl) (h _ _ rfl)).to (by simp)) ?_;refine JL.go 8 rfl ?_;exact JL.ret rfl rfl (Bc.none H.f_wait rfl) (back _ _ _ _ h)
 ·refine⟨.EN v,by rw [e,if_neg V],?_⟩;refine JL.go 5 rfl ?_;refine Ay (v:= .int .u64 (v:Nat)) rfl rfl rfl (fun ρ h=>(Yl.shr (h _ _ rfl) (h _ _ rfl) (by decide)).to (congrArg _ (G4 (v:=v) (wt:=0) (by decide)))) ?_;refine Ay (v:= .int .i32 (v:Nat)) rfl rfl rfl (fun ρ h=>(CB H.underlying_tU64 H.underlying_t21 (h _ _ rfl)).to (congrArg _ (wrap_i32 O))) ?_
  refine JL.go 5 rfl ?_;refine Ay (v:= .int .u64 ((0:Nat):Int)) rfl rfl rfl (fun ρ h=>(Yl.and (h _ _ rfl) (h _ _ rfl)).to (congrArg _ (Hl (v:=v) (wt:=0) O (by decide)))) ?_;refine Ay (v:= .int .u32 ((0:Nat):Int)) rfl rfl rfl (fun ρ h=>(CB H.underlying_tU64 H.underlying_tU32 (h _ _ rfl)).to (congrArg _ (wrap_u32 (by decide)))) ?_
  refine JL.go 6 rfl ?_;refine Ay (v:= .bool false) rfl rfl rfl (fun ρ h=>(Yl.eql (h _ _ rfl) (h _ _ rfl)).to (by simp <;> omega)) ?_;refine JL.go 7 rfl ?_;refine Ay rfl rfl rfl (fun ρ h=>Yl.fieldAddr H.underlying_tWg rfl (Dm H.sizeOf_tAU) (h _ _ rfl)) ?_;refine JL.go 2 rfl ?_;refine Ay (v:= .int .u64 (Fam.word v 1)) rfl rfl rfl (fun ρ h=>(Yl.add (h _ _ rfl) (h _ _ rfl)).to (congrArg _ (Ro O))) ?_;refine JL.uCas H (m:=v) K rfl rfl rfl rfl rfl rfl ?_ ?_
  ·refine JL.done ?_;refine JL.go 6 rfl ?_;refine Ay (v:= .bool true) rfl rfl rfl (fun ρ h=>(Yl.eql (h _ _ rfl) (h _ _ rfl)).to (by simp)) ?_;refine JL.go 6 rfl ?_;refine Ay rfl rfl rfl (fun ρ h=>Yl.fieldAddr H.underlying_tWg rfl (Dm H.sizeOf_tU32) (h _ _ rfl)) ?_;refine H3 (p:= .Fz) (q:= .EV) (ad:=F.mA) rfl K (by simp) (fun _ _ _=>rfl) rfl rfl rfl rfl rfl H.underlying_tPU32 H.underlying_tUP H.room_tU32 rfl (.inr rfl) ?_
   refine HO (p:= .EV) (q:= .BU) (mk:= .write) (ad:=F.mA) (vs:= [.pointer (some F.mA)]) rfl K (by simp) (fun _ _ _=>rfl) rfl rfl rfl rfl (by simp) (Rf H) rfl rfl ?_;refine JL.go 9 rfl ?_;refine Ay (v:= .int .u64 0) rfl rfl rfl (fun ρ h=>(Yl.and (h _ _ rfl) (h _ _ rfl)).to (congrArg _ (Hk (v:=v) (wt:=0) O (by decide)))) ?_;refine Ay (v:= .bool false) rfl rfl rfl (fun ρ h=>(Yl.neq (h _ _ rfl) (h _ _ rfl)).to (by simp)) ?_;refine JL.go 10 rfl ?_;refine Ay rfl rfl rfl (fun ρ h=>Yl.fieldAddr H.underlying_tWg rfl (Dm H.sizeOf_tU32) (h _ _ rfl)) ?_;refine JL.go 1 rfl ?_;refine QS (vs:= [.pointer (some F.mA),.bool false]) K rfl rfl rfl rfl (Qq H) rfl rfl ?_;refine JL.go 5 rfl ?_;refine Ay rfl rfl rfl (fun ρ h=>Yl.fieldAddr H.underlying_tWg rfl (Dm H.sizeOf_tAU) (h _ _ rfl)) ?_;refine JL.uLoad H (p:= .Ep) rfl K (by simp) rfl QQ rfl rfl rfl rfl fun v wt sm r U=>?_;obtain⟨rfl,rfl,e⟩:=Q3 U;refine⟨.Dt,e,?_⟩;refine Ay (v:= .bool false) rfl rfl rfl (fun ρ h=>(Yl.neq (h _ _ rfl) (h _ _ rfl)).to (by simp [Fam.word])) ?_;refine JL.go 6 rfl ?_;refine HW (p:= .Dt) (q:= .Ft) rfl K (by simp) (fun _ _ _=>rfl) rfl rfl rfl rfl rfl (by simp) (F5 H) ?_;refine JL.go 3 rfl ?_;refine H3 (p:= .Ft) (q:= .Eu) (ad:=F.sA) rfl K (by simp) (fun _ _ _=>rfl) rfl rfl rfl rfl rfl H.underlying_tWgP H.underlying_tUP H.room_tWg rfl (.inl rfl) ?_
   refine HO (p:= .Eu) (q:= .Cc) (mk:= .acquire) (ad:=F.sA) (vs:= [.pointer (some F.sA)]) rfl K (by simp) (fun _ _ _=>rfl) rfl rfl rfl rfl (by simp) (MM H) rfl rfl ?_;refine JL.go 8 rfl ?_;exact JL.ret rfl rfl (Bc.none H.f_wait rfl) (back _ _ _ _ h)
  ·refine JL.done ?_;refine JL.go 3 rfl ?_;refine JL.again ?_;refine FG (L':= [(0,.pointer (some F.sA))]) ⟨rfl,trivial⟩ ?_;exact ac (v - 1) (by omega) (by omega)
theorem JO.Kb(K:b.roundOf=none)(O:s.q=false)(h:JO (El P) (ER P 0) b n M ds cs .quiet):
  JO (AO P false) (Stop P F .BB) b n M (dcall L.done #[.pointer (some F.sA)]::ds) cs s:=by
 refine JO.enter (vs:= [.pointer (some F.sA)]) K H.f_done (nm_done L) rfl (Nat.le_of_ble_eq_true rfl) fun T U todo=>?_;refine JL.go 2 rfl ?_;refine Re H O rfl rfl rfl rfl rfl ?_;refine JL.done ?_;exact JL.out rfl (JO.leaveD rfl H.f_done rfl (.inl rfl) (h T U todo))
end
end Pal
namespace Pal
open Go Go.Conc
section
variable {P:Program}{J:Judge P}{Q:Goroutine→St→Prop}{g:Goroutine}{cs:List Frame}{c:Frame}{E H:LH}{S S':List Seg}
theorem Ly(K:S.flatten.Perm S'.flatten)(hN:NdS E H S)(h:NdS E H S'→J.ok Q g (mkS E H S')):J.ok Q g (mkS E H S):=by
 have O:mkS E H S=mkS E H S':=Dp hN K;rw [O];exact h (Nd.perm hN K)
theorem Oi(K:S'.flatten=S.flatten)(hN:NdS E H S)(h:NdS E H S'→J.ok Q g (mkS E H S')):J.ok Q g (mkS E H S):=Ly (by rw [K]) hN h
theorem NJ{f:FuncId}{vs:List Value}{seg:Seg}{R:Value→LH→Seg→Prop}(j:Nat)(aa:Al J f vs E seg R)(hN:NdS E H S)(K:S[j]? =some seg)
  (ab:∀v E' seg',Le E E'→R v E' seg'→NdS E' H (S.set j seg')→J.ok Q (G (c.finish v) cs) (mkS E' H (S.set j seg'))):
  J.ok Q (G (Frame.enter P f vs.toArray .normal) (c::cs)) (mkS E H S):=by
 have O:S.flatten.Perm (seg++(S.set j []).flatten):=(Cz (seg':=seg) K).1.trans List.perm_append_comm;have U:Nd E H (seg++(S.set j []).flatten):=Nd.perm hN O;have ac:mkS E H S=mk E (AB (S.set j []).flatten H) seg:=by
  rw [show mkS E H S=mk E H S.flatten from rfl,Dp hN O];unfold mk;rw [DU]
 have V:=Co.HA (aa (AB (S.set j []).flatten H) (Nd.front U)) (by rintro v s' ⟨E',B',_,_,_,rfl⟩;rfl);rw [← ac] at V;refine V Q c cs ?_;rintro v ap ⟨⟨E',B',hle,ae,ag,rfl⟩,w,ah⟩;have ai:mk E' (AB (S.set j []).flatten H) B'=mk E' H (B'++(S.set j []).flatten):=by unfold mk;rw [DU]
 have aj:Nd E H (S.set j []).flatten:=by
  have:=U;rw [Nd.iff] at this ⊢;rw [List.map_append,List.nodup_append] at this;exact⟨this.1.2.1,fun q ak=>this.2 q (List.mem_append_right _ ak)⟩
 have al:Nd E' H (S.set j []).flatten:=aj.grow fun x am=>by
  have an:=ah.d x am;have ao:AB B' (AB (S.set j []).flatten H) x=none:=an;exact(ED ao).1
 have Y:Nd E' H (B'++(S.set j []).flatten):=Nd.glue ag al;rw [ai];have Z:(B'++(S.set j []).flatten).Perm (S.set j B').flatten:=List.perm_append_comm.trans (Cz K).2.symm;rw [Dp Y Z];exact ab v E' B' hle ae (Nd.perm Y Z)
theorem Pm{e p d l:Seg}:([e,p]++ [d]++ [l]:List Seg).flatten.Perm ([e++(l++p),d]:List Seg).flatten:=by
 simp only [List.cons_append,List.nil_append,List.flatten_cons,List.flatten_nil,List.append_nil,List.append_assoc];refine List.Perm.append_left e ?_;rw [← List.append_assoc];exact List.perm_append_comm
end
section
variable {P:Program}{J:Judge P}{Q:Goroutine→St→Prop}{b:Frame}{n:Nat}{L:Env}{ds:List Deferred}{k:List Item}{cs:List Frame}{E H:LH}{S:List Seg}{ops:Array Oper}{i:Nat}{rest:List Nat}{d:Option Tmp}{t ty e:TypeId}{p:String}{af:Array Edge}{g:Option (Nat×Bool)}
theorem JS.makeChan{dir:ChanDir}{K:Nat}(O:ops[i]? =some ⟨d,.makeChan t (.const (.int .i64 0)),ty,p,af,g⟩)(hw:Az L ops ⟨d,.makeChan t (.const (.int .i64 0)),ty,p,af,g⟩=some true)(U:Bw b n ⟨d,.makeChan t (.const (.int .i64 0)),ty,p,af,g⟩=true)
  (ht:P.underlying t=some (.chan dir e)) (hb:C6 P e=some K) (hN:NdS E H S)
  (h:∀r,NdS E H (S++ [[(r,.chan 0 #[] false 0 0 false)]])→JL J Q b n (Aj L d (.chan (some r))) ds (.inRegion ops rest::k) cs (mkS E H (S++ [[(r,.chan 0 #[] false 0 0 false)]]))):
  JL J Q b n L ds (.inRegion ops (i::rest)::k) cs (mkS E H S):=
 JL.op O hw U fun ρ V=>by
  show lp P (do pure (Next.value (← Instr.makeChan t (ρ (.const (.int .i64 0)))))) _ _ _
  rw [V _ _ rfl]
  obtain⟨inf,hi,ae⟩:=I1 hb
  refine Ah _ _ ?_
  unfold Instr.makeChan
  simp only [asInt,bind,Sem.bind,pure]
  refine Ah (x:=underlying t) _ (BM ht ?_)
  simp only
  refine Ah (x:=typeInfo e) _ (F4 hi ?_)
  have Y:¬((0:Int)<0∨(0:Int)>IntKind.i64.max∨(inf.bytes:Int)*0>2 ^ 48 - 112):=by
   simp [IntKind.max,IntKind.signed,IntKind.bits]
  rw [if_neg Y];simp only [newObj,Sem.bind,lp];refine⟨rfl,fun r Z aa=>?_⟩;obtain⟨h3,ab⟩:=Gv Z aa (.chan 0 #[] false 0 0 false) hN;obtain⟨p1,p2⟩:=CM h3;have ac:(mkS E H S).upd r (.chan 0 #[] false 0 0 false)=mkS E H (S++ [[(r,.chan 0 #[] false 0 0 false)]]):=by rw [← p1,← ab];rfl
  show JL J Q b n (Aj L d (.chan (some r))) ds (.inRegion ops rest::k) cs ((mkS E H S).upd r (.chan 0 #[] false 0 0 false));rw [ac];exact h r p2
end
theorem QM{E H:LH}{a b:Nat}{K O:Obj}(hN:NdS E H [[(a,K)],[(b,O)]]):(⟨E,Gc (mkS E H [[(a,K)],[(b,O)]]).H b a,false⟩:St)=mkS E H []:=by
 have h:=Nd.iff.1 hN;have Y:H a=none:=(h.2 (a,K) (by simp)).2;have Z:H b=none:=(h.2 (b,O) (by simp)).2;unfold mkS mk;congr 1;funext x;simp only [Gc,mkS,mk,List.flatten_cons,List.flatten_nil,List.append_nil,List.cons_append,List.nil_append,AB];by_cases U:x=a
 ·subst U;simp [Y]
 ·by_cases V:x=b
  ·subst V;simp [U,Z]
  ·simp [U,V]
theorem NdS.up{E E' H:LH}{S:List Seg}(hN:NdS E H S)(h:∀x,E' x≠none→(mkS E H S).H x=none):NdS E' H S:=by
 have K:=Nd.iff.1 hN;refine Nd.iff.2 ⟨K.1,fun q O=>⟨?_,(K.2 q O).2⟩⟩;cases U:E' q.1 with
 | none=>rfl
 | some o=>
  have V:=h q.1 (by rw [U];simp);have Y:AB S.flatten H q.1=none:=V;exact absurd rfl ((ED Y).2 q O)
end Pal
namespace Pal
open Go Go.Conc
theorem HZ{P:Program}{J:Judge P}{Q:Goroutine→St→Prop}{b:Frame}{n:Nat}{L:Env}{ds:List Deferred}{cs:List Frame}{E H:LH}{S:List Seg}{todo:List Item}{A B:Seg}(j K:Nat)(O:S[j]? =some A)(V:(S.set j [])[K]? =some B)(hN:NdS E H S)
  (h:NdS E H (((S.set j []).set K []).set j (A++B))→JL J Q b n L ds todo cs (mkS E H (((S.set j []).set K []).set j (A++B)))):JL J Q b n L ds todo cs (mkS E H S):=by
 refine JS.perm ?_ hN h;have U:j<S.length:=(List.getElem?_eq_some_iff.1 O).1;have Y:=(Cz (seg':=A) O).1;have Z:=(Cz (seg':=B) V).1;have aa:((S.set j []).set K [])[j]? =some []:=by
  by_cases e:K=j
  ·subst e;rw [List.getElem?_set_self (by simpa using U)]
  ·rw [List.getElem?_set_ne e,List.getElem?_set_self U]
 have h3:=(Cz (seg':=A++B) aa).2;have ab:(((S.set j []).set K []).set j [])=(S.set j []).set K []:=by
  by_cases e:K=j
  ·subst e;simp
  ·rw [List.set_comm _ _ e];simp
 rw [ab] at h3;refine Y.trans (List.Perm.trans ?_ h3.symm);refine(List.Perm.append_right A Z).trans ?_;rw [List.append_assoc];exact List.Perm.append_left _ List.perm_append_comm
end Pal
namespace Pal
open Go Go.Conc
def WL{α:Type}(e:TypeId)(pp:Rp α)(E:LH)(K c n:Nat)(f:Array Value)(xs:List α):Prop:=
 OL e pp E (some ⟨K,0,none⟩) c [(K,.cells f e (0,0))] xs∧xs.length=n
theorem WL.moq{α:Type}{e:TypeId}{pp:Rp α}{E E':LH}{K c n:Nat}{f:Array Value}{xs:List α}(h:WL e pp E K c n f xs)(hle:Le E E'):WL e pp E' K c n f xs:=⟨h.1.moq hle,h.2⟩
theorem WL.at{α:Type}{e:TypeId}{pp:Rp α}{E:LH}{K c n:Nat}{f:Array Value}{xs:List α}{m:Int}{x:α}(h:WL e pp E K c n f xs)(hm:ix xs m=some x):
  ∃ws,pp.r E ws x∧(∀j w,ws[j]? =some w→f[m.toNat*pp.n+j]? =some w):=by
 obtain⟨ws,O,U,_,_⟩:=OL.again h.1 hm rfl;exact⟨ws,O,U⟩
theorem WL.put{α:Type}{e:TypeId}{pp:Rp α}{E:LH}{O c n:Nat}{f:Array Value}{xs U:List α}{m:Int}{V x':α}{ws':List Value}(h:WL e pp E O c n f xs)(Y:U.length=n)(hm:ix U m=some V)(Z:pp.r E ws' x'):
  WL e pp E O c n (AJ f (m.toNat*pp.n) ws') (xs.set m.toNat x')∧m.toNat*pp.n+pp.n≤f.size:=by
 obtain⟨K,rfl,aa⟩:=FK hm;have ab:K<xs.length:=by rw [h.2,← Y];exact(List.getElem?_eq_some_iff.1 aa).1
 have ac:ix xs (K:Int)=some xs[K]:=by simp [ix,ab]
 obtain⟨ws,ag,ah,h3,ae⟩:=OL.again h.1 ac rfl;exact⟨⟨ae x' ws' Z,by rw [List.length_set];exact h.2⟩,h3⟩
theorem OL.cases{α:Type}{e:TypeId}{pp:Rp α}{E:LH}{a:Option Addr}{c:Nat}{seg:Seg}{xs:List α}(h:OL e pp E a c seg xs):
  (a=none∧c=0∧seg= []∧xs= [])∨∃K f,a=some ⟨K,0,none⟩∧seg= [(K,.cells f e (0,0))]∧WL e pp E K c xs.length f xs:=by
 have V:=h;obtain⟨wss,hg,Z,aa⟩:=h;rcases hg with⟨O,U,h3,Y,ab⟩ | ⟨K,f,O,U,h3⟩
 ·exact .inl ⟨O,h3,Y,List.length_eq_zero_iff.1 U⟩
 ·subst O U;exact .inr ⟨K,f,rfl,rfl,V,rfl⟩
theorem AU{P:Program}{s:St}{ρ:Operand→Value}{x y:Operand}{d:Option Tmp}{t ty e:TypeId}{p:String}{af:Array Edge}{g:Option (Nat×Bool)}{kd:IntKind}{α:Type}{xs:List α}{xv:α}{m:Int}{K c O n:Nat}(U:xs.length=n)(hm:ix xs m=some xv)(ht:P.underlying t=some (.slice e))(V:A0 P e=some O)(Y:ρ x= .slice (some ⟨K,0,none⟩) n c)(Z:ρ y= .int kd m):
  Yl P ⟨d,.indexAddr t x y,ty,p,af,g⟩ ρ s (.pointer (some ⟨K,m.toNat*O,none⟩)):=by
 subst U;exact R1 hm ht V Y Z
theorem Oo{P:Program}{s:St}{ρ:Operand→Value}{x:Operand}{d:Option Tmp}{t ty e:TypeId}{p:String}{af:Array Edge}{g:Option (Nat×Bool)}{α:Type}{xs:List α}{a:Option Addr}{n c:Nat}{ats:Array TypeId}(K:xs.length=n)(O:ats[0]? =some t)(ht:P.underlying t=some (.slice e))(U:ρ x= .slice a n c):
  Yl P ⟨d,.call ⟨.builtin .len,#[x],ats⟩,ty,p,af,g⟩ ρ s (.int .i64 (xs.length:Int)):=by
 subst K;exact Yl.len O ht U
section
variable {P:Program}{J:Judge P}{Q:Goroutine→St→Prop}{b:Frame}{n:Nat}{ds:List Deferred}{ops:Array Oper}{k:List Item}{cs:List Frame}{m fuel:Nat}{D:Nat→Bool}{listed:Array Bool}{L:Env}{s:St}{E E' H:LH}{S:List Seg}
variable {d:Option Tmp}{x y:Operand}{t u ty e:TypeId}{p:String}{af:Array Edge}{g:Option (Nat×Bool)}{v:Value}{i:Nat}{kd:IntKind}
theorem Rz{f:FuncId}{args:Array Operand}{ats:Array TypeId}{vs:List Value}{R:Value→St→Prop}(U:s.q=false)(V:Region.ready .any ops listed= [i])
  (Y:ops[i]? =some ⟨d,.call ⟨.value x,args,ats⟩,ty,p,af,g⟩) (Z:ev L x=some (.func (.func f) #[] #[])) (aa:AQ n d=true) (hw:Az L ops ⟨d,.call ⟨.value x,args,ats⟩,ty,p,af,g⟩=some true) (hb:Ch P f=true) (ab:evs L args.toList=some vs)
  (ac:Co J f vs.toArray s R) (h:∀v K,R v K→K.q=false∧(∀x o,(AV D s).E x=some o→(AV D K).E x=some o)∧JAL J Q b n ds ops k cs m D fuel (AF listed i) (Aj L d v) K):
  JAL J Q b n ds ops k cs m D (fuel+1) listed L s:=by
 refine JAL.one U V Y (by simp [B5,aa]) hw fun ρ O=>?_;have ae:args.map ρ=vs.toArray:=by
  rw [← DV O ab];apply Array.ext';simp
 have ag:ρ x= .func (.func f) #[] #[]:=O _ _ Z;simp only [execOp,resolve,bind,Sem.bind,Deferred.ofValue,ag,pure,invoke];have e: #[]++args.map ρ++ #[]=vs.toArray:=by rw [ae];simp
 rw [e];refine GX hb ?_;rw [HP];exact⟨R,ac,h⟩
theorem FD{bks:List Nat}{f:FuncId}{args:Array Operand}{ats:Array TypeId}{vs:List Value}{R:Value→LH→Seg→Prop}(ac:Es S bks)(ae:Al J f vs E [] R)(ag:Region.ready .any ops listed= [i])
  (ah:ops[i]? =some ⟨d,.call ⟨.value x,args,ats⟩,ty,p,af,g⟩) (K:ev L x=some (.func (.func f) #[] #[])) (ai:AQ n d=true) (hw:Az L ops ⟨d,.call ⟨.value x,args,ats⟩,ty,p,af,g⟩=some true) (hb:Ch P f=true) (aj:evs L args.toList=some vs) (hN:NdS E H S)
  (ak:∀v E' seg',Le E E'→R v E' seg'→NdS E' H (S++ [seg'])→JAL J Q b n ds ops k cs m (Ak bks) fuel (AF listed i) (Aj L d v) (mkS E' H (S++ [seg']))):
  JAL J Q b n ds ops k cs m (Ak bks) (fuel+1) listed L (mkS E H S):=by
 have al:=Co.HA (ae (AB S.flatten H) trivial) (by rintro v s' ⟨E',B',_,_,_,rfl⟩;rfl);refine Rz rfl ag ah K ai hw hb aj al ?_;rintro v aw ⟨⟨E',B',hle,am,an,rfl⟩,w,ao⟩;have ap:mk E' (AB S.flatten H) B'=mk E' H (B'++S.flatten):=by unfold mk;rw [DU]
 have aq:Nd E' H S.flatten:=Nd.grow hN fun x K=>by
  have ar:=ao.d x K;have U:AB B' (AB S.flatten H) x=none:=ar;exact(ED U).1
 have Z:Nd E' H (B'++S.flatten):=Nd.glue an aq;have aa:(B'++S.flatten).Perm (S++ [B']).flatten:=by rw [EF];exact List.perm_append_comm
 have ab:NdS E' H (S++ [B']):=Nd.perm Z aa;rw [ap,Dp Z aa];refine⟨rfl,fun x o K=>?_,ak v E' B' hle am ab⟩;by_cases V:Ak bks x=true
 ·obtain⟨j,o',Y⟩:=ac.mem x (by simpa [Ak] using V);have U:(mkS E H S).get x=some o':=C5 (i:=0) hN Y rfl;have au:j<S.length:=(List.getElem?_eq_some_iff.1 Y).1;have av:(mkS E' H (S++ [B'])).get x=some o':=C5 (i:=0) ab (by rw [List.getElem?_append_left au];exact Y) rfl;have O:(if Ak bks x then(mkS E H S).get x else E x)=some o:=K
  show(if Ak bks x then(mkS E' H (S++ [B'])).get x else E' x)=some o
  rw [if_pos V] at O ⊢;rw [av,← U];exact O
 ·have O:(if Ak bks x then(mkS E H S).get x else E x)=some o:=K
  show(if Ak bks x then(mkS E' H (S++ [B'])).get x else E' x)=some o
  rw [if_neg V] at O ⊢;exact hle _ _ O
end
section
variable {P:Program}{J:Judge P}{Q:Goroutine→St→Prop}{b:Frame}{n:Nat}{ds:List Deferred}{ops:Array Oper}{k:List Item}{cs:List Frame}{L:Env}{s:St}{E E' H:LH}{S:List Seg}
variable {d:Option Tmp}{x y:Operand}{t u ty e:TypeId}{p:String}{af:Array Edge}{g:Option (Nat×Bool)}{v:Value}{i:Nat}{rest:List Nat}{kd:IntKind}
theorem HY{f:FuncId}{args:Array Operand}{ats:Array TypeId}{vs:List Value}{R:Value→LH→Seg→Prop}
  (O:Al J f vs E [] R) (U:ops[i]? =some ⟨d,.call ⟨.value x,args,ats⟩,ty,p,af,g⟩) (V:ev L x=some (.func (.func f) #[] ([]:List Value).toArray)) (hw:Az L ops ⟨d,.call ⟨.value x,args,ats⟩,ty,p,af,g⟩=some true) (Y:((b.kind != .early)&&AQ n d)=true) (hb:Ch P f=true)
  (Z:evs L args.toList=some vs) (hN:NdS E H S) (aa:∀v E' seg',Le E E'→R v E' seg'→NdS E' H (S++ [seg'])→JL J Q b n (Aj L d v) ds (.inRegion ops rest::k) cs (mkS E' H (S++ [seg']))):
  JL J Q b n L ds (.inRegion ops (i::rest)::k) cs (mkS E H S):=by
 have ab:C7 J (.func (.func f) #[] ([]:List Value).toArray) vs E [] R:=C7.ofFn hb (by rw [List.append_nil];exact O);have ac:NdS E H (S++ [[]]):=by unfold NdS at*;rw [EF,List.append_nil];exact hN
 have ae:mkS E H S=mkS E H (S++ [[]]):=by unfold mkS;rw [EF,List.append_nil]
 rw [ae];refine G0 (seg:= []) S.length ab U hw Y V Z ac (by simp) fun v E' seg' hle ag K=>?_;have ah:(S++ [([]:Seg)]).set S.length seg'=S++ [seg']:=FH _ _ _ _;rw [ah] at K ⊢;exact aa v E' seg' hle ag K
end
def Fw(a b:Int):Option Int:=if b=0 then none else Ac (a.tdiv b)
def Ik(l:List Nat)(i:Int):Option Nat:=if 0≤i then l[i.toNat]? else none
section
variable {P:Program}{s:St}{ρ:Operand→Value}{x y z:Operand}{d:Option Tmp}{t u ty e:TypeId}{p:String}{af:Array Edge}{g:Option (Nat×Bool)}{v:Value}{kd kd':IntKind}{m m':Int}{a b:Nat}
theorem H6{r:Int}(K:ρ x=iV m)(O:ρ y=iV m')(h:Fw m m'=some r):Yl P ⟨d,.binOp .quo t x y u,ty,p,af,g⟩ ρ s (iV r):=by
 unfold Fw at h;split at h
 ·cases h
 ·rename_i U;obtain⟨rfl,hb⟩:=HS h;have:=Yl.quo (P:=P) (s:=s) (d:=d) (t:=t) (u:=u) (ty:=ty) (p:=p) (af:=af) (g:=g) K O U
  rwa [Gs hb] at this
theorem P6{a:Nat}:IntKind.u8.wrap (a:Int)=((a % 256:Nat):Int):=by
 simp only [IntKind.wrap,IntKind.bits,IntKind.signed];simp
theorem RR(K:ρ x= .int .u8 (a:Int))(O:ρ y= .int .u8 (b:Int)):Yl P ⟨d,.binOp .add t x y u,ty,p,af,g⟩ ρ s (.int .u8 (((a+b) % 256:Nat):Int)):=by
 have h:=Yl.add (P:=P) (s:=s) (d:=d) (t:=t) (u:=u) (ty:=ty) (p:=p) (af:=af) (g:=g) K O;rw [← Int.natCast_add,P6] at h;exact h
theorem T1(ht:P.underlying t=some (.int .u64))(hu:P.underlying u=some (.int .u8))(K:ρ x= .int .u64 (a:Int)):Yl P ⟨d,.convert t u x,ty,p,af,g⟩ ρ s (.int .u8 ((a % 256:Nat):Int)):=by
 have h:=CB (P:=P) (s:=s) (d:=d) (ty:=ty) (p:=p) (af:=af) (g:=g) ht hu K
 rw [P6] at h;exact h
theorem OC{r:Int}(ht:P.underlying t=some (.int .u8))(hu:P.underlying u=some (.int .i64))(K:ρ x= .int .u8 (a:Int))(h:Ac ((a:Nat):Int)=some r):Yl P ⟨d,.convert t u x,ty,p,af,g⟩ ρ s (iV r):=by
 obtain⟨rfl,hb⟩:=HS h;have h:=CB (P:=P) (s:=s) (d:=d) (ty:=ty) (p:=p) (af:=af) (g:=g) ht hu K
 rwa [Gs hb] at h
theorem R5(c:Nat)(K:ρ x= .int .u16 (a:Int))(O:ρ y= .int .u64 (c:Int))(V:c≤16):Yl P ⟨d,.binOp .shr t x y u,ty,p,af,g⟩ ρ s (.int .u16 ((a>>>c:Nat):Int)):=by
 have h:=Yl.shr (P:=P) (s:=s) (d:=d) (t:=t) (u:=u) (ty:=ty) (p:=p) (af:=af) (g:=g) K O (by omega);have e:min (c:Int).toNat IntKind.u16.bits=c:=by simp [IntKind.bits];omega
 rw [e,Int.fdiv_eq_ediv_of_nonneg _ (Int.pow_nonneg (by decide))] at h;have U:(a:Int) / 2 ^ c=((a>>>c:Nat):Int):=by rw [Nat.shiftRight_eq_div_pow,Int.natCast_ediv];rfl
 rw [U] at h;exact h
theorem Lm{l:List Nat}{bs:ByteArray}{r:Nat}(O:(bs.data.toList.map UInt8.toNat==l)=true)(ht:P.underlying t=some .string)(U:ρ y= .int kd m)(V:ρ (.const (.string bs))= .string bs)(h:Ik l m=some r):Yl P ⟨d,.index t (.const (.string bs)) y,ty,p,af,g⟩ ρ s (.int .u8 (r:Int)):=by
 unfold Ik at h;split at h
 ·rename_i Y;have Z:=eq_of_beq O;rw [← Z,List.getElem?_map] at h;obtain⟨K,hb,rfl⟩:=Option.map_eq_some_iff.1 h;have aa:bs[m.toNat]? =some K:=by
   have ab:bs.data[m.toNat]? =some K:=by rw [← Array.getElem?_toList];exact hb
   obtain⟨ac,h3⟩:=Array.getElem?_eq_some_iff.1 ab;rw [getElem?_pos bs m.toNat ac];exact congrArg some h3
  simp [Yl,execOp,lp,pure,bind,Sem.bind,V,U,Instr.index,underlying,program,ht,Y,aa,asIntOf]
 ·cases h
end
end Pal
