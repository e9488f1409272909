/- DebtDouble, row of debt: for every input the law is true and its argument reads behind the call as before it. Part 1 of 8. -/
import Derived.Conc.Own5
import Derived.Conc.Listed
import Derived.Conc.DeferLaws
import Derived.Orders
import Derived.Conc.Beside
import Derived.Conc.CrowdComm
import Derived.Conc.TokenWalk
import Derived.Conc.MarkLaws
import Derived.Conc.AtomicLaws2
import Derived.Conc.ClockLaws
set_option linter.all false
set_option maxRecDepth 100000
namespace Pal
open Go Go.Conc
abbrev LH:=Nat->Option Obj
structure St where
 E:LH
 H:LH
 q:Bool
abbrev Ld_:=List Deferred
abbrev Ao_:=Array Oper
abbrev Li_:=List Item
abbrev Lf_:=List Frame
abbrev On_:=Option (Nat×Bool)
abbrev Ae_:=Array Edge
abbrev Gs_:=Goroutine->St->Prop
abbrev Lv_:=List Value
abbrev Av_:=Array Value
def St.get(s:St)(b:Nat):Option Obj:=match s.E b with | some o=>some o | none=>s.H b
structure Fits (s:St) (w:World):Prop where
 e:∀b o,s.E b=some o->w.heap[b]? =some o
 h:∀b o,s.H b=some o->w.heap[b]? =some o
 d:∀b,s.E b≠none->s.H b=none
theorem Fits.get{s:St}{w:World}(f:Fits s w){b:Nat}{o:Obj}(h:s.get b=some o):w.heap[b]? =some o:=by
 unfold St.get at h;split at h
 ·rename_i o' K;cases h;exact f.e _ _ K
 ·exact f.h _ _ h
theorem Fits.TU{s:St}{w:World}(f:Fits s w){b:Nat}{o:Obj}(h:s.H b=some o):b<w.heap.size:=by
 have:=f.h _ _ h;rcases Nat.lt_or_ge b w.heap.size with K | K
 ·exact K
 ·simp [Array.getElem?_eq_none K] at this
theorem Fits.lt{s:St}{w:World}(f:Fits s w){b:Nat}{o:Obj}(h:s.get b=some o):b<w.heap.size:=by
 have:=f.get h;rcases Nat.lt_or_ge b w.heap.size with K | K
 ·exact K
 ·simp [Array.getElem?_eq_none K] at this
def cellAt(o:Obj)(a:Addr):Option Value:=match o with | .cells c _ _=>if a.spot.isSome then none else c[a.off]? | _=>none
def frozenAt(o:Obj)(a:Addr):Bool:=match o with | .cells _ _ (lo,hi)=>lo<=a.off&&a.off<hi | _=>false
def shapeOf(o:Obj):Option (TypeId×Nat):=match o with | .cells c e _=>some (e,c.size) | _=>none
def CW:Value->Bool | .agg _ | .tuple _=>false | _=>true
def Ki(o:Obj)(a:Addr)(v:Value):Obj:=match o with | .cells c e f=> .cells (if a.spot.isSome then c else c.setIfInBounds a.off v) e f | o=>o
def Jt(o:Obj):Bool:=match o with | .cells ..=>false | .chan ..=>false | .pending ..=>false | .view ..=>false | .number ..=>false | _=>true
def St.cell? (s:St)(a:Addr):Option Value:=(s.get a.block).bind (cellAt · a)
def St.upd(s:St)(b:Nat)(o:Obj):St:={s with H:=λx=>if x=b then some o else s.H x}
theorem Qt{w:World}{a:Addr}{o:Obj}(h:w.heap[a.block]? =some o):w.cell? a=cellAt o a:=by
 unfold World.cell? cellAt;rw [h];cases o <;> rfl
theorem Qg{w:World}{a:Addr}{o:Obj}(h:w.heap[a.block]? =some o):w.frozen? a=frozenAt o a:=by
 unfold World.frozen? frozenAt;rw [h];cases o <;> rfl
theorem Uj{w:World}{b:Nat}{o:Obj}(h:w.heap[b]? =some o):w.shape? b=shapeOf o:=by
 unfold World.shape? shapeOf;rw [h];cases o <;> rfl
def lp(P:Program){α:Type}:Sem α->St->(α->St->Prop)->(Halt->St->Prop)->Prop
 | .pure a,s,Q,_=>Q a s
 | .load m a k,s,Q,X=>m= .plain/\∃v,s.cell? a=some v/\lp P (k v) s Q X
 | .store m a v k,s,Q,X=>m= .plain/\CW v=true/\∃o,s.H a.block=some o/\(cellAt o a).isSome=true/\frozenAt o a=false/\lp P k (s.upd a.block (Ki o a v)) Q X
 | .new o k,s,Q,X=>s.q=false/\∀r,s.E r=none->s.H r=none->lp P (k r) (s.upd r o) Q X
 | .shape r k,s,Q,X=>∃o,s.get r=some o/\lp P (k (shapeOf o)) s Q X
 | .freeze _ _ _,_,_,_=>False
 | .frozen a k,s,Q,X=>∃o,s.get a.block=some o/\lp P (k (frozenAt o a)) s Q X
 | .getObj r k,s,Q,X=>∃o,s.get r=some o/\Jt o=true/\lp P (k o) s Q X
 | .setObj r o k,s,Q,X=>(∃o₀,s.H r=some o₀/\Jt o₀=true)/\Jt o=true/\lp P k (s.upd r o) Q X
 | .choose q k,s,Q,X=>if q.forced then lp P (k 0) s Q X else s.q=false/\∀t,lp P (k (q.cut t)) s Q X
 | .sys _ _,_,_,_=>False
 | .program k,s,Q,X=>lp P (k P) s Q X
 | .mark m k,s,Q,X=>((s.q=false/\m= .noRoom)∨∃f,m= .extern f)/\lp P k s Q X
 | .halt h,s,_,X=>X h s
theorem Ee{P:Program}{α:Type}(x:Sem α):∀{s:St} {Q Y:α->St->Prop} {X Z:Halt->St->Prop},lp P x s Q X->(∀a s,Q a s->Y a s)->(∀h s,X h s->Z h s)->lp P x s Y Z:=by
 induction x with
 | pure a=>intro s Q Y X Z h K O;exact K _ _ h
 | load m a k U=>intro s Q Y X Z h K O;obtain⟨ac,v,ag,al⟩:=h;exact⟨ac,v,ag,U _ al K O⟩
 | store m a v k U=>intro s Q Y X Z h K O;obtain⟨ac,ag,o,al,ap,aq,av⟩:=h;exact⟨ac,ag,o,al,ap,aq,U av K O⟩
 | new o k U=>intro s Q Y X Z h K O;exact⟨h.1,λr ac ag=>U _ (h.2 r ac ag) K O⟩
 | shape r k U=>intro s Q Y X Z h K O;obtain⟨o,ac,ag⟩:=h;exact⟨o,ac,U _ ag K O⟩
 | freeze a n k U=>intro s Q Y X Z h K O;exact h
 | frozen a k U=>intro s Q Y X Z h K O;obtain⟨o,ac,ag⟩:=h;exact⟨o,ac,U _ ag K O⟩
 | getObj r k U=>intro s Q Y X Z h K O;obtain⟨o,ac,ag,al⟩:=h;exact⟨o,ac,ag,U _ al K O⟩
 | setObj r o k U=>intro s Q Y X Z h K O;obtain⟨ac,ag,al⟩:=h;exact⟨ac,ag,U al K O⟩
 | choose q k U=>
  intro s Q Y X Z h K O;simp only [lp] at h ⊢;split
  ·rename_i am;rw [if_pos am] at h;exact U _ h K O
  ·rename_i am;rw [if_neg am] at h;exact⟨h.1,λt=>U _ (h.2 t) K O⟩
 | sys c k U=>intro s Q Y X Z h K O;exact h
 | program k U=>intro s Q Y X Z h K O;exact U _ h K O
 | mark m k U=>intro s Q Y X Z h K O;exact⟨h.1,U h.2 K O⟩
 | halt h=>intro s Q Y X Z h K O;exact O _ _ h
theorem Au{P:Program}{α β:Type}(x:Sem α)(f:α->Sem β):∀{s:St} {Q:β->St->Prop} {X:Halt->St->Prop},lp P x s (λa s'=>lp P (f a) s' Q X) X->lp P (x>>=f) s Q X:=by
 show ∀{s:St} {Q:β->St->Prop} {X:Halt->St->Prop},lp P x s (λa s'=>lp P (f a) s' Q X) X->lp P (Sem.bind x f) s Q X
 induction x with
 | pure a=>intro s Q X h;exact h
 | load m a k K=>intro s Q X h;obtain⟨O,v,U,Y⟩:=h;exact⟨O,v,U,K _ Y⟩
 | store m a v k K=>intro s Q X h;obtain⟨O,U,o,Y,ac,ag,al⟩:=h;exact⟨O,U,o,Y,ac,ag,K al⟩
 | new o k K=>intro s Q X h;exact⟨h.1,λr O U=>K _ (h.2 r O U)⟩
 | shape r k K=>intro s Q X h;obtain⟨o,O,U⟩:=h;exact⟨o,O,K _ U⟩
 | freeze a n k K=>intro s Q X h;exact h
 | frozen a k K=>intro s Q X h;obtain⟨o,O,U⟩:=h;exact⟨o,O,K _ U⟩
 | getObj r k K=>intro s Q X h;obtain⟨o,O,U,Y⟩:=h;exact⟨o,O,U,K _ Y⟩
 | setObj r o k K=>intro s Q X h;obtain⟨O,U,Y⟩:=h;exact⟨O,U,K Y⟩
 | choose q k K=>
  intro s Q X h;simp only [lp,Sem.bind] at h ⊢;split
  ·rename_i Z;rw [if_pos Z] at h;exact K _ h
  ·rename_i Z;rw [if_neg Z] at h;exact⟨h.1,λt=>K _ (h.2 t)⟩
 | sys c k K=>intro s Q X h;exact h
 | program k K=>intro s Q X h;exact K _ h
 | mark m k K=>intro s Q X h;exact⟨h.1,K h.2⟩
 | halt h=>intro s Q X h;exact h
structure Fr (s:St) (w:World) (s':St) (w':World):Prop where
 size:w.heap.size<=w'.heap.size
 keep:∀b,b<w.heap.size->s.H b=none->w'.heap[b]? =w.heap[b]?
 own:∀b,s'.H b≠none->s.H b≠none∨w.heap.size<=b
 ext:∀b o,s.E b=some o->s'.E b=some o
 Ey:∀b,s'.E b≠none->s.E b≠none∨s.H b≠none∨w.heap.size<=b
 tape:w'.tape=w.tape
 os:w'.os=w.os
 output:w'.output=w.output
theorem Fr.refl(s:St)(w:World):Fr s w s w:=
 ⟨Nat.le_refl _,λ_ _ _=>rfl,λ_ h=> .inl h,λ_ _ h=>h,λ_ h=> .inl h,rfl,rfl,rfl⟩
theorem Fr.trans{s K O:St}{w U Y:World}(h:Fr s w K U)(k:Fr K U O Y):Fr s w O Y where
 size:=Nat.le_trans h.size k.size
 keep b hb Z:=by
  rw [k.keep b (Nat.lt_of_lt_of_le hb h.size) ?_,h.keep b hb Z];by_cases ac:K.H b=none
  ·exact ac
  ·rcases h.own b ac with x | x
   ·exact absurd Z x
   ·omega
 own b hb:=by
  rcases k.own b hb with x | x
  ·exact h.own b x
  ·exact .inr (Nat.le_trans h.size x)
 ext b o ag:=k.ext b o (h.ext b o ag)
 Ey b hb:=by
  rcases k.Ey b hb with x | x | x
  ·exact h.Ey b x
  ·rcases h.own b x with y | y
   ·exact .inr (.inl y)
   ·exact .inr (.inr y)
  ·exact .inr (.inr (Nat.le_trans h.size x))
 tape:=k.tape.trans h.tape
 os:=k.os.trans h.os
 output:=k.output.trans h.output
def GH(s:St)(w w':World)(b:Nat)(write:Bool):Prop:=
 b<w'.heap.size/\(s.H b≠none∨w.heap.size<=b∨(s.E b≠none/\write=false))
def Ev(s:St)(w w':World)(e:Event):Prop:=
 match e.loc with
 | .cell a=>e.sync=false/\GH s w w' a.block e.write
 | .obj r=>e.sync=false/\GH s w w' r e.write
 | .mark (.extern _)=>True
 | .mark .noRoom=>True
 | _=>False
theorem GH.Ah{s K:St}{w O w' U:World}{b:Nat}{wr:Bool}(h:Fr s w K O)(Y:w'.heap.size<=U.heap.size)(t:GH K O w' b wr):GH s w U b wr:=by
 refine⟨Nat.lt_of_lt_of_le t.1 Y,?_⟩;rcases t.2 with x | x | ⟨x,y⟩
 ·rcases h.own b x with z | z
  ·exact .inl z
  ·exact .inr (.inl z)
 ·exact .inr (.inl (Nat.le_trans h.size x))
 ·rcases h.Ey b x with z | z | z
  ·exact .inr (.inr ⟨z,y⟩)
  ·exact .inl z
  ·exact .inr (.inl z)
theorem Ev.Ah{s K:St}{w O w' U:World}{e:Event}(h:Fr s w K O)(Y:w'.heap.size<=U.heap.size)(t:Ev K O w' e):Ev s w U e:=by
 unfold Ev at t ⊢;split <;> rename_i he <;> simp only [he] at t
 ·exact⟨t.1,t.2.Ah h Y⟩
 ·exact⟨t.1,t.2.Ah h Y⟩
 ·trivial
 ·trivial
def Kq{α:Type}:Result α->World | .ok _ w=>w | .halt _ w=>w
def Yz{α:Type}(Q:α->St->Prop)(X:Halt->St->Prop)(s:St):Result α->Prop | .ok a _=>Q a s | .halt h _=>X h s
theorem Rj{s:St}{b:Nat}{o:Obj}(h:s.get b=some o)(K:s.H b=none):s.E b≠none:=by
 intro e;unfold St.get at h;rw [e] at h;simp only at h;rw [K] at h;cases h
theorem OC{s:St}{w w':World}{b:Nat}{o:Obj}(f:Fits s w)(U:s.E b=none)(hb:w'.heap[b]? =some o)(Y:∀c,c≠b->∀x,w.heap[c]? =some x->w'.heap[c]? =some x):Fits (s.upd b o) w' where
 e c x K:=by
  have O:c≠b:=λe=>by subst e;simp [St.upd] at K;rw [U] at K;cases K
  exact Y c O x (f.e c x K)
 h c x K:=by
  simp only [St.upd] at K;split at K
  ·rename_i e;subst e;cases K;exact hb
  ·rename_i O;exact Y c O x (f.h c x K)
 d c K:=by
  have O:c≠b:=λe=>by subst e;exact K U
  simp only [St.upd,if_neg O];exact f.d c K
theorem MG{P:Program}{α:Type}(x:Sem α):∀{s:St} {w:World} {Q:α->St->Prop} {X:Halt->St->Prop},lp P x s Q X->Fits s w->
  ∃s',Fits s' (Kq (x.run P w))/\Fr s w s' (Kq (x.run P w))/\(∀e∈x.events P w #[],Ev s w (Kq (x.run P w)) e)/\Yz Q X s' (x.run P w):=by
 induction x with
 | pure a=>intro s w Q X h f;exact⟨s,f,.refl _ _,by simp [Sem.events_pure'],h⟩
 | load m a k O=>
  intro s w Q X h f;obtain⟨rfl,v,aM,h⟩:=h;obtain⟨o,K,aW⟩:=Option.bind_eq_some_iff.1 aM;have hw:=f.get K;have aN:w.cell? a=some v:=by rw [Qt hw,aW]
  have U:(Sem.load Mode.plain a k).run P w=(k v).run P w:=by simp [Sem.run,aN]
  have Y:(Sem.load Mode.plain a k).events P w #[]= #[⟨.cell a,false,false⟩]++(k v).events P w #[]:=by
   rw [← Sem.events_acc];simp only [Sem.events,Sem.runT,aN];rfl
  rw [U,Y];obtain⟨s',ac,Z,ag,al⟩:=O v h f;refine⟨s',ac,Z,λe he=>?_,al⟩;rcases Array.mem_append.1 he with he | he
  ·simp at he;subst he;refine⟨rfl,Nat.lt_of_lt_of_le (f.lt K) Z.size,?_⟩;by_cases az:s.H a.block=none
   ·refine .inr (.inr ⟨?_,rfl⟩);exact Rj K az
   ·exact .inl az
  ·exact ag e he
 | store m a v k O=>
  intro s w Q X h f;obtain⟨rfl,aM,o,K,aN,aX,h⟩:=h;have hw:=f.h _ _ K;obtain⟨u,hu⟩:=Option.isSome_iff_exists.1 aN;have aS:w.cell? a=some u:=by rw [Qt hw,hu]
  have aT:w.frozen? a=false:=by rw [Qg hw,aX]
  have aO:=f.TU K;obtain⟨aQ,aR,f0,rfl⟩:∃c e f,o= .cells c e f:=by cases o <;> simp [cellAt] at hu;exact⟨_,_,_,rfl⟩
  have aY:(w.setCell a v).heap[a.block]? =some (Ki (.cells aQ aR f0) a v):=by
   simp [World.setCell,Ki,Array.getElem?_modify,hw]
  have aI:∀c,c≠a.block->(w.setCell a v).heap[c]? =w.heap[c]? :=by
   intro c aq;simp [World.setCell,Array.getElem?_modify,Ne.symm aq]
  have ap:s.E a.block=none:=by
   cases ap:s.E a.block with
   | none=>rfl
   | some x=>have:=f.d a.block (by rw [ap];simp);rw [K] at this;cases this
  have aJ:Fits (s.upd a.block (Ki (.cells aQ aR f0) a v)) (w.setCell a v):=OC f ap aY (λc aq x av=>by rw [aI c aq];exact av);have U:(Sem.store Mode.plain a v k).run P w=k.run P (w.setCell a v):=by
   cases v <;> first | (simp [CW] at aM;done) | simp [Sem.run,aS,aT]
  have Y:(Sem.store Mode.plain a v k).events P w #[]= #[⟨.cell a,true,false⟩]++k.events P (w.setCell a v) #[]:=by
   rw [← Sem.events_acc];cases v <;> first | (simp [CW] at aM;done) | (simp only [Sem.events,Sem.runT,aS,aT];rfl)
  have am:Fr s w (s.upd a.block (Ki (.cells aQ aR f0) a v)) (w.setCell a v):=by
   refine⟨by simp [World.setCell],λb hb aw=>aI b (λe=>by subst e;rw [K] at aw;cases aw),λb hb=>?_,λ_ _ h=>h,λ_ h=> .inl h,rfl,rfl,rfl⟩;simp only [St.upd] at hb;split at hb
   ·rename_i e;subst e;exact .inl (by rw [K];simp)
   ·exact .inl hb
  rw [U,Y];obtain⟨s',ac,Z,ag,al⟩:=O h aJ;refine⟨s',ac,am.trans Z,λe he=>?_,al⟩;rcases Array.mem_append.1 he with he | he
  ·simp at he;subst he;exact⟨rfl,Nat.lt_of_lt_of_le aO (am.trans Z).size,.inl (by rw [K];simp)⟩
  ·exact(ag e he).Ah am (Nat.le_refl _)
 | new o k O=>
  intro s w Q X h f;have aU:s.E w.heap.size=none:=by
   cases ap:s.E w.heap.size with
   | none=>rfl
   | some x=>have:=f.e _ _ ap;simp at this
  have aZ:s.H w.heap.size=none:=by
   cases ap:s.H w.heap.size with
   | none=>rfl
   | some x=>have:=f.h _ _ ap;simp at this
  have U:(Sem.new o k).run P w=(k w.heap.size).run P {w with heap:=w.heap.push o}:=by simp [Sem.run]
  have Y:(Sem.new o k).events P w #[]=(k w.heap.size).events P {w with heap:=w.heap.push o} #[]:=by simp only [Sem.events,Sem.runT]
  rw [U,Y];have aJ:Fits (s.upd w.heap.size o) {w with heap:=w.heap.push o}:=OC f aU (by simp) (λc aq x av=>by
   have:c<w.heap.size:=by
    rcases Nat.lt_or_ge c w.heap.size with aK | aK
    ·exact aK
    ·simp [Array.getElem?_eq_none aK] at av
   simp [Array.getElem?_push,Nat.ne_of_lt this,av])
  have am:Fr s w (s.upd w.heap.size o) {w with heap:=w.heap.push o}:=by
   refine⟨by simp,λb hb aw=>by simp [Array.getElem?_push,Nat.ne_of_lt hb],λb hb=>?_,λ_ _ h=>h,λ_ h=> .inl h,rfl,rfl,rfl⟩;simp only [St.upd] at hb;split at hb
   ·rename_i e;subst e;exact .inr (Nat.le_refl _)
   ·exact .inl hb
  obtain⟨s',ac,Z,ag,al⟩:=O _ (h.2 _ aU aZ) aJ;exact⟨s',ac,am.trans Z,λe he=>(ag e he).Ah am (Nat.le_refl _),al⟩
 | shape r k O=>
  intro s w Q X h f;obtain⟨o,K,h⟩:=h;have aL:=Uj (f.get K);have U:(Sem.shape r k).run P w=(k (shapeOf o)).run P w:=by simp [Sem.run,aL]
  have Y:(Sem.shape r k).events P w #[]=(k (shapeOf o)).events P w #[]:=by simp only [Sem.events,Sem.runT,aL]
  rw [U,Y];exact O _ h f
 | freeze a n k O=>intro s w Q X h f;exact h.elim
 | frozen a k O=>
  intro s w Q X h f;obtain⟨o,K,h⟩:=h;have aL:=Qg (a:=a) (f.get K);have U:(Sem.frozen a k).run P w=(k (frozenAt o a)).run P w:=by simp [Sem.run,aL]
  have Y:(Sem.frozen a k).events P w #[]=(k (frozenAt o a)).events P w #[]:=by simp only [Sem.events,Sem.runT,aL]
  rw [U,Y];exact O _ h f
 | getObj r k O=>
  intro s w Q X h f;obtain⟨o,K,aP,h⟩:=h;have hw:=f.get K;have U:(Sem.getObj r k).run P w=(k o).run P w:=by cases o <;> simp [Jt] at aP <;> simp [Sem.run,hw]
  have Y:(Sem.getObj r k).events P w #[]= #[⟨.obj r,false,false⟩]++(k o).events P w #[]:=by
   rw [← Sem.events_acc];cases o <;> simp [Jt] at aP <;> (simp only [Sem.events,Sem.runT,hw,Obj.isChan];rfl)
  rw [U,Y];obtain⟨s',ac,Z,ag,al⟩:=O o h f;refine⟨s',ac,Z,λe he=>?_,al⟩;rcases Array.mem_append.1 he with he | he
  ·simp at he;subst he;refine⟨rfl,Nat.lt_of_lt_of_le (f.lt K) Z.size,?_⟩;by_cases az:s.H r=none
   ·refine .inr (.inr ⟨?_,rfl⟩);exact Rj K az
   ·exact .inl az
  ·exact ag e he
 | setObj r o k O=>
  intro s w Q X h f;obtain⟨⟨o₀,K,aV⟩,aP,h⟩:=h;have hw:=f.h _ _ K;have aO:=f.TU K;have ap:s.E r=none:=by
   cases ap:s.E r with
   | none=>rfl
   | some x=>have:=f.d r (by rw [ap];simp);rw [K] at this;cases this
  have U:(Sem.setObj r o k).run P w=k.run P {w with heap:=w.heap.setIfInBounds r o}:=by
   cases o₀ <;> simp [Jt] at aV <;> simp [Sem.run,hw]
  have Y:(Sem.setObj r o k).events P w #[]= #[⟨.obj r,true,false⟩]++k.events P {w with heap:=w.heap.setIfInBounds r o} #[]:=by
   rw [← Sem.events_acc];cases o₀ <;> simp [Jt] at aV <;> cases o <;> simp [Jt] at aP <;> (simp only [Sem.events,Sem.runT,hw,Obj.isChan];rfl)
  have aI:∀c,c≠r->(w.heap.setIfInBounds r o)[c]? =w.heap[c]? :=λc aq=>by simp [Ne.symm aq]
  have aJ:Fits (s.upd r o) {w with heap:=w.heap.setIfInBounds r o}:=OC f ap (by simp [aO]) (λc aq x av=>by show(w.heap.setIfInBounds r o)[c]? =_;rw [aI c aq];exact av);have am:Fr s w (s.upd r o) {w with heap:=w.heap.setIfInBounds r o}:=by
   refine⟨by simp,λb hb aw=>aI b (λe=>by subst e;rw [K] at aw;cases aw),λb hb=>?_,λ_ _ h=>h,λ_ h=> .inl h,rfl,rfl,rfl⟩;simp only [St.upd] at hb;split at hb
   ·rename_i e;subst e;exact .inl (by rw [K];simp)
   ·exact .inl hb
  rw [U,Y];obtain⟨s',ac,Z,ag,al⟩:=O h aJ;refine⟨s',ac,am.trans Z,λe he=>?_,al⟩;rcases Array.mem_append.1 he with he | he
  ·simp at he;subst he;exact⟨rfl,Nat.lt_of_lt_of_le aO (am.trans Z).size,.inl (by rw [K];simp)⟩
  ·exact(ag e he).Ah am (Nat.le_refl _)
 | choose q k O=>
  intro s w Q X h f;simp only [lp] at h;by_cases ay:q.forced
  ·rw [if_pos ay] at h;have U:(Sem.choose q k).run P w=(k 0).run P w:=by simp [Sem.run,ay]
   have Y:(Sem.choose q k).events P w #[]=(k 0).events P w #[]:=by simp only [Sem.events,Sem.runT];rw [if_pos ay]
   rw [U,Y];exact O _ h f
  ·rw [if_neg ay] at h;have U:(Sem.choose q k).run P w=(k (q.cut (w.tape w.drawn q))).run P {w with drawn:=w.drawn+1}:=by simp [Sem.run,ay]
   have Y:(Sem.choose q k).events P w #[]=(k (q.cut (w.tape w.drawn q))).events P {w with drawn:=w.drawn+1} #[]:=by simp only [Sem.events,Sem.runT];rw [if_neg ay]
   rw [U,Y];have am:Fr s w s {w with drawn:=w.drawn+1}:=⟨Nat.le_refl _,λ_ _ _=>rfl,λ_ h=> .inl h,λ_ _ h=>h,λ_ h=> .inl h,rfl,rfl,rfl⟩;obtain⟨s',ac,Z,ag,al⟩:=O _ (h.2 (w.tape w.drawn q)) (⟨f.e,f.h,f.d⟩:Fits s {w with drawn:=w.drawn+1});exact⟨s',ac,am.trans Z,λe he=>(ag e he).Ah am (Nat.le_refl _),al⟩
 | sys c k O=>intro s w Q X h f;exact h.elim
 | program k O=>
  intro s w Q X h f;have U:(Sem.program k).run P w=(k P).run P w:=by simp [Sem.run]
  have Y:(Sem.program k).events P w #[]=(k P).events P w #[]:=by simp only [Sem.events,Sem.runT]
  rw [U,Y];exact O _ h f
 | mark m k O=>
  intro s w Q X h f;have U:(Sem.mark m k).run P w=k.run P w:=by simp [Sem.run]
  have Y:(Sem.mark m k).events P w #[]= #[⟨.mark m,false,true⟩]++k.events P w #[]:=by
   rw [← Sem.events_acc];simp only [Sem.events,Sem.runT];rfl
  rw [U,Y];obtain⟨hm,h⟩:=h;obtain⟨s',ac,Z,ag,al⟩:=O h f;refine⟨s',ac,Z,λe he=>?_,al⟩;rcases Array.mem_append.1 he with he | he
  ·simp at he;subst he;rcases hm with⟨_,rfl⟩ | ⟨g,rfl⟩ <;> trivial
  ·exact ag e he
 | halt h=>intro s w Q X aK f;exact⟨s,f,.refl _ _,by simp [Sem.events_halt],aK⟩
theorem Ql{P:Program}{fn:FuncId}{es:Array Event}(h:∀e∈es,∃f,e.loc= .mark (.extern f)):seen P fn es= #[]:=by
 rw [seen_def];have:∀(l:List Event) (q:Bool),(∀e∈l,∃f,e.loc= .mark (.extern f))->(l.foldl (seenStep λf=>(P.funcs[f]?).any (·.norace)) (q,#[])).2= #[]:=by
  intro l
  induction l with
  | nil=>intro q _;rfl
  | cons e l K=>
   intro q h;obtain⟨f,O⟩:=h e (by simp);rw [List.foldl_cons];have:seenStep (λf=>(P.funcs[f]?).any (·.norace)) (q,#[]) e=((P.funcs[f]?).any (·.norace),#[]):=by simp [seenStep,O]
   rw [this];exact K _ λx U=>h x (by simp [U])
 exact this es.toList _ λe he=>h e (Array.mem_toList_iff.1 he)
def St.quiet:St:=⟨λ_=>none,λ_=>none,true⟩
theorem RB{P:Program}{α:Type}(x:Sem α):∀{Q:α->St->Prop} {X:Halt->St->Prop},lp P x .quiet Q X->
  ∃es,(∀w,x.events P w #[]=es)/\(∀e∈es,∃f,e.loc= .mark (.extern f))/\((∃a,Q a .quiet/\(∀w,x.run P w= .ok a w))∨(∃a,X a .quiet/\(∀w,x.run P w= .halt a w))):=by
 induction x with
 | pure a=>intro Q X h;exact⟨#[],λw=>by simp [Sem.events_pure'],by simp,.inl ⟨a,h,λw=>rfl⟩⟩
 | load m a k K=>intro Q X h;obtain⟨_,v,Z,_⟩:=h;simp [St.cell?,St.get,St.quiet] at Z
 | store m a v k K=>intro Q X h;obtain⟨_,_,o,ac,_⟩:=h;cases ac
 | new o k K=>intro Q X h;cases h.1
 | shape r k K=>intro Q X h;obtain⟨o,O,_⟩:=h;simp [St.get,St.quiet] at O
 | freeze a n k K=>intro Q X h;exact h.elim
 | frozen a k K=>intro Q X h;obtain⟨o,O,_⟩:=h;simp [St.get,St.quiet] at O
 | getObj r k K=>intro Q X h;obtain⟨o,O,_⟩:=h;simp [St.get,St.quiet] at O
 | setObj r o k K=>intro Q X h;obtain⟨⟨o,O,_⟩,_⟩:=h;cases O
 | choose q k K=>
  intro Q X h;simp only [lp] at h;by_cases U:q.forced
  ·rw [if_pos U] at h;have Y:∀w,(Sem.choose q k).run P w=(k 0).run P w:=λw=>by simp [Sem.run,U]
   have e2:∀w,(Sem.choose q k).events P w #[]=(k 0).events P w #[]:=λw=>by simp only [Sem.events,Sem.runT];rw [if_pos U]
   simpa only [Y,e2] using K _ h
  ·rw [if_neg U] at h;cases h.1
 | sys c k K=>intro Q X h;exact h.elim
 | program k K=>
  intro Q X h;have Y:∀w,(Sem.program k).run P w=(k P).run P w:=λw=>by simp [Sem.run]
  have e2:∀w,(Sem.program k).events P w #[]=(k P).events P w #[]:=λw=>by simp only [Sem.events,Sem.runT]
  simpa only [Y,e2] using K _ h
 | mark m k K=>
  intro Q X h;obtain⟨hm,h⟩:=h;obtain⟨es,O,Z,ac⟩:=K h;have Y:∀w,(Sem.mark m k).run P w=k.run P w:=λw=>by simp [Sem.run]
  have e2:∀w,(Sem.mark m k).events P w #[]= #[⟨.mark m,false,true⟩]++k.events P w #[]:=λw=>by rw [← Sem.events_acc];simp only [Sem.events,Sem.runT];rfl
  refine⟨#[⟨.mark m,false,true⟩]++es,λw=>by rw [e2,O],λe he=>?_,by simpa only [Y] using ac⟩;rcases Array.mem_append.1 he with he | he
  ·simp at he;subst he;rcases hm with⟨U,_⟩ | hm
   ·cases U
   ·obtain⟨f,rfl⟩:=hm;exact⟨f,rfl⟩
  ·exact Z e he
 | halt h=>intro Q X ag;exact⟨#[],λw=>by simp [Sem.events_halt],by simp,.inr ⟨h,ag,λw=>rfl⟩⟩
end Pal
namespace Pal
open Go Go.Conc
def SS(P:Program)(main:Bool)(g:Goroutine)(s:St)(K:Gs_):Prop:=
 g.status= .running/\(∀w,Fits s w->
  ∃g' s' w' es,stepG P main g w= .go g' w' es/\K g' s'/\Fits s' w'/\Fr s w s' w'/\(∀e∈es,Ev s w w' e))/\
  (s= .quiet->∃g',(∀w,stepG P main g w= .go g' w #[])/\K g' .quiet)
structure Ca (s s₀:St):Prop where
 ext:∀b o,s.E b=some o->s₀.E b=some o
 own:∀b o,s₀.H b=some o->s.H b=some o
 Ey:∀b o,s₀.E b=some o->s.E b=some o∨(s.H b=some o/\s₀.H b=none)
 q:s₀.q=s.q
theorem Ca.refl(s:St):Ca s s:=⟨λ_ _ h=>h,λ_ _ h=>h,λ_ _ h=> .inl h,rfl⟩
theorem Ca.fits{s s₀:St}(g:Ca s s₀){w:World}(f:Fits s w):Fits s₀ w where
 e b o h:=by
  rcases g.Ey b o h with x | x
  ·exact f.e _ _ x
  ·exact f.h _ _ x.1
 h b o h:=f.h _ _ (g.own _ _ h)
 d b h:=by
  cases K:s₀.E b with
  | none=>exact absurd K h
  | some o=>
   rcases g.Ey b o K with x | x
   ·cases O:s₀.H b with
    | none=>rfl
    | some y=>have:=g.own _ _ O;rw [f.d b (by rw [x];simp)] at this;cases this
   ·exact x.2
theorem HY{α:Type}{x:Option α}(h:x≠none):∃a,x=some a:=by cases x <;> simp at h;exact⟨_,rfl⟩
theorem Ca.fr{s s₀ s':St}{w w':World}(g:Ca s s₀)(f:Fr s₀ w s' w'):Fr s w s' w' where
 size:=f.size
 keep b hb O:=f.keep b hb (by
  cases h:s₀.H b with
  | none=>rfl
  | some o=>rw [g.own _ _ h] at O;cases O)
 own b hb:=(f.own b hb).imp (λh=>by obtain⟨o,K⟩:=HY h;rw [g.own _ _ K];simp) id
 ext b o h:=f.ext _ _ (g.ext _ _ h)
 Ey b hb:=by
  rcases f.Ey b hb with h | h | h
  ·obtain⟨o,K⟩:=HY h;rcases g.Ey _ _ K with x | x
   ·exact .inl (by rw [x];simp)
   ·exact .inr (.inl (by rw [x.1];simp))
  ·obtain⟨o,K⟩:=HY h;exact .inr (.inl (by rw [g.own _ _ K];simp))
  ·exact .inr (.inr h)
 tape:=f.tape
 os:=f.os
 output:=f.output
theorem Ca.GH{s s₀:St}{w w':World}{b:Nat}{wr:Bool}(g:Ca s s₀)(t:GH s₀ w w' b wr):GH s w w' b wr:=by
 refine⟨t.1,?_⟩;rcases t.2 with h | h | ⟨h,hw⟩
 ·obtain⟨o,K⟩:=HY h;exact .inl (by rw [g.own _ _ K];simp)
 ·exact .inr (.inl h)
 ·obtain⟨o,K⟩:=HY h;rcases g.Ey _ _ K with x | x
  ·exact .inr (.inr ⟨by rw [x];simp,hw⟩)
  ·exact .inl (by rw [x.1];simp)
theorem Ca.ev{s s₀:St}{w w':World}{e:Event}(g:Ca s s₀)(t:Ev s₀ w w' e):Ev s w w' e:=by
 unfold Ev at t ⊢;split <;> rename_i he <;> simp only [he] at t
 ·exact⟨t.1,g.GH t.2⟩
 ·exact⟨t.1,g.GH t.2⟩
 ·trivial
 ·trivial
theorem Ca.quiet{s₀:St}(g:Ca .quiet s₀):s₀= .quiet:=by
 obtain⟨E,H,q⟩:=s₀;have K:E=λ_=>none:=by
  funext b;cases h:E b with
  | none=>rfl
  | some o=>rcases g.Ey b o h with x | ⟨x,_⟩ <;> cases x
 have O:H=λ_=>none:=by
  funext b;cases h:H b with
  | none=>rfl
  | some o=>cases g.own b o h
 have U:q=true:=g.q;subst K O U;rfl
inductive Rk:Type where
 | leaf:Rk
 | node (f:World->Rk):Rk
def Rk.sub(a b:Rk):Prop:=∃f w,b= .node f/\a=f w
theorem Rk.wf:WellFounded Rk.sub:=⟨λr=>by
 induction r with
 | leaf=>exact⟨_,λa ⟨f,w,h,_⟩=>by cases h⟩
 | node f K=>exact⟨_,λa ⟨g,w,h,e⟩=>by cases h;subst e;exact K w⟩⟩
def Jr(P:Program)(main:Bool)(Q:Gs_):Rk->Gs_
 | .leaf,g,s=>Q g s
 | .node f,g,s=>Q g s∨(g.status= .running/\∀w,Fits s w->
  ∃g' s' w' es,stepG P main g w= .go g' w' es/\Jr P main Q (f w) g' s'/\Fits s' w'/\Fr s w s' w'/\(∀e∈es,Ev s w w' e)/\(s= .quiet->s'= .quiet/\w'=w/\es= #[]))
structure Judge (P:Program) where
 main:Bool
 ok:(Gs_)->Gs_
 stop:∀{Q g s},Q g s->ok Q g s
 step:∀{Q g s},SS P main g s (ok Q)->ok Q g s
 trans:∀{Q R g s},ok Q g s->(∀g' s',Q g' s'->ok R g' s')->ok R g s
 ghost:∀{Q g s s₀},Ca s s₀->ok Q g s₀->ok Q g s
def JQ(Q:Gs_)(g:Goroutine)(s:St):Prop:=∃s₀,Ca s s₀/\Q g s₀
theorem Ca.trans{a b c:St}(h:Ca a b)(k:Ca b c):Ca a c where
 ext x o y:=k.ext _ _ (h.ext _ _ y)
 own x o y:=h.own _ _ (k.own _ _ y)
 Ey x o y:=by
  rcases k.Ey x o y with z | z
  ·rcases h.Ey x o z with u | u
   ·exact .inl u
   ·refine .inr ⟨u.1,?_⟩;cases K:c.H x with
    | none=>rfl
    | some v=>have:=k.own _ _ K;rw [u.2] at this;cases this
  ·exact .inr ⟨h.own _ _ z.1,z.2⟩
 q:=k.q.trans h.q
def AP(P:Program)(main:Bool):Judge P where
 main:=main
 ok Q g s:=∃r,Jr P main (JQ Q) r g s
 stop h:=⟨.leaf,_,.refl _,h⟩
 step {Q g s} h:=by
  obtain⟨U,h,hu⟩:=h;have al:∀w,∃r:Rk,Fits s w->∃g' s' w' es,stepG P main g w= .go g' w' es/\Jr P main (JQ Q) r g' s'/\Fits s' w'/\Fr s w s' w'/\(∀e∈es,Ev s w w' e)/\(s= .quiet->s'= .quiet/\w'=w/\es= #[]):=by
   intro w;by_cases f:Fits s w
   ·by_cases e:s= .quiet
    ·obtain⟨g',K,r,O⟩:=hu e;exact⟨r,λ_=>⟨g',.quiet,w,#[],K w,O,e▸f,e▸ .refl _ _,by simp,λ_=>⟨rfl,rfl,rfl⟩⟩⟩
    ·obtain⟨g',s',w',es,K,⟨r,O⟩,ac,am,ap⟩:=h w f;exact⟨r,λ_=>⟨g',s',w',es,K,O,ac,am,ap,λx=>absurd x e⟩⟩
   ·exact⟨.leaf,λx=>absurd x f⟩
  exact⟨.node λw=>Classical.choose (al w),.inr ⟨U,λw f=>Classical.choose_spec (al w) f⟩⟩
 trans {Q R g s} h k:=by
  obtain⟨r,h⟩:=h;have av:∀(r:Rk) {g:Goroutine} {s s₀:St},Ca s s₀->Jr P main (JQ R) r g s₀->Jr P main (JQ R) r g s:=by
   intro r g s s₀ Y Z;cases r with
   | leaf=>obtain⟨ag,K,O⟩:=Z;exact⟨ag,Y.trans K,O⟩
   | node f=>
    rcases Z with⟨ag,K,O⟩ | ⟨U,Z⟩
    ·exact .inl ⟨ag,Y.trans K,O⟩
    ·exact .inr ⟨U,λw f=>let ⟨g',s',w',es,K,O,ac,am,ap,aq⟩:=Z w (Y.fits f);⟨g',s',w',es,K,O,ac,Y.fr am,λe he=>Y.ev (ap e he),λe=>aq (by subst e;exact Y.quiet)⟩⟩
  induction r generalizing g s with
  | leaf=>
   obtain⟨s₀,K,O⟩:=h;obtain⟨r,U⟩:=k _ _ O;exact⟨r,av r K U⟩
  | node f ay=>
   rcases h with⟨s₀,K,O⟩ | ⟨U,h⟩
   ·obtain⟨r,U⟩:=k _ _ O;exact⟨r,av r K U⟩
   ·have al:∀w,∃r:Rk,Fits s w->∃g' s' w' es,stepG P main g w= .go g' w' es/\Jr P main (JQ R) r g' s'/\Fits s' w'/\Fr s w s' w'/\(∀e∈es,Ev s w w' e)/\(s= .quiet->s'= .quiet/\w'=w/\es= #[]):=by
     intro w;by_cases aw:Fits s w
     ·obtain⟨g',s',w',es,K,O,ac⟩:=h w aw;obtain⟨r,U⟩:=ay w O;exact⟨r,λ_=>⟨g',s',w',es,K,U,ac⟩⟩
     ·exact⟨.leaf,λx=>absurd x aw⟩
    exact⟨.node λw=>Classical.choose (al w),.inr ⟨U,λw f=>Classical.choose_spec (al w) f⟩⟩
 ghost {Q g s s₀} Y h:=by
  obtain⟨r,Z⟩:=h;refine⟨r,?_⟩;cases r with
  | leaf=>obtain⟨ag,K,O⟩:=Z;exact⟨ag,Y.trans K,O⟩
  | node f=>
   rcases Z with⟨ag,K,O⟩ | ⟨U,Z⟩
   ·exact .inl ⟨ag,Y.trans K,O⟩
   ·exact .inr ⟨U,λw f=>let ⟨g',s',w',es,K,O,ac,am,ap,aq⟩:=Z w (Y.fits f);⟨g',s',w',es,K,O,ac,Y.fr am,λe he=>Y.ev (ap e he),λe=>aq (by subst e;exact Y.quiet)⟩⟩
def Lv(P:Program)(Q:Gs_):Nat->Goroutine->Prop
 | 0,g=>Q g .quiet
 | n+1,g=>Q g .quiet∨(g.status= .running/\∃g',(∀w,stepG P false g w= .go g' w #[])/\Lv P Q n g')
def H2(P:Program):Judge P where
 main:=false
 ok Q g s:=s= .quiet->∃n,Lv P Q n g
 stop h e:=⟨0,by subst e;exact h⟩
 step {Q g s} h e:=by
  obtain⟨g',K,O⟩:=h.2.2 e;obtain⟨n,U⟩:=O rfl;exact⟨n+1,.inr ⟨h.1,g',K,U⟩⟩
 trans {Q R g s} h k e:=by
  obtain⟨n,U⟩:=h e;have:∀n g,Lv P Q n g->∃m,Lv P R m g:=by
   intro n
   induction n with
   | zero=>intro g h;exact k _ _ h rfl
   | succ n Y=>
    intro g h;rcases h with h | ⟨Z,g',K,O⟩
    ·exact k _ _ h rfl
    ·obtain⟨m,hm⟩:=Y g' O;exact⟨m+1,.inr ⟨Z,g',K,hm⟩⟩
  exact this n g U
 ghost {Q g s s₀} ac h e:=by subst e;exact h ac.quiet
end Pal
namespace Pal
open Go Go.Conc
def fr(b:Frame)(T:Av_)(ds:Ld_)(todo:Li_):Frame:={b with tmps:=T,todo:=todo,defers:=ds,mode:= .run}
def Eg(b:Frame)(T:Av_)(ds:Ld_)(todo:Li_):Frame:={b with tmps:=T,todo:=todo,defers:=ds,mode:= .returning}
def Bs(T:Av_):Operand->Value
 | .tmp t=>T.getD t undef
 | .const v=>v
 | .global g=> .pointer (some ⟨g,0,none⟩)
 | .func f=> .func (.func f) #[] #[]
abbrev Env:=List (Nat×Value)
def look:Env->Nat->Option Value
 | [],_=>none
 | (t,v)::L,u=>if t=u then some v else look L u
def ev(L:Env):Operand->Option Value
 | .tmp t=>look L t
 | .const v=>some v
 | .global g=>some (.pointer (some ⟨g,0,none⟩))
 | .func f=>some (.func (.func f) #[] #[])
structure Has (n:Nat) (L:Env) (T:Av_):Prop where
 size:T.size=n
 at_:∀t v,look L t=some v->T.getD t undef=v
theorem Has.ev{n:Nat}{L:Env}{T:Av_}(h:Has n L T){x:Operand}{v:Value}(e:ev L x=some v):Bs T x=v:=by
 cases x with
 | tmp t=>exact h.at_ t v e
 | const u=>cases e;rfl
 | global g=>cases e;rfl
 | func f=>cases e;rfl
def Cv(T:Av_):Option Tmp->Value->Av_
 | some d,v=>T.setIfInBounds d v
 | none,_=>T
def As(L:Env):Option Tmp->Value->Env
 | some d,v=>(d,v)::L
 | none,_=>L
def Bd(n:Nat):Option Tmp->Bool
 | some d=>d<n
 | none=>true
theorem V0(T:Av_)(d:Nat)(v:Value)(h:d<T.size)(t:Nat):(T.setIfInBounds d v).getD t undef=if d=t then v else T.getD t undef:=by
 by_cases e:d=t
 ·subst e;simp [Array.getD_eq_getD_getElem?,h]
 ·simp [Array.getD_eq_getD_getElem?,e]
theorem Has.put{n:Nat}{L:Env}{T:Av_}(h:Has n L T){d:Option Tmp}(hd:Bd n d=true)(v:Value):Has n (As L d v) (Cv T d v):=by
 cases d with
 | none=>exact h
 | some d=>
  have K:d<T.size:=by rw [h.size];simpa [Bd] using hd
  refine⟨by simp [Cv,h.size],λt u hu=>?_⟩;simp only [Cv,V0 T d v K];simp only [As,look] at hu;split at hu
  ·rename_i e;rw [if_pos e];exact Option.some.inj hu
  ·rename_i e;rw [if_neg e];exact h.at_ t u hu
def Sub:Env->Env->Prop
 | [],_=>True
 | (t,v)::L',L=>look L t=some v/\Sub L' L
theorem Sub.look{L:Env}:∀{L':Env},Sub L' L->∀t v,look L' t=some v->Pal.look L t=some v
 | [],_,t,v,e=>by simp [Pal.look] at e
 | (u,w)::L',h,t,v,e=>by
  simp only [Pal.look] at e
  split at e
  ·rename_i K;subst K;cases e;exact h.1
  ·exact Sub.look h.2 t v e
theorem Has.sub{n:Nat}{L L':Env}{T:Av_}(h:Has n L T)(s:Sub L' L):Has n L' T:=⟨h.size,λt v e=>h.at_ t v (s.look t v e)⟩
section
variable {P:Program}(J:Judge P)(Q:Gs_)
def JL(b:Frame)(n:Nat)(L:Env)(ds:Ld_)(todo:Li_)(cs:Lf_)(s:St):Prop:=
 ∀T,Has n L T->J.ok Q (G (fr b T ds todo) cs) s
end
section
variable {P:Program}{J:Judge P}{Q:Gs_}{b:Frame}{n:Nat}{L L':Env}{ds:Ld_}{k:Li_}{cs:Lf_}{s s':St}
theorem Judge.CZ{g g':Goroutine}(K:g.status= .running)(h:∀w,stepG P J.main g w= .go g' w)(k:J.ok Q g' s):J.ok Q g s:=
 J.step ⟨K,λw f=>⟨g',s,w,#[],h w,k,f,.refl _ _,by simp⟩,λe=>⟨g',h,e▸k⟩⟩
theorem EX(h:Sub L' L)(k':JL J Q b n L' ds k cs s):JL J Q b n L ds k cs s:=λT K=>k' T (K.sub h)
theorem JL.ghost(h:Ca s s')(k':JL J Q b n L ds k cs s'):JL J Q b n L ds k cs s:=λT K=>J.ghost h (k' T K)
theorem JL.skip(h:JL J Q b n L ds k cs s):JL J Q b n L ds (.code .skip::k) cs s:=λT K=>Judge.CZ rfl (λw=>by simp [G,stepG,stepG.exec,fr]) (h T K)
theorem JL.label{l:Nat}(h:JL J Q b n L ds k cs s):JL J Q b n L ds (.code (.label l)::k) cs s:=λT K=>Judge.CZ rfl (λw=>by simp [G,stepG,stepG.exec,fr]) (h T K)
theorem Mq{i:Nat}(h:JL J Q b n L ds k cs s):JL J Q b n L ds (.inBlock i::k) cs s:=λT K=>Judge.CZ rfl (λw=>by simp [G,stepG,stepG.exec,fr]) (h T K)
theorem Up{c:Code}(h:JL J Q b n L ds k cs s):JL J Q b n L ds (.inScope c::k) cs s:=λT K=>Judge.CZ rfl (λw=>by simp [G,stepG,stepG.exec,fr]) (h T K)
theorem JL.seq{x y:Code}(h:JL J Q b n L ds (.code x:: .code y::k) cs s):JL J Q b n L ds (.code (.seq x y)::k) cs s:=λT K=>Judge.CZ rfl (λw=>by simp [G,stepG,stepG.exec,fr]) (h T K)
theorem JL.block{i:Nat}{c:Code}(h:JL J Q b n L ds (.code c:: .inBlock i::k) cs s):JL J Q b n L ds (.code (.block i c)::k) cs s:=λT K=>Judge.CZ rfl (λw=>by simp [G,stepG,stepG.exec,fr]) (h T K)
theorem JL.scope{c:Code}(h:JL J Q b n L ds (.code c:: .inScope c::k) cs s):JL J Q b n L ds (.code (.scope c)::k) cs s:=λT K=>Judge.CZ rfl (λw=>by simp [G,stepG,stepG.exec,fr]) (h T K)
theorem IC{c:Code}(h:JL J Q b n L ds (.code c:: .inLoop c::k) cs s):JL J Q b n L ds (.code (.loop c)::k) cs s:=λT K=>Judge.CZ rfl (λw=>by simp [G,stepG,stepG.exec,fr]) (h T K)
theorem JL.again{c:Code}(h:JL J Q b n L ds (.code c:: .inLoop c::k) cs s):JL J Q b n L ds (.inLoop c::k) cs s:=λT K=>Judge.CZ rfl (λw=>by simp [G,stepG,stepG.exec,fr]) (h T K)
theorem JL.exit{i:Nat}{k':Li_}(K:exitTo i k=some k')(h:JL J Q b n L ds k' cs s):JL J Q b n L ds (.code (.exit i)::k) cs s:=λT O=>Judge.CZ rfl (λw=>by simp [G,stepG,stepG.exec,fr,K]) (h T O)
theorem R8(T:Av_)(todo:Li_)(x:Operand):(fr b T ds todo).eval x=Bs T x:=by cases x <;> rfl
theorem Rf(T:Av_)(todo:Li_):(fr b T ds todo).eval=Bs T:=funext (R8 T todo)
theorem JL.cond{c:Operand}{x y:Code}{t:Bool}(U:ev L c=some (.bool t))(h:JL J Q b n L ds (.code (if t then x else y)::k) cs s):JL J Q b n L ds (.code (.cond c x y)::k) cs s:=λT O=>
 Judge.CZ rfl (λw=>by
  have K:=R8 (b:=b) (ds:=ds) T (.code (.cond c x y)::k) c
  rw [O.ev U] at K
  simp only [fr] at K
  simp [G,stepG,stepG.exec,fr,K]) (h T O)
theorem Vb{c:Operand}{x y:Code}(K:ev L c=some (.bool true))(h:JL J Q b n L ds (.code x::k) cs s):JL J Q b n L ds (.code (.cond c x y)::k) cs s:=JL.cond K h
theorem U1{c:Operand}{x y:Code}(K:ev L c=some (.bool false))(h:JL J Q b n L ds (.code y::k) cs s):JL J Q b n L ds (.code (.cond c x y)::k) cs s:=JL.cond K h
theorem OH{c:Operand}{x y:Code}{t:Bool}(K:ev L c=some (.bool t))(O:t=true->JL J Q b n L ds (.code x::k) cs s)(U:t=false->JL J Q b n L ds (.code y::k) cs s):JL J Q b n L ds (.code (.cond c x y)::k) cs s:=by
 cases t
 ·exact JL.cond K (U rfl)
 ·exact JL.cond K (O rfl)
theorem F8{c:Operand}{x y:Code}{p:Prop} [Decidable p] (K:ev L c=some (.bool (decide p)))(O:p->JL J Q b n L ds (.code x::k) cs s)(U:¬p->JL J Q b n L ds (.code y::k) cs s):JL J Q b n L ds (.code (.cond c x y)::k) cs s:=
 OH K (λh=>O (of_decide_eq_true h)) (λh=>U (of_decide_eq_false h))
theorem JL.loop{α:Type}{c:Code}(I:α->Prop)(O:α->Nat)(U:α->Env)(Y:α->St)(Z:α)(ac:I Z)(ag:L=U Z)(al:s=Y Z)
  (round:∀a,I a->(∀K,I K->O K<O a->JL J Q b n (U K) ds (.inLoop c::k) cs (Y K))->JL J Q b n (U a) ds (.code c:: .inLoop c::k) cs (Y a)):
  JL J Q b n L ds (.code (.loop c)::k) cs s:=by
 refine IC ?_;subst ag al;have key:∀m a,O a=m->I a->JL J Q b n (U a) ds (.code c:: .inLoop c::k) cs (Y a):=by
  intro m
  induction m using Nat.strongRecOn with
  | _ m am=>intro a hm ap;exact round a ap λK aq av=>JL.again (am (O K) (hm▸av) K rfl aq)
 exact key _ Z rfl ac
theorem JL.region{id:Nat}{ops:Ao_}(h:JL J Q b n L ds (.inRegion ops (List.range ops.size)::k) cs s):JL J Q b n L ds (.code (.region id ops false)::k) cs s:=λT K=>Judge.CZ rfl (λw=>by simp [G,stepG,stepG.exec,fr]) (h T K)
theorem JL.done{ops:Ao_}(h:JL J Q b n L ds k cs s):JL J Q b n L ds (.inRegion ops []::k) cs s:=λT K=>Judge.CZ rfl (λw=>by simp [G,stepG,stepG.exec,fr]) (h T K)
theorem Se{id:Nat}{ops:Ao_}(K:s.q=false)(hm:P.follows .mixedOrders=true)(h:∀t,JL J Q b n L ds (.inRegion ops (Region.linearise .any ops t)::k) cs s):JL J Q b n L ds (.code (.region id ops true)::k) cs s:=λT O=>by
 refine J.step ⟨rfl,λw f=>⟨_,s,{w with drawn:=w.drawn+1},#[],?_,h (w.tape w.drawn (.order b.fn id)) T O,⟨f.e,f.h,f.d⟩,⟨Nat.le_refl _,λ_ _ _=>rfl,λ_ h=> .inl h,λ_ _ h=>h,λ_ h=> .inl h,rfl,rfl,rfl⟩,by simp⟩,λe=>by subst e;cases K⟩
 simp [G,stepG,stepG.exec,fr,choose,Sem.run,Question.forced,Question.cut,Region.schedule,hm]
theorem Gq(T:Av_)(ops:Ao_)(i:Nat)(rest:List Nat)(v:Value)(o:Oper)(K:ops[i]? =some o):
  (fr b T ds (.inRegion ops (i::rest)::k)).finish v=fr b (Cv T o.dst v) ds (.inRegion ops rest::k):=by
 cases hd:o.dst <;> simp [Frame.finish,fr,K,hd,Cv]
theorem stepG_op{main:Bool}{T:Av_}{ops:Ao_}{i:Nat}{rest:List Nat}{o:Oper}{w:World}(K:ops[i]? =some o)(hw:Region.wanted o (yielded ops T)=true):
  stepG P main (G (fr b T ds (.inRegion ops (i::rest)::k)) cs) w=
   match b.roundOf,o.op with
   | some l,.defer c=>stepG.apply P true (fr b T ds (.inRegion ops (i::rest)::k)) cs none (do Instr.deferInRound l (← resolve (Bs T) c o.type);pure .skip) w
   | _,_=>stepG.apply P true (fr b T ds (.inRegion ops (i::rest)::k)) cs none (execOp (Bs T) o) w:=by
 have he:=Rf (b:=b) (ds:=ds) T (.inRegion ops (i::rest)::k);simp only [fr] at he;simp only [G,stepG,stepG.exec,fr,K,Option.map_some,Option.getD_some,hw,if_true,stepG.oper,Frame.oper?,he]
 rfl
theorem FU(T:Av_)(todo:Li_):(fr b T ds todo).fn=b.fn:=rfl
theorem H8(T:Av_)(todo:Li_):(fr b T ds todo).todo=todo:=rfl
def upon(J:Judge P)(Q:Gs_)(b:Frame)(T:Av_)(ds:Ld_)(ops:Ao_)(i:Nat)(rest:List Nat)(k:Li_)(cs:Lf_)(dst:Option Tmp):Next->St->Prop
 | .value v,s=>J.ok Q (G (fr b (Cv T dst v) ds (.inRegion ops rest::k)) cs) s
 | .skip,s=>J.ok Q (G (fr b (Cv T dst undef) ds (.inRegion ops rest::k)) cs) s
 | .defer d,s=>J.ok Q (G (fr b (Cv T dst undef) (d::ds) (.inRegion ops rest::k)) cs) s
 | .enter f args,s=>J.ok Q (G (Frame.enter P f args .normal) (fr b T ds (.inRegion ops (i::rest)::k)::cs)) s
 | .round l f tmps assign body,s=>J.ok Q (G (Frame.round l f tmps assign body .normal) (fr b T ds (.inRegion ops (i::rest)::k)::cs)) s
 | _,_=>False
def K4(J:Judge P)(Q:Gs_)(b:Frame)(T:Av_)(ds:Ld_)(ops:Ao_)(i:Nat)(rest:List Nat)(k:Li_)(cs:Lf_):Halt->St->Prop
 | .panic v,s=>J.ok Q (G ((fr b T ds (.inRegion ops (i::rest)::k)).raise [{v,recovered:=false}]) cs) s
 | _,_=>False
theorem OO{s:St}{w w':World}{fn:FuncId}{es:Array Event}(h:∀e∈es,Ev s w w' e):∀e∈seen P fn es,Ev s w w' e:=λe he=>h e (mem_seen he)
theorem Judge.oper{T:Av_}{ops:Ao_}{i:Nat}{rest:List Nat}{o:Oper}(al:ops[i]? =some o)(hw:Region.wanted o (yielded ops T)=true)(ay:b.kind≠ .early)
  (hd:b.roundOf=none∨∀c,o.op≠ .defer c)
  (h:lp P (execOp (Bs T) o) s (upon J Q b T ds ops i rest k cs o.dst) (K4 J Q b T ds ops i rest k cs)):
  J.ok Q (G (fr b T ds (.inRegion ops (i::rest)::k)) cs) s:=by
 have U:((fr b T ds (.inRegion ops (i::rest)::k)).kind==CallKind.early)=false:=by simpa [fr] using ay
 have av:∀w,stepG P J.main (G (fr b T ds (.inRegion ops (i::rest)::k)) cs) w=stepG.apply P true (fr b T ds (.inRegion ops (i::rest)::k)) cs none (execOp (Bs T) o) w:=by
  intro w;rw [stepG_op al hw];split
  ·rename_i l c aw e2;rcases hd with hd | hd
   ·rw [hd] at aw;cases aw
   ·exact absurd e2 (hd c)
  ·rfl
 refine J.step ⟨rfl,λw f=>?_,λe=>?_⟩
 rotate_left
 ·subst e;simp only [av];have am:=λv=>Gq (b:=b) (ds:=ds) (k:=k) T ops i rest v o al;obtain⟨es,he,Y,h⟩:=RB _ h;have ag:seen P b.fn es= #[]:=Ql Y;rcases h with⟨ap,K,O⟩ | ⟨x,K,O⟩
  ·cases ap with
   | value v=>exact⟨_,λw=>by simp [stepG.apply,O,U,GStep.after,G,am,FU,he,ag],K⟩
   | skip=>exact⟨_,λw=>by simp [stepG.apply,O,U,GStep.after,G,am,FU,he,ag],K⟩
   | enter g args=>exact⟨_,λw=>by simp [stepG.apply,O,U,GStep.after,G,FU,H8,he,ag],K⟩
   | round l g tm as az=>exact⟨_,λw=>by simp [stepG.apply,O,U,GStep.after,G,FU,H8,he,ag],K⟩
   | defer d=>
    have aq:=Gq (b:=b) (ds:=d::ds) (k:=k) T ops i rest undef o al;exact⟨_,λw=>by rw [← aq];simp [stepG.apply,O,U,GStep.after,G,FU,H8,he,ag];rfl,K⟩
   | _=>exact K.elim
  ·cases x with
   | panic v=>exact⟨_,λw=>by simp [stepG.apply,O,U,GStep.after,G,FU,H8,he,ag],K⟩
   | _=>exact K.elim
 obtain⟨s',Z,ac,aI,K⟩:=MG _ h f;rw [av];have Y:=OO (P:=P) (fn:=b.fn) aI;have am:=λv=>Gq (b:=b) (ds:=ds) (k:=k) T ops i rest v o al;cases O:(execOp (Bs T) o).run P w with
 | ok ap w'=>
  rw [O] at Z ac K Y;simp only [Kq] at Z ac Y;cases ap with
  | value v=>exact⟨_,s',w',seen P b.fn ((execOp (Bs T) o).events P w #[])++ #[],by simp [stepG.apply,O,U,GStep.after,G,am,FU],K,Z,ac,by simpa using Y⟩
  | skip=>exact⟨_,s',w',seen P b.fn ((execOp (Bs T) o).events P w #[])++ #[],by simp [stepG.apply,O,U,GStep.after,G,am,FU],K,Z,ac,by simpa using Y⟩
  | enter g args=>exact⟨_,s',w',seen P b.fn ((execOp (Bs T) o).events P w #[])++ #[],by simp [stepG.apply,O,U,GStep.after,G,FU,H8],K,Z,ac,by simpa using Y⟩
  | round l g tm as az=>exact⟨_,s',w',seen P b.fn ((execOp (Bs T) o).events P w #[])++ #[],by simp [stepG.apply,O,U,GStep.after,G,FU,H8],K,Z,ac,by simpa using Y⟩
  | defer d=>
   have aq:=Gq (b:=b) (ds:=d::ds) (k:=k) T ops i rest undef o al;exact⟨_,s',w',seen P b.fn ((execOp (Bs T) o).events P w #[])++ #[],by
    rw [← aq];simp [stepG.apply,O,U,GStep.after,G,FU,H8];rfl,K,Z,ac,by simpa using Y⟩
  | _=>exact K.elim
 | halt x w'=>
  rw [O] at Z ac K Y;simp only [Kq] at Z ac Y;cases x with
  | panic v=>exact⟨_,s',w',seen P b.fn ((execOp (Bs T) o).events P w #[])++ #[],by simp [stepG.apply,O,U,GStep.after,G,FU,H8],K,Z,ac,by simpa using Y⟩
  | _=>exact K.elim
theorem Judge.unwanted{T:Av_}{ops:Ao_}{i:Nat}{rest:List Nat}{o:Oper}(K:ops[i]? =some o)(hw:Region.wanted o (yielded ops T)=false)
  (h:J.ok Q (G (fr b (Cv T o.dst undef) ds (.inRegion ops rest::k)) cs) s):J.ok Q (G (fr b T ds (.inRegion ops (i::rest)::k)) cs) s:=by
 refine Judge.CZ rfl (λw=>?_) h;have O:=Gq (b:=b) (ds:=ds) (k:=k) T ops i rest undef o K;rw [← O];simp [G,stepG,stepG.exec,fr,K,hw]
end
end Pal
namespace Pal
open Go Go.Conc
def Yl(P:Program)(o:Oper)(ρ:Operand->Value)(s:St)(v:Value):Prop:=lp P (execOp ρ o) s (λK s'=>K= .value v/\s'=s) (λ_ _=>False)
def EL(L:Env)(ρ:Operand->Value):Prop:=∀x v,ev L x=some v->ρ x=v
def AJ(L:Env)(ops:Ao_)(o:Oper):Option Bool:=
 match o.guard with
 | none=>some true
 | some (j,K)=>match(ops[j]?).bind (·.dst) with
  | some d=>match look L d with
   | some (.bool b)=>some (b==K)
   | some (.tuple _)=>some false
   | _=>none
  | none=>none
section
variable {P:Program}{J:Judge P}{Q:Gs_}{b:Frame}{n:Nat}{L L':Env}{ds:Ld_}{k:Li_}{cs:Lf_}{s s':St}
theorem Has.Gb{T:Av_}(h:Has n L T):EL L (Bs T):=λ_ _ e=>h.ev e
theorem getD_some{T:Av_}{d:Nat}{c:Bool}(h:T.getD d undef= .bool c):T[d]? =some (.bool c):=by
 rw [Array.getD_eq_getD_getElem?] at h;cases K:T[d]? with
 | none=>rw [K] at h;simp [undef] at h
 | some v=>rw [K] at h;simp at h;rw [h]
theorem B3{T:Av_}{ops:Ao_}{o:Oper}{c:Bool}(h:Has n L T)(hw:AJ L ops o=some c):Region.wanted o (yielded ops T)=c:=by
 unfold AJ at hw;unfold Region.wanted;cases K:o.guard with
 | none=>rw [K] at hw;simpa using hw
 | some p=>
  obtain⟨j,Y⟩:=p;rw [K] at hw;simp only at hw ⊢;cases hd:(ops[j]?).bind (·.dst) with
  | none=>rw [hd] at hw;simp at hw
  | some d=>
   rw [hd] at hw;simp only at hw;cases O:look L d with
   | none=>rw [O] at hw;simp at hw
   | some v=>
    rw [O] at hw;cases v with
    | bool x=>
     simp only [Option.some.injEq] at hw;have:=getD_some (h.at_ d _ O);simp only [yielded,hd,Option.bind_some,this];simp [← hw]
    | tuple c=>
     simp only [Option.some.injEq] at hw;have K:=h.at_ d _ O;simp only [yielded,hd,Option.bind_some];cases U:T[d]? with
     | none=>simp [← hw]
     | some u=>
      have:u= .tuple c:=by rw [Array.getD_eq_getD_getElem?,U] at K;exact K
      subst this;simp [← hw]
    | _=>simp at hw
def Eh:Op->Bool | .defer _=>true | _=>false
def BH(b:Frame)(n:Nat)(o:Oper):Bool:=(b.kind != .early)&&(Bd n o.dst&& !Eh o.op)
theorem Yl.out{P:Program}{o:Oper}{ρ:Operand->Value}{s:St}{v:Value}(h:Yl P o ρ s v):Pal.lp P (execOp ρ o) s (λK s'=>K= .value v/\s'=s) (λ_ _=>False):=by unfold Yl at h;exact h
theorem AY{ops:Ao_}{i:Nat}{rest:List Nat}{o:Oper}{v:Value}(U:ops[i]? =some o)(hw:AJ L ops o=some true)(K:BH b n o=true)
  (h:∀ρ,EL L ρ->Yl P o ρ s v) (Y:JL J Q b n (As L o.dst v) ds (.inRegion ops rest::k) cs s):
  JL J Q b n L ds (.inRegion ops (i::rest)::k) cs s:=λT O=>by
 simp only [BH,Bool.and_eq_true] at K
 obtain⟨K,Z,hd⟩:=K
 refine Judge.oper U (B3 O hw) (by simpa using K) (.inr λc ac=>by rw [ac] at hd;simp [Eh] at hd) (Ee _ (h _ O.Gb).out ?_ ?_)
 ·rintro al s' ⟨rfl,rfl⟩
  exact Y _ (O.put Z v)
 ·intro _ _ ag;exact ag.elim
theorem Ie{ops:Ao_}{i:Nat}{rest:List Nat}{o:Oper}(O:ops[i]? =some o)(hw:AJ L ops o=some false)(U:Bd n o.dst=true)
  (Y:JL J Q b n (As L o.dst undef) ds (.inRegion ops rest::k) cs s):
  JL J Q b n L ds (.inRegion ops (i::rest)::k) cs s:=λ_ K=>
 Judge.unwanted O (B3 K hw) (Y _ (K.put U undef))
theorem JL.op{ops:Ao_}{i:Nat}{rest:List Nat}{o:Oper}(ac:ops[i]? =some o)(hw:AJ L ops o=some true)(K:BH b n o=true)
  (h:∀ρ,EL L ρ->lp P (execOp ρ o) s (λU s'=>match U with
   | .value v=>JL J Q b n (As L o.dst v) ds (.inRegion ops rest::k) cs s'
   | .skip=>JL J Q b n (As L o.dst undef) ds (.inRegion ops rest::k) cs s'
   | _=>False) (λ_ _=>False)):
  JL J Q b n L ds (.inRegion ops (i::rest)::k) cs s:=λT O=>by
 simp only [BH,Bool.and_eq_true] at K
 obtain⟨K,Z,hd⟩:=K
 refine Judge.oper ac (B3 O hw) (by simpa using K) (.inr λc ag=>by rw [ag] at hd;simp [Eh] at hd) (Ee _ (h _ O.Gb) ?_ ?_)
 ·intro U s' Y
  cases U with
  | value v=>exact Y _ (O.put Z v)
  | skip=>exact Y _ (O.put Z undef)
  | _=>exact Y.elim
 ·intro _ _ al;exact al.elim
end
section
variable {P:Program}{ρ:Operand->Value}{s:St}{x y z:Operand}{d:Option Tmp}{t u ty:TypeId}{p:String}{af:Ae_}{g:On_}{v:Value}{kd kd':IntKind}{m m':Int}
theorem Yl.move(K:ρ x=v):Yl P ⟨d,.move x,ty,p,af,g⟩ ρ s v:=by simp [Yl,execOp,lp,pure,K]
theorem Yl.assign(K:ρ x=v):Yl P ⟨d,.assign x,ty,p,af,g⟩ ρ s v:=by simp [Yl,execOp,lp,pure,K]
theorem Lt(K:ρ z= .bool true)(O:ρ x=v):Yl P ⟨d,.pick z x y,ty,p,af,g⟩ ρ s v:=by simp [Yl,execOp,lp,pure,bind,Sem.bind,asBool,K,O]
theorem Vy(K:ρ z= .bool false)(O:ρ y=v):Yl P ⟨d,.pick z x y,ty,p,af,g⟩ ρ s v:=by simp [Yl,execOp,lp,pure,bind,Sem.bind,asBool,K,O]
theorem Yl.lss(K:ρ x= .int kd m)(O:ρ y= .int kd m'):Yl P ⟨d,.binOp .lss t x y u,ty,p,af,g⟩ ρ s (.bool (decide (m<m'))):=by
 simp [Yl,execOp,lp,pure,bind,Sem.bind,K,O,eqGuard,Go.binOp,Op.intCmp]
theorem Yl.leq(K:ρ x= .int kd m)(O:ρ y= .int kd m'):Yl P ⟨d,.binOp .leq t x y u,ty,p,af,g⟩ ρ s (.bool (decide (m<=m'))):=by
 simp [Yl,execOp,lp,pure,bind,Sem.bind,K,O,eqGuard,Go.binOp,Op.intCmp]
theorem Yl.gtr(K:ρ x= .int kd m)(O:ρ y= .int kd m'):Yl P ⟨d,.binOp .gtr t x y u,ty,p,af,g⟩ ρ s (.bool (decide (m'<m))):=by
 simp [Yl,execOp,lp,pure,bind,Sem.bind,K,O,eqGuard,Go.binOp,Op.intCmp]
theorem Yl.geq(K:ρ x= .int kd m)(O:ρ y= .int kd m'):Yl P ⟨d,.binOp .geq t x y u,ty,p,af,g⟩ ρ s (.bool (decide (m'<=m))):=by
 simp [Yl,execOp,lp,pure,bind,Sem.bind,K,O,eqGuard,Go.binOp,Op.intCmp]
theorem Yl.eql(K:ρ x= .int kd m)(O:ρ y= .int kd m'):Yl P ⟨d,.binOp .eql t x y u,ty,p,af,g⟩ ρ s (.bool (decide (m=m'))):=by
 simp [Yl,execOp,lp,pure,bind,Sem.bind,K,O,eqGuard,Go.binOp,Op.intCmp];rfl
theorem Yl.neq(K:ρ x= .int kd m)(O:ρ y= .int kd m'):Yl P ⟨d,.binOp .neq t x y u,ty,p,af,g⟩ ρ s (.bool (!decide (m=m'))):=by
 simp [Yl,execOp,lp,pure,bind,Sem.bind,K,O,eqGuard,Go.binOp,Op.intCmp];rfl
theorem Yl.add(K:ρ x= .int kd m)(O:ρ y= .int kd m'):Yl P ⟨d,.binOp .add t x y u,ty,p,af,g⟩ ρ s (.int kd (kd.wrap (m+m'))):=by
 simp [Yl,execOp,lp,pure,bind,Sem.bind,K,O,eqGuard,Go.binOp,Op.intArith]
theorem Yl.sub(K:ρ x= .int kd m)(O:ρ y= .int kd m'):Yl P ⟨d,.binOp .sub t x y u,ty,p,af,g⟩ ρ s (.int kd (kd.wrap (m - m'))):=by
 simp [Yl,execOp,lp,pure,bind,Sem.bind,K,O,eqGuard,Go.binOp,Op.intArith]
theorem Yl.mul(K:ρ x= .int kd m)(O:ρ y= .int kd m'):Yl P ⟨d,.binOp .mul t x y u,ty,p,af,g⟩ ρ s (.int kd (kd.wrap (m*m'))):=by
 simp [Yl,execOp,lp,pure,bind,Sem.bind,K,O,eqGuard,Go.binOp,Op.intArith]
theorem Jq{a:Int}(h: -9223372036854775808<=a/\a<=9223372036854775807):IntKind.i64.wrap a=a:=by
 simp only [IntKind.wrap,IntKind.bits,IntKind.signed];simp;split <;> omega
theorem XH(K:ρ x= .int .i64 m)(O:ρ y= .int .i64 m')(hb: -9223372036854775808<=m+m'/\m+m'<=9223372036854775807):Yl P ⟨d,.binOp .add t x y u,ty,p,af,g⟩ ρ s (.int .i64 (m+m')):=by
 have:=Yl.add (P:=P) (s:=s) (d:=d) (t:=t) (u:=u) (ty:=ty) (p:=p) (af:=af) (g:=g) K O;rwa [Jq hb] at this
theorem Xn(K:ρ x= .int .i64 m)(O:ρ y= .int .i64 m')(hb: -9223372036854775808<=m - m'/\m - m'<=9223372036854775807):Yl P ⟨d,.binOp .sub t x y u,ty,p,af,g⟩ ρ s (.int .i64 (m - m')):=by
 have:=Yl.sub (P:=P) (s:=s) (d:=d) (t:=t) (u:=u) (ty:=ty) (p:=p) (af:=af) (g:=g) K O;rwa [Jq hb] at this
theorem Xh(K:ρ x= .int .i64 m)(O:ρ y= .int .i64 m')(hb: -9223372036854775808<=m*m'/\m*m'<=9223372036854775807):Yl P ⟨d,.binOp .mul t x y u,ty,p,af,g⟩ ρ s (.int .i64 (m*m')):=by
 have:=Yl.mul (P:=P) (s:=s) (d:=d) (t:=t) (u:=u) (ty:=ty) (p:=p) (af:=af) (g:=g) K O;rwa [Jq hb] at this
theorem Yl.rem(K:ρ x= .int kd m)(O:ρ y= .int kd m')(U:m'≠0):Yl P ⟨d,.binOp .rem t x y u,ty,p,af,g⟩ ρ s (.int kd (m.tmod m')):=by
 simp [Yl,execOp,lp,pure,bind,Sem.bind,K,O,eqGuard,Go.binOp,Op.intDiv,U]
theorem Yl.quo(K:ρ x= .int kd m)(O:ρ y= .int kd m')(U:m'≠0):Yl P ⟨d,.binOp .quo t x y u,ty,p,af,g⟩ ρ s (.int kd (kd.wrap (m.tdiv m'))):=by
 simp [Yl,execOp,lp,pure,bind,Sem.bind,K,O,eqGuard,Go.binOp,Op.intDiv,U]
theorem Yl.and(K:ρ x= .int kd m)(O:ρ y= .int kd m'):Yl P ⟨d,.binOp .and t x y u,ty,p,af,g⟩ ρ s (.int kd (kd.wrap (BitVec.ofInt kd.bits m&&& BitVec.ofInt kd.bits m').toNat)):=by
 simp [Yl,execOp,lp,pure,bind,Sem.bind,K,O,eqGuard,Go.binOp,Op.intBits]
theorem Yl.or(K:ρ x= .int kd m)(O:ρ y= .int kd m'):Yl P ⟨d,.binOp .or t x y u,ty,p,af,g⟩ ρ s (.int kd (kd.wrap (BitVec.ofInt kd.bits m ||| BitVec.ofInt kd.bits m').toNat)):=by
 simp [Yl,execOp,lp,pure,bind,Sem.bind,K,O,eqGuard,Go.binOp,Op.intBits]
theorem Yl.xor(K:ρ x= .int kd m)(O:ρ y= .int kd m'):Yl P ⟨d,.binOp .xor t x y u,ty,p,af,g⟩ ρ s (.int kd (kd.wrap (BitVec.ofInt kd.bits m ^^^ BitVec.ofInt kd.bits m').toNat)):=by
 simp [Yl,execOp,lp,pure,bind,Sem.bind,K,O,eqGuard,Go.binOp,Op.intBits]
theorem Yl.shl(K:ρ x= .int kd m)(O:ρ y= .int kd' m')(U:0<=m'):Yl P ⟨d,.binOp .shl t x y u,ty,p,af,g⟩ ρ s (.int kd (kd.wrap (m*2 ^ (min m'.toNat kd.bits)))):=by
 have:¬m'<0:=by omega
 simp [Yl,execOp,lp,pure,bind,Sem.bind,K,O,eqGuard,Go.binOp,Op.shift,this]
theorem Yl.shr(K:ρ x= .int kd m)(O:ρ y= .int kd' m')(U:0<=m'):Yl P ⟨d,.binOp .shr t x y u,ty,p,af,g⟩ ρ s (.int kd (m.fdiv (2 ^ (min m'.toNat kd.bits)))):=by
 have:¬m'<0:=by omega
 simp [Yl,execOp,lp,pure,bind,Sem.bind,K,O,eqGuard,Go.binOp,Op.shift,this]
theorem Yl.not{c:Bool}(K:ρ x= .bool c):Yl P ⟨d,.unOp .not t x,ty,p,af,g⟩ ρ s (.bool (!c)):=by
 simp [Yl,execOp,lp,pure,bind,Sem.bind,K,Op.unary]
theorem XD(K:ρ x= .int .i64 m)(hb: -9223372036854775808<= -m/\ -m<=9223372036854775807):Yl P ⟨d,.unOp .neg t x,ty,p,af,g⟩ ρ s (.int .i64 (-m)):=by
 simp [Yl,execOp,lp,pure,bind,Sem.bind,K,Op.unary,Op.intArith,Jq hb]
theorem EW(K:P.underlying t=some (.int kd'))(hu:P.underlying u=some (.int kd))(O:ρ x= .int kd' m):Yl P ⟨d,.convert t u x,ty,p,af,g⟩ ρ s (.int kd (kd.wrap m)):=by
 simp [Yl,execOp,lp,pure,bind,Sem.bind,O,Go.convert,underlying,program,K,hu,Conv.intToInt]
theorem Yl.extract{vs:Av_}{i:Nat}(K:ρ x= .tuple vs)(hi:vs[i]? =some v):Yl P ⟨d,.extract x i,ty,p,af,g⟩ ρ s v:=by
 simp [Yl,execOp,lp,pure,bind,Sem.bind,K,Instr.extract,hi]
theorem Yl.nilCheck{a:Addr}(K:ρ x= .pointer (some a)):Yl P ⟨d,.nilCheck x,ty,p,af,g⟩ ρ s (.pointer (some a)):=by
 simp [Yl,execOp,lp,pure,K]
theorem Yl.len{a:Option Addr}{e:TypeId}{l c:Nat}{ats:Array TypeId}(K:ats[0]? =some t)(O:P.underlying t=some (.slice e))(U:ρ x= .slice a l c):
  Yl P ⟨d,.call ⟨.builtin .len,#[x],ats⟩,ty,p,af,g⟩ ρ s (.int .i64 l):=by
 simp [Yl,execOp,lp,pure,bind,Sem.bind,U,resolve,invoke,builtin,Builtin.len_,K,underlying,program,O,goInt]
theorem On{dsc:TypeDesc}(K:P.underlying t=some dsc)(O:∀ms,dsc≠ .interface ms)(U:ρ x=v):Yl P ⟨d,.makeInterface t x,ty,p,af,g⟩ ρ s (.iface t v):=by
 have:lp P (Instr.makeInterface t v) s (λr s'=>r= .iface t v/\s'=s) (λ_ _=>False):=by
  unfold Instr.makeInterface;simp only [lp,bind,Sem.bind,underlying,program,K];cases dsc <;> first | exact⟨rfl,rfl⟩ | exact absurd rfl (O _)
 simp only [Yl,execOp,U];exact Au _ _ (Ee _ this (λr s' ⟨Y,Z⟩=>⟨by rw [Y],Z⟩) (λ_ _ h=>h))
theorem KD{fn:Fn}{a c:Array Operand}{va K:Av_}(O:a.map ρ=va)(U:c.map ρ=K):Yl P ⟨d,.makeFunc fn a c,ty,p,af,g⟩ ρ s (.func fn va K):=by
 simp [Yl,execOp,lp,pure,bind,Sem.bind,Instr.makeFunc,O,U]
end
attribute [irreducible] Yl
end Pal
namespace Pal
open Go Go.Conc
def Le(E E':LH):Prop:=∀b o,E b=some o->E' b=some o
theorem Le.refl(E:LH):Le E E:=λ_ _ h=>h
theorem Le.trans{E E' K:LH}(h:Le E E')(k:Le E' K):Le E K:=λb o x=>k b o (h b o x)
theorem Az{E:LH}:Le E E:=Le.refl E
theorem Le.Ad{a b c:LH}(h:Le a b)(k:Le b c):Le a c:=h.trans k
def A9:List (Nat×Obj)->LH->LH
 | [],H=>H
 | (b,o)::B,H=>λx=>if x=b then some o else A9 B H x
def mk(E H:LH)(B:List (Nat×Obj)):St:=⟨E,A9 B H,false⟩
def Nd(E H:LH):List (Nat×Obj)->Prop
 | []=>True
 | (b,_)::B=>E b=none/\H b=none/\(∀p∈B,p.1≠b)/\Nd E H B
theorem QG{H:LH}{b:Nat}:∀{B:List (Nat×Obj)},H b=none->(∀p∈B,p.1≠b)->A9 B H b=none
 | [],h,_=>h
 | (c,o)::B,h,hb=>by
  have K:b≠c:=λe=>hb (c,o) (by simp) e.symm
  simp only [A9,if_neg K]
  exact QG h λp O=>hb p (List.mem_cons_of_mem _ O)
theorem HW{H:LH}{b:Nat}:∀{B:List (Nat×Obj)},A9 B H b=none->H b=none/\∀p∈B,p.1≠b
 | [],h=>⟨h,by simp⟩
 | (c,o)::B,h=>by
  simp only [A9] at h
  split at h
  ·cases h
  ·rename_i O;obtain⟨U,Y⟩:=HW h;refine⟨U,λp K=>?_⟩;rcases List.mem_cons.1 K with rfl | K
   ·exact λe=>O e.symm
   ·exact Y p K
theorem Qd{H:LH}{x:Nat}{o:Obj}{r:Nat}:∀{B:List (Nat×Obj)},(∀p∈B,p.1≠r)->A9 (B++ [(r,o)]) H x=if x=r then some o else A9 B H x
 | [],_=>rfl
 | (c,u)::B,h=>by
  simp only [List.cons_append,A9]
  by_cases e:x=c
  ·subst e
   have:x≠r:=λe=>h (x,u) (by simp) e;simp [this]
  ·simp only [if_neg e];exact Qd λp K=>h p (List.mem_cons_of_mem _ K)
theorem Nd.append{E H:LH}{r:Nat}{o:Obj}(O:E r=none)(U:H r=none):∀{B:List (Nat×Obj)},(∀p∈B,p.1≠r)->Nd E H B->Nd E H (B++ [(r,o)])
 | [],_,_=>⟨O,U,by simp,trivial⟩
 | (c,u)::B,h,Y=>by
  obtain⟨Z,ac,ag,al⟩:=Y
  refine⟨Z,ac,λp K=>?_,Nd.append O U (λp K=>h p (List.mem_cons_of_mem _ K)) al⟩
  rcases List.mem_append.1 K with K | K
  ·exact ag p K
  ·simp at K;subst K;exact λe=>h (c,u) (by simp) e.symm
theorem I2{E H:LH}{b:Nat}{o:Obj}:∀{B:List (Nat×Obj)} {i:Nat},Nd E H B->B[i]? =some (b,o)->A9 B H b=some o
 | [],_,_,h=>by simp at h
 | (c,u)::B,0,_,h=>by simp at h;obtain⟨rfl,rfl⟩:=h;simp [A9]
 | (c,u)::B,i+1,K,h=>by
  simp at h
  have O:b≠c:=K.2.2.1 (b,o) (List.mem_of_getElem? h)
  simp only [A9,if_neg O]
  exact I2 K.2.2.2 h
theorem QQ{E H:LH}{b:Nat}{o o':Obj}:∀{B:List (Nat×Obj)} {i:Nat},Nd E H B->B[i]? =some (b,o)->A9 (B.set i (b,o')) H=λx=>if x=b then some o' else A9 B H x
 | [],_,_,h=>by simp at h
 | (c,u)::B,0,_,h=>by
  simp at h;obtain⟨rfl,rfl⟩:=h
  funext x
  simp only [List.set_cons_zero,A9]
  split <;> rfl
 | (c,u)::B,i+1,K,h=>by
  simp at h
  have O:b≠c:=K.2.2.1 (b,o) (List.mem_of_getElem? h)
  funext x
  simp only [List.set_cons_succ,A9]
  rw [QQ K.2.2.2 h]
  by_cases e:x=c
  ·subst e;simp [Ne.symm O]
  ·simp [e]
theorem Nd.set{E H:LH}{b:Nat}{o o':Obj}:∀{B:List (Nat×Obj)} {i:Nat},Nd E H B->B[i]? =some (b,o)->Nd E H (B.set i (b,o'))
 | [],_,_,h=>by simp at h
 | (c,u)::B,0,K,h=>by simp at h;obtain⟨rfl,rfl⟩:=h;exact K
 | (c,u)::B,i+1,K,h=>by
  simp at h
  refine⟨K.1,K.2.1,λp O=>?_,K.2.2.2.set h⟩
  have hm:=List.mem_or_eq_of_mem_set O
  rcases hm with hm | rfl
  ·exact K.2.2.1 p hm
  ·exact K.2.2.1 (b,o) (List.mem_of_getElem? h)
theorem Nd.RR{E H:LH}{b:Nat}{o:Obj}:∀{B:List (Nat×Obj)} {i:Nat},Nd E H B->B[i]? =some (b,o)->E b=none
 | [],_,_,h=>by simp at h
 | (c,u)::B,0,K,h=>by simp at h;obtain⟨rfl,rfl⟩:=h;exact K.1
 | (c,u)::B,i+1,K,h=>by simp at h;exact Nd.RR K.2.2.2 h
theorem Ol{E H:LH}{B:List (Nat×Obj)}{i b:Nat}{o:Obj}(K:Nd E H B)(h:B[i]? =some (b,o)):(mk E H B).get b=some o:=by
 unfold St.get mk;simp only [K.RR h,I2 K h]
theorem Uv{E H:LH}{B:List (Nat×Obj)}{b:Nat}{o:Obj}(h:E b=some o):(mk E H B).get b=some o:=by
 unfold St.get mk;simp only [h]
theorem Ro{E H:LH}{B:List (Nat×Obj)}{i b off:Nat}{c:Av_}{e:TypeId}{f:Nat×Nat}{v:Value}(K:Nd E H B)(h:B[i]? =some (b,.cells c e f))(O:c[off]? =some v):(mk E H B).cell? ⟨b,off,none⟩=some v:=by
 unfold St.cell?;rw [Ol K h];exact O
theorem U7{E H:LH}{B:List (Nat×Obj)}{b off:Nat}{c:Av_}{e:TypeId}{f:Nat×Nat}{v:Value}(h:E b=some (.cells c e f))(K:c[off]? =some v):(mk E H B).cell? ⟨b,off,none⟩=some v:=by
 unfold St.cell?;rw [Uv h];exact K
section
variable {P:Program}{J:Judge P}{Q:Gs_}{b:Frame}{n:Nat}{L L':Env}{ds:Ld_}{k:Li_}{cs:Lf_}{E H:LH}{B B':List (Nat×Obj)}
theorem Kd{r:Nat}(O:(mk E H B).E r=none)(U:(mk E H B).H r=none)(o:Obj)(Y:Nd E H B):Nd E H (B++ [(r,o)])/\(mk E H B).upd r o=mk E H (B++ [(r,o)]):=by
 obtain⟨Z,K⟩:=HW U;refine⟨Nd.append O Z K Y,?_⟩;unfold St.upd mk;congr 1;funext x;exact(Qd K).symm
theorem YB{i bk:Nat}{o o':Obj}(K:Nd E H B)(h:B[i]? =some (bk,o)):(mk E H B).upd bk o'=mk E H (B.set i (bk,o')):=by
 unfold St.upd mk;congr 1;exact(QQ K h).symm
theorem JL.drop(B':List (Nat×Obj))(h:∀p∈B',∃i:Nat,B[i]? =some p)(U:Nd E H B)(k':JL J Q b n L ds k cs (mk E H B')):JL J Q b n L ds k cs (mk E H B):=
 JL.ghost (s':=mk E H B') ⟨λ_ _ h=>h,λx o O=>by
  show A9 B H x=some o
  have key:∀{B':List (Nat×Obj)},(∀p∈B',∃i:Nat,B[i]? =some p)->A9 B' H x=some o->A9 B H x=some o:=by
   intro B'
   induction B' with
   | nil=>
    intro _ O
    have al:∀p∈B,p.1≠x:=by
     intro p K e
     have:∀{B:List (Nat×Obj)},Nd E H B->p∈B->H p.1=none:=by
      intro B U K
      induction B with
      | nil=>simp at K
      | cons q B Y=>
       rcases List.mem_cons.1 K with rfl | K
       ·exact U.2.1
       ·exact Y U.2.2.2 K
     have ac:=this U K
     rw [e] at ac
     have ag:H x=some o:=O
     rw [ac] at ag;cases ag
    have:∀{B:List (Nat×Obj)},(∀p∈B,p.1≠x)->A9 B H x=H x:=by
     intro B Z
     induction B with
     | nil=>rfl
     | cons q B Y=>
      have am:x≠q.1:=λe=>Z q (by simp) e.symm
      obtain⟨c,u⟩:=q
      simp only [A9,if_neg am]
      exact Y λp K=>Z p (List.mem_cons_of_mem _ K)
    rw [this al];exact O
   | cons q B' Y=>
    intro Z O
    obtain⟨c,u⟩:=q
    simp only [A9] at O
    split at O
    ·rename_i e;subst e;cases O
     obtain⟨i,hi⟩:=Z (x,o) (by simp)
     exact I2 U hi
    ·exact Y (λp K=>Z p (List.mem_cons_of_mem _ K)) O
  exact key h O,λ_ _ h=> .inl h,rfl⟩ k'
theorem Lq{x:Nat}:∀{B:List (Nat×Obj)} {i:Nat} {bk:Nat} {o u:Obj},Nd E H B->B[i]? =some (bk,o)->A9 (B.eraseIdx i) H x=some u->x≠bk/\A9 B H x=some u
 | [],_,_,_,_,_,h,_=>by simp at h
 | (c,v)::B,0,bk,o,u,O,h,K=>by
  simp at h;obtain⟨rfl,rfl⟩:=h
  simp only [List.eraseIdx_cons_zero] at K
  have U:x≠c:=by
   intro e;subst e;rw [QG O.2.1 O.2.2.1] at K;cases K
  exact⟨U,by simp only [A9,if_neg U];exact K⟩
 | (c,v)::B,i+1,bk,o,u,O,h,K=>by
  simp at h;simp only [List.eraseIdx_cons_succ,A9] at K ⊢;split at K
  ·rename_i e;subst e;rw [if_pos rfl];exact⟨λe=>O.2.2.1 (bk,o) (List.mem_of_getElem? h) e.symm,K⟩
  ·rename_i e;rw [if_neg e];exact Lq O.2.2.2 h K
theorem JL.freeze(i:Nat){bk:Nat}{o:Obj}(K:Nd E H B)(h:B[i]? =some (bk,o))
  (k':∀E',Le E E'->E' bk=some o->Nd E' H (B.eraseIdx i)->JL J Q b n L ds k cs (mk E' H (B.eraseIdx i))):JL J Q b n L ds k cs (mk E H B):=by
 have ap:=List.mem_of_getElem? h;have aq:E bk=none/\H bk=none:=by
  have:∀{B:List (Nat×Obj)},Nd E H B->(bk,o)∈B->E bk=none/\H bk=none:=by
   intro B K O
   induction B with
   | nil=>simp at O
   | cons q B Y=>
    rcases List.mem_cons.1 O with rfl | O
    ·exact⟨K.1,K.2.1⟩
    ·exact Y K.2.2.2 O
  exact this K ap
 let E':LH:=λx=>if x=bk then some o else E x
 have ag:E' bk=some o:=by simp [E']
 have hle:Le E E':=λx u U=>by
  have:x≠bk:=λe=>by subst e;rw [aq.1] at U;cases U
  simp [E',this,U]
 have av:Nd E' H (B.eraseIdx i):=by
  have:∀{B:List (Nat×Obj)} {i:Nat},Nd E H B->B[i]? =some (bk,o)->Nd E' H (B.eraseIdx i)/\∀p∈B.eraseIdx i,p.1≠bk:=by
   intro B
   induction B with
   | nil=>intro i _ h;simp at h
   | cons q B Y=>
    obtain⟨c,v⟩:=q;intro i K h;have up:∀{B:List (Nat×Obj)},Nd E H B->(∀p∈B,p.1≠bk)->Nd E' H B:=by
     intro B K al
     induction B with
     | nil=>trivial
     | cons q B aw=>exact⟨by simpa [E',al q (by simp)] using K.1,K.2.1,K.2.2.1,aw K.2.2.2 λp O=>al p (List.mem_cons_of_mem _ O)⟩
    cases i with
    | zero=>
     simp at h;obtain⟨rfl,rfl⟩:=h;exact⟨up K.2.2.2 K.2.2.1,K.2.2.1⟩
    | succ i=>
     simp at h;obtain⟨Z,ac⟩:=Y K.2.2.2 h;have am:c≠bk:=λe=>K.2.2.1 (bk,o) (List.mem_of_getElem? h) e.symm;refine⟨⟨by simpa [E',am] using K.1,K.2.1,λp O=>K.2.2.1 p (List.mem_of_mem_eraseIdx O),Z⟩,λp O=>?_⟩;rcases List.mem_cons.1 O with rfl | O
     ·exact am
     ·exact ac p O
  exact(this K h).1
 refine JL.ghost (s':=mk E' H (B.eraseIdx i)) ⟨λx u U=>hle x u U,λx u U=>(Lq K h U).2,λx u U=>?_,rfl⟩ (k' E' hle ag av);by_cases e:x=bk
 ·subst e;right;have:u=o:=by have:E' x=some u:=U;rw [ag] at this;exact(Option.some.inj this).symm
  subst this;refine⟨I2 K h,?_⟩;cases ay:(mk E' H (B.eraseIdx i)).H x with
  | none=>rfl
  | some y=>exact absurd rfl (Lq K h ay).1
 ·left;have Z:E' x=some u:=U;have ac:E' x=E x:=by simp [E',e]
  show E x=some u;rw [← ac];exact Z
def Fn(P:Program)(f:FuncId)(args:Av_)(s:St)(R:Value->St->Prop):Prop:=
 ∀(J:Judge P) (Q:Gs_) (c:Frame) (cs:Lf_),(∀v s',R v s'->J.ok Q (G (c.finish v) cs) s')->J.ok Q (G (Frame.enter P f args .normal) (c::cs)) s
def Dv(P:Program)(f:FuncId):Bool:=match P.funcs[f]? with | some fn=> !(fn.name== "runtime.NumGoroutine")&&fn.body.isSome | none=>false
def evs(L:Env):List Operand->Option (Lv_)
 | []=>some []
 | x::xs=>match ev L x,evs L xs with | some v,some vs=>some (v::vs) | _,_=>none
theorem Gr{L:Env}{ρ:Operand->Value}(h:EL L ρ):∀{xs:List Operand} {vs:Lv_},evs L xs=some vs->xs.map ρ=vs
 | [],vs,e=>by simp [evs] at e;subst e;rfl
 | x::xs,vs,e=>by
  simp only [evs] at e
  split at e
  ·rename_i v ws K O
   cases e;rw [List.map_cons,h x v K,Gr h O]
  ·cases e
theorem IX{f:FuncId}{args:Av_}{s:St}{Q:Next->St->Prop}{X:Halt->St->Prop}(K:Dv P f=true)(h:Q (.enter f args) s):lp P (callFunc f args) s Q X:=by
 unfold Dv at K;unfold callFunc;simp only [bind,Sem.bind,program,lp];cases O:P.funcs[f]? with
 | none=>rw [O] at K;cases K
 | some fn=>
  rw [O] at K;simp only [Bool.and_eq_true,Bool.not_eq_true'] at K;have hb:fn.body.isNone=false:=by cases U:fn.body <;> simp_all
  simp only [K.1,hb,Bool.false_eq_true,if_false];exact h
def Bx(P:Program)(f:FuncId)(L:Env)(n:Nat)(s:St)(v:Value):Prop:=∃fn,P.funcs[f]? =some fn/\∀T,Has n L T->lp P (results fn T) s (λu s'=>u=v/\s'=s) (λ_ _=>False)
theorem Judge.leave{T:Av_}{todo:Li_}{c:Frame}{s:St}{v:Value}{fn:Func}(Y:b.kind= .normal)(Z:P.funcs[b.fn]? =some fn)(U:lp P (results fn T) s (λu s'=>u=v/\s'=s) (λ_ _=>False))
  (h:J.ok Q (G (c.finish v) cs) s):J.ok Q (G (Eg b T [] todo) (c::cs)) s:=by
 refine J.step ⟨rfl,λw f=>?_,λe=>?_⟩
 rotate_left
 ·subst e;obtain⟨es,he,am,U⟩:=RB _ U;have ap:seen P b.fn es= #[]:=Ql am;rcases U with⟨u,⟨rfl,_⟩,O⟩ | ⟨x,K,_⟩
  ·exact⟨_,λw=>by simp [G,stepG,unwind,Eg,Z,O,doReturn,Y,GStep.after,he,ap],h⟩
  ·exact K.elim
 obtain⟨s',ac,ag,al,K⟩:=MG _ U f;cases O:(results fn T).run P w with
 | halt x w'=>rw [O] at K;exact K.elim
 | ok u w'=>
  rw [O] at ac ag al K;obtain⟨rfl,rfl⟩:=K;exact⟨_,s',w',seen P b.fn ((results fn T).events P w #[])++ #[],by simp [G,stepG,unwind,Eg,Z,O,doReturn,Y,GStep.after],h,ac,ag,by simp only [Array.append_empty];exact OO al⟩
theorem JL.ret{s:St}{c:Frame}{v:Value}(O:b.kind= .normal)(U:b.roundOf=none)(K:Bx P b.fn L n s v)(h:J.ok Q (G (c.finish v) cs) s):JL J Q b n L [] (.code .ret::k) (c::cs) s:=λT Y=>by
 obtain⟨fn,Z,K⟩:=K
 refine Judge.CZ (g':=G (Eg b T [] (.code .ret::k)) (c::cs)) rfl (λw=>by simp [G,stepG,stepG.exec,fr,Eg,U]) ?_
 exact Judge.leave O Z (K T Y) h
theorem JL.fin{s:St}{c:Frame}{v:Value}(O:b.kind= .normal)(U:b.roundOf=none)(K:Bx P b.fn L n s v)(h:J.ok Q (G (c.finish v) cs) s):JL J Q b n L [] [] (c::cs) s:=λT Y=>by
 obtain⟨fn,Z,K⟩:=K
 refine Judge.CZ (g':=G (Eg b T [] []) (c::cs)) rfl (λw=>by simp [G,stepG,stepG.exec,fr,Eg,U]) ?_
 exact Judge.leave O Z (K T Y) h
theorem Bx.one{f:FuncId}{fn:Func}{s:St}{t:Tmp}{v:Value}(K:P.funcs[f]? =some fn)(O:fn.results= #[.tmp t])(h:look L t=some v):Bx P f L n s v:=
 ⟨fn,K,λT U=>by
  have e:results fn T=Sem.pure v:=by
   have:=U.at_ t v h
   simp only [results,O,Array.mapM_eq_mapM_toList]
   show Sem.pure (T.getD t undef)=_
   rw [this]
  rw [e];exact⟨rfl,rfl⟩⟩
theorem Bx.none{f:FuncId}{fn:Func}{s:St}(K:P.funcs[f]? =some fn)(O:fn.results= #[]):Bx P f L n s (.tuple #[]):=
 ⟨fn,K,λT U=>by
  have e:results fn T=Sem.pure (.tuple #[]):=by
   simp only [results,O,Array.mapM_eq_mapM_toList]
   rfl
  rw [e];exact⟨rfl,rfl⟩⟩
def Ga:Nat->Lv_->Env
 | _,[]=> []
 | i,v::vs=>(i,v)::Ga (i+1) vs
theorem Jo{i:Nat}{vs:Lv_}{t:Nat}{v:Value}(h:look (Ga i vs) t=some v):i<=t/\vs[t - i]? =some v:=by
 induction vs generalizing i with
 | nil=>simp [Ga,look] at h
 | cons u vs K=>
  simp only [Ga,look] at h;split at h
  ·rename_i e;subst e;cases h;simp
  ·rename_i U;obtain⟨Y,O⟩:=K h;refine⟨by omega,?_⟩;have:t - i=(t - (i+1))+1:=by omega
   rw [this];simpa using O
end
end Pal
namespace Pal
open Go Go.Conc
def Bh(P:Program)(t:TypeId):Option Nat:=(P.info? t).map (·.size)
def Dd(P:Program)(t:TypeId):Option Bool:=match P.underlying t with | some (.struct _)=>some true | some (.array _ _)=>some true | some _=>some false | none=>none
def zeroOf(P:Program)(t:TypeId):Option Value:=(P.info? t).bind (·.zero)
section
variable {P:Program}{s:St}{t:TypeId}
theorem EH{K:Nat}{Q:Nat->St->Prop}{X:Halt->St->Prop}(h:Bh P t=some K)(k:Q K s):lp P (Go.sizeOf t) s Q X:=by
 unfold Bh at h;simp only [Go.sizeOf,typeInfo,bind,Sem.bind,program,lp];cases hi:P.info? t with
 | none=>rw [hi] at h;cases h
 | some i=>rw [hi] at h;simp at h;subst h;exact k
theorem Ho{z:Value}{Q:Value->St->Prop}{X:Halt->St->Prop}(h:zeroOf P t=some z)(k:Q z s):lp P (zeroValue t) s Q X:=by
 unfold zeroOf at h;simp only [zeroValue,typeInfo,bind,Sem.bind,program,lp];cases hi:P.info? t with
 | none=>rw [hi] at h;cases h
 | some i=>
  rw [hi] at h;simp at h;show lp P (match i.zero with | some v=>pure v | none=>unsupported _) s Q X
  rw [h];exact k
theorem MF{c:Bool}{Q:Bool->St->Prop}{X:Halt->St->Prop}(h:Dd P t=some c)(k:Q c s):lp P (isAgg t) s Q X:=by
 unfold Dd at h;simp only [isAgg,underlying,bind,Sem.bind,program,lp];cases hu:P.underlying t with
 | none=>rw [hu] at h;cases h
 | some u=>
  rw [hu] at h;cases u <;> simp at h <;> subst h <;> exact k
theorem Cg{u:TypeDesc}{Q:TypeDesc->St->Prop}{X:Halt->St->Prop}(h:P.underlying t=some u)(k:Q u s):lp P (underlying t) s Q X:=by
 simp only [underlying,bind,Sem.bind,program,lp,h];exact k
theorem RS{a:Addr}{v:Value}{Q:Value->St->Prop}{X:Halt->St->Prop}(h:s.cell? a=some v)(k:Q v s):lp P (load a) s Q X:=⟨rfl,v,h,k⟩
theorem P9{a:Addr}{Q:Av_->St->Prop}{X:Halt->St->Prop}:∀(vs:Lv_) (i:Nat) (acc:Av_),(∀j v,vs[j]? =some v->s.cell? (a.add (i+j))=some v)->Q (acc++vs.toArray) s->lp P (loadCellsFrom a i vs.length acc) s Q X
 | [],i,acc,_,k=>by simpa [loadCellsFrom,lp,pure] using k
 | v::vs,i,acc,h,k=>by
  simp only [List.length_cons,loadCellsFrom]
  refine Au _ _ (RS (h 0 v rfl) ?_)
  refine P9 vs (i+1) (acc.push v) (λj u K=>?_) (by simpa using k)
  have:=h (j+1) u (by simpa using K)
  rwa [show i+1+j=i+(j+1) from by omega]
theorem Qe{a:Addr}{vs:Lv_}{m:Nat}{Q:Av_->St->Prop}{X:Halt->St->Prop}(hm:m=vs.length)(h:∀j v,vs[j]? =some v->s.cell? (a.add j)=some v)(k:Q vs.toArray s):lp P (loadCells a m) s Q X:=by
 subst hm;exact P9 vs 0 #[] (λj v K=>by simpa using h j v K) (by simpa using k)
theorem Qq{a:Addr}{v:Value}{Q:Value->St->Prop}{X:Halt->St->Prop}(K:Dd P t=some false)(h:s.cell? a=some v)(k:Q v s):lp P (loadVar t a) s Q X:=by
 unfold loadVar;refine Au _ _ (MF K ?_);exact RS h k
theorem Qs{a:Addr}{vs:Lv_}{Q:Value->St->Prop}{X:Halt->St->Prop}(K:Dd P t=some true)(O:Bh P t=some vs.length)(h:∀j v,vs[j]? =some v->s.cell? (a.add j)=some v)(k:Q (.agg vs.toArray) s):lp P (loadVar t a) s Q X:=by
 unfold loadVar;refine Au _ _ (MF K ?_);show lp P (do let r ← loadCells a (← Go.sizeOf t);pure (Value.agg r)) s Q X
 refine Au (x:=Go.sizeOf t) _ (EH O ?_);refine Au _ _ (Qe rfl h ?_);exact k
end
section
variable {P:Program}{ρ:Operand->Value}{s:St}{x y z:Operand}{d:Option Tmp}{t u ty e:TypeId}{p:String}{af:Ae_}{g:On_}{v:Value}{kd kd':IntKind}{m m':Int}
theorem FO{o:Oper}{sm:Sem Value}(K:execOp ρ o=(do pure (Next.value (← sm))))(h:lp P sm s (λr s'=>r=v/\s'=s) (λ_ _=>False)):Yl P o ρ s v:=by
 unfold Yl;rw [K];exact Au _ _ (Ee _ h (λr s' ⟨O,U⟩=>⟨by rw [O],U⟩) (λ_ _ h=>h))
theorem Yl.load{a:Addr}(K:Dd P t=some false)(O:ρ x= .pointer (some a))(h:s.cell? a=some v):Yl P ⟨d,.load t x,ty,p,af,g⟩ ρ s v:=
 FO (sm:=Instr.loadAt t (ρ x)) rfl (by rw [O];exact Qq K h ⟨rfl,rfl⟩)
theorem H3{a:Addr}{vs:Lv_}(K:Dd P t=some true)(O:Bh P t=some vs.length)(U:ρ x= .pointer (some a))(h:∀j v,vs[j]? =some v->s.cell? (a.add j)=some v):Yl P ⟨d,.load t x,ty,p,af,g⟩ ρ s (.agg vs.toArray):=
 FO (sm:=Instr.loadAt t (ρ x)) rfl (by rw [U];exact Qs K O h ⟨rfl,rfl⟩)
theorem Yl.fieldAddr{a:Addr}{O:Array Field}{i:Nat}{K:Field}{U:Nat}(Y:P.underlying t=some (.struct O))(hi:O[i]? =some K)(Z:Bh P K.type=some (U+1))(ac:ρ x= .pointer (some a)):
  Yl P ⟨d,.fieldAddr t x i,ty,p,af,g⟩ ρ s (.pointer (some (a.add K.offset))):=
 FO (sm:=Instr.fieldAt t (ρ x) i) rfl (by
  rw [ac];unfold Instr.fieldAt
  refine Au _ _ (Cg Y ?_)
  simp only [hi,Instr.sureAddr,bind,Sem.bind,pure]
  refine Au (x:=fieldPlace a K) _ ?_
  unfold fieldPlace
  refine Au _ _ (EH Z ?_)
  simp only [Nat.add_eq_zero_iff,Nat.succ_ne_self,and_false,if_false,lp,pure]
  exact⟨trivial,trivial⟩)
theorem MA{a:Addr}{l c K:Nat}(O:P.underlying t=some (.slice e))(U:Bh P e=some K)(Y:ρ x= .slice (some a) l c)(Z:ρ y= .int kd m)(h:0<=m/\m<l):
  Yl P ⟨d,.indexAddr t x y,ty,p,af,g⟩ ρ s (.pointer (some (a.add (m.toNat*K)))):=
 FO (sm:=Instr.indexAt t (ρ x) (ρ y)) rfl (by
  rw [Y,Z];unfold Instr.indexAt
  simp only [asIntOf,bind,Sem.bind,pure]
  refine Au (x:=underlying t) _ (Cg O ?_)
  simp only [Sem.bind]
  refine Au (x:=underlying t) _ (Cg O ?_)
  simp only [Sem.bind,h,and_self,if_true]
  refine Au (x:=Go.sizeOf e) _ (EH U ?_)
  exact⟨rfl,rfl⟩)
theorem QY{a:Addr}{l K:Nat}(O:P.underlying t=some (.array l e))(U:Bh P e=some K)(Y:ρ x= .pointer (some a))(Z:ρ y= .int kd m)(h:0<=m/\m<l):
  Yl P ⟨d,.indexAddr t x y,ty,p,af,g⟩ ρ s (.pointer (some (a.add (m.toNat*K)))):=
 FO (sm:=Instr.indexAt t (ρ x) (ρ y)) rfl (by
  rw [Y,Z];unfold Instr.indexAt
  simp only [asIntOf,bind,Sem.bind,pure]
  refine Au (x:=underlying t) _ (Cg O ?_)
  simp only [Sem.bind,Instr.sureAddr,pure]
  refine Au (x:=underlying t) _ (Cg O ?_)
  simp only [Sem.bind,h,and_self,if_true]
  refine Au (x:=Go.sizeOf e) _ (EH U ?_)
  exact⟨rfl,rfl⟩)
end
section
variable {P:Program}{J:Judge P}{Q:Gs_}{b:Frame}{n:Nat}{L L':Env}{ds:Ld_}{k:Li_}{cs:Lf_}{E H:LH}{B B':List (Nat×Obj)}
variable {ops:Ao_}{i:Nat}{rest:List Nat}{d:Option Tmp}{x y:Operand}{t u ty e:TypeId}{p:String}{af:Ae_}{g:On_}{v:Value}
theorem I0{cells:Av_}{Q:Addr->St->Prop}{X:Halt->St->Prop}(K:Nd E H B)(k:∀r,Nd E H (B++ [(r,.cells cells e (0,0))])->Q ⟨r,0,none⟩ (mk E H (B++ [(r,.cells cells e (0,0))]))):lp P (newRow e cells) (mk E H B) Q X:=by
 simp only [newRow,newObj,bind,Sem.bind,lp,pure];refine⟨rfl,λr O U=>?_⟩;obtain⟨Y,Z⟩:=Kd O U (.cells cells e (0,0)) K;rw [Z];exact k r Y
theorem JL.alloc{z:Value}(K:ops[i]? =some ⟨d,.alloc e,ty,p,af,g⟩)(hw:AJ L ops ⟨d,.alloc e,ty,p,af,g⟩=some true)(O:BH b n ⟨d,.alloc e,ty,p,af,g⟩=true)(U:Nd E H B)(Y:zeroOf P e=some z)
  (h:∀r,Nd E H (B++ [(r,.cells z.cells e (0,0))])->JL J Q b n (As L d (.pointer (some ⟨r,0,none⟩))) ds (.inRegion ops rest::k) cs (mk E H (B++ [(r,.cells z.cells e (0,0))]))):
  JL J Q b n L ds (.inRegion ops (i::rest)::k) cs (mk E H B):=
 JL.op K hw O λρ _=>by
  show lp P (do pure (Next.value (← Instr.alloc e true (.tuple #[])))) _ _ _
  refine Au _ _ ?_
  unfold Instr.alloc
  refine Au _ _ (Ho Y ?_)
  refine Au _ _ (I0 U λr Z=>?_)
  exact h r Z
theorem JL.box(K:ops[i]? =some ⟨d,.box e x,ty,p,af,g⟩)(hw:AJ L ops ⟨d,.box e x,ty,p,af,g⟩=some true)(O:BH b n ⟨d,.box e x,ty,p,af,g⟩=true)(U:Nd E H B)(Y:ev L x=some v)
  (h:∀r,Nd E H (B++ [(r,.cells v.cells e (0,0))])->JL J Q b n (As L d (.pointer (some ⟨r,0,none⟩))) ds (.inRegion ops rest::k) cs (mk E H (B++ [(r,.cells v.cells e (0,0))]))):
  JL J Q b n L ds (.inRegion ops (i::rest)::k) cs (mk E H B):=
 JL.op K hw O λρ Z=>by
  show lp P (do pure (Next.value (← Instr.box e (ρ x)))) _ _ _
  rw [Z x v Y]
  refine Au _ _ ?_
  unfold Instr.box
  refine Au _ _ (I0 U λr ac=>?_)
  exact h r ac
def A8(c:Av_)(off:Nat):Lv_->Av_
 | []=>c
 | v::vs=>A8 (c.setIfInBounds off v) (off+1) vs
theorem Lr(c:Av_)(off:Nat)(vs:Lv_):(A8 c off vs).size=c.size:=by
 induction vs generalizing c off with
 | nil=>rfl
 | cons v vs K=>simp [A8,K]
theorem Mo{bk:Nat}{Q:Unit->St->Prop}{X:Halt->St->Prop}{pl off:Nat}{sp:Option Nat}:∀(vs:Lv_) (j:Nat) (c:Av_) (B:List (Nat×Obj)),(∀v∈vs,CW v=true)->Nd E H B->B[pl]? =some (bk,.cells c e (0,0))->off+j+vs.length<=c.size->(sp=none∨0<j)->
  (∀B',B'=B.set pl (bk,.cells (A8 c (off+j) vs) e (0,0))->Nd E H B'->Q () (mk E H B'))->lp P (storeCells ⟨bk,off,sp⟩ vs j) (mk E H B) Q X
 | [],j,c,B,_,O,K,_,_,k=>by
  simp only [storeCells,lp,pure]
  refine k B ?_ O
  simp only [A8]
  exact(List.ext_getElem? λi=>by
   by_cases hi:pl=i
   ·subst hi
    obtain⟨Z,ac⟩:=List.getElem?_eq_some_iff.1 K
    simp [Z,ac]
   ·simp [hi])
 | v::vs,j,c,B,U,O,K,hle,Y,k=>by
  simp only [storeCells,List.length_cons] at*
  have ag:off+j<c.size:=by omega
  have al:(Addr.add ⟨bk,off,sp⟩ j)=⟨bk,off+j,none⟩:=by
   unfold Addr.add;split
   ·rename_i am;subst am;rcases Y with rfl | Y
    ·rfl
    ·omega
   ·rfl
  have ap:(cellAt (.cells c e (0,0)) ⟨bk,off+j,none⟩).isSome=true:=by simp [cellAt,ag]
  refine Au (x:=store (Addr.add ⟨bk,off,sp⟩ j) v) _ ?_;rw [al];refine⟨rfl,U v (by simp),_,I2 O K,ap,by simp [frozenAt],?_⟩;simp only [lp];have aq:Ki (.cells c e (0,0)) ⟨bk,off+j,none⟩ v= .cells (c.setIfInBounds (off+j) v) e (0,0):=by simp [Ki]
  rw [aq,YB O K];have av:(B.set pl (bk,.cells (c.setIfInBounds (off+j) v) e (0,0)))[pl]? =some (bk,.cells (c.setIfInBounds (off+j) v) e (0,0)):=by
   have:pl<B.length:=(List.getElem?_eq_some_iff.1 K).1;simp [this]
  refine Mo vs (j+1) _ _ (λu hu=>U u (List.mem_cons_of_mem _ hu)) (O.set K) av (by simp;omega) (.inr (by omega)) λaw e2 ay=>k aw ?_ ay;rw [e2,List.set_set];simp only [A8]
  rfl
theorem Qn{bk off pl:Nat}{c:Av_}{Q:Unit->St->Prop}{X:Halt->St->Prop}(K:Bh P t=some v.cells.size)(O:∀u∈v.cells.toList,CW u=true)(U:Nd E H B)(Y:B[pl]? =some (bk,.cells c e (0,0)))(hle:off+v.cells.size<=c.size)
  (k:Nd E H (B.set pl (bk,.cells (A8 c off v.cells.toList) e (0,0)))->Q () (mk E H (B.set pl (bk,.cells (A8 c off v.cells.toList) e (0,0))))):lp P (storeVar t ⟨bk,off,none⟩ v) (mk E H B) Q X:=by
 unfold storeVar;refine Au _ _ (EH K ?_);simp only [ne_eq,not_true_eq_false,if_false];refine Mo v.cells.toList 0 c B O U Y (by simpa using hle) (.inl rfl) λB' e Z=>?_;subst e;exact k Z
theorem JL.store{bk off:Nat}{c:Av_}(pl:Nat)(O:ops[i]? =some ⟨d,.store t x y,ty,p,af,g⟩)(hw:AJ L ops ⟨d,.store t x y,ty,p,af,g⟩=some true)(U:BH b n ⟨d,.store t x y,ty,p,af,g⟩=true)(Y:Nd E H B)
  (Z:ev L x=some (.pointer (some ⟨bk,off,none⟩))) (ac:ev L y=some v) (ag:Bh P t=some v.cells.size) (al:∀u∈v.cells.toList,CW u=true) (am:B[pl]? =some (bk,.cells c e (0,0))) (hle:off+v.cells.size<=c.size)
  (h:Nd E H (B.set pl (bk,.cells (A8 c off v.cells.toList) e (0,0)))->JL J Q b n (As L d undef) ds (.inRegion ops rest::k) cs (mk E H (B.set pl (bk,.cells (A8 c off v.cells.toList) e (0,0))))):
  JL J Q b n L ds (.inRegion ops (i::rest)::k) cs (mk E H B):=
 JL.op O hw U λρ K=>by
  show lp P (do Instr.storeAt t (ρ x) (ρ y);pure Next.skip) _ _ _
  rw [K x _ Z,K y _ ac]
  refine Au _ _ ?_
  unfold Instr.storeAt
  simp only [Instr.sureAddr,bind,Sem.bind,pure]
  exact Qn ag al Y am hle λap=>h ap
end
end Pal
namespace Pal
open Go Go.Conc
def FE(P:Program)(t:TypeId):Option Nat:=(P.info? t).map (·.bytes)
section
variable {P:Program}{J:Judge P}{Q:Gs_}{b:Frame}{n:Nat}{L L':Env}{ds:Ld_}{k:Li_}{cs:Lf_}{E H:LH}{B B':List (Nat×Obj)}{s:St}
variable {ops:Ao_}{i:Nat}{rest:List Nat}{d:Option Tmp}{x y:Operand}{t u ty e:TypeId}{p:String}{af:Ae_}{g:On_}{v:Value}
theorem J4{inf:TypeInfo}{Q:TypeInfo->St->Prop}{X:Halt->St->Prop}(h:P.info? t=some inf)(k:Q inf s):lp P (typeInfo t) s Q X:=by
 simp only [typeInfo,bind,Sem.bind,program,lp,h];exact k
theorem OA{K:Nat}(h:FE P t=some K):∃inf,P.info? t=some inf/\inf.bytes=K:=by
 unfold FE at h;cases hi:P.info? t with
 | none=>rw [hi] at h;cases h
 | some i=>rw [hi] at h;simp at h;exact⟨i,rfl,h⟩
theorem I4{β:Type}{z y:Nat}{code:BoundsCode}{f:Nat->Sem β}{K:β->St->Prop}{X:Halt->St->Prop}(Y:z<=y)(O:lp P (f z) s K X):lp P (Instr.sliceBound (.int .i64 z) y code>>=f) s K X:=by
 refine Au _ _ ?_;unfold Instr.sliceBound;have U:(0:Int)<=(z:Int)/\(z:Int)<=(y:Int):=⟨by omega,by omega⟩;simp only [asIntOf,bind,Sem.bind,pure];rw [if_pos U];simpa [lp] using O
theorem HX{α β:Type}(a:α)(f:α->Sem β):((pure a:Sem α)>>=f)=f a:=rfl
theorem ZR{l c:Nat}{X:Halt->St->Prop}:lp P (Instr.sliceBounds true l c none none none) s (λr s'=>r=(0,l,c)/\s'=s) X:=by
 unfold Instr.sliceBounds;exact⟨rfl,rfl⟩
theorem ZT{l c:Nat}{lo:Nat}(K:lo<=l){X:Halt->St->Prop}:lp P (Instr.sliceBounds true l c (some (.int .i64 lo)) none none) s (λr s'=>r=(lo,l,c)/\s'=s) X:=by
 simp only [Instr.sliceBounds,if_true,Option.isSome_none,Option.isSome_some,Bool.false_eq_true,if_false,HX];exact I4 K ⟨rfl,rfl⟩
theorem ZM{l c:Nat}{hi:Nat}(hh:hi<=c){X:Halt->St->Prop}:lp P (Instr.sliceBounds true l c none (some (.int .i64 hi)) none) s (λr s'=>r=(0,hi,c)/\s'=s) X:=by
 simp only [Instr.sliceBounds,if_true,Option.isSome_none,Option.isSome_some,Bool.false_eq_true,if_false,HX];exact I4 hh ⟨rfl,rfl⟩
theorem ZJ{l c:Nat}{lo hi:Nat}(hh:hi<=c)(K:lo<=hi){X:Halt->St->Prop}:lp P (Instr.sliceBounds true l c (some (.int .i64 lo)) (some (.int .i64 hi)) none) s (λr s'=>r=(lo,hi,c)/\s'=s) X:=by
 have e:Instr.sliceBounds true l c (some (.int .i64 lo)) (some (.int .i64 hi)) none=(Instr.sliceBound (.int .i64 hi) c .sliceAcap>>=λh=>Instr.sliceBound (.int .i64 lo) h .sliceB>>=λl=>pure (l,h,c)):=by
  simp [Instr.sliceBounds]
 rw [e];exact I4 hh (I4 K ⟨rfl,rfl⟩)
theorem Z2{l c:Nat}{hi mx:Nat}(hm:mx<=c)(hh:hi<=mx){X:Halt->St->Prop}:lp P (Instr.sliceBounds true l c none (some (.int .i64 hi)) (some (.int .i64 mx))) s (λr s'=>r=(0,hi,mx)/\s'=s) X:=by
 simp only [Instr.sliceBounds,if_true,Option.isSome_none,Option.isSome_some,Bool.false_eq_true,if_false,HX];exact I4 hm (I4 hh ⟨rfl,rfl⟩)
theorem ZO{l c:Nat}{lo hi mx:Nat}(hm:mx<=c)(hh:hi<=mx)(K:lo<=hi){X:Halt->St->Prop}:lp P (Instr.sliceBounds true l c (some (.int .i64 lo)) (some (.int .i64 hi)) (some (.int .i64 mx))) s (λr s'=>r=(lo,hi,mx)/\s'=s) X:=by
 simp only [Instr.sliceBounds,if_true,Option.isSome_none,Option.isSome_some,Bool.false_eq_true,if_false,HX];exact I4 hm (I4 hh (I4 K ⟨rfl,rfl⟩))
theorem Vk{l c lo hi mx:Nat}{Y Z ac:Option Value}{X:Halt->St->Prop}
  (O:match ac with | some w=>w= .int .i64 mx | none=>mx=c) (K:match Z with | some w=>w= .int .i64 hi | none=>hi=l/\ac=none) (U:match Y with | some w=>w= .int .i64 lo | none=>lo=0) (hm:mx<=c) (hh:hi<=mx) (ag:lo<=hi):
  lp P (Instr.sliceBounds true l c Y Z ac) s (λr s'=>r=(lo,hi,mx)/\s'=s) X:=by
 cases ac with
 | none=>
  cases Z with
  | none=>
   cases Y with
   | none=>obtain rfl:mx=c:=O;obtain rfl:hi=l:=K.1;obtain rfl:lo=0:=U;exact ZR
   | some w=>obtain rfl:mx=c:=O;obtain rfl:hi=l:=K.1;obtain rfl:w= .int .i64 lo:=U;exact ZT ag
  | some w=>
   cases Y with
   | none=>obtain rfl:mx=c:=O;obtain rfl:w= .int .i64 hi:=K;obtain rfl:lo=0:=U;exact ZM hh
   | some w'=>obtain rfl:mx=c:=O;obtain rfl:w= .int .i64 hi:=K;obtain rfl:w'= .int .i64 lo:=U;exact ZJ hh ag
 | some w0=>
  cases Z with
  | none=>exact absurd K.2 (λh=>by cases h)
  | some w=>
   cases Y with
   | none=>obtain rfl:w0= .int .i64 mx:=O;obtain rfl:w= .int .i64 hi:=K;obtain rfl:lo=0:=U;exact Z2 hm hh
   | some w'=>obtain rfl:w0= .int .i64 mx:=O;obtain rfl:w= .int .i64 hi:=K;obtain rfl:w'= .int .i64 lo:=U;exact ZO hm hh ag
theorem VU{a:Option Addr}{l c O lo hi mx:Nat}{U Y K:Option Value}{Q:Value->St->Prop}{X:Halt->St->Prop}(Z:P.underlying t=some (.slice e))(ac:Bh P e=some O)
  (ag:match K with | some w=>w= .int .i64 mx | none=>mx=c) (al:match Y with | some w=>w= .int .i64 hi | none=>hi=l/\K=none) (am:match U with | some w=>w= .int .i64 lo | none=>lo=0) (hm:mx<=c) (hh:hi<=mx) (ap:lo<=hi)
  (k:Q (.slice (if mx=lo then a else a.map (·.add (lo*O))) (hi - lo) (mx - lo)) s):lp P (Instr.slice t (.slice a l c) U Y K) s Q X:=by
 unfold Instr.slice;refine Au _ _ (Cg Z ?_);have hb:=Vk (P:=P) (s:=s) (X:=X) ag al am hm hh ap;refine Au _ _ (Ee _ hb ?_ (λ_ _ h=>h));rintro r s' ⟨rfl,rfl⟩;exact Au _ _ (EH ac k)
theorem Yl.slice{ρ:Operand->Value}{a:Option Addr}{l c O lo hi mx:Nat}{olo ohi omx:Option Operand}(U:P.underlying t=some (.slice e))(Y:Bh P e=some O)(Z:ρ x= .slice a l c)
  (ac:match omx with | some w=>ρ w= .int .i64 mx | none=>mx=c) (K:match ohi with | some w=>ρ w= .int .i64 hi | none=>hi=l/\omx=none) (ag:match olo with | some w=>ρ w= .int .i64 lo | none=>lo=0) (hm:mx<=c) (hh:hi<=mx) (al:lo<=hi):
  Yl P ⟨d,.slice t x olo ohi omx,ty,p,af,g⟩ ρ s (.slice (if mx=lo then a else a.map (·.add (lo*O))) (hi - lo) (mx - lo)):=
 FO (sm:=Instr.sliceAt t (ρ x) (olo.map ρ) (ohi.map ρ) (omx.map ρ)) rfl (by
  rw [Z];unfold Instr.sliceAt
  refine Au _ _ (Cg U ?_)
  refine VU U Y (mx:=mx) (hi:=hi) (lo:=lo) ?_ ?_ ?_ hm hh al ⟨rfl,rfl⟩
  ·cases omx <;> exact ac
  ·cases ohi with
   | none=>exact⟨K.1,by rw [K.2];rfl⟩
   | some w=>exact K
  ·cases olo <;> exact ag)
def HA(s:St)(v:Value)(K:Nat)(xs:Lv_):Prop:=
 match v with
 | .slice (some a) l c=>(a.spot=none∨l=0)/\xs.length=l*K/\l<=c/\∀j w,xs[j]? =some w->s.cell? ⟨a.block,a.off+j,none⟩=some w
 | .slice none l _=>l=0/\xs= []
 | _=>False
theorem Dz{a:Addr}(h:a.spot=none)(j:Nat):a.add j=⟨a.block,a.off+j,none⟩:=by
 unfold Addr.add;obtain⟨b,o,sp⟩:=a;simp only at h;subst h;split
 ·rename_i e;subst e;rfl
 ·rfl
theorem J3{Y l:Nat}{xs:Lv_}{Q:Av_->St->Prop}{X:Halt->St->Prop}(Z:∃a c,v= .slice a l c)(h:HA s v Y xs)(k:Q xs.toArray s):lp P (Builtin.firstCells Y l v) s Q X:=by
 obtain⟨a,c,rfl⟩:=Z;cases a with
 | none=>
  obtain⟨K,rfl⟩:=h;exact k
 | some a=>
  obtain⟨K,O,ag,ac⟩:=h;refine Qe O.symm (λj w U=>?_) k;rcases K with K | K
  ·rw [Dz K];exact ac j w U
  ·rw [K,Nat.zero_mul] at O;rw [List.eq_nil_of_length_eq_zero O] at U;cases U
theorem U9(nl:Nat):∀(r c:Nat),Builtin.growBy nl r c<=max c (2*nl+768):=by
 intro r
 induction r with
 | zero=>intro c;simp [Builtin.growBy];omega
 | succ r K=>
  intro c;simp only [Builtin.growBy];split
  ·omega
  ·rename_i h;have:=K (c+(c+768) / 4);omega
theorem Qz{need old:Nat}(h:old<need):Builtin.nextslicecap need old<=2*need+768:=by
 unfold Builtin.nextslicecap;split
 ·omega
 ·split
  ·omega
  ·have:=U9 need 4 old;omega
theorem P8(z:Av_)(m:Nat):(Builtin.zeroCells z m).size=m*z.size:=by simp [Builtin.zeroCells]
def NH(B:List (Nat×Obj))(pl:Nat)(e:TypeId)(K:Nat)(a:Option Addr)(l c:Nat)(xs:Lv_):Prop:=
 (a=none/\l=0/\c=0/\xs= [])∨∃bk f,a=some ⟨bk,0,none⟩/\B[pl]? =some (bk,.cells f e (0,0))/\f.size=c*K/\l<=c/\xs=f.toList.take (l*K)
theorem Oc(c:Av_)(off:Nat)(vs:Lv_)(h:off+vs.length<=c.size):(A8 c off vs).toList.take (off+vs.length)=c.toList.take off++vs:=by
 induction vs generalizing c off with
 | nil=>simp [A8]
 | cons v vs O=>
  simp only [A8,List.length_cons] at*;have:=O (c.setIfInBounds off v) (off+1) (by simp;omega);rw [show off+(vs.length+1)=off+1+vs.length from by omega,this];have K:off<c.toList.length:=by simp;omega
  rw [Array.toList_setIfInBounds,List.take_add_one];have U:(c.toList.set off v)[off]? =some v:=by simp at K;simp [K]
  rw [U];simp [List.take_set_of_le]
theorem OB{ats:Array TypeId}{a:Option Addr}{l c K Y m cx:Nat}{ax:Option Addr}{xs ys:Lv_}{z:Value}{Q:Value->St->Prop}{X:Halt->St->Prop}{pl:Nat}
  (aP:ats[0]? =some t) {t1 aQ:TypeId} (aR:ats[1]? =some t1) (aS:P.underlying t1=some (.slice aQ)) (aT:P.underlying t=some (.slice e)) (aU:Bh P e=some K) (hb:FE P e=some Y) (aV:zeroOf P e=some z) (aW:z.cells.size=K)
  (aq:Nd E H B) (av:NH B pl e K a l c xs)
  (am:HA (mk E H B) (.slice ax m cx) K ys) (aX:∀w∈ys,CW w=true) (a8:0<Y) (a9:l+m<=2 ^ 40) (aY:Y<=64)
  (aZ:∀bk f O,a=some ⟨bk,0,none⟩->B[pl]? =some (bk,.cells f e (0,0))->O=A8 f (l*K) ys->l+m<=c->O.size=c*K->O.toList.take ((l+m)*K)=xs++ys->Nd E H (B.set pl (bk,.cells O e (0,0)))->Q (.slice a (l+m) c) (mk E H (B.set pl (bk,.cells O e (0,0)))))
  (a0:a=none->m=0->Q (.slice none 0 0) (mk E H B))
  (a1:∀r O Z,l+m<=Z->O.size=Z*K->O.toList.take ((l+m)*K)=xs++ys->Nd E H (B++ [(r,.cells O e (0,0))])->Q (.slice (some ⟨r,0,none⟩) (l+m) Z) (mk E H (B++ [(r,.cells O e (0,0))]))):
  lp P (Builtin.append_ ats ty #[.slice a l c,.slice ax m cx]) (mk E H B) Q X:=by
 unfold Builtin.append_;simp only [aP,aR,List.getElem?_toArray,List.getElem?_cons_zero,List.getElem?_cons_succ];refine Au _ _ (Cg aT ?_);refine Au _ _ (EH aU ?_);refine Au _ _ (Cg aS ?_);simp only [HX,Bool.false_eq_true,if_false,Builtin.lenOf,Bool.not_false,if_true];have ac:ys.length=m*K:=by
  cases ax with
  | none=>obtain⟨aw,ay⟩:=am;subst aw ay;simp
  | some ad=>exact am.2.1
 have az:∃(a2:Option Addr) (Z:Nat),HA (mk E H B) (.slice a l c) K xs/\a2=a/\Z=c:=by
  refine⟨a,c,?_,rfl,rfl⟩;rcases av with⟨rfl,rfl,rfl,rfl⟩ | ⟨bk,f,rfl,ag,U,al,rfl⟩
  ·exact⟨rfl,rfl⟩
  ·have hle:l*K<=f.size:=by rw [U];exact Nat.mul_le_mul_right _ al
   refine⟨.inl rfl,by simp [Nat.min_eq_left hle],al,λj w ap=>?_⟩;refine Ro aq ag ?_;simp only [Nat.zero_add];rw [List.getElem?_take] at ap;split at ap
   ·simpa using ap
   ·cases ap
 obtain⟨_,_,az,_,_⟩:=az;have aI:xs.length=l*K:=by
  rcases av with⟨rfl,rfl,rfl,rfl⟩ | ⟨bk,f,rfl,ag,U,al,rfl⟩
  ·simp
  ·have hle:l*K<=f.size:=by rw [U];exact Nat.mul_le_mul_right _ al
   simp [Nat.min_eq_left hle]
 split
 ·rename_i aN;refine Au _ _ (J3 ⟨ax,cx,rfl⟩ am ?_);rcases av with⟨rfl,rfl,rfl,rfl⟩ | ⟨bk,f,rfl,ag,U,al,rfl⟩
  ·obtain rfl:m=0:=by omega
   simp only;exact a0 rfl rfl
  ·simp only;have hle:l*K+ys.length<=f.size:=by rw [ac,U,← Nat.add_mul];exact Nat.mul_le_mul_right _ aN
   have a3:(Addr.add ⟨bk,0,none⟩ (l*K))=⟨bk,l*K,none⟩:=by rw [Dz rfl];simp
   rw [a3];refine Au _ _ (Mo (pl:=pl) ys.toArray.toList 0 f B (by simpa using aX) aq ag (by simpa using hle) (.inl rfl) λB' aO aJ=>?_);simp only [Nat.add_zero] at aO;subst aO;refine aZ bk f _ rfl ag rfl aN (by rw [Lr,U]) ?_ aJ;have:=Oc f (l*K) ys hle;rw [ac,← Nat.add_mul] at this;exact this
 ·rename_i ba;have aw:¬(((l+m:Nat):Int)>IntKind.i64.max/\(False∨Y=0)):=by rintro⟨_,h | h⟩ <;> omega
  have ay:¬(Builtin.nextslicecap (l+m) c*Y>2 ^ 48):=by
   have:=Qz (need:=l+m) (old:=c) (by omega);have bb:Builtin.nextslicecap (l+m) c*Y<=(2*(l+m)+768)*64:=Nat.mul_le_mul this aY;omega
  obtain⟨inf,aK,aL⟩:=OA hb;refine Au _ _ (J4 aK ?_);rw [aL,if_neg aw];refine Au _ _ (J4 aK ?_);rw [aL,if_neg ay];refine Au _ _ ?_;simp only [choose,lp,Question.forced,Bool.false_eq_true,if_false];refine⟨rfl,λa4=>?_⟩;generalize a5:(Question.appendCap (l+m) c e).cut a4=aM;have a6:l+m<=aM:=by rw [← a5];simp [Question.cut]
  refine Au _ _ (J4 aK ?_);rw [aL];have a7:∀{α:Type} {f:Unit->Sem α} {Q:α->St->Prop},lp P (f ()) (mk E H B) Q X->lp P (askRoom (aM*Y)>>=f) (mk E H B) Q X:=by
   intro α f Q U;refine Au _ _ ?_;unfold askRoom;split
   ·exact⟨.inl ⟨rfl,rfl⟩,U⟩
   ·exact U
  refine a7 (Au _ _ (J3 ⟨a,c,rfl⟩ az ?_));refine Au _ _ (J3 ⟨ax,cx,rfl⟩ am ?_);refine Au _ _ (Ho aV ?_);refine Au _ _ (I0 aq λr aJ=>?_);refine a1 r _ aM a6 ?_ ?_ aJ
  ·simp only [Array.size_append,List.size_toArray,P8,aW,aI,ac];rw [← Nat.add_mul,← Nat.add_mul];congr 1;omega
  ·simp only [Array.toList_append];rw [List.take_append_of_le_length (by simp [aI,ac,Nat.add_mul])];rw [List.take_of_length_le (by simp [aI,ac,Nat.add_mul])]
end
end Pal
namespace Pal
open Go Go.Conc
theorem NP{P:Program}{α:Type}(x:Sem α):∀{s:St} {Q:α->St->Prop} {X:Halt->St->Prop},lp P x s Q X->lp P x s (λa s'=>Q a s'/\s'.E=s.E/\s'.q=s.q) X:=by
 induction x with
 | pure a=>intro s Q X h;exact⟨h,rfl,rfl⟩
 | load m a k K=>intro s Q X h;obtain⟨O,v,U,Y⟩:=h;exact⟨O,v,U,K _ Y⟩
 | store m a v k K=>intro s Q X h;obtain⟨O,U,o,Y,ac,ag,al⟩:=h;exact⟨O,U,o,Y,ac,ag,K al⟩
 | new o k K=>intro s Q X h;exact⟨h.1,λr O U=>K _ (h.2 r O U)⟩
 | shape r k K=>intro s Q X h;obtain⟨o,O,U⟩:=h;exact⟨o,O,K _ U⟩
 | freeze a n k K=>intro s Q X h;exact h
 | frozen a k K=>intro s Q X h;obtain⟨o,O,U⟩:=h;exact⟨o,O,K _ U⟩
 | getObj r k K=>intro s Q X h;obtain⟨o,O,U,Y⟩:=h;exact⟨o,O,U,K _ Y⟩
 | setObj r o k K=>intro s Q X h;obtain⟨O,U,Y⟩:=h;exact⟨O,U,K Y⟩
 | choose q k K=>
  intro s Q X h;simp only [lp] at h ⊢;split
  ·rename_i Z;rw [if_pos Z] at h;exact K _ h
  ·rename_i Z;rw [if_neg Z] at h;exact⟨h.1,λt=>K _ (h.2 t)⟩
 | sys c k K=>intro s Q X h;exact h
 | program k K=>intro s Q X h;exact K _ h
 | mark m k K=>intro s Q X h;exact⟨h.1,K h.2⟩
 | halt h=>intro s Q X h;exact h
def Br(D:Nat->Bool)(s:St):St:=⟨λb=>if D b then s.get b else s.E b,λb=>if D b then none else s.H b,s.q⟩
def Cj(D:Nat->Bool)(s s':St):St:=⟨λb=>if D b then s.E b else s'.E b,λb=>if D b then s.H b else s'.H b,s'.q⟩
theorem KF(D:Nat->Bool)(s:St):Cj D s (Br D s)=s:=by
 obtain⟨E,H,q⟩:=s;unfold Cj Br;congr 1
 ·funext b;by_cases h:D b <;> simp [h]
 ·funext b;by_cases h:D b <;> simp [h]
theorem Wn{D:Nat->Bool}{s:St}{w:World}(f:Fits s w):Fits (Br D s) w where
 e b o h:=by
  by_cases hd:D b
  ·simp [Br,hd] at h;exact f.get h
  ·simp [Br,hd] at h;exact f.e b o h
 h b o h:=by
  by_cases hd:D b
  ·simp [Br,hd] at h
  ·simp [Br,hd] at h;exact f.h b o h
 d b h:=by
  by_cases hd:D b
  ·simp [Br,hd]
  ·simp [Br,hd] at h ⊢;exact f.d b h
def EB{P:Program}(J:Judge P)(f:FuncId)(args:Av_)(s:St)(R:Value->St->Prop):Prop:=
 ∀(Q:Gs_) (c:Frame) (cs:Lf_),(∀v s',R v s'->J.ok Q (G (c.finish v) cs) s')->J.ok Q (G (Frame.enter P f args .normal) (c::cs)) s
theorem EB.Ah{P:Program}{J:Judge P}{f:FuncId}{args:Av_}{s:St}{R K:Value->St->Prop}(h:EB J f args s R)(O:∀v s',R v s'->K v s'):EB J f args s K:=
 λQ c cs U=>h Q c cs λv s' Y=>U v s' (O v s' Y)
section
variable {P:Program}{J:Judge P}{Q:Gs_}{b:Frame}{n:Nat}{L L':Env}{ds:Ld_}{k:Li_}{cs:Lf_}{s s':St}
theorem Judge.Sx(D:Nat->Bool){T:Av_}{ops:Ao_}{i:Nat}{rest:List Nat}{o:Oper}(Y:ops[i]? =some o)(hw:Region.wanted o (yielded ops T)=true)(aO:b.kind≠ .early)
  (hd:∀c,o.op≠ .defer c) (aP:s.q=false)
  (h:lp P (execOp (Bs T) o) (Br D s) (λap s'=>upon J Q b T ds ops i rest k cs o.dst ap (Cj D s s')) (λ_ _=>False)):
  J.ok Q (G (fr b T ds (.inRegion ops (i::rest)::k)) cs) s:=by
 refine J.step ⟨rfl,λw f=>?_,λe=>by subst e;cases aP⟩;have Z:((fr b T ds (.inRegion ops (i::rest)::k)).kind==CallKind.early)=false:=by simpa [fr] using aO
 have aQ:stepG P J.main (G (fr b T ds (.inRegion ops (i::rest)::k)) cs) w=stepG.apply P true (fr b T ds (.inRegion ops (i::rest)::k)) cs none (execOp (Bs T) o) w:=by
  rw [stepG_op Y hw];split
  ·rename_i l c aX e2;exact absurd e2 (hd c)
  ·rfl
 obtain⟨ac,aq,av,aR,O⟩:=MG _ (NP _ h) (Wn (D:=D) f);have aw:=OO (P:=P) (fn:=b.fn) aR;have aJ:=λv=>Gq (b:=b) (ds:=ds) (k:=k) T ops i rest v o Y;have key:∀w',Fits ac w'->Fr (Br D s) w ac w'->ac.E=(Br D s).E->Fits (Cj D s ac) w'/\Fr s w (Cj D s ac) w':=by
  intro w' ay g2 aS;have aK:∀b,D b=true->b<w.heap.size->w'.heap[b]? =w.heap[b]? :=λb hb az=>g2.keep b az (by simp [Br,hb]);have aL:∀b o,(s.H b=some o∨s.E b=some o)->b<w.heap.size:=λb o Y=>by
   have:=Y.elim (f.h b o) (f.e b o);rcases Nat.lt_or_ge b w.heap.size with aI | aI
   ·exact aI
   ·simp [Array.getElem?_eq_none aI] at this
  refine⟨⟨λb o hb=>?_,λb o hb=>?_,λb hb=>?_⟩,⟨g2.size,λb az hb=>?_,λb hb=>?_,λb o hb=>?_,λb hb=>?_,g2.tape,g2.os,g2.output⟩⟩
  ·by_cases K:D b
   ·simp [Cj,K] at hb;rw [aK b K (aL b o (.inr hb))];exact f.e b o hb
   ·simp [Cj,K] at hb;exact ay.e b o hb
  ·by_cases K:D b
   ·simp [Cj,K] at hb;rw [aK b K (aL b o (.inl hb))];exact f.h b o hb
   ·simp [Cj,K] at hb;exact ay.h b o hb
  ·by_cases K:D b
   ·simp [Cj,K] at hb ⊢;exact f.d b hb
   ·simp [Cj,K] at hb ⊢;exact ay.d b hb
  ·exact g2.keep b az (by by_cases K:D b <;> simp [Br,K,hb])
  ·by_cases K:D b
   ·simp [Cj,K] at hb;exact .inl hb
   ·simp [Cj,K] at hb;rcases g2.own b hb with q | q
    ·left;simpa [Br,K] using q
    ·exact .inr q
  ·by_cases K:D b
   ·simp [Cj,K];exact hb
   ·simp only [Cj,K,Bool.false_eq_true,if_false];rw [aS];simp [Br,K,hb]
  ·by_cases K:D b
   ·simp [Cj,K] at hb;exact .inl hb
   ·simp [Cj,K] at hb;rcases g2.Ey b hb with q | q | q
    ·left;simpa [Br,K] using q
    ·right;left;simpa [Br,K] using q
    ·exact .inr (.inr q)
 have aT:∀w',(∀e∈seen P b.fn ((execOp (Bs T) o).events P w #[]),Ev (Br D s) w w' e)->∀e∈seen P b.fn ((execOp (Bs T) o).events P w #[]),Ev s w w' e:=by
  intro w' he e hm;have:=he e hm;have aM:∀{b wr},GH (Br D s) w w' b wr->GH s w w' b wr:=by
   intro b wr aN;refine⟨aN.1,?_⟩;rcases aN.2 with q | q | ⟨q,q'⟩
   ·left;by_cases K:D b <;> simp [Br,K] at q;exact q
   ·exact .inr (.inl q)
   ·by_cases K:D b
    ·simp [Br,K,St.get] at q;by_cases am:s.E b=none
     ·left;intro aU;rw [am,aU] at q;exact q rfl
     ·exact .inr (.inr ⟨am,q'⟩)
    ·simp [Br,K] at q;exact .inr (.inr ⟨q,q'⟩)
  unfold Ev at this ⊢;split <;> rename_i aV <;> simp only [aV] at this
  ·exact⟨this.1,aM this.2⟩
  ·exact⟨this.1,aM this.2⟩
  ·trivial
  ·trivial
 rw [aQ];cases U:(execOp (Bs T) o).run P w with
 | ok ap w'=>
  rw [U] at aq av O aw;simp only [Kq] at aq av aw;obtain⟨O,am,_⟩:=O;obtain⟨k1,ag⟩:=key w' aq av am;have al:=aT w' aw;cases ap with
  | value v=>exact⟨_,_,w',seen P b.fn ((execOp (Bs T) o).events P w #[])++ #[],by simp [stepG.apply,U,Z,GStep.after,G,aJ,FU],O,k1,ag,by simpa using al⟩
  | skip=>exact⟨_,_,w',seen P b.fn ((execOp (Bs T) o).events P w #[])++ #[],by simp [stepG.apply,U,Z,GStep.after,G,aJ,FU],O,k1,ag,by simpa using al⟩
  | enter g args=>exact⟨_,_,w',seen P b.fn ((execOp (Bs T) o).events P w #[])++ #[],by simp [stepG.apply,U,Z,GStep.after,G,FU,H8],O,k1,ag,by simpa using al⟩
  | round l g tm as aY=>exact⟨_,_,w',seen P b.fn ((execOp (Bs T) o).events P w #[])++ #[],by simp [stepG.apply,U,Z,GStep.after,G,FU,H8],O,k1,ag,by simpa using al⟩
  | defer d=>
   have aW:=Gq (b:=b) (ds:=d::ds) (k:=k) T ops i rest undef o Y;exact⟨_,_,w',seen P b.fn ((execOp (Bs T) o).events P w #[])++ #[],by
    rw [← aW];simp [stepG.apply,U,Z,GStep.after,G,FU,H8];rfl,O,k1,ag,by simpa using al⟩
  | _=>exact O.elim
 | halt x w'=>rw [U] at O;exact O.elim
end
end Pal
namespace Pal
open Go Go.Conc
def PH(m:Nat)(listed:Array Bool):Bool:=(List.range m).all λi=>listed.getD i false
def A4(listed:Array Bool)(i:Nat):Array Bool:=listed.setIfInBounds i true
section
variable {P:Program}(J:Judge P)(Q:Gs_)(b:Frame)(ds:Ld_)(ops:Ao_)(k:Li_)(cs:Lf_)(m:Nat)(D:Nat->Bool)
def JA:Nat->Array Bool->Av_->St->Prop
 | 0,listed,T,s=>Region.ready .any ops listed= []/\J.ok Q (G (fr b T ds (.inRegion ops []::k)) cs) s
 | fuel+1,listed,T,s=>
  (PH m listed=true/\∀t,J.ok Q (G (fr b T ds (.inRegion ops (Region.linearise.go .any ops (fuel+1) t listed [])::k)) cs) s)∨
  (Region.ready .any ops listed≠ []/\s.q=false/\∀i∈Region.ready .any ops listed,∀o,ops[i]? =some o->(∀c,o.op≠ .defer c)/\
   (Region.wanted o (yielded ops T)=false->JA fuel (A4 listed i) (Cv T o.dst undef) s)/\
   (Region.wanted o (yielded ops T)=true->lp P (execOp (Bs T) o) (Br D s) (λO s'=>match O with
    | .value v=>JA fuel (A4 listed i) (Cv T o.dst v) (Cj D s s')
    | .skip=>JA fuel (A4 listed i) (Cv T o.dst undef) (Cj D s s')
    | .enter f args=>∃R,EB J f args (Cj D s s') R/\∀v K,R v K->K.q=false/\(∀x o,(Br D s).E x=some o->(Br D K).E x=some o)/\JA fuel (A4 listed i) (Cv T o.dst v) K
    | _=>False) (λ_ _=>False)))
variable {J Q b ds ops k cs m D}
theorem VV(Z:b.kind≠ .early):∀(fuel t:Nat) (listed:Array Bool) (T:Av_) (s:St),JA J Q b ds ops k cs m D fuel listed T s->
  J.ok Q (G (fr b T ds (.inRegion ops (Region.linearise.go .any ops fuel t listed [])::k)) cs) s:=by
 intro fuel
 induction fuel with
 | zero=>intro t listed T s h;simpa [Region.linearise.go] using h.2
 | succ fuel K=>
  intro t listed T s h;rcases h with⟨_,h⟩ | ⟨ac,ag,h⟩
  ·exact h t
  ·obtain⟨i,hi⟩:∃i,(Region.ready .any ops listed)[t % (Region.ready .any ops listed).length]? =some i:=by
    have:0<(Region.ready .any ops listed).length:=List.length_pos_iff.2 ac;exact⟨_,List.getElem?_eq_getElem (Nat.mod_lt _ this)⟩
   have Y:=List.mem_of_getElem? hi;have hgo:Region.linearise.go .any ops (fuel+1) t listed []=i::Region.linearise.go .any ops fuel (t / (Region.ready .any ops listed).length) (A4 listed i) []:=by
    simp only [Region.linearise.go];change (match(Region.ready .any ops listed)[t % (Region.ready .any ops listed).length]? with
     | some i=>Region.linearise.go .any ops fuel (t / (Region.ready .any ops listed).length) (listed.setIfInBounds i true) [i]
     | none=> [].reverse)=_
    rw [hi];simp only;rw [linearise_go_acc];rfl
   rw [hgo];obtain⟨_,o,O,_⟩:=mem_ready.1 Y;obtain⟨hd,al,am⟩:=h i Y o O;cases hw:Region.wanted o (yielded ops T) with
   | false=>exact Judge.unwanted O hw (K _ _ _ _ (al hw))
   | true=>
    refine Judge.Sx D O hw Z hd ag (Ee _ (am hw) ?_ (λ_ _ h=>h));intro ap s' U;cases ap with
    | value v=>exact K _ _ _ _ U
    | skip=>exact K _ _ _ _ U
    | enter f args=>
     obtain⟨R,aq,av⟩:=U;refine aq Q _ cs λv aw ay=>?_;rw [Gq _ _ _ _ _ _ O];exact K _ _ _ _ (av v aw ay).2.2
    | _=>exact U.elim
theorem Xp{T:Av_}{d:Option Tmp}{v:Value}{x:Operand}(h:∀t,d=some t->x≠ .tmp t):Bs (Cv T d v) x=Bs T x:=by
 cases d with
 | none=>rfl
 | some t=>
  cases x with
  | tmp u=>
   have K:t≠u:=λe=>h t rfl (e▸rfl);simp only [Cv,Bs,Array.getD_eq_getD_getElem?,Array.getElem?_setIfInBounds_ne K]
  | _=>rfl
theorem H0{T:Av_}{d:Option Tmp}{v:Value}{o:Oper}(K:∀cs b,o.op≠ .select cs b)(h:∀t,d=some t->t ∉ o.looksAt ops):
  execOp (Bs (Cv T d v)) o=execOp (Bs T) o/\Region.wanted o (yielded ops (Cv T d v))=Region.wanted o (yielded ops T):=by
 refine⟨execOp_congr o K λx O=>Xp λt U Y=>h t U ?_,?_⟩
 ·subst Y;exact List.mem_append_left _ (List.mem_filterMap.2 ⟨.tmp t,by simpa using O,rfl⟩)
 ·have:=wanted_put (ops:=ops) o (⟨T,[]⟩:Act) d v h
  rwa [act_put'] at this
 where
  act_put' {T : Av_} {d : Option Tmp} {v : Value} : (⟨T, []⟩ : Act).put d v = ⟨Cv T d v, []⟩ := by cases d <;> rfl
theorem IZ{T:Av_}{d e:Option Tmp}{v u:Value}(h:∀t,d=some t->e≠some t):Cv (Cv T d v) e u=Cv (Cv T e u) d v:=by
 cases d with
 | none=>rfl
 | some t=>
  cases e with
  | none=>rfl
  | some K=>
   have O:t≠K:=λq=>h t rfl (q▸rfl);simp [Cv,Array.setIfInBounds_comm _ _ O]
theorem Qp{D:Nat->Bool}{s s':St}(K:s'.E=(Br D s).E):(Br D (Cj D s s')).E=(Br D s).E:=by
 funext x;by_cases h:D x
 ·simp [Br,Cj,h,St.get]
 ·have:=congrFun K x;simp [Br,h] at this;simp [Br,Cj,h,this]
def IH(ops:Ao_)(listed:Array Bool)(i:Nat)(oi:Oper):Bool:=
 (List.range ops.size).all λj=>j==i || listed.getD j true || match ops[j]? with
  | some K=>(K.after.any λe=>Region.binds .any e&&e.on==i) || oi.apart ops K
  | none=>true
def waits(ops:Ao_):Nat->Nat->Nat->Bool
 | 0,_,_=>false
 | f+1,j,i=>match ops[j]? with
  | some K=>K.after.any λe=>Region.binds .any e&&(e.on==i || waits ops f e.on i)
  | none=>true
def DC(ops:Ao_)(m:Nat):Bool:=
 (List.range ops.size).all λj=>decide (j<m) || (List.range m).all λi=>waits ops ops.size j i
def Hy(ops:Ao_)(listed:Array Bool):Bool:=
 (List.range ops.size).all λj=> !listed.getD j false || match ops[j]? with
  | some K=>K.after.all λe=> !Region.binds .any e || listed.getD e.on false
  | none=>true
theorem Og{listed:Array Bool}(h:Hy ops listed=true){j:Nat}{K:Oper}(O:ops[j]? =some K)(U:listed.getD j false=true):∀e∈K.after,Region.binds .any e=true->listed.getD e.on false=true:=by
 intro e he hb;have:=List.all_eq_true.1 h j (List.mem_range.2 (Array.getElem?_eq_some_iff.1 O).1);rw [U,O] at this;simp only [Bool.not_true,Bool.false_or] at this;have:=Array.all_eq_true'.1 this e he;rw [hb] at this;simpa using this
theorem Qh{listed:Array Bool}(Z:Hy ops listed=true){i:Nat}:∀(f j:Nat) (O:Oper),ops[j]? =some O->(∀e∈O.after,Region.binds .any e=true->listed.getD e.on false=true)->waits ops f j i=true->listed.getD i false=true∨∃x,ops[x]? =none/\listed.getD x false=true:=by
 intro f
 induction f with
 | zero=>intro j O _ _ h;cases h
 | succ f ac=>
  intro j O ag hd h;simp only [waits,ag] at h;obtain⟨e,he,K⟩:=Array.any_eq_true'.1 h;simp only [Bool.and_eq_true,Bool.or_eq_true,beq_iff_eq] at K;obtain⟨hb,K⟩:=K;have U:=hd e he hb;rcases K with rfl | K
  ·exact .inl U
  ·cases Y:ops[e.on]? with
   | none=>exact .inr ⟨_,Y,U⟩
   | some o=>exact ac e.on o Y (λal am ap=>Og Z Y U al am ap) K
theorem JA.take{i:Nat}{oi:Oper}{w:Bool}{v:Value}(hi:ops[i]? =some oi)(bf:i<m)(bg:DC ops m=true)(bh:Region.noSelect ops=true)(bi:∀c,oi.op≠ .defer c):
  ∀(fuel:Nat) (listed:Array Bool) (T:Av_) (s:St),IH ops listed i oi=true->Hy ops listed=true->listed.size=ops.size->i∈Region.ready .any ops listed->s.q=false->Region.wanted oi (yielded ops T)=w->
   (w=true->∀s',s'.q=false->(∀x o,(Br D s).E x=some o->s'.E x=some o)->Yl P oi (Bs T) s' v)->
   JA J Q b ds ops k cs m D fuel (A4 listed i) (Cv T oi.dst (if w then v else undef)) s->JA J Q b ds ops k cs m D (fuel+1) listed T s:=by
 have av:∀(j:Nat) (ag:Oper),ops[j]? =some ag->∀cs b,ag.op≠Op.select cs b:=λj ag h cs b=>Region.noSelect_spec bh j ag cs b h;intro fuel
 induction fuel with
 | zero=>?_
 | succ fuel aJ=>?_
 all_goals
  intro listed T s a2 a3 aw aK aL hw ay h;refine .inr ⟨λe=>(by rw [e] at aK;cases aK),aL,λj a4 ag O=>?_⟩;by_cases aq:j=i
  ·subst aq;obtain rfl:ag=oi:=by rw [hi] at O;exact(Option.some.inj O).symm
   refine⟨bi,λaT=>?_,λaU=>?_⟩
   ·rw [aT] at hw;subst hw;exact h
   ·rw [aU] at hw;subst hw;refine Ee _ (ay rfl (Br D s) aL λ_ _ h=>h).out ?_ (λ_ _ h=>h);rintro a5 s' ⟨rfl,rfl⟩;rw [KF];exact h
  ·
   have a6:j∈Region.ready .any ops (A4 listed i):=ready_mono a4 aq;obtain⟨al,U,a7,aV⟩:=mem_ready.1 a4;obtain rfl:U=ag:=by rw [O] at a7;exact(Option.some.inj a7).symm
   have aW:=(mem_ready.1 aK).1;have bj:(U.after.any λe=>Region.binds .any e&&e.on==i)=false:=by
    rw [Array.any_eq_false];intro e he K;simp only [Bool.and_eq_true,beq_iff_eq] at K;have:=aV _ (Array.getElem_mem he) K.1;rw [K.2] at this;have Y:listed.getD i true=listed.getD i false∨listed.size<=i:=by
     rcases Nat.lt_or_ge i listed.size with q | q
     ·left;simp [Array.getD_eq_getD_getElem?,q]
     ·exact .inr q
    rcases Y with Y | Y
    ·rw [aW,this] at Y;cases Y
    ·rw [Array.getD_eq_getD_getElem?,Array.getElem?_eq_none Y] at this;simp at this
   have bl:oi.apart ops U=true:=by
    have az:j<ops.size:=(Array.getElem?_eq_some_iff.1 O).1;have:=List.all_eq_true.1 a2 j (List.mem_range.2 az);simp only [Bool.or_eq_true,beq_iff_eq] at this;rcases this with(q | q) | q
    ·exact absurd q aq
    ·rw [al] at q;cases q
    ·rw [O] at q;simp only [Bool.or_eq_true] at q;rw [bj] at q;exact q.resolve_left (by simp)
   obtain⟨a1,aM,aN⟩:=Oper.apart_spec bl;obtain⟨bm,p2⟩:=H0 (ops:=ops) (T:=T) (v:=if w then v else undef) (av j U O) a1
   first
    | exact absurd a6 (by rw [h.1];simp)
    | (
     rcases h with⟨bn,_⟩ | ⟨bC,_,h⟩
     ·
      exfalso
      have bo:¬j<m:=by
       intro az
       have:=List.all_eq_true.1 bn j (List.mem_range.2 az)
       have e2:(A4 listed i).getD j false=listed.getD j false:=getD_set_ne false (Ne.symm aq)
       rw [e2] at this
       have Y:listed.getD j true=true:=by
        rcases Nat.lt_or_ge j listed.size with q | q
        ·simp [Array.getD_eq_getD_getElem?,q] at this ⊢;exact this
        ·simp [Array.getD_eq_getD_getElem?,Array.getElem?_eq_none q] at this
       rw [al] at Y;cases Y
      have az:j<ops.size:=(Array.getElem?_eq_some_iff.1 O).1
      have:=List.all_eq_true.1 bg j (List.mem_range.2 az)
      simp only [Bool.or_eq_true,decide_eq_true_eq] at this
      have:=List.all_eq_true.1 (this.resolve_left bo) i (List.mem_range.2 bf)
      rcases Qh a3 _ j U O (λe he hb=>aV e he hb) this with q | ⟨x,Z,ac⟩
      ·have bp:i<listed.size:=by rw [aw];exact(Array.getElem?_eq_some_iff.1 hi).1
       simp [Array.getD_eq_getD_getElem?,bp] at q aW
       rw [aW] at q;cases q
      ·have:¬x<listed.size:=by rw [aw];intro K;simp [K] at Z
       simp [Array.getD_eq_getD_getElem?,this] at ac
     ·obtain⟨hd,aT,aU⟩:=h j a6 U O
      have aO:A4 (A4 listed i) j=A4 (A4 listed j) i:=by
       unfold A4;exact Array.setIfInBounds_comm _ _ (Ne.symm aq)
      have aP:i∈Region.ready .any ops (A4 listed j):=ready_mono aK (Ne.symm aq)
      have aQ:IH ops (A4 listed j) i oi=true:=by
       refine List.all_eq_true.2 λx K=>?_
       have:=List.all_eq_true.1 a2 x K
       simp only [Bool.or_eq_true,beq_iff_eq] at this ⊢
       rcases this with(q | q) | q
       ·exact .inl (.inl q)
       ·left;right
        by_cases e:j=x
        ·subst e;rw [al] at q;cases q
        ·rw [A4,getD_set_ne true e];exact q
       ·exact .inr q
      have aR:(A4 listed j).size=ops.size:=by unfold A4;simpa using aw
      have aS:Hy ops (A4 listed j)=true:=by
       refine List.all_eq_true.2 λx K=>?_
       cases aX:ops[x]? with
       | none=>simp
       | some bq=>
        simp only [Bool.or_eq_true,Bool.not_eq_true']
        by_cases e:j=x
        ·subst e
         obtain rfl:bq=U:=by rw [O] at aX;exact(Option.some.inj aX).symm
         right
         refine Array.all_eq_true'.2 λe he=>?_
         cases hb:Region.binds .any e with
         | false=>simp
         | true=>
          have:=aV e he hb
          by_cases e2:j=e.on
          ·rw [← e2] at this
           have aY:j<listed.size:=by rw [aw];exact(Array.getElem?_eq_some_iff.1 O).1
           simp [Array.getD_eq_getD_getElem?,aY] at this al
           rw [al] at this;cases this
          ·rw [A4,getD_set_ne false e2];simpa using this
        ·cases a8:(A4 listed j).getD x false with
         | false=>exact .inl rfl
         | true=>
          right
          have br:listed.getD x false=true:=by rw [A4,getD_set_ne false e] at a8;exact a8
          refine Array.all_eq_true'.2 λaZ he=>?_
          cases hb:Region.binds .any aZ with
          | false=>simp
          | true=>
           have:=Og a3 aX br aZ he hb
           by_cases e2:j=aZ.on
           ·rw [← e2] at this
            have aY:j<listed.size:=by rw [aw];exact(Array.getElem?_eq_some_iff.1 O).1
            simp [Array.getD_eq_getD_getElem?,aY] at this al
            rw [al] at this;cases this
           ·rw [A4,getD_set_ne false e2];simpa using this
      refine⟨hd,λbu=>?_,λbv=>?_⟩
      ·have:=aT (by rw [p2];exact bu)
       rw [aO,IZ aM] at this
       obtain⟨Z,ac⟩:=H0 (ops:=ops) (T:=T) (d:=U.dst) (v:=undef) (o:=oi) (av i oi hi) aN
       exact aJ _ _ _ aQ aS aR aP aL (by rw [ac];exact hw) (λam s' bw a0=>by unfold Yl;rw [Z];exact(ay am s' bw a0).out) this
      ·have a9:=NP _ (aU (by rw [p2];exact bv))
       rw [bm] at a9
       refine Ee _ a9 ?_ (λ_ _ h=>h)
       rintro a5 s' ⟨K,a0,bx⟩
       have ba:=Qp (D:=D) a0
       have bb:(Cj D s s').q=false:=by show s'.q=false;rw [bx];exact aL
       cases a5 with
       | value u=>
        simp only at K ⊢
        rw [aO,IZ aM] at K
        obtain⟨Z,ac⟩:=H0 (ops:=ops) (T:=T) (d:=U.dst) (v:=u) (o:=oi) (av i oi hi) aN
        exact aJ _ _ _ aQ aS aR aP bb (by rw [ac];exact hw) (λam s2 aI ap=>by unfold Yl;rw [Z];exact(ay am s2 aI (by rw [ba] at ap;exact ap)).out) K
       | skip=>
        simp only at K ⊢
        rw [aO,IZ aM] at K
        obtain⟨Z,ac⟩:=H0 (ops:=ops) (T:=T) (d:=U.dst) (v:=undef) (o:=oi) (av i oi hi) aN
        exact aJ _ _ _ aQ aS aR aP bb (by rw [ac];exact hw) (λam s2 aI ap=>by unfold Yl;rw [Z];exact(ay am s2 aI (by rw [ba] at ap;exact ap)).out) K
       | enter f args=>
        obtain⟨R,bz,bA⟩:=K
        refine⟨R,bz,λu bB hu=>?_⟩
        obtain⟨be,r1,r2⟩:=bA u bB hu
        refine⟨be,r1,?_⟩
        rw [aO,IZ aM] at r2
        obtain⟨Z,ac⟩:=H0 (ops:=ops) (T:=T) (d:=U.dst) (v:=u) (o:=oi) (av i oi hi) aN
        exact aJ _ _ _ aQ aS aR aP be (by rw [ac];exact hw) (λam s2 aI ap=>by unfold Yl;rw [Z];exact(ay am s2 aI (λx o K=>ap x o (r1 x o K))).out) r2
       | _=>exact K.elim)
end
end Pal
namespace Pal
open Go Go.Conc
section
variable {P:Program}(J:Judge P)(Q:Gs_)(b:Frame)(n:Nat)(ds:Ld_)(ops:Ao_)(k:Li_)(cs:Lf_)(m:Nat)(D:Nat->Bool)
def AH(fuel:Nat)(listed:Array Bool)(L:Env)(s:St):Prop:=∀T,Has n L T->JA J Q b ds ops k cs m D fuel listed T s
end
def Dc:Nat->Bool:=λ_=>false
section
variable {P:Program}{J:Judge P}{Q:Gs_}{b:Frame}{n:Nat}{ds:Ld_}{ops:Ao_}{k:Li_}{cs:Lf_}{m fuel:Nat}{D:Nat->Bool}{listed:Array Bool}{L:Env}{s:St}
theorem OJ(m:Nat)(D:Nat->Bool){id:Nat}(K:s.q=false)(hm:P.follows .mixedOrders=true)(O:(b.kind != .early)=true)(h:AH J Q b n ds ops k cs m D ops.size (Array.replicate ops.size false) L s):JL J Q b n L ds (.code (.region id ops true)::k) cs s:=
 Se K hm λt T U=>VV (by simpa using O) ops.size t _ T s (h T U)
theorem VR{i:Nat}{oi:Oper}{v:Value}(hi:ops[i]? =some oi)(U:decide (i<m)=true)(Y:DC ops m=true)(Z:Region.noSelect ops=true)(O:(!Eh oi.op)=true)(ac:IH ops listed i oi=true)(ag:Hy ops listed=true)(al:(listed.size==ops.size)=true)(am:(Region.ready .any ops listed).contains i=true)(ap:s.q=false)
  (hw:AJ L ops oi=some true) (aq:Bd n oi.dst=true) (av:∀ρ,EL L ρ->∀s',s'.q=false->(∀x o,(Br D s).E x=some o->s'.E x=some o)->Yl P oi ρ s' v)
  (h:AH J Q b n ds ops k cs m D fuel (A4 listed i) (As L oi.dst v) s):AH J Q b n ds ops k cs m D (fuel+1) listed L s:=λT K=>by
 refine JA.take (w:=true) (v:=v) hi (by simpa using U) Y Z (λc aw=>by rw [aw] at O;simp [Eh] at O) fuel listed T s ac ag (by simpa using al) (by simpa using am) ap (B3 K hw) (λ_ s' ay az=>av _ K.Gb s' ay az) ?_
 exact h _ (K.put aq v)
theorem Vq{i:Nat}{oi:Oper}(hi:ops[i]? =some oi)(U:decide (i<m)=true)(Y:DC ops m=true)(Z:Region.noSelect ops=true)(K:(!Eh oi.op)=true)(ac:IH ops listed i oi=true)(ag:Hy ops listed=true)(al:(listed.size==ops.size)=true)(am:(Region.ready .any ops listed).contains i=true)(ap:s.q=false)
  (hw:AJ L ops oi=some false) (aq:Bd n oi.dst=true)
  (h:AH J Q b n ds ops k cs m D fuel (A4 listed i) (As L oi.dst undef) s):AH J Q b n ds ops k cs m D (fuel+1) listed L s:=λT O=>by
 refine JA.take (w:=false) (v:=undef) hi (by simpa using U) Y Z (λc av=>by rw [av] at K;simp [Eh] at K) fuel listed T s ac ag (by simpa using al) (by simpa using am) ap (B3 O hw) (λe=>by cases e) ?_
 exact h _ (O.put aq undef)
theorem RF(al:s.q=false)(am:Region.ready .any ops listed≠ [])
  (h:∀i∈Region.ready .any ops listed,∀o,ops[i]? =some o->(!Eh o.op)=true/\Bd n o.dst=true/\∃w,AJ L ops o=some w/\
   (w=false->AH J Q b n ds ops k cs m D fuel (A4 listed i) (As L o.dst undef) s)/\
   (w=true->∀ρ,EL L ρ->lp P (execOp ρ o) (Br D s) (λac s'=>match ac with
    | .value v=>AH J Q b n ds ops k cs m D fuel (A4 listed i) (As L o.dst v) (Cj D s s')
    | .skip=>AH J Q b n ds ops k cs m D fuel (A4 listed i) (As L o.dst undef) (Cj D s s')
    | .enter f args=>∃R,EB J f args (Cj D s s') R/\∀v K,R v K->K.q=false/\(∀x o,(Br D s).E x=some o->(Br D K).E x=some o)/\AH J Q b n ds ops k cs m D fuel (A4 listed i) (As L o.dst v) K
    | _=>False) (λ_ _=>False))):
  AH J Q b n ds ops k cs m D (fuel+1) listed L s:=λT O=>by
 refine .inr ⟨am,al,λi hi o ap=>?_⟩
 obtain⟨ag,U,w,hw,aq,av⟩:=h i hi o ap
 have Y:=B3 O hw
 refine⟨λc aw=>by rw [aw] at ag;simp [Eh] at ag,λe=>?_,λe=>?_⟩
 ·rw [e] at Y
  exact aq Y.symm _ (O.put U undef)
 ·rw [e] at Y;refine Ee _ (av Y.symm _ O.Gb) ?_ (λ_ _ h=>h);intro ac s' Z;cases ac with
  | value v=>exact Z _ (O.put U v)
  | skip=>exact Z _ (O.put U undef)
  | enter f args=>
   obtain⟨R,ay,az⟩:=Z;exact⟨R,ay,λv K aI=>let ⟨a,b,c⟩:=az v K aI;⟨a,b,c _ (O.put U v)⟩⟩
  | _=>exact Z.elim
theorem AH.one{i:Nat}{o:Oper}(ac:s.q=false)(Y:Region.ready .any ops listed= [i])(hi:ops[i]? =some o)(O:(!Eh o.op&&Bd n o.dst)=true)(hw:AJ L ops o=some true)
  (h:∀ρ,EL L ρ->lp P (execOp ρ o) (Br D s) (λag s'=>match ag with
    | .value v=>AH J Q b n ds ops k cs m D fuel (A4 listed i) (As L o.dst v) (Cj D s s')
    | .skip=>AH J Q b n ds ops k cs m D fuel (A4 listed i) (As L o.dst undef) (Cj D s s')
    | .enter f args=>∃R,EB J f args (Cj D s s') R/\∀v K,R v K->K.q=false/\(∀x o,(Br D s).E x=some o->(Br D K).E x=some o)/\AH J Q b n ds ops k cs m D fuel (A4 listed i) (As L o.dst v) K
    | _=>False) (λ_ _=>False)):
  AH J Q b n ds ops k cs m D (fuel+1) listed L s:=by
 simp only [Bool.and_eq_true] at O;refine RF ac (by rw [Y];simp) λj U o' Z=>?_;rw [Y] at U;simp at U;subst U;obtain rfl:o'=o:=by rw [hi] at Z;exact(Option.some.inj Z).symm
 exact⟨O.1,O.2,true,hw,λe=>(by cases e),λ_=>h⟩
theorem AH.call{i:Nat}{d:Option Tmp}{f:FuncId}{args:Array Operand}{ats:Array TypeId}{ty:TypeId}{p:String}{af:Ae_}{g:On_}{vs:Lv_}{R:Value->St->Prop}(U:s.q=false)(Y:Region.ready .any ops listed= [i])
  (Z:ops[i]? =some ⟨d,.call ⟨.value (.func f),args,ats⟩,ty,p,af,g⟩) (ac:Bd n d=true) (hw:AJ L ops ⟨d,.call ⟨.value (.func f),args,ats⟩,ty,p,af,g⟩=some true) (hb:Dv P f=true) (ag:evs L args.toList=some vs)
  (al:EB J f vs.toArray s R) (h:∀v K,R v K->K.q=false/\(∀x o,(Br D s).E x=some o->(Br D K).E x=some o)/\AH J Q b n ds ops k cs m D fuel (A4 listed i) (As L d v) K):
  AH J Q b n ds ops k cs m D (fuel+1) listed L s:=by
 refine AH.one U Y Z (by simp [Eh,ac]) hw λρ O=>?_;have am:args.map ρ=vs.toArray:=by
  rw [← Gr O ag];apply Array.ext';simp
 have ap:ρ (.func f)= .func (.func f) #[] #[]:=O _ _ rfl;simp only [execOp,resolve,bind,Sem.bind,Deferred.ofValue,ap,pure,invoke];have e: #[]++args.map ρ++ #[]=vs.toArray:=by rw [am];simp
 rw [e];refine IX hb ?_;rw [KF];exact⟨R,al,h⟩
theorem AH.leaf{tail:List Nat}(K:PH m listed=true)(hgo:∀t,Region.linearise.go .any ops (fuel+1) t listed []=tail)(h:JL J Q b n L ds (.inRegion ops tail::k) cs s):AH J Q b n ds ops k cs m D (fuel+1) listed L s:=λT O=>
 .inl ⟨K,λt=>by rw [hgo t];exact h T O⟩
theorem AH.fin(K:Region.ready .any ops listed= [])(h:JL J Q b n L ds k cs s):AH J Q b n ds ops k cs m D 0 listed L s:=λT O=>⟨K,JL.done h T O⟩
theorem YO{listed:Array Bool}{i:Nat}{tail:List Nat}{fuel:Nat}(K:Region.ready .any ops listed= [i])(h:∀t,Region.linearise.go .any ops fuel t (A4 listed i) []=tail)(t:Nat):Region.linearise.go .any ops (fuel+1) t listed []=i::tail:=by
 simp only [Region.linearise.go];change (match(Region.ready .any ops listed)[t % (Region.ready .any ops listed).length]? with
  | some i=>Region.linearise.go .any ops fuel (t / (Region.ready .any ops listed).length) (listed.setIfInBounds i true) [i]
  | none=> [].reverse)=_
 rw [K];simp only [List.length_singleton,Nat.mod_one,List.getElem?_cons_zero];rw [linearise_go_acc];have:=h (t / 1);unfold A4 at this;rw [this];rfl
theorem WR{i:Nat}{rest:List Nat}{d:Option Tmp}{f:FuncId}{args:Array Operand}{ats:Array TypeId}{ty:TypeId}{p:String}{af:Ae_}{g:On_}{vs:Lv_}{R:Value->St->Prop}
  (U:ops[i]? =some ⟨d,.call ⟨.value (.func f),args,ats⟩,ty,p,af,g⟩) (hw:AJ L ops ⟨d,.call ⟨.value (.func f),args,ats⟩,ty,p,af,g⟩=some true) (K:((b.kind != .early)&&Bd n d)=true) (hb:Dv P f=true)
  (Y:evs L args.toList=some vs) (Z:EB J f vs.toArray s R) (ac:∀v s',R v s'->JL J Q b n (As L d v) ds (.inRegion ops rest::k) cs s'):
  JL J Q b n L ds (.inRegion ops (i::rest)::k) cs s:=λT O=>by
 simp only [Bool.and_eq_true] at K
 have ag:args.map (Bs T)=vs.toArray:=by
  rw [← Gr O.Gb Y];apply Array.ext';simp
 refine Judge.oper U (B3 O hw) (by simpa using K.1) (.inr λc al=>by cases al) ?_;have hd:lp P (execOp (Bs T) ⟨d,.call ⟨.value (.func f),args,ats⟩,ty,p,af,g⟩) s (upon J Q b T ds ops i rest k cs d) (K4 J Q b T ds ops i rest k cs):=by
  simp only [execOp,resolve,bind,Sem.bind,Deferred.ofValue,Bs,pure,invoke];have e: #[]++args.map (Bs T)++ #[]=vs.toArray:=by rw [ag];simp
  rw [e];refine IX hb (Z Q _ cs λv s' am=>?_);rw [Gq (o:=⟨d,.call ⟨.value (.func f),args,ats⟩,ty,p,af,g⟩) _ _ _ _ _ U];exact ac v s' am _ (O.put K.2 v)
 exact hd
theorem EB.enter{f:FuncId}{fn:Func}{c:Code}{vs:Lv_}{R:Value->St->Prop}(Y:P.funcs[f]? =some fn)(hb:fn.body=some c)(al:vs.length<=fn.ntmps)
  (h:∀(Q:Gs_) (K:Frame) (cs:Lf_),(∀v s',R v s'->J.ok Q (G (K.finish v) cs) s')->JL J Q (base f) fn.ntmps (Ga 0 vs) [] [.code c] (K::cs) s):EB J f vs.toArray s R:=λQ K cs Z=>by
 have he:Frame.enter P f vs.toArray .normal=fr (base f) (vs.toArray++Array.replicate (fn.ntmps - vs.length) undef) [] [.code c]:=by
  simp [Frame.enter,fr,Y,hb,base];rfl
 rw [he];refine h Q K cs Z _ ⟨by simp;omega,λt v ac=>?_⟩;obtain⟨_,O⟩:=Jo ac;have ag:t<vs.length:=by
  rcases Nat.lt_or_ge t vs.length with U | U
  ·exact U
  ·simp at O;have:=(List.getElem?_eq_some_iff.1 O).1;omega
 rw [Array.getD_eq_getD_getElem?,Array.getElem?_append_left (by simpa using ag)];simp at O;simp [O]
end
end Pal
namespace Pal
open Go Go.Conc
section
variable {P:Program}{J:Judge P}{Q:Gs_}{b:Frame}{n:Nat}{ds:Ld_}{ops:Ao_}{k:Li_}{cs:Lf_}{L:Env}{s:St}{E E' H:LH}{B B0:List (Nat×Obj)}
theorem Sw(O:s.q=false)(h:(∃w,Fits s w)->JL J Q b n L ds k cs s):JL J Q b n L ds k cs s:=λT U=>by
 by_cases K:∃w,Fits s w
 ·exact h K T U
 ·exact J.step ⟨rfl,λw f=>absurd ⟨w,f⟩ K,λe=>by subst e;cases O⟩
theorem QD{x:Nat}:∀{B:List (Nat×Obj)},(∃p∈B,p.1=x)->A9 B H x≠none
 | [],⟨p,K,_⟩=>by cases K
 | (c,o)::B,⟨p,K,e⟩=>by
  simp only [A9]
  split
  ·simp
  ·rename_i O;rcases List.mem_cons.1 K with q | q
   ·subst q;exact absurd e.symm O
   ·exact QD ⟨p,q,e⟩
theorem Nd.grow(U:Nd E H B)(hd:∀x,E' x≠none->A9 B H x=none):Nd E' H B:=by
 have key:∀{C:List (Nat×Obj)},Nd E H C->(∀p∈C,p∈B)->Nd E' H C:=by
  intro C
  induction C with
  | nil=>intro _ _;trivial
  | cons p C Y=>
   obtain⟨c,o⟩:=p;intro hC O;refine⟨?_,hC.2.1,hC.2.2.1,Y hC.2.2.2 λp K=>O p (List.mem_cons_of_mem _ K)⟩;cases Z:E' c with
   | none=>rfl
   | some u=>exact absurd (hd c (by rw [Z];simp)) (QD ⟨(c,o),O _ (by simp),rfl⟩)
 exact key U λp K=>K
def NT(E:LH)(K:Nat)(v:Value)(n:Nat)(xs:Lv_):Prop:=
 ∃a c,v= .slice a n c/\n<=c/\xs.length=n*K/\(n=0∨∃bk off f e fr,a=some ⟨bk,off,none⟩/\E bk=some (.cells f e fr)/\∀j w,xs[j]? =some w->f[off+j]? =some w)
theorem NT.nil{K:Nat}:NT E K (.slice none 0 0) 0 []:=⟨none,0,rfl,Nat.le_refl _,by simp,.inl rfl⟩
def GS(e:TypeId)(K:Nat)(a:Option Addr)(l c:Nat)(blk:List (Nat×Obj))(xs:Lv_):Prop:=
 (a=none/\l=0/\c=0/\blk= []/\xs= [])∨∃bk f,a=some ⟨bk,0,none⟩/\blk= [(bk,.cells f e (0,0))]/\f.size=c*K/\l<=c/\xs=f.toList.take (l*K)
theorem GS.nil{e:TypeId}{K:Nat}:GS e K none 0 0 [] []:= .inl ⟨rfl,rfl,rfl,rfl,rfl⟩
theorem GS.length{e:TypeId}{K:Nat}{a:Option Addr}{l c:Nat}{blk:List (Nat×Obj)}{xs:Lv_}(h:GS e K a l c blk xs):xs.length=l*K:=by
 rcases h with⟨_,rfl,_,_,rfl⟩ | ⟨bk,f,_,_,O,U,rfl⟩
 ·simp
 ·have:l*K<=c*K:=Nat.mul_le_mul_right _ U;simp [O,Nat.min_eq_left this]
theorem T4{t e:TypeId}{v:Value}{Q:Value->St->Prop}{X:Halt->St->Prop}{z:Value}(O:P.underlying t=some (.slice e))(U:Bh P e=some v.cells.size)(Y:zeroOf P e=some z)(am:z.cells.size=v.cells.size)(ap:0<v.cells.size)(aq:v.cells.size<=64)
  (Z:Nd E H B) (k:∀r,Nd E H (B++ [(r,.cells v.cells e (0,0))])->Q (.slice (some ⟨r,0,none⟩) 1 1) (mk E H (B++ [(r,.cells v.cells e (0,0))]))):lp P (Instr.buildSlice t 1 #[(0,v)]) (mk E H B) Q X:=by
 unfold Instr.buildSlice;refine Au _ _ (Cg O ?_);refine Au _ _ (EH U ?_);rw [if_neg (by omega),if_neg (by omega)];refine Au (x:=zeroValue e) _ (Ho Y ?_);have ac:Instr.fill (λi=>some (i*v.cells.size,v.cells.size)) ((Array.range (1*v.cells.size)).map λi=>z.cells[i % z.cells.size]!) [(0,v)]=some v.cells:=by
  simp only [Instr.fill,Array.size_map,Array.size_range,Nat.one_mul,Nat.zero_mul];rw [if_neg (by simp)];congr 1;apply Array.ext_getElem?;intro j;have key:∀(l:Lv_) (st:Nat) (c:Av_),st+l.length<=c.size->∀j,(List.foldl (λcs (p:Value×Nat)=>cs.setIfInBounds (0+p.2) p.1) c (l.zipIdx st))[j]? =if st<=j/\j<st+l.length then l[j - st]? else c[j]? :=by
   intro l
   induction l with
   | nil=>intro st c _ j;simp;omega
   | cons x l ag=>
    intro st c av j;simp only [List.zipIdx_cons,List.foldl_cons,List.length_cons] at*;rw [ag (st+1) _ (by simp;omega) j];simp only [Nat.zero_add];by_cases al:j=st
    ·subst al;rw [if_neg (by omega),if_pos (by omega)];rw [Nat.sub_self,List.getElem?_cons_zero,Array.getElem?_setIfInBounds_self_of_lt (by omega)]
    ·by_cases e2:st+1<=j/\j<st+1+l.length
     ·rw [if_pos e2,if_pos (by omega)];have:j - st=(j - (st+1))+1:=by omega
      rw [this];simp
     ·rw [if_neg e2,if_neg (by omega),Array.getElem?_setIfInBounds_ne (by omega)]
  have:=key v.cells.toList 0 ((Array.range v.cells.size).map λi=>z.cells[i % z.cells.size]!) (by simp) j;rw [← Array.foldl_toList,Array.toList_zipIdx,this];by_cases K:j<v.cells.size
  ·simp [K]
  ·simp [K]
 rw [HX];simp only [ac];exact Au _ _ (I0 Z k)
end
end Pal
namespace Pal
open Go Go.Conc
section
variable {P:Program}{J:Judge P}{Q:Gs_}{b:Frame}{n:Nat}{ds:Ld_}{ops:Ao_}{k:Li_}{cs:Lf_}{L:Env}{s:St}{E E' H:LH}{B B0:List (Nat×Obj)}
theorem Lo{ρ:Operand->Value}{d:Option Tmp}{x y:Operand}{ats:Array TypeId}{ty:TypeId}{p:String}{af:Ae_}{g:On_}:
  execOp ρ ⟨d,.call ⟨.builtin .append,#[x,y],ats⟩,ty,p,af,g⟩=(do pure (Next.value (← Builtin.append_ ats ty #[ρ x,ρ y]))):=by
 simp [execOp,resolve,invoke,builtin,bind,Sem.bind,pure]
theorem T8{ρ:Operand->Value}{d:Option Tmp}{y:Operand}{t ty:TypeId}{p:String}{af:Ae_}{g:On_}:
  execOp ρ ⟨d,.buildSlice t 1 #[(0,y)],ty,p,af,g⟩=(do pure (Next.value (← Instr.buildSlice t 1 #[(0,ρ y)]))):=by
 simp [execOp]
theorem Za{L:Env}{d1:Tmp}{w:Value}:ev (As L (some d1) w) (.tmp d1)=some w:=by
 simp [As,ev,look]
theorem I5{α:Type}(l r:List α)(x y:α):(l++x::r).set l.length y=l++y::r:=by simp
theorem J8{e t t1:TypeId}{Y aq l c m:Nat}{a:Option Addr}{blk:List (Nat×Obj)}{xs ys:Lv_}{i:Nat}{rest:List Nat}{d:Option Tmp}{x y:Operand}{ats:Array TypeId}{ty:TypeId}{p:String}{af:Ae_}{g:On_}{z:Value}{ax:Option Addr}{cx:Nat}{B1:List (Nat×Obj)}
  (aN:ops[i]? =some ⟨d,.call ⟨.builtin .append,#[x,y],ats⟩,ty,p,af,g⟩) (hw:AJ L ops ⟨d,.call ⟨.builtin .append,#[x,y],ats⟩,ty,p,af,g⟩=some true) (aO:BH b n ⟨d,.call ⟨.builtin .append,#[x,y],ats⟩,ty,p,af,g⟩=true)
  (aP:ev L x=some (.slice a l c)) (aQ:ev L y=some (.slice ax m cx)) (aR:ats[0]? =some t) (aS:ats[1]? =some t1) (aT:P.underlying t=some (.slice e)) (aU:P.underlying t1=some (.slice e)) (aV:Bh P e=some Y) (hb:FE P e=some aq) (aW:zeroOf P e=some z) (aX:z.cells.size=Y)
  (aY:0<aq) (aZ:aq<=64) (a9:0<m) (a0:l+m<=2 ^ 40) (a1:∀w∈ys,CW w=true) (av:GS e Y a l c blk xs) (a2:Nd E H (B0++blk++B1)) (a3:HA (mk E H (B0++blk++B1)) (.slice ax m cx) Y ys)
  (h:∀aL ag aw,GS e Y aL (l+m) ag aw (xs++ys)->Nd E H (B0++aw)->JL J Q b n (As L d (.slice aL (l+m) ag)) ds (.inRegion ops rest::k) cs (mk E H (B0++aw))):
  JL J Q b n L ds (.inRegion ops (i::rest)::k) cs (mk E H (B0++blk++B1)):=by
 refine JL.op aN hw aO λρ aM=>?_;rw [Lo,aM x _ aP,aM y _ aQ];have a4:NH (B0++blk++B1) B0.length e Y a l c xs:=by
  rcases av with⟨O,ac,al,ay,am⟩ | ⟨bk,f,O,ac,al,ay,am⟩
  ·exact .inl ⟨O,ac,al,am⟩
  ·refine .inr ⟨bk,f,O,?_,al,ay,am⟩;subst ac;simp
 have hlen:=av.length;refine Au _ _ (OB (pl:=B0.length) aR aS aU aT aV hb aW aX a2 a4 a3 a1 aY a0 aZ ?_ ?_ ?_)
 ·
  intro bk f K ap ba bb a5 az aI Z;rcases av with⟨O,_⟩ | ⟨U,f0,O,ac,al,ay,am⟩
  ·rw [O] at ap;cases ap
  ·subst ac;have a6:U=bk:=by rw [O] at ap;simpa using ap
   subst a6;have a7:(B0++ [(U,Obj.cells f0 e (0,0))]++B1).set B0.length (U,.cells K e (0,0))=B0++ [(U,.cells K e (0,0))]++B1:=by
    rw [List.append_assoc,List.append_assoc];exact I5 _ _ _ _
   rw [a7] at Z ⊢;have aJ:Nd E H (B0++ [(U,.cells K e (0,0))]):=Nd.left Z;refine JL.drop (B0++ [(U,.cells K e (0,0))]) (λp aK=>?_) Z (h a c _ (.inr ⟨U,K,O,rfl,az,a5,aI.symm⟩) aJ);exact List.mem_iff_getElem?.1 (List.mem_append_left _ aK)
 ·intro _ hm;omega
 ·
  intro r K ag a8 az aI Z;have aJ:Nd E H (B0++ [(r,.cells K e (0,0))]):=Nd.pick Z;refine JL.drop (B0++ [(r,.cells K e (0,0))]) (λp aK=>?_) Z (h (some ⟨r,0,none⟩) ag _ (.inr ⟨r,K,rfl,rfl,az,a8,aI.symm⟩) aJ);refine List.mem_iff_getElem?.1 ?_;rcases List.mem_append.1 aK with q | q
  ·simp [q]
  ·exact List.mem_append_right _ q
 where
  Nd.left {E H : LH} {A C : List (Nat × Obj)} (h : Nd E H (A ++ C)) : Nd E H A := by
    induction A with
    | nil => trivial
    | cons p A ih =>
      obtain ⟨c, o⟩ := p
      obtain ⟨h1, h2, h3, h4⟩ := h
      exact ⟨h1, h2, λq hq => h3 q (List.mem_append_left _ hq), ih h4⟩
  Nd.pick {E H : LH} {A C F : List (Nat × Obj)} {x : Nat × Obj} (h : Nd E H (A ++ C ++ F ++ [x])) : Nd E H (A ++ [x]) := by
    induction A with
    | nil =>
      have : ∀ (D : List (Nat × Obj)), Nd E H (D ++ [x]) -> Nd E H [x] := by
        intro D
        induction D with
        | nil => exact λh => h
        | cons p D ih => obtain ⟨c, o⟩ := p; exact λh => ih h.2.2.2
      exact this _ h
    | cons p A ih =>
      obtain ⟨c, o⟩ := p
      obtain ⟨h1, h2, h3, h4⟩ := h
      refine ⟨h1, h2, λq hq => h3 q ?_, ih h4⟩
      rcases List.mem_append.1 hq with hq | hq
      . simp [hq]
      . exact List.mem_append_right _ hq
theorem VK{K r:Nat}{e:TypeId}{v:Value}{A:List (Nat×Obj)}(O:v.cells.size=K)(U:Nd E H (A++ [(r,.cells v.cells e (0,0))])):
  HA (mk E H (A++ [(r,.cells v.cells e (0,0))])) (.slice (some ⟨r,0,none⟩) 1 1) K v.cells.toList:=by
 refine⟨.inl rfl,by simp [O],Nat.le_refl _,λj w Y=>?_⟩;simp only [Nat.zero_add];refine Ro (i:=A.length) U (c:=v.cells) (e:=e) (f:=(0,0)) (by simp) ?_;simpa using Y
theorem UQ{e t t1 t2:TypeId}{K O l c:Nat}{a:Option Addr}{blk:List (Nat×Obj)}{xs:Lv_}{i al:Nat}{rest:List Nat}{d1:Tmp}{d:Option Tmp}{x y:Operand}{ats:Array TypeId}{ty U:TypeId}{p Y:String}{af Z:Ae_}{g g':On_}{z v:Value}
  (az:ops[i]? =some ⟨some d1,.buildSlice t2 1 #[(0,y)],U,Y,Z,g'⟩) (hw:AJ L ops ⟨some d1,.buildSlice t2 1 #[(0,y)],U,Y,Z,g'⟩=some true) (aI:BH b n ⟨some d1,.buildSlice t2 1 #[(0,y)],U,Y,Z,g'⟩=true)
  (aJ:ops[al]? =some ⟨d,.call ⟨.builtin .append,#[x,.tmp d1],ats⟩,ty,p,af,g⟩) (aK:∀w,AJ (As L (some d1) w) ops ⟨d,.call ⟨.builtin .append,#[x,.tmp d1],ats⟩,ty,p,af,g⟩=some true) (aL:BH b n ⟨d,.call ⟨.builtin .append,#[x,.tmp d1],ats⟩,ty,p,af,g⟩=true)
  (aM:∀w,ev (As L (some d1) w) x=some (.slice a l c)) (aN:ev L y=some v) (aO:ats[0]? =some t) (aP:ats[1]? =some t1) (aQ:P.underlying t=some (.slice e)) (aR:P.underlying t1=some (.slice e)) (aS:P.underlying t2=some (.slice e)) (am:Bh P e=some K) (hb:FE P e=some O) (ap:zeroOf P e=some z) (aq:z.cells.size=K)
  (aT:0<O) (aU:O<=64) (ac:v.cells.size=K) (a0:0<K) (a1:K<=64) (aV:l+1<=2 ^ 40) (aW:∀w∈v.cells.toList,CW w=true) (aX:GS e K a l c blk xs) (aY:Nd E H (B0++blk))
  (h:∀w av aw ag,GS e K av (l+1) aw ag (xs++v.cells.toList)->Nd E H (B0++ag)->JL J Q b n (As (As L (some d1) w) d (.slice av (l+1) aw)) ds (.inRegion ops rest::k) cs (mk E H (B0++ag))):
  JL J Q b n L ds (.inRegion ops (i::al::rest)::k) cs (mk E H (B0++blk)):=by
 refine JL.op az hw aI λρ aZ=>?_;rw [T8,aZ y _ aN];refine Au _ _ (T4 (z:=z) (v:=v) aS (by rw [ac];exact am) ap (by rw [ac];exact aq) (by omega) (by omega) aY λr ay=>?_);refine J8 (B1:= [(r,.cells v.cells e (0,0))]) (m:=1) (cx:=1) (ax:=some ⟨r,0,none⟩) (y:= .tmp d1) (x:=x) (ys:=v.cells.toList) (l:=l) (c:=c) (a:=a) (blk:=blk) (xs:=xs) aJ (aK _) aL (aM _) Za aO aP aQ aR am hb ap aq aT aU (by omega) aV aW aX ay ?_ (h _);exact VK ac ay
theorem Uu{e:TypeId}{K l c:Nat}{a:Option Addr}{blk:List (Nat×Obj)}{xs:Lv_}{todo:Li_}(ac:GS e K a l c blk xs)(U:Nd E H (B0++blk))
  (h:∀E',Le E E'->NT E' K (.slice a l c) l xs->Nd E' H B0->JL J Q b n L ds todo cs (mk E' H B0)):JL J Q b n L ds todo cs (mk E H (B0++blk)):=by
 rcases ac with⟨rfl,rfl,rfl,rfl,rfl⟩ | ⟨bk,f,rfl,rfl,ag,Y,rfl⟩
 ·simp only [List.append_nil] at U ⊢;exact h E (Le.refl _) .nil U
 ·have al:(B0++ [(bk,Obj.cells f e (0,0))])[B0.length]? =some (bk,Obj.cells f e (0,0)):=by simp
  refine JL.freeze B0.length U al λE' hle am Z=>?_;have ap:(B0++ [(bk,Obj.cells f e (0,0))]).eraseIdx B0.length=B0:=by rw [List.eraseIdx_append_of_length_le (Nat.le_refl _)];simp
  rw [ap] at Z ⊢;refine h E' hle ⟨_,c,rfl,Y,?_,.inr ⟨bk,0,f,e,(0,0),rfl,am,λj w O=>?_⟩⟩ Z
  ·have:l*K<=c*K:=Nat.mul_le_mul_right _ Y;simp [ag,Nat.min_eq_left this]
  ·rw [List.getElem?_take] at O;split at O
   ·simpa using O
   ·cases O
end
end Pal
namespace Pal
open Go Go.Conc
abbrev iV(n:Int):Value:= .int .i64 n
section
variable {P:Program}{s:St}{ρ:Operand->Value}{d:Option Tmp}{t u ty:TypeId}{x y:Operand}{p:String}{af:Ae_}{g:On_}{a c:Nat}
end
theorem ON{P:Program}{t:TypeId}{K:TypeInfo}(h:P.types[t]? =some K):P.info? t=some K:=by
 have:=(Array.getElem?_eq_some_iff.1 h).1;unfold Tables.info?;rw [if_pos this,h]
theorem AQ{P:Program}{t:TypeId}{K:TypeInfo}(h:P.types[t]? =some K):Bh P t=some K.size:=by simp [Bh,ON h]
theorem Dl{P:Program}{t:TypeId}{K:TypeInfo}(h:P.types[t]? =some K):FE P t=some K.bytes:=by simp [FE,ON h]
theorem Dh{P:Program}{t:TypeId}{K:TypeInfo}(h:P.types[t]? =some K):zeroOf P t=K.zero:=by simp [zeroOf,ON h]
def Yq:TypeDesc->Bool | .struct _=>true | .array _ _=>true | _=>false
theorem CO{P:Program}{t:TypeId}{d:TypeDesc}(h:P.underlying t=some d):Dd P t=some (Yq d):=by
 unfold Dd;rw [h];cases d <;> rfl
theorem A7{P:Program}{f:FuncId}{fn:Func}(h:P.funcs[f]? =some fn)(hb:(!(fn.name== "runtime.NumGoroutine")&&fn.body.isSome)=true):Dv P f=true:=by
 simp only [Dv,h];exact hb
def SM(a:Nat):Nat->List Nat
 | 0=> []
 | n+1=>SM a n++(if a.testBit n then [n] else [])
abbrev TN(a:Nat):List Nat:=SM a 16
end Pal
namespace Pal
end Pal
namespace Pal
open Go Go.Conc
end Pal
namespace Pal
open Go Go.Conc
def At(E:LH)(bk o:Nat)(ws:Lv_):Prop:=∃f e fr,E bk=some (.cells f e fr)/\∀j w,ws[j]? =some w->f[o+j]? =some w
theorem At.Ah{E E':LH}{bk o:Nat}{ws:Lv_}(h:At E bk o ws)(hle:Le E E'):At E' bk o ws:=let ⟨f,e,fr,K,O⟩:=h;⟨f,e,fr,hle _ _ K,O⟩
theorem At.cell{E H:LH}{B:List (Nat×Obj)}{bk o j:Nat}{ws:Lv_}{w:Value}(h:At E bk o ws)(K:ws[j]? =some w):(mk E H B).cell? ⟨bk,o+j,none⟩=some w:=
 let ⟨_,_,_,O,U⟩:=h;U7 O (U j w K)
theorem At.cells{E H:LH}{B:List (Nat×Obj)}{bk o:Nat}{ws:Lv_}(h:At E bk o ws):∀j v,ws[j]? =some v->(mk E H B).cell? (Addr.add ⟨bk,o,none⟩ j)=some v:=λj v K=>by
 rw [Dz rfl];exact h.cell K
section
variable {P:Program}{J:Judge P}{Q:Gs_}{b:Frame}{n:Nat}{ds:Ld_}{ops:Ao_}{k:Li_}{cs:Lf_}{L:Env}{s:St}{E E' H:LH}{B B0:List (Nat×Obj)}
variable {d:Option Tmp}{x y:Operand}{t u ty e:TypeId}{p:String}{af:Ae_}{g:On_}{v:Value}{i:Nat}{rest:List Nat}{kd:IntKind}
theorem JL.put(h:look L i=some v)(O:JL J Q b n (As L (some i) v) ds k cs s):JL J Q b n L ds k cs s:=λT K=>
 O T ⟨K.size,λt w e=>by
  simp only [As,look] at e
  split at e
  ·rename_i U;subst U;cases e;exact K.at_ _ _ h
  ·exact K.at_ _ _ e⟩
theorem Lw{q:Prop} [Decidable q] (h:look L i=some (.bool (decide q)))(O:q->JL J Q b n (As L (some i) (.bool true)) ds k cs s)(U:¬q->JL J Q b n (As L (some i) (.bool false)) ds k cs s):JL J Q b n L ds k cs s:=by
 by_cases K:q
 ·refine JL.put (i:=i) (v:= .bool true) ?_ (O K);rw [h,decide_eq_true K]
 ·refine JL.put (i:=i) (v:= .bool false) ?_ (U K);rw [h,decide_eq_false K]
theorem Kb{c:Bool}(h:look L i=some (.bool c))(K:c=true->JL J Q b n (As L (some i) (.bool true)) ds k cs s)(O:c=false->JL J Q b n (As L (some i) (.bool false)) ds k cs s):JL J Q b n L ds k cs s:=by
 cases c
 ·exact JL.put h (O rfl)
 ·exact JL.put h (K rfl)
end
end Pal
namespace Pal
open Go Go.Conc
theorem Cp{P:Program}{s:St}{ρ:Operand->Value}{d:Option Tmp}{t ty ft:TypeId}{x:Operand}{p:String}{af:Ae_}{g:On_}{a:Addr}{O:Array Field}{i:Nat}{K:Field}(U off:Nat)(Y:P.underlying t=some (.struct O))(Z:Bh P ft=some (U+1))(hi:O[i]? =some K)(ac:K.type=ft)(ag:K.offset=off)(al:ρ x= .pointer (some a)):
  Yl P ⟨d,.fieldAddr t x i,ty,p,af,g⟩ ρ s (.pointer (some (a.add off))):=by
 subst ac ag;exact Yl.fieldAddr Y hi Z al
end Pal
namespace Pal
open Go Go.Conc
section
variable {P:Program}{J:Judge P}{Q:Gs_}{b:Frame}{n:Nat}{ds:Ld_}{ops:Ao_}{k:Li_}{cs:Lf_}{L:Env}{s:St}{E E' H:LH}{B B0:List (Nat×Obj)}
variable {d:Option Tmp}{x y:Operand}{t u ty e:TypeId}{p:String}{af:Ae_}{g:On_}{v:Value}{i:Nat}{rest:List Nat}{kd:IntKind}
theorem At.PG{bk o j:Nat}{ws:Lv_}{w:Value}(h:At E bk o ws)(K:∀x o,E x=some o->s.E x=some o)(O:ws[j]? =some w):s.cell? ⟨bk,o+j,none⟩=some w:=by
 obtain⟨f,e,fr,U,Y⟩:=h;unfold St.cell? St.get;rw [K _ _ U];exact Y j w O
theorem At.Zk{bk o:Nat}{ws:Lv_}(h:At E bk o ws)(K:∀x o,E x=some o->s.E x=some o):∀j v,ws[j]? =some v->s.cell? (Addr.add ⟨bk,o,none⟩ j)=some v:=λj v O=>by
 rw [Dz rfl];exact h.PG K O
end
section
variable {P:Program}{J:Judge P}{Q:Gs_}{b:Frame}{n:Nat}{ds:Ld_}{ops:Ao_}{k:Li_}{cs:Lf_}{m fuel:Nat}{listed:Array Bool}{L:Env}{E H:LH}{B:List (Nat×Obj)}
variable {d:Option Tmp}{x y:Operand}{t u ty e:TypeId}{p:String}{af:Ae_}{g:On_}{v:Value}{i:Nat}{kd:IntKind}
end
end Pal
namespace Pal
open Go Go.Conc
section
variable {P:Program}{J:Judge P}{Q:Gs_}{b:Frame}{n:Nat}{ds:Ld_}{ops:Ao_}{k:Li_}{cs:Lf_}{m fuel:Nat}{D:Nat->Bool}{listed:Array Bool}{L:Env}{s:St}{i:Nat}{v:Value}
theorem AH.put(h:look L i=some v)(O:AH J Q b n ds ops k cs m D fuel listed (As L (some i) v) s):AH J Q b n ds ops k cs m D fuel listed L s:=λT K=>
 O T ⟨K.size,λt w e=>by
  simp only [As,look] at e
  split at e
  ·rename_i U;subst U;cases e;exact K.at_ _ _ h
  ·exact K.at_ _ _ e⟩
theorem GC{q:Prop} [Decidable q] (h:look L i=some (.bool (decide q)))(O:q->AH J Q b n ds ops k cs m D fuel listed (As L (some i) (.bool true)) s)(U:¬q->AH J Q b n ds ops k cs m D fuel listed (As L (some i) (.bool false)) s):AH J Q b n ds ops k cs m D fuel listed L s:=by
 by_cases K:q
 ·refine AH.put (i:=i) (v:= .bool true) ?_ (O K);rw [h,decide_eq_true K]
 ·refine AH.put (i:=i) (v:= .bool false) ?_ (U K);rw [h,decide_eq_false K]
theorem Ux{c:Bool}(h:look L i=some (.bool c))(K:c=true->AH J Q b n ds ops k cs m D fuel listed (As L (some i) (.bool true)) s)(O:c=false->AH J Q b n ds ops k cs m D fuel listed (As L (some i) (.bool false)) s):AH J Q b n ds ops k cs m D fuel listed L s:=by
 cases c
 ·exact AH.put h (O rfl)
 ·exact AH.put h (K rfl)
end
end Pal
namespace Pal
open Go Go.Conc
structure Rp (α:Type) where
 n:Nat
 r:LH->Lv_->α->Prop
 Ah:∀{E E':LH} {ws:Lv_} {x:α},Le E E'->r E ws x->r E' ws x
 len:∀{E:LH} {ws:Lv_} {x:α},r E ws x->ws.length=n
 one:∀{E:LH} {ws:Lv_} {x:α},r E ws x->∀w∈ws,CW w=true
def rK(kd:IntKind):Rp Int:=⟨1,λ_ ws x=>ws= [.int kd x],λ_ h=>h,λh=>by subst h;rfl,λh w hw=>by subst h;simp at hw;subst hw;rfl⟩
abbrev rI:Rp Int:=rK .i64
def rN(kd:IntKind):Rp Nat:=⟨1,λ_ ws x=>ws= [.int kd ((x:Nat):Int)],λ_ h=>h,λh=>by subst h;rfl,λh w hw=>by subst h;simp at hw;subst hw;rfl⟩
def rB:Rp Bool:=⟨1,λ_ ws x=>ws= [.bool x],λ_ h=>h,λh=>by subst h;rfl,λh w hw=>by subst h;simp at hw;subst hw;rfl⟩
def rP{α β:Type}(p:Rp α)(q:Rp β):Rp (α×β):=⟨p.n+q.n,λE ws x=>∃U Y,ws=U++Y/\p.r E U x.1/\q.r E Y x.2,
 λhle ⟨a,b,h,K,O⟩=>⟨a,b,h,p.Ah hle K,q.Ah hle O⟩,λ⟨a,b,h,K,O⟩=>by subst h;rw [List.length_append,p.len K,q.len O],
 λ⟨a,b,h,K,O⟩ w hw=>by
  subst h
  rcases List.mem_append.1 hw with hw | hw
  ·exact p.one K w hw
  ·exact q.one O w hw⟩
def Am{α:Type}(p:Rp α)(E:LH)(a:Option Addr)(c:Nat)(xs:List α):Prop:=
 xs.length<=c/\((xs= []/\∀ad:Addr,a=some ad->ad.spot=none∨c=0)∨∃bk off,a=some ⟨bk,off,none⟩/\∀(i:Nat) x,xs[i]? =some x->∃ws,p.r E ws x/\At E bk (off+i*p.n) ws)
theorem Am.Ah{α:Type}{p:Rp α}{E E':LH}{a:Option Addr}{c:Nat}{xs:List α}(h:Am p E a c xs)(hle:Le E E'):Am p E' a c xs:=
 ⟨h.1,h.2.imp id λ⟨bk,off,K,O⟩=>⟨bk,off,K,λi x U=>let ⟨ws,Y,Z⟩:=O i x U;⟨ws,p.Ah hle Y,Z.Ah hle⟩⟩⟩
theorem Am.nil{α:Type}{p:Rp α}{E:LH}{c:Nat}:Am p E none c []:=⟨Nat.zero_le _,.inl ⟨rfl,λ_ h=>by cases h⟩⟩
def rL{α:Type}(p:Rp α):Rp (List α):=⟨1,λE ws xs=>∃a c,ws= [.slice a xs.length c]/\Am p E a c xs,
 λhle ⟨a,c,h,K⟩=>⟨a,c,h,K.Ah hle⟩,λ⟨a,c,h,K⟩=>by subst h;rfl,λ⟨a,c,h,K⟩ w hw=>by subst h;simp at hw;subst hw;rfl⟩
def rV:Rp Value:=⟨1,λ_ ws x=>ws= [x]/\CW x=true,λ_ h=>h,λh=>by rw [h.1];rfl,λh w hw=>by rw [h.1] at hw;simp at hw;subst hw;exact h.2⟩
def rA{α:Type}(k:Nat)(p:Rp α):Rp (List α):=⟨k*p.n,λE ws xs=>xs.length=k/\∃wss:List (Lv_),ws=wss.flatten/\wss.length=k/\∀(i:Nat) x us,xs[i]? =some x->wss[i]? =some us->p.r E us x,
 λhle ⟨U,wss,h,K,O⟩=>⟨U,wss,h,K,λi x us a b=>p.Ah hle (O i x us a b)⟩,
 λ{E ws xs} ⟨U,wss,h,K,O⟩=>by
  subst h
  have:∀(wss:List (Lv_)) (xs:List α),xs.length=wss.length->(∀(i:Nat) x us,xs[i]? =some x->wss[i]? =some us->p.r E us x)->wss.flatten.length=wss.length*p.n:=by
   intro wss
   induction wss with
   | nil=>intro xs _ _;simp
   | cons us wss Z=>
    intro xs Y h
    cases xs with
    | nil=>simp at Y
    | cons x xs=>
     rw [List.flatten_cons,List.length_append,p.len (h 0 x us rfl rfl),Z xs (by simpa using Y) (λi y u a b=>h (i+1) y u a b),List.length_cons,Nat.succ_mul,Nat.add_comm]
  rw [this wss xs (by omega) O,K],
 λ{E ws xs} ⟨U,wss,h,K,O⟩ w hw=>by
  subst h
  obtain⟨us,ac,hw⟩:=List.mem_flatten.1 hw
  obtain⟨i,hi⟩:=List.mem_iff_getElem?.1 ac
  have ag:i<xs.length:=by rw [U,← K];exact(List.getElem?_eq_some_iff.1 hi).1
  exact p.one (O i _ us (List.getElem?_eq_getElem ag) hi) w hw⟩
def ix{α:Type}(xs:List α)(i:Int):Option α:=if 0<=i then xs[i.toNat]? else none
theorem Gt{α:Type}{xs:List α}{i:Int}{x:α}(h:ix xs i=some x):∃m:Nat,i=m/\xs[m]? =some x:=by
 unfold ix at h;split at h
 ·exact⟨i.toNat,by omega,h⟩
 ·cases h
def Aw(x:Int):Option Int:=if -9223372036854775808<=x/\x<=9223372036854775807 then some x else none
theorem KH{x y:Int}(h:Aw x=some y):y=x/\ -9223372036854775808<=x/\x<=9223372036854775807:=by
 unfold Aw at h;split at h
 ·rename_i hb;exact⟨(Option.some.inj h).symm,hb⟩
 ·cases h
theorem bind_some{α β:Type}{o:Option α}{f:α->Option β}{r:β}(h:o.bind f=some r):∃x,o=some x/\f x=some r:=by
 cases o with
 | none=>cases h
 | some x=>exact⟨x,rfl,h⟩
inductive Bn (S A:Type) where
 | more (s:S)
 | done (a:A)
def iter{S A:Type}(body:S->Option (Bn S A)):Nat->S->Option A
 | 0,_=>none
 | f+1,s=>match body s with
  | none=>none
  | some (.done a)=>some a
  | some (.more s')=>iter body f s'
theorem Q4{S A:Type}{body:S->Option (Bn S A)}{f:Nat}{s:S}{a:A}(h:iter body (f+1) s=some a):∃st,body s=some st:=by
 simp only [iter] at h;cases hb:body s with
 | none=>rw [hb] at h;cases h
 | some st=>exact⟨st,rfl⟩
theorem Q3{S A:Type}{body:S->Option (Bn S A)}{f:Nat}{s:S}{a K:A}(h:iter body (f+1) s=some a)(hb:body s=some (.done K)):K=a:=by
 simp only [iter,hb] at h;exact Option.some.inj h
theorem Q2{S A:Type}{body:S->Option (Bn S A)}{f:Nat}{s s':S}{a:A}(h:iter body (f+1) s=some a)(hb:body s=some (.more s')):iter body f s'=some a:=by
 simp only [iter,hb] at h;exact h
abbrev Seg:=List (Nat×Obj)
def Aj(E H:LH)(S:List Seg):St:=mk E H S.flatten
def Aq(E H:LH)(S:List Seg):Prop:=Nd E H S.flatten
theorem Nd.mem{E H:LH}:∀{B:List (Nat×Obj)} {b:Nat} {o:Obj},Nd E H B->(b,o)∈B->∃i:Nat,B[i]? =some (b,o):=λ_ h=>List.mem_iff_getElem?.1 h
theorem Nd.iff{E H:LH}:∀{B:List (Nat×Obj)},Nd E H B↔(B.map (·.1)).Nodup/\∀p∈B,E p.1=none/\H p.1=none
 | []=>by simp [Nd]
 | (b,o)::B=>by
  simp only [Nd,List.map_cons,List.nodup_cons,List.mem_cons,forall_eq_or_imp,Nd.iff (B:=B),List.mem_map,not_exists,not_and]
  constructor
  ·rintro⟨K,O,U,Y,Z⟩;exact⟨⟨U,Y⟩,⟨K,O⟩,Z⟩
  ·rintro⟨⟨U,Y⟩,⟨K,O⟩,Z⟩;exact⟨K,O,U,Y,Z⟩
theorem Nd.perm{E H:LH}{B B':List (Nat×Obj)}(h:Nd E H B)(K:B.Perm B'):Nd E H B':=by
 rw [Nd.iff] at h ⊢;exact⟨(K.map _).nodup_iff.1 h.1,λp O=>h.2 p (K.mem_iff.2 O)⟩
theorem Qw{E H:LH}{B B':List (Nat×Obj)}(h:Nd E H B)(K:B.Perm B'):A9 B H=A9 B' H:=by
 funext x;by_cases O:∃p∈B,p.1=x
 ·obtain⟨⟨b,o⟩,hm,rfl⟩:=O;obtain⟨i,hi⟩:=h.mem hm;obtain⟨j,U⟩:=(h.perm K).mem (K.mem_iff.1 hm);rw [I2 h hi,I2 (h.perm K) U]
 ·have key:∀{C:List (Nat×Obj)},(∀p∈C,p.1≠x)->A9 C H x=H x:=by
   intro C
   induction C with
   | nil=>intro _;rfl
   | cons p C Y=>
    intro hC;obtain⟨c,u⟩:=p;have Z:x≠c:=λe=>hC (c,u) (by simp) e.symm;simp only [A9,if_neg Z];exact Y λp K=>hC p (List.mem_cons_of_mem _ K)
  rw [key λp K e=>O ⟨p,K,e⟩,key λp ac e=>O ⟨p,K.mem_iff.2 ac,e⟩]
theorem EY{E H:LH}{B B':List (Nat×Obj)}(h:Nd E H B)(K:B.Perm B'):mk E H B=mk E H B':=by unfold mk;rw [Qw h K]
theorem Ec{S:List Seg}{j:Nat}{seg seg':Seg}(h:S[j]? =some seg):S.flatten.Perm ((S.set j []).flatten++seg)/\(S.set j seg').flatten.Perm ((S.set j []).flatten++seg'):=by
 induction S generalizing j with
 | nil=>simp at h
 | cons x S K=>
  cases j with
  | zero=>
   simp at h;subst h;simp only [List.set_cons_zero,List.flatten_cons,List.nil_append];exact⟨List.perm_append_comm,List.perm_append_comm⟩
  | succ j=>
   simp at h;obtain⟨O,U⟩:=K h;simp only [List.set_cons_succ,List.flatten_cons,List.append_assoc];exact⟨O.append_left x,U.append_left x⟩
theorem G4{E H:LH}{S:List Seg}{j:Nat}{seg:Seg}(K:Aq E H S)(h:S[j]? =some seg):Aj E H S=mk E H ((S.set j []).flatten++seg)/\Nd E H ((S.set j []).flatten++seg):=
 ⟨EY K (Ec (seg':=seg) h).1,Nd.perm K (Ec (seg':=seg) h).1⟩
theorem I7{E H:LH}{S:List Seg}{j:Nat}{seg seg':Seg}(h:S[j]? =some seg)(K:Nd E H ((S.set j []).flatten++seg')):mk E H ((S.set j []).flatten++seg')=Aj E H (S.set j seg')/\Aq E H (S.set j seg'):=
 ⟨EY K (Ec h).2.symm,Nd.perm K (Ec h).2.symm⟩
theorem G1(S:List Seg)(seg:Seg):(S++ [seg]).flatten=S.flatten++seg:=by simp
theorem Fz{E H:LH}{S:List Seg}{seg:Seg}(K:Nd E H (S.flatten++seg)):mk E H (S.flatten++seg)=Aj E H (S++ [seg])/\Aq E H (S++ [seg]):=by
 unfold Aj Aq;rw [G1];exact⟨rfl,K⟩
theorem DF{E H:LH}{S:List Seg}{j i bk:Nat}{seg:Seg}{o:Obj}(K:Aq E H S)(O:S[j]? =some seg)(hi:seg[i]? =some (bk,o)):(Aj E H S).get bk=some o:=by
 have hm:(bk,o)∈S.flatten:=List.mem_flatten.2 ⟨seg,List.mem_of_getElem? O,List.mem_of_getElem? hi⟩;obtain⟨Y,U⟩:=K.mem hm;exact Ol K U
theorem BU{E H:LH}{S:List Seg}{j bk off:Nat}{c:Av_}{e:TypeId}{f:Nat×Nat}{v:Value}{seg:Seg}(K:Aq E H S)(O:S[j]? =some ((bk,.cells c e f)::seg))(U:c[off]? =some v):(Aj E H S).cell? ⟨bk,off,none⟩=some v:=by
 unfold St.cell?;rw [DF (i:=0) K O rfl];exact U
theorem UT{E H:LH}{S:List Seg}{j bk off:Nat}{c:Av_}{e:TypeId}{f:Nat×Nat}{vs:Lv_}{seg:Seg}(K:Aq E H S)(O:S[j]? =some ((bk,.cells c e f)::seg))(U:∀i v,vs[i]? =some v->c[off+i]? =some v):∀i v,vs[i]? =some v->(Aj E H S).cell? (Addr.add ⟨bk,off,none⟩ i)=some v:=λi v hi=>by
 rw [Dz rfl];exact BU K O (U i v hi)
def OL{α:Type}(e:TypeId)(p:Rp α)(E:LH)(a:Option Addr)(c:Nat)(seg:Seg)(xs:List α):Prop:=
 ∃wss:List (Lv_),GS e p.n a xs.length c seg wss.flatten/\wss.length=xs.length/\∀(i:Nat) x ws,xs[i]? =some x->wss[i]? =some ws->p.r E ws x
theorem OL.Ah{α:Type}{e:TypeId}{p:Rp α}{E E':LH}{a:Option Addr}{c:Nat}{seg:Seg}{xs:List α}(h:OL e p E a c seg xs)(hle:Le E E'):OL e p E' a c seg xs:=
 let ⟨wss,K,O,U⟩:=h;⟨wss,K,O,λi x ws Y hw=>p.Ah hle (U i x ws Y hw)⟩
theorem OL.nil{α:Type}{e:TypeId}{p:Rp α}{E:LH}:OL e p E none 0 [] []:=⟨[],GS.nil,rfl,λi x ws K=>by simp at K⟩
theorem H5{α:Type}{p:Rp α}{E:LH}{wss:List (Lv_)}{xs:List α}(K:wss.length=xs.length)(h:∀(i:Nat) x ws,xs[i]? =some x->wss[i]? =some ws->p.r E ws x):∀ws∈wss,ws.length=p.n:=λws hw=>by
 obtain⟨i,hi⟩:=List.mem_iff_getElem?.1 hw
 have O:i<xs.length:=by rw [← K];exact(List.getElem?_eq_some_iff.1 hi).1
 exact p.len (h i _ ws (List.getElem?_eq_getElem O) hi)
theorem J6{α:Type}{n:Nat}:∀{wss:List (List α)},(∀ws∈wss,ws.length=n)->∀{i:Nat} {ws:List α},wss[i]? =some ws->∀j w,ws[j]? =some w->wss.flatten[i*n+j]? =some w
 | [],_,_,_,h,_,_,_=>by simp at h
 | us::wss,O,0,ws,h,j,w,K=>by
  simp at h;subst h
  have:j<us.length:=(List.getElem?_eq_some_iff.1 K).1
  simp only [List.flatten_cons,Nat.zero_mul,Nat.zero_add]
  rw [List.getElem?_append_left this];exact K
 | us::wss,O,i+1,ws,h,j,w,K=>by
  simp at h
  have hu:us.length=n:=O us (by simp)
  simp only [List.flatten_cons]
  rw [List.getElem?_append_right (by rw [hu,Nat.succ_mul];omega)]
  have e:(i+1)*n+j - us.length=i*n+j:=by rw [hu,Nat.succ_mul];omega
  rw [e];exact J6 (λws hw=>O ws (List.mem_cons_of_mem _ hw)) h j w K
end Pal
namespace Pal
open Go Go.Conc
section
variable {P:Program}{s:St}{ρ:Operand->Value}{x y z:Operand}{d:Option Tmp}{t u ty e:TypeId}{p:String}{af:Ae_}{g:On_}{v:Value}{kd kd':IntKind}{m m':Int}{a b:Nat}
theorem PZ{a:Nat}:IntKind.u64.wrap (a:Int)=((a % 2 ^ 64:Nat):Int):=by
 simp only [IntKind.wrap,IntKind.bits,IntKind.signed];simp
theorem XE(K:ρ x= .int .u64 (a:Int))(O:ρ y= .int .u64 (b:Int)):Yl P ⟨d,.binOp .add t x y u,ty,p,af,g⟩ ρ s (.int .u64 (((a+b) % 2 ^ 64:Nat):Int)):=by
 have h:=Yl.add (P:=P) (s:=s) (d:=d) (t:=t) (u:=u) (ty:=ty) (p:=p) (af:=af) (g:=g) K O;rw [show((a:Int)+(b:Int))=((a+b:Nat):Int) by omega,PZ] at h;exact h
theorem MR(K:ρ x= .int .u64 (a:Int))(O:ρ y= .int .u64 (b:Int)):Yl P ⟨d,.binOp .mul t x y u,ty,p,af,g⟩ ρ s (.int .u64 (((a*b) % 2 ^ 64:Nat):Int)):=by
 have h:=Yl.mul (P:=P) (s:=s) (d:=d) (t:=t) (u:=u) (ty:=ty) (p:=p) (af:=af) (g:=g) K O;rw [show((a:Int)*(b:Int))=((a*b:Nat):Int) by rw [Int.natCast_mul],PZ] at h;exact h
theorem M0(K:ρ x= .int .u64 (a:Int))(O:ρ y= .int .u64 (b:Int)):Yl P ⟨d,.binOp .xor t x y u,ty,p,af,g⟩ ρ s (.int .u64 (((a ^^^ b) % 2 ^ 64:Nat):Int)):=by
 have h:=Yl.xor (P:=P) (s:=s) (d:=d) (t:=t) (u:=u) (ty:=ty) (p:=p) (af:=af) (g:=g) K O;have e:(BitVec.ofInt IntKind.u64.bits (a:Int) ^^^ BitVec.ofInt IntKind.u64.bits (b:Int)).toNat=(a ^^^ b) % 2 ^ 64:=by
  rw [Nat.xor_mod_two_pow];rw [BitVec.ofInt_natCast,BitVec.ofInt_natCast];show(BitVec.ofNat 64 a ^^^ BitVec.ofNat 64 b).toNat=_;rw [BitVec.toNat_xor,BitVec.toNat_ofNat,BitVec.toNat_ofNat]
 rw [e,PZ,Nat.mod_mod] at h;exact h
theorem XA(K:ρ x= .int .u64 (a:Int))(O:ρ y= .int .u64 (b:Int))(U:b≠0):Yl P ⟨d,.binOp .rem t x y u,ty,p,af,g⟩ ρ s (.int .u64 ((a % b:Nat):Int)):=by
 have h:=Yl.rem (P:=P) (s:=s) (d:=d) (t:=t) (u:=u) (ty:=ty) (p:=p) (af:=af) (g:=g) K O (by omega);rw [show(a:Int).tmod (b:Int)=((a % b:Nat):Int) from rfl] at h;exact h
theorem KV(c:Nat)(K:ρ x= .int .u64 (a:Int))(O:ρ y= .int .u64 (c:Int))(U:c<=64):Yl P ⟨d,.binOp .shr t x y u,ty,p,af,g⟩ ρ s (.int .u64 ((a>>>c:Nat):Int)):=by
 have h:=Yl.shr (P:=P) (s:=s) (d:=d) (t:=t) (u:=u) (ty:=ty) (p:=p) (af:=af) (g:=g) K O (by omega);have e:min (c:Int).toNat IntKind.u64.bits=c:=by simp [IntKind.bits];omega
 rw [e,Int.fdiv_eq_ediv_of_nonneg _ (Int.pow_nonneg (by decide))] at h;have e2:(a:Int) / 2 ^ c=((a>>>c:Nat):Int):=by rw [Nat.shiftRight_eq_div_pow,Int.natCast_ediv];rfl
 rw [e2] at h;exact h
def CN(m:Int):Nat:=(m % 2 ^ 64).toNat
def L8(a:Nat):Int:=IntKind.i64.wrap (a:Int)
theorem Yl.CN(K:P.underlying t=some (.int .i64))(hu:P.underlying u=some (.int .u64))(O:ρ x=iV m):Yl P ⟨d,.convert t u x,ty,p,af,g⟩ ρ s (.int .u64 ((CN m:Nat):Int)):=by
 have h:=EW (P:=P) (s:=s) (d:=d) (ty:=ty) (p:=p) (af:=af) (g:=g) K hu O
 have e:IntKind.u64.wrap m=((Pal.CN m:Nat):Int):=by
  unfold Pal.CN;simp only [IntKind.wrap,IntKind.bits,IntKind.signed];simp;omega
 rw [e] at h;exact h
theorem YU(K:P.underlying t=some (.int .u64))(hu:P.underlying u=some (.int .i64))(O:ρ x= .int .u64 (a:Int)):Yl P ⟨d,.convert t u x,ty,p,af,g⟩ ρ s (iV (L8 a)):=
 EW (P:=P) (s:=s) (d:=d) (ty:=ty) (p:=p) (af:=af) (g:=g) K hu O
theorem FR{r:Int}(K:ρ x=iV m)(O:ρ y=iV m')(h:Aw (m+m')=some r):Yl P ⟨d,.binOp .add t x y u,ty,p,af,g⟩ ρ s (iV r):=by
 obtain⟨rfl,hb⟩:=KH h;exact XH K O hb
theorem Ed{r:Int}(K:ρ x=iV m)(O:ρ y=iV m')(h:Aw (m - m')=some r):Yl P ⟨d,.binOp .sub t x y u,ty,p,af,g⟩ ρ s (iV r):=by
 obtain⟨rfl,hb⟩:=KH h;exact Xn K O hb
theorem MJ{r:Int}(K:ρ x=iV m)(O:ρ y=iV m')(h:Aw (m*m')=some r):Yl P ⟨d,.binOp .mul t x y u,ty,p,af,g⟩ ρ s (iV r):=by
 obtain⟨rfl,hb⟩:=KH h;exact Xh K O hb
theorem Ht{r:Int}(K:ρ x=iV m)(h:Aw (-m)=some r):Yl P ⟨d,.unOp .neg t x,ty,p,af,g⟩ ρ s (iV r):=by
 obtain⟨rfl,hb⟩:=KH h;exact XD K hb
theorem Hs(K:ρ x= .int kd m)(O:ρ y= .int kd m'):Yl P ⟨d,.binOp .neq t x y u,ty,p,af,g⟩ ρ s (.bool (decide (m≠m'))):=by
 have h:=Yl.neq (P:=P) (s:=s) (d:=d) (t:=t) (u:=u) (ty:=ty) (p:=p) (af:=af) (g:=g) K O;simpa using h
theorem KR{q:Prop} [Decidable q] (K:ρ x= .bool (decide q)):Yl P ⟨d,.unOp .not t x,ty,p,af,g⟩ ρ s (.bool (decide (¬q))):=by
 have h:=Yl.not (P:=P) (s:=s) (d:=d) (t:=t) (ty:=ty) (p:=p) (af:=af) (g:=g) K;simpa using h
theorem Ot{K:Array (Nat×Operand)}:execOp ρ ⟨d,.build t K,ty,p,af,g⟩=(do pure (Next.value (← Instr.build t (K.map λ(j,x)=>(j,ρ x))))):=by
 simp only [execOp]
theorem Yl.build{z:Value}{O:Array Field}{K:Array (Nat×Operand)}{vs:List (Nat×Value)}{places:Array (Nat×Nat)}{cells:Av_}(Z:zeroOf P t=some z)(ac:P.underlying t=some (.struct O))(ag:O.toList.mapM (λf=>(Bh P f.type).map λn=>(f.offset,n))=some places.toList)
  (al:K.toList.map (λ(j,x)=>(j,ρ x))=vs) (am:Instr.fill (places[·]?) z.cells vs=some cells):Yl P ⟨d,.build t K,ty,p,af,g⟩ ρ s (.agg cells):=by
 refine FO Ot ?_;unfold Instr.build;refine Au (x:=zeroValue t) _ (Ho Z ?_);refine Au _ _ (Cg ac ?_);simp only;have key:∀(l:List Field) (acc:List (Nat×Nat)) {Q:List (Nat×Nat)->St->Prop} {X:Halt->St->Prop} (K:List (Nat×Nat)),l.mapM (λf=>(Bh P f.type).map λn=>(f.offset,n))=some K->Q (acc.reverse++K) s->lp P (List.mapM.loop (m:=Sem) (λf=>do pure (f.offset,← Go.sizeOf f.type)) l acc) s Q X:=by
  intro l
  induction l with
  | nil=>
   intro acc Q X K h k;simp at h;subst h;simp only [List.append_nil] at k;exact k
  | cons f l ap=>
   intro acc Q X K h k;simp only [List.mapM_cons,bind] at h;cases U:Bh P f.type with
   | none=>rw [U] at h;simp at h
   | some n=>
    rw [U] at h;simp only [Option.map_some,Option.bind_some] at h;obtain⟨aq,av,Y⟩:=bind_some h;simp at Y;subst Y;have:=ap ((f.offset,n)::acc) (Q:=Q) (X:=X) aq av (by simpa using k);simp only [List.mapM.loop];exact Au _ _ (Au (x:=Go.sizeOf f.type) _ (EH U this))
 have e:(K.map λ(j,x)=>(j,ρ x)).toList=vs:=by rw [← al,Array.toList_map]
 refine Au _ _ ?_;rw [Array.mapM_eq_mapM_toList];refine Au (x:=List.mapM.loop (m:=Sem) (λf=>do pure (f.offset,← Go.sizeOf f.type)) O.toList []) (f:=λr=>pure r.toArray) (key O.toList [] places.toList ag ?_)
 simp only [List.reverse_nil,List.nil_append,lp,pure];rw [e,am];exact⟨rfl,rfl⟩
end
end Pal
namespace Pal
open Go Go.Conc
section
variable {P:Program}{J:Judge P}{Q:Gs_}{b:Frame}{n:Nat}{ds:Ld_}{ops:Ao_}{k:Li_}{cs:Lf_}{L:Env}{s:St}{E E' H:LH}{S:List Seg}
variable {d:Option Tmp}{x y:Operand}{t u ty e:TypeId}{p:String}{af:Ae_}{g:On_}{v:Value}{i:Nat}{rest:List Nat}{kd:IntKind}
theorem JS.box(O:ops[i]? =some ⟨d,.box e x,ty,p,af,g⟩)(hw:AJ L ops ⟨d,.box e x,ty,p,af,g⟩=some true)(U:BH b n ⟨d,.box e x,ty,p,af,g⟩=true)(Y:Aq E H S)(Z:ev L x=some v)
  (h:∀r,Aq E H (S++ [[(r,.cells v.cells e (0,0))]])->JL J Q b n (As L d (.pointer (some ⟨r,0,none⟩))) ds (.inRegion ops rest::k) cs (Aj E H (S++ [[(r,.cells v.cells e (0,0))]]))):
  JL J Q b n L ds (.inRegion ops (i::rest)::k) cs (Aj E H S):=
 JL.box O hw U Y Z λr K=>by rw [(Fz K).1];exact h r (Fz K).2
theorem JS.alloc{z:Value}(O:ops[i]? =some ⟨d,.alloc e,ty,p,af,g⟩)(hw:AJ L ops ⟨d,.alloc e,ty,p,af,g⟩=some true)(U:BH b n ⟨d,.alloc e,ty,p,af,g⟩=true)(Y:Aq E H S)(Z:zeroOf P e=some z)
  (h:∀r,Aq E H (S++ [[(r,.cells z.cells e (0,0))]])->JL J Q b n (As L d (.pointer (some ⟨r,0,none⟩))) ds (.inRegion ops rest::k) cs (Aj E H (S++ [[(r,.cells z.cells e (0,0))]]))):
  JL J Q b n L ds (.inRegion ops (i::rest)::k) cs (Aj E H S):=
 JL.alloc O hw U Y Z λr K=>by rw [(Fz K).1];exact h r (Fz K).2
theorem JS.store{bk off:Nat}{c:Av_}(j:Nat)(U:ops[i]? =some ⟨d,.store t x y,ty,p,af,g⟩)(hw:AJ L ops ⟨d,.store t x y,ty,p,af,g⟩=some true)(Y:BH b n ⟨d,.store t x y,ty,p,af,g⟩=true)(Z:Aq E H S)
  (ac:ev L x=some (.pointer (some ⟨bk,off,none⟩))) (ag:ev L y=some v) (al:Bh P t=some v.cells.size) (am:∀u∈v.cells.toList,CW u=true) (K:S[j]? =some [(bk,.cells c e (0,0))]) (hle:off+v.cells.size<=c.size)
  (h:Aq E H (S.set j [(bk,.cells (A8 c off v.cells.toList) e (0,0))])->JL J Q b n (As L d undef) ds (.inRegion ops rest::k) cs (Aj E H (S.set j [(bk,.cells (A8 c off v.cells.toList) e (0,0))]))):
  JL J Q b n L ds (.inRegion ops (i::rest)::k) cs (Aj E H S):=by
 obtain⟨ap,aq⟩:=G4 Z K;rw [ap];refine JL.store (S.set j []).flatten.length U hw Y aq ac ag al am (c:=c) (e:=e) (by simp) hle λO=>?_;have av:((S.set j []).flatten++ [(bk,Obj.cells c e (0,0))]).set (S.set j []).flatten.length (bk,.cells (A8 c off v.cells.toList) e (0,0))=(S.set j []).flatten++ [(bk,.cells (A8 c off v.cells.toList) e (0,0))]:=I5 _ _ _ _;rw [av] at O ⊢;obtain⟨aw,ay⟩:=I7 K O;rw [aw];exact h ay
theorem JS.drop{todo:Li_}{seg:Seg}(j:Nat)(Y:Aq E H S)(K:S[j]? =some seg)(h:Aq E H (S.set j [])->JL J Q b n L ds todo cs (Aj E H (S.set j []))):JL J Q b n L ds todo cs (Aj E H S):=by
 obtain⟨Z,O⟩:=G4 Y K;rw [Z];have ac:Nd E H ((S.set j []).flatten++ []):=by rw [List.append_nil];exact J8.Nd.left O
 obtain⟨U,ag⟩:=I7 (seg':= []) K ac;refine JL.drop (S.set j []).flatten (λq al=>List.mem_iff_getElem?.1 (List.mem_append_left _ al)) O ?_;have am:(S.set j []).flatten++ []=(S.set j []).flatten:=List.append_nil _;rw [am] at U;rw [U];exact h ag
theorem DJ{todo:Li_}{bk:Nat}{c:Av_}{f:Nat×Nat}(j:Nat)(O:Aq E H S)(U:S[j]? =some [(bk,.cells c e f)])
  (h:∀E',Le E E'->At E' bk 0 c.toList->Aq E' H (S.set j [])->JL J Q b n L ds todo cs (Aj E' H (S.set j []))):JL J Q b n L ds todo cs (Aj E H S):=by
 obtain⟨Y,Z⟩:=G4 O U;rw [Y];have ac:((S.set j []).flatten++ [(bk,Obj.cells c e f)])[(S.set j []).flatten.length]? =some (bk,Obj.cells c e f):=by simp
 refine JL.freeze (S.set j []).flatten.length Z ac λE' hle ag K=>?_;have al:((S.set j []).flatten++ [(bk,Obj.cells c e f)]).eraseIdx (S.set j []).flatten.length=(S.set j []).flatten:=by rw [List.eraseIdx_append_of_length_le (Nat.le_refl _)];simp
 rw [al] at K ⊢;exact h E' hle ⟨_,_,_,ag,λi w hi=>by simpa using hi⟩ K
theorem B8{α:Type}{pp:Rp α}{todo:Li_}{a:Option Addr}{c:Nat}{seg:Seg}{xs:List α}(j:Nat)(U:OL e pp E a c seg xs)(am:Aq E H S)(ap:S[j]? =some seg)
  (h:∀E',Le E E'->Am pp E' a c xs->Aq E' H (S.set j [])->JL J Q b n L ds todo cs (Aj E' H (S.set j []))):JL J Q b n L ds todo cs (Aj E H S):=by
 obtain⟨wss,U,ac,ag⟩:=U;have aq:∀ad:Addr,a=some ad->ad.spot=none:=λad K=>by
  rcases U with⟨O,_⟩ | ⟨bk,f,O,_⟩
  ·rw [O] at K;cases K
  ·rw [O] at K;cases K;rfl
 obtain⟨O,av⟩:=G4 am ap;rw [O];refine Uu U av λE' hle aw ay=>h E' hle ?_ ay;obtain⟨az,aI,Y,aJ,aO,Z⟩:=aw;obtain⟨rfl,-,rfl⟩:a=az/\xs.length=xs.length/\c=aI:=by
  simp only [Value.slice.injEq] at Y;exact⟨Y.1,rfl,Y.2.2⟩
 refine⟨aJ,?_⟩;rcases Z with Z | ⟨bk,off,f,aK,fr,aL,g2,aM⟩
 ·exact .inl ⟨List.eq_nil_of_length_eq_zero Z,λad K=> .inl (aq ad K)⟩
 ·refine .inr ⟨bk,off,aL,λi x al=>?_⟩;have aN:i<wss.length:=by rw [ac];exact(List.getElem?_eq_some_iff.1 al).1
  have hw:=List.getElem?_eq_getElem aN;refine⟨wss[i],pp.Ah hle (ag i x _ al hw),f,aK,fr,g2,λm w hm=>?_⟩;rw [Nat.add_assoc];exact aM _ w (J6 (H5 ac ag) hw m w hm)
theorem Um{α:Type}{pp:Rp α}{wss:List (Lv_)}{xs:List α}{x:α}{ws:Lv_}(O:wss.length=xs.length)(h:∀(i:Nat) x ws,xs[i]? =some x->wss[i]? =some ws->pp.r E ws x)(U:pp.r E ws x):
  ∀(i:Nat) y us,(xs++ [x])[i]? =some y->(wss++ [ws])[i]? =some us->pp.r E us y:=by
 intro i y us K hu;rcases Nat.lt_or_ge i xs.length with hi | hi
 ·rw [List.getElem?_append_left hi] at K;rw [List.getElem?_append_left (by omega)] at hu;exact h i y us K hu
 ·rw [List.getElem?_append_right hi] at K;rw [List.getElem?_append_right (by omega),O] at hu;cases hm:i - xs.length with
  | zero=>rw [hm] at K hu;simp at K hu;subst K hu;exact U
  | succ m=>rw [hm] at K;simp at K
theorem UL{α:Type}{pp:Rp α}{t1 t2:TypeId}{U c:Nat}{a:Option Addr}{seg:Seg}{xs:List α}{xv:α}{am:Nat}{d1:Tmp}{ats:Array TypeId}{Y:TypeId}{Z:String}{ac:Ae_}{g':On_}{z:Value}(j:Nat)
  (av:ops[i]? =some ⟨some d1,.buildSlice t2 1 #[(0,y)],Y,Z,ac,g'⟩) (hw:AJ L ops ⟨some d1,.buildSlice t2 1 #[(0,y)],Y,Z,ac,g'⟩=some true) (aw:BH b n ⟨some d1,.buildSlice t2 1 #[(0,y)],Y,Z,ac,g'⟩=true)
  (ay:ops[am]? =some ⟨d,.call ⟨.builtin .append,#[x,.tmp d1],ats⟩,ty,p,af,g⟩) (az:∀w,AJ (As L (some d1) w) ops ⟨d,.call ⟨.builtin .append,#[x,.tmp d1],ats⟩,ty,p,af,g⟩=some true) (aI:BH b n ⟨d,.call ⟨.builtin .append,#[x,.tmp d1],ats⟩,ty,p,af,g⟩=true)
  (aJ:∀w,ev (As L (some d1) w) x=some (.slice a xs.length c)) (aK:ev L y=some v) (aL:ats[0]? =some t) (aM:ats[1]? =some t1) (aN:P.underlying t=some (.slice e)) (aO:P.underlying t1=some (.slice e)) (aP:P.underlying t2=some (.slice e)) (aQ:Bh P e=some pp.n) (hb:FE P e=some U) (aR:zeroOf P e=some z) (aS:z.cells.size=pp.n)
  (aT:0<U) (aU:U<=64) (aV:0<pp.n) (aW:pp.n<=64) (aX:xs.length+1<=2 ^ 40) (ag:OL e pp E a c seg xs) (al:pp.r E v.cells.toList xv) (aY:Aq E H S) (ap:S[j]? =some seg)
  (h:∀w K O seg',OL e pp E K O seg' (xs++ [xv])->Aq E H (S.set j seg')->JL J Q b n (As (As L (some d1) w) d (.slice K (xs++ [xv]).length O)) ds (.inRegion ops rest::k) cs (Aj E H (S.set j seg'))):
  JL J Q b n L ds (.inRegion ops (i::am::rest)::k) cs (Aj E H S):=by
 obtain⟨wss,ag,aq,aZ⟩:=ag;obtain⟨a0,a1⟩:=G4 aY ap;rw [a0];have a2:v.cells.size=pp.n:=by simpa using pp.len al
 refine UQ av hw aw ay az aI aJ aK aL aM aN aO aP aQ hb aR aS aT aU a2 aV aW aX (pp.one al) ag a1 λw K O a3 a4 a5=>?_;obtain⟨a6,a7⟩:=I7 ap a5;rw [a6];have hlen:(xs++ [xv]).length=xs.length+1:=by simp
 have:=h w K O a3 ⟨wss++ [v.cells.toList],by rw [hlen,List.flatten_append];simpa using a4,by simp [aq],Um aq aZ al⟩ a7;rw [hlen] at this;exact this
theorem Sa{α:Type}{pp:Rp α}{a:Option Addr}{c:Nat}{xs:List α}{xv:α}{m:Int}(O:Am pp E a c xs)(hm:ix xs m=some xv)
  (U:ops[i]? =some ⟨d,.indexAddr t x y,ty,p,af,g⟩) (hw:AJ L ops ⟨d,.indexAddr t x y,ty,p,af,g⟩=some true) (Y:BH b n ⟨d,.indexAddr t x y,ty,p,af,g⟩=true)
  (Z:ev L x=some (.slice a xs.length c)) (ac:ev L y=some (.int kd m)) (ag:P.underlying t=some (.slice e)) (al:Bh P e=some pp.n)
  (h:∀bk o ws,pp.r E ws xv->At E bk o ws->JL J Q b n (As L d (.pointer (some ⟨bk,o,none⟩))) ds (.inRegion ops rest::k) cs (Aj E H S)):
  JL J Q b n L ds (.inRegion ops (i::rest)::k) cs (Aj E H S):=by
 obtain⟨m,rfl,hm⟩:=Gt hm;have am:m<xs.length:=(List.getElem?_eq_some_iff.1 hm).1;obtain⟨aw,⟨rfl,_⟩ | ⟨bk,off,rfl,ap⟩⟩:=O
 ·simp at am
 obtain⟨ws,aq,av⟩:=ap m xv hm;refine AY (v:= .pointer (some ⟨bk,off+m*pp.n,none⟩)) U hw Y (λρ K=>?_) (h bk _ ws aq av);have:=MA (P:=P) (s:=Aj E H S) (d:=d) (ty:=ty) (p:=p) (af:=af) (g:=g) ag al (K x _ Z) (K y _ ac) ⟨by omega,by omega⟩;rw [Dz rfl] at this;simpa using this
theorem At.K7{bk o j:Nat}{ws:Lv_}{w:Value}(h:At E bk o ws)(K:ws[j]? =some w):(Aj E H S).cell? ⟨bk,o+j,none⟩=some w:=h.cell K
theorem At.Ps{bk o:Nat}{ws:Lv_}(h:At E bk o ws):∀j v,ws[j]? =some v->(Aj E H S).cell? (Addr.add ⟨bk,o,none⟩ j)=some v:=h.cells
theorem Bu{todo:Li_}(I:Env->St->Prop){c:Code}(K:∀L s,I L s->JL J Q b n L ds todo cs s)(h:(∀L s,I L s->JL J Q b n L ds todo cs s)->JL J Q b n L ds (.code c::todo) cs s):JL J Q b n L ds (.code c::todo) cs s:=h K
theorem H6{K:List Nat}{todo:Li_}(l:List Nat)(I:Env->St->Prop)(O:∀L s,I L s->JL J Q b n L ds (.inRegion ops l::todo) cs s)(h:(∀L s,I L s->JL J Q b n L ds (.inRegion ops l::todo) cs s)->JL J Q b n L ds (.inRegion ops K::todo) cs s):JL J Q b n L ds (.inRegion ops K::todo) cs s:=h O
theorem Q7{K A:Type}{c:Code}{body:K->Option (Bn K A)}{f:Nat}{O:K}{a:A}(U:iter body f O=some a)(I:Env->St->K->Prop)(Z:I L s O)
  (round:∀L s x,I L s x->(∀Y,body x=some (.done Y)->Y=a)->(∃st,body x=some st)->(∀L' s' x',I L' s' x'->body x=some (.more x')->JL J Q b n L' ds (.inLoop c::k) cs s')->JL J Q b n L ds (.code c:: .inLoop c::k) cs s):
  JL J Q b n L ds (.code (.loop c)::k) cs s:=by
 refine IC ?_
 induction f generalizing L s O with
 | zero=>cases U
 | succ f ac=>
  refine round L s O Z (λY h=>Q3 U h) (Q4 U) λL' s' x' ag hb=>JL.again (ac (Q2 U hb) ag)
def AO(J:Judge P)(f:FuncId)(args:Lv_)(E:LH)(B:Seg)(R:Value->LH->Seg->Prop):Prop:=
 ∀H,Nd E H B->EB J f args.toArray (mk E H B) (λv s'=>∃E' B',Le E E'/\R v E' B'/\Nd E' H B'/\s'=mk E' H B')
theorem AO.enter{f:FuncId}{fn:Func}{c:Code}{vs:Lv_}{B:Seg}{R:Value->LH->Seg->Prop}(O:P.funcs[f]? =some fn)(hb:fn.body=some c)(U:vs.length<=fn.ntmps)
  (h:∀(Q:Gs_) (K:Frame) (cs:Lf_) (H:LH),Aq E H [B]->(∀v E' S' B',Le E E'->S'.flatten=B'->R v E' B'->Aq E' H S'->J.ok Q (G (K.finish v) cs) (Aj E' H S'))->JL J Q (base f) fn.ntmps (Ga 0 vs) [] [.code c] (K::cs) (Aj E H [B])):AO J f vs E B R:=λH Y=>
 EB.enter O hb U λQ K cs Z=>by
  have ac:mk E H B=Aj E H [B]:=by unfold Aj;simp
  rw [ac];exact h Q K cs H (by unfold Aq;simpa using Y) λv E' S' B' hle ag al am=>by
   subst ag;exact Z v _ ⟨E',S'.flatten,hle,al,am,rfl⟩
theorem AO.Ah{f:FuncId}{vs:Lv_}{B:Seg}{R K:Value->LH->Seg->Prop}(h:AO J f vs E B R)(U:∀v E' B',Le E E'->R v E' B'->K v E' B'):AO J f vs E B K:=λH Y=>
 (h H Y).Ah λv s' ⟨E',B',O,Z,ac,ag⟩=>⟨E',B',O,U v E' B' O Z,ac,ag⟩
theorem FP{H:LH}:∀{A B:List (Nat×Obj)},A9 (A++B) H=A9 A (A9 B H)
 | [],_=>rfl
 | (c,o)::A,B=>by
  funext x
  simp only [List.cons_append,A9]
  split
  ·rfl
  ·rw [FP]
theorem MC{H:LH}{x:Nat}:∀{B:List (Nat×Obj)},(∀p∈B,p.1≠x)->A9 B H x=H x
 | [],_=>rfl
 | (c,u)::B,K=>by
  have O:x≠c:=λe=>K (c,u) (by simp) e.symm
  simp only [A9,if_neg O]
  exact MC λp U=>K p (List.mem_cons_of_mem _ U)
theorem Nd.front{A B:List (Nat×Obj)}(h:Nd E H (A++B)):Nd E (A9 B H) A:=by
 rw [Nd.iff] at h ⊢;obtain⟨K,U⟩:=h;rw [List.map_append,List.nodup_append] at K;refine⟨K.1,λq O=>⟨(U q (List.mem_append_left _ O)).1,?_⟩⟩;rw [MC λr Y e=>K.2.2 q.1 (List.mem_map_of_mem O) r.1 (List.mem_map_of_mem Y) e.symm];exact(U q (List.mem_append_left _ O)).2
theorem Nd.glue{A B:List (Nat×Obj)}(h:Nd E (A9 B H) A)(U:Nd E H B):Nd E H (A++B):=by
 have Y:=U;rw [Nd.iff] at h U ⊢;rw [List.map_append,List.nodup_append];have key:∀q∈A,∀r∈B,q.1≠r.1:=λq K r O e=>by
  have:=(h.2 q K).2;rw [e] at this;obtain⟨i,hi⟩:=Y.mem (b:=r.1) (o:=r.2) O;rw [I2 Y hi] at this;cases this
 refine⟨⟨h.1,U.1,λx Z y ac e=>?_⟩,λq K=>?_⟩
 ·obtain⟨q,K,rfl⟩:=List.mem_map.1 Z;obtain⟨r,O,rfl⟩:=List.mem_map.1 ac;exact key q K r O e
 ·rcases List.mem_append.1 K with K | K
  ·refine⟨(h.2 q K).1,?_⟩;have:=(h.2 q K).2
   rwa [MC λr O e=>key q K r O e.symm] at this
  ·exact U.2 q K
theorem Rh{f:FuncId}{args:Array Operand}{ats:Array TypeId}{vs:Lv_}{seg:Seg}{R:Value->LH->Seg->Prop}(j:Nat)
  (ag:AO J f vs E seg R) (al:ops[i]? =some ⟨d,.call ⟨.value (.func f),args,ats⟩,ty,p,af,g⟩) (hw:AJ L ops ⟨d,.call ⟨.value (.func f),args,ats⟩,ty,p,af,g⟩=some true) (am:((b.kind != .early)&&Bd n d)=true) (hb:Dv P f=true)
  (ap:evs L args.toList=some vs) (K:Aq E H S) (O:S[j]? =some seg) (aq:∀v E' seg',Le E E'->R v E' seg'->Aq E' H (S.set j seg')->JL J Q b n (As L d v) ds (.inRegion ops rest::k) cs (Aj E' H (S.set j seg'))):
  JL J Q b n L ds (.inRegion ops (i::rest)::k) cs (Aj E H S):=by
 have U:S.flatten.Perm (seg++(S.set j []).flatten):=(Ec (seg':=seg) O).1.trans List.perm_append_comm;have Y:Nd E H (seg++(S.set j []).flatten):=Nd.perm K U;have av:Aj E H S=mk E (A9 (S.set j []).flatten H) seg:=by
  rw [show Aj E H S=mk E H S.flatten from rfl,EY K U];unfold mk;rw [FP]
 rw [av];refine WR al hw am hb ap (ag _ (Nd.front Y)) ?_;rintro v s' ⟨E',B',hle,aw,ay,rfl⟩;have e2:mk E' (A9 (S.set j []).flatten H) B'=mk E' H (B'++(S.set j []).flatten):=by unfold mk;rw [FP]
 have az:Nd E H (S.set j []).flatten:=by
  have:=Y;rw [Nd.iff] at this ⊢;rw [List.map_append,List.nodup_append] at this;exact⟨this.1.2.1,λq aI=>this.2 q (List.mem_append_right _ aI)⟩
 refine Sw rfl λ⟨w,aJ⟩=>?_;have aK:Nd E' H (S.set j []).flatten:=az.grow λx aL=>by
  have aM:=aJ.d x aL;have aN:A9 B' (A9 (S.set j []).flatten H) x=none:=aM;exact(HW aN).1
 have Z:Nd E' H (B'++(S.set j []).flatten):=Nd.glue ay aK;rw [e2];have ac:(B'++(S.set j []).flatten).Perm (S.set j B').flatten:=List.perm_append_comm.trans (Ec O).2.symm;rw [EY Z ac];exact aq v E' B' hle aw (Nd.perm Z ac)
theorem JS.call{f:FuncId}{args:Array Operand}{ats:Array TypeId}{vs:Lv_}{R:Value->LH->Seg->Prop}
  (U:AO J f vs E [] R) (Y:ops[i]? =some ⟨d,.call ⟨.value (.func f),args,ats⟩,ty,p,af,g⟩) (hw:AJ L ops ⟨d,.call ⟨.value (.func f),args,ats⟩,ty,p,af,g⟩=some true) (Z:((b.kind != .early)&&Bd n d)=true) (hb:Dv P f=true)
  (ac:evs L args.toList=some vs) (K:Aq E H S) (ag:∀v E' seg',Le E E'->R v E' seg'->Aq E' H (S++ [seg'])->JL J Q b n (As L d v) ds (.inRegion ops rest::k) cs (Aj E' H (S++ [seg']))):
  JL J Q b n L ds (.inRegion ops (i::rest)::k) cs (Aj E H S):=by
 have al:Aj E H S=Aj E H (S++ [[]]):=by unfold Aj;simp
 rw [al];refine Rh S.length U Y hw Z hb ac (by unfold Aq at K ⊢;rw [G1,List.append_nil];exact K) (by simp) λv E' seg' hle am O=>?_;have e2:(S++ [[]]).set S.length seg'=S++ [seg']:=I5 _ _ _ _;rw [e2] at O ⊢;exact ag v E' seg' hle am O
theorem H7{todo:Li_}{S':List Seg}(K:S'.flatten=S.flatten)(O:Aq E H S)(h:Aq E H S'->JL J Q b n L ds todo cs (Aj E H S')):JL J Q b n L ds todo cs (Aj E H S):=by
 unfold Aj Aq at*;rw [K] at h;exact h O
end
end Pal
namespace Pal
open Go Go.Conc
def Ld(P:Program)(t:TypeId)(a:Addr)(s:St)(v:Value):Prop:=lp P (loadVar t a) s (λu s'=>u=v/\s'=s) (λ_ _=>False)
theorem Ld.one{P:Program}{t:TypeId}{a:Addr}{s:St}{v:Value}(K:Dd P t=some false)(h:s.cell? a=some v):Ld P t a s v:=Qq K h ⟨rfl,rfl⟩
theorem Ld.many{P:Program}{t:TypeId}{a:Addr}{s:St}{vs:Lv_}(K:Dd P t=some true)(O:Bh P t=some vs.length)(h:∀j v,vs[j]? =some v->s.cell? (a.add j)=some v):Ld P t a s (.agg vs.toArray):=Qs K O h ⟨rfl,rfl⟩
def RV(P:Program)(L:Env)(s:St):List ResultVar->Lv_->Prop
 | [],[]=>True
 | .tmp t::rs,v::vs=>look L t=some v/\RV P L s rs vs
 | .cell a t::rs,v::vs=>(∃ad,look L a=some (.pointer (some ad))/\Ld P t ad s v)/\RV P L s rs vs
 | _,_=>False
def MY:Lv_->Value
 | [v]=>v
 | vs=> .tuple vs.toArray
theorem Uz(vs:Lv_):(if h:vs.toArray.size=1 then vs.toArray[0] else Value.tuple vs.toArray)=MY vs:=by
 match vs with
 | []=>rfl
 | [v]=>rfl
 | a::b::c=>simp [MY]
theorem Bx.list{P:Program}{f:FuncId}{fn:Func}{n:Nat}{L:Env}{s:St}{rs:List ResultVar}{vs:Lv_}(Z:P.funcs[f]? =some fn)(ac:fn.results.toList=rs)(h:RV P L s rs vs):Bx P f L n s (MY vs):=by
 refine⟨fn,Z,λT U=>?_⟩;unfold results;rw [Array.mapM_eq_mapM_toList,ac];have key:∀(rs:List ResultVar) (acc vs:Lv_) {Q:Lv_->St->Prop} {X:Halt->St->Prop},RV P L s rs vs->Q (acc.reverse++vs) s->lp P (List.mapM.loop (m:=Sem) (λr=>match r with
   | .tmp t=>pure (T.getD t undef)
   | .cell a t=>do loadVar t (← asAddr (T.getD a undef))) rs acc) s Q X:=by
  intro rs
  induction rs with
  | nil=>
   intro acc vs Q X h k;cases vs with
   | nil=>simp only [List.append_nil] at k;exact k
   | cons v vs=>cases h
  | cons r rs Y=>
   intro acc vs Q X h k;cases vs with
   | nil=>cases r <;> cases h
   | cons v vs=>
    cases r with
    | tmp t=>
     obtain⟨K,O⟩:=h;have:=U.at_ t v K;simp only [List.mapM.loop];rw [this];exact Y (v::acc) vs O (by simpa using k)
    | cell a t=>
     obtain⟨⟨ad,K,ag⟩,O⟩:=h;have:=U.at_ a _ K;simp only [List.mapM.loop];rw [this];refine Au _ _ (Ee _ (show lp P (loadVar t ad) s _ _ from ag) ?_ (λ_ _ h=>h.elim));rintro u s' ⟨rfl,rfl⟩;exact Y (u::acc) vs O (by simpa using k)
 refine Au _ _ (Au (x:=List.mapM.loop (m:=Sem) _ rs []) (f:=λr=>pure r.toArray) ?_);refine key rs [] vs h ?_;simp only [List.reverse_nil,List.nil_append,lp,pure];exact⟨Uz vs,trivial⟩
section
variable {P:Program}{J:Judge P}{Q:Gs_}{g:Goroutine}{E H:LH}{S:List Seg}
theorem Ef{seg:Seg}(j:Nat)(Z:Aq E H S)(U:S[j]? =some seg)(h:Aq E H (S.set j [])->J.ok Q g (Aj E H (S.set j []))):J.ok Q g (Aj E H S):=by
 obtain⟨ac,K⟩:=G4 Z U;have ag:Nd E H ((S.set j []).flatten++ []):=by rw [List.append_nil];exact J8.Nd.left K
 obtain⟨aq,al⟩:=I7 (seg':= []) U ag;refine J.ghost (s₀:=Aj E H (S.set j [])) ⟨λ_ _ h=>h,λx o am=>?_,λ_ _ h=> .inl h,rfl⟩ (h al);have Y:A9 (S.set j []).flatten H x=some o:=am;show(Aj E H S).H x=some o;rw [ac];show A9 ((S.set j []).flatten++seg) H x=some o;rw [show A9 ((S.set j []).flatten++seg) H=A9 (seg++(S.set j []).flatten) H from Qw K List.perm_append_comm,FP];by_cases hm:∃p∈seg,p.1=x
 ·exfalso;obtain⟨p,O,e⟩:=hm;have ap:=Nd.front (Nd.perm K List.perm_append_comm);have:=((Nd.iff.1 ap).2 p O).2;rw [e,Y] at this;cases this
 ·rw [MC λp O e=>hm ⟨p,O,e⟩];exact Y
end
section
variable {P:Program}{J:Judge P}{Q:Gs_}{b:Frame}{n:Nat}{ds:Ld_}{ops:Ao_}{k:Li_}{cs:Lf_}{L:Env}{s:St}{E E' H:LH}{S:List Seg}
variable {d:Option Tmp}{x y:Operand}{t u ty e:TypeId}{p:String}{af:Ae_}{g:On_}{v:Value}{i:Nat}{rest:List Nat}{kd:IntKind}
theorem QN{ρ:Operand->Value}{len:Nat}{K:Array (Nat×Operand)}:execOp ρ ⟨d,.buildSlice t len K,ty,p,af,g⟩=(do pure (Next.value (← Instr.buildSlice t len (K.map λ(j,x)=>(j,ρ x))))):=by
 simp only [execOp]
theorem UJ(v:Av_)(off:Nat)(c:Av_):v.zipIdx.foldl (λcs (x,j)=>cs.setIfInBounds (off+j) x) c=A8 c off v.toList:=by
 rw [← Array.foldl_toList,Array.toList_zipIdx];have key:∀(l:Lv_) (st:Nat) (c:Av_),List.foldl (λcs (p:Value×Nat)=>cs.setIfInBounds (off+p.2) p.1) c (l.zipIdx st)=A8 c (off+st) l:=by
  intro l
  induction l with
  | nil=>intro st c;rfl
  | cons x l K=>intro st c;simp only [List.zipIdx_cons,List.foldl_cons,A8];rw [K];rfl
 exact key v.toList 0 c
def Kj(place:Nat->Option (Nat×Nat))(cells:Av_):List (Nat×Value)->Option (Av_)
 | []=>some cells
 | (i,v)::rest=>match place i with
  | none=>none
  | some (off,size)=>if v.cells.size=size/\off+v.cells.size<=cells.size then Kj place (A8 cells off v.cells.toList) rest else none
theorem fill_eq{place:Nat->Option (Nat×Nat)}:∀{vs:List (Nat×Value)} {cells:Av_},Instr.fill place cells vs=Kj place cells vs
 | [],_=>rfl
 | (i,v)::rest,cells=>by
  simp only [Instr.fill,Kj]
  cases place i with
  | none=>rfl
  | some q=>
   obtain⟨off,size⟩:=q
   simp only
   by_cases h:v.cells.size=size/\off+v.cells.size<=cells.size
   ·rw [if_pos h,if_neg (by simp only [Bool.or_eq_true,decide_eq_true_eq,ne_eq];omega),fill_eq,UJ]
   ·rw [if_neg h,if_pos (by simp only [Bool.or_eq_true,decide_eq_true_eq,ne_eq];omega)]
theorem Ra{n:Nat}:∀(vs:Lv_) (st:Nat) (cells:Av_),(∀v∈vs,v.cells.size=n)->cells.size=(st+vs.length)*n->
  ∃U,Kj (λi=>some (i*n,n)) cells ((vs.zipIdx st).map λq=>(q.2,q.1))=some U/\U.toList=cells.toList.take (st*n)++(vs.map (·.cells.toList)).flatten
 | [],st,cells,_,K=>⟨cells,rfl,by simp only [List.length_nil,Nat.add_zero] at K;simp [← K,List.take_of_length_le]⟩
 | v::vs,st,cells,Y,K=>by
  have O:=Y v (by simp)
  have hle:st*n+n<=cells.size:=by
   rw [K,List.length_cons];have:(st+1)*n<=(st+(vs.length+1))*n:=Nat.mul_le_mul_right _ (by omega);rw [Nat.succ_mul] at this;exact this
  obtain⟨Z,ac,ag⟩:=Ra vs (st+1) (A8 cells (st*n) v.cells.toList) (λu hu=>Y u (List.mem_cons_of_mem _ hu)) (by rw [Lr,K,List.length_cons];congr 1;omega);refine⟨Z,?_,?_⟩
  ·simp only [List.zipIdx_cons,List.map_cons,Kj];rw [if_pos ⟨O,by omega⟩];exact ac
  ·rw [ag,Nat.succ_mul];have:=Oc cells (st*n) v.cells.toList (by simp [O];omega);rw [show v.cells.toList.length=n by simp [O]] at this;rw [this];simp
def Kn{α:Type}(pp:Rp α)(E:LH):List α->Lv_->Prop
 | [],[]=>True
 | x::xs,v::vs=>pp.r E v.cells.toList x/\Kn pp E xs vs
 | _,_=>False
theorem Kn.at{E:LH}{α:Type}{pp:Rp α}:∀{xs:List α} {vs:Lv_},Kn pp E xs vs->∀(i:Nat) x v,xs[i]? =some x->vs[i]? =some v->pp.r E v.cells.toList x
 | [],_,_,_,_,_,h,_=>by simp at h
 | _::_,[],h,_,_,_,_,_=>h.elim
 | x::xs,v::vs,h,0,y,u,K,hu=>by simp at K hu;subst K hu;exact h.1
 | x::xs,v::vs,h,i+1,y,u,K,hu=>Kn.at h.2 i y u (by simpa using K) (by simpa using hu)
theorem S6{E0:LH}{ρ:Operand->Value}{K:Next->St->Prop}(ay:EL L ρ){α:Type}{pp:Rp α}{len:Nat}{Z:Array (Nat×Operand)}(vs:Lv_){z:Value}(xs:List α)
  (az:P.underlying t=some (.slice e)) (aI:Bh P e=some pp.n) (aJ:zeroOf P e=some z) (aK:decide (0<len*pp.n/\len*pp.n<=2 ^ 24)=true)
  (aL:Z.toList.mapM (λq=>(ev L q.2).map λv=>(q.1,v))=some ((vs.zipIdx 0).map λq=>(q.2,q.1)))
  (U:vs.length=len) (Y:xs.length=len) (aM:Kn pp E0 xs vs) (aN:Aq E H S)
  (h:∀r seg,OL e pp E0 (some ⟨r,0,none⟩) len seg xs->Aq E H (S++ [seg])->K (.value (.slice (some ⟨r,0,none⟩) xs.length len)) (Aj E H (S++ [seg]))):
  lp P (execOp ρ ⟨d,.buildSlice t len Z,ty,p,af,g⟩) (Aj E H S) K (λ_ _=>False):=by
 have am:=aM.at;have aO:(Z.map λ(j,x)=>(j,ρ x)).toList=(vs.zipIdx 0).map λq=>(q.2,q.1):=by
  have key:∀(l:List (Nat×Operand)) (vs:List (Nat×Value)),l.mapM (λq=>(ev L q.2).map λv=>(q.1,v))=some vs->l.map (λ(j,x)=>(j,ρ x))=vs:=by
   intro l
   induction l with
   | nil=>intro vs h;simp at h;subst h;rfl
   | cons q l ac=>
    intro vs h;simp only [List.mapM_cons,bind] at h;cases ag:ev L q.2 with
    | none=>rw [ag] at h;simp at h
    | some w=>
     rw [ag] at h;simp only [Option.map_some,Option.bind_some] at h;obtain⟨aP,aQ,ap⟩:=bind_some h;simp at ap;subst ap;simp [ac aP aQ,ay _ _ ag]
  rw [Array.toList_map];exact key _ _ aL
 have aq:∀v∈vs,v.cells.size=pp.n:=λv O=>by
  obtain⟨i,hi⟩:=List.mem_iff_getElem?.1 O;have aR:i<xs.length:=by rw [Y,← U];exact(List.getElem?_eq_some_iff.1 hi).1
  simpa using pp.len (am i _ v (List.getElem?_eq_getElem aR) hi)
 rw [QN];refine Au _ _ ?_;unfold Instr.buildSlice;refine Au _ _ (Cg az ?_);refine Au _ _ (EH aI ?_);have aU:=of_decide_eq_true aK;rw [if_neg (by omega),if_neg (by omega)];refine Au (x:=zeroValue e) _ (Ho aJ ?_);rw [HX,aO];obtain⟨cells,aS,al⟩:=Ra vs 0 ((Array.range (len*pp.n)).map (z.cells[· % z.cells.size]!)) aq (by simp [U]);simp only [fill_eq,aS];simp only [Nat.zero_mul,List.take_zero,List.nil_append] at al;refine Au _ _ (I0 aN λr av=>?_);rw [(Fz av).1];have aw:cells.size=len*pp.n:=by
  have:cells.toList.length=len*pp.n:=by
   rw [al];have:∀(vs:Lv_),(∀v∈vs,v.cells.size=pp.n)->(vs.map (·.cells.toList)).flatten.length=vs.length*pp.n:=by
    intro vs
    induction vs with
    | nil=>intro _;simp
    | cons v vs ac=>intro h;rw [List.map_cons,List.flatten_cons,List.length_append,ac λw hw=>h w (List.mem_cons_of_mem _ hw),List.length_cons,Nat.succ_mul,Nat.add_comm];simp [h v (by simp)]
   rw [this vs aq,U]
  simpa using this
 have:=h r [(r,.cells cells e (0,0))] ⟨vs.map (·.cells.toList),.inr ⟨r,cells,rfl,rfl,aw,by omega,by rw [← al,List.take_of_length_le (by simp [aw,Y])]⟩,by simp [U,Y],λi x ws aT hw=>by
  rw [List.getElem?_map] at hw
  cases O:vs[i]? with
  | none=>rw [O] at hw;cases hw
  | some v=>rw [O] at hw;cases hw;exact am i x v aT O⟩ (Fz av).2
 rw [Y] at this;exact this
theorem FT{α:Type}{pp:Rp α}{len:Nat}{K:Array (Nat×Operand)}(vs:Lv_){z:Value}(xs:List α)
  (O:ops[i]? =some ⟨d,.buildSlice t len K,ty,p,af,g⟩) (hw:AJ L ops ⟨d,.buildSlice t len K,ty,p,af,g⟩=some true) (U:BH b n ⟨d,.buildSlice t len K,ty,p,af,g⟩=true)
  (Y:P.underlying t=some (.slice e)) (Z:Bh P e=some pp.n) (ac:zeroOf P e=some z) (ag:decide (0<len*pp.n/\len*pp.n<=2 ^ 24)=true)
  (al:K.toList.mapM (λq=>(ev L q.2).map λv=>(q.1,v))=some ((vs.zipIdx 0).map λq=>(q.2,q.1)))
  (am:vs.length=len) (ap:xs.length=len) (aq:Kn pp E xs vs) (av:Aq E H S)
  (h:∀r seg,OL e pp E (some ⟨r,0,none⟩) len seg xs->Aq E H (S++ [seg])->JL J Q b n (As L d (.slice (some ⟨r,0,none⟩) xs.length len)) ds (.inRegion ops rest::k) cs (Aj E H (S++ [seg]))):
  JL J Q b n L ds (.inRegion ops (i::rest)::k) cs (Aj E H S):=by
 exact JL.op O hw U λρ aw=>S6 aw vs xs Y Z ac ag al am ap aq av h
theorem OL.get{α:Type}{pp:Rp α}{a:Option Addr}{c:Nat}{seg:Seg}{xs:List α}{m:Nat}{x:α}(Z:OL e pp E a c seg xs)(hm:xs[m]? =some x):
  ∃bk f ws,a=some ⟨bk,0,none⟩/\seg= [(bk,.cells f e (0,0))]/\pp.r E ws x/\(∀j w,ws[j]? =some w->f[m*pp.n+j]? =some w)/\(m+1)*pp.n<=f.size/\
   ∀(x':α) (ws':Lv_),pp.r E ws' x'->OL e pp E a c [(bk,.cells (A8 f (m*pp.n) ws') e (0,0))] (xs.set m x'):=by
 obtain⟨wss,Z,am,ac⟩:=Z;have ap:m<xs.length:=(List.getElem?_eq_some_iff.1 hm).1;rcases Z with⟨ag,aq,_⟩ | ⟨bk,f,ag,aq,aK,av,aw⟩
 ·omega
 have hw:wss[m]? =some wss[m]:=List.getElem?_eq_getElem (by omega);have ay:=H5 am ac;have hle:(m+1)*pp.n<=xs.length*pp.n:=Nat.mul_le_mul_right _ ap;have aN:xs.length*pp.n<=c*pp.n:=Nat.mul_le_mul_right _ av;refine⟨bk,f,wss[m],ag,aq,ac m x _ hm hw,λj w K=>?_,by omega,λx' ws' az=>?_⟩
 ·have:=J6 ay hw j w K;rw [aw,List.getElem?_take] at this;split at this
  ·simpa using this
  ·cases this
 ·have aI:ws'.length=pp.n:=pp.len az;refine⟨wss.set m ws',.inr ⟨bk,_,ag,rfl,by rw [Lr];exact aK,by simpa using av,?_⟩,by simpa using am,λi y us Y hu=>?_⟩
  ·simp only [List.length_set];have key:∀(wss:List (Lv_)) (m:Nat) (hm:m<wss.length),(∀ws∈wss,ws.length=pp.n)->∀j,(wss.set m ws').flatten[j]? =if m*pp.n<=j/\j<(m+1)*pp.n then ws'[j - m*pp.n]? else wss.flatten[j]? :=by
    intro wss
    induction wss with
    | nil=>intro m hm;simp at hm
    | cons us wss al=>
     intro m hm aJ j;have hu:us.length=pp.n:=aJ us (by simp);cases m with
     | zero=>
      simp only [List.set_cons_zero,List.flatten_cons,Nat.zero_mul,Nat.zero_le,true_and,Nat.zero_add,Nat.one_mul,Nat.sub_zero];split
      ·rename_i K;rw [List.getElem?_append_left (by omega)]
      ·rename_i K;rw [List.getElem?_append_right (by omega),List.getElem?_append_right (by omega),aI,hu]
     | succ m=>
      simp only [List.set_cons_succ,List.flatten_cons];have O:(m+1)*pp.n=m*pp.n+pp.n:=Nat.succ_mul _ _;have e2:(m+1+1)*pp.n=(m+1)*pp.n+pp.n:=Nat.succ_mul _ _;rcases Nat.lt_or_ge j us.length with K | K
      ·rw [List.getElem?_append_left K,List.getElem?_append_left K,if_neg (by omega)]
      ·rw [List.getElem?_append_right K,List.getElem?_append_right K,al m (by simpa using hm) (λws aL=>aJ ws (List.mem_cons_of_mem _ aL))];by_cases U:m*pp.n<=j - us.length/\j - us.length<(m+1)*pp.n
       ·rw [if_pos U,if_pos (by omega)];congr 1;omega
       ·rw [if_neg U,if_neg (by omega)]
   have aM:∀(vs:Lv_) (c:Av_) (off:Nat),off+vs.length<=c.size->∀j,(A8 c off vs)[j]? =if off<=j/\j<off+vs.length then vs[j - off]? else c[j]? :=by
    intro vs
    induction vs with
    | nil=>intro c off _ j;simp [A8];omega
    | cons w vs al=>
     intro c off U j;simp only [A8,List.length_cons] at*;rw [al _ _ (by simp;omega)];by_cases O:j=off
     ·subst O;rw [if_neg (by omega),if_pos (by omega),Nat.sub_self,List.getElem?_cons_zero,Array.getElem?_setIfInBounds_self_of_lt (by omega)]
     ·by_cases e2:off+1<=j/\j<off+1+vs.length
      ·rw [if_pos e2,if_pos (by omega)];have:j - off=(j - (off+1))+1:=by omega
       rw [this];simp
      ·rw [if_neg e2,if_neg (by omega),Array.getElem?_setIfInBounds_ne (by omega)]
   apply List.ext_getElem?;intro j;have O:(m+1)*pp.n=m*pp.n+pp.n:=Nat.succ_mul _ _;have t1:(A8 f (m*pp.n) ws').toList[j]? =(A8 f (m*pp.n) ws')[j]? :=Array.getElem?_toList;have t2:f.toList[j]? =f[j]? :=Array.getElem?_toList;rw [key wss m (by omega) ay,List.getElem?_take,t1,aM ws' f (m*pp.n) (by omega),aw,List.getElem?_take,t2,aI];by_cases U:m*pp.n<=j/\j<(m+1)*pp.n
   ·rw [if_pos U,if_pos (by omega),if_pos (by omega)]
   ·rw [if_neg U,if_neg (show ¬(m*pp.n<=j/\j<m*pp.n+pp.n) by omega)]
  ·rw [List.getElem?_set] at Y hu;by_cases O:m=i
   ·subst O;rw [if_pos rfl,if_pos ap] at Y;rw [if_pos rfl,if_pos (by omega)] at hu;cases Y;cases hu;exact az
   ·rw [if_neg O] at hu Y;exact ac i y us Y hu
theorem MO{α:Type}{pp:Rp α}{a:Option Addr}{c:Nat}{seg:Seg}{xs:List α}{xv:α}{m:Int}(j:Nat)(O:OL e pp E a c seg xs)(hm:ix xs m=some xv)(U:S[j]? =some seg)
  (Y:ops[i]? =some ⟨d,.indexAddr t x y,ty,p,af,g⟩) (hw:AJ L ops ⟨d,.indexAddr t x y,ty,p,af,g⟩=some true) (Z:BH b n ⟨d,.indexAddr t x y,ty,p,af,g⟩=true)
  (ac:ev L x=some (.slice a xs.length c)) (ag:ev L y=some (.int kd m)) (al:P.underlying t=some (.slice e)) (am:Bh P e=some pp.n)
  (h:∀bk o f ws,S[j]? =some [(bk,.cells f e (0,0))]->pp.r E ws xv->(∀j w,ws[j]? =some w->f[o+j]? =some w)->o+pp.n<=f.size->(∀(x':α) (ws':Lv_),pp.r E ws' x'->OL e pp E a c [(bk,.cells (A8 f o ws') e (0,0))] (xs.set m.toNat x'))->o=m.toNat*pp.n->a=some ⟨bk,0,none⟩->
   JL J Q b n (As L d (.pointer (some ⟨bk,o,none⟩))) ds (.inRegion ops rest::k) cs (Aj E H S)):
  JL J Q b n L ds (.inRegion ops (i::rest)::k) cs (Aj E H S):=by
 obtain⟨m,rfl,hm⟩:=Gt hm;have aI:m<xs.length:=(List.getElem?_eq_some_iff.1 hm).1;obtain⟨bk,f,ws,rfl,rfl,ap,aq,av,aw⟩:=OL.get O hm;have ay:(m+1)*pp.n=m*pp.n+pp.n:=Nat.succ_mul _ _;have az:m*pp.n+pp.n<=f.size:=by rw [← ay];exact av
 refine AY (v:= .pointer (some ⟨bk,m*pp.n,none⟩)) Y hw Z (λρ K=>?_) (h bk (m*pp.n) f ws U ap aq az (by simpa using aw) (by simp) rfl);have:=MA (P:=P) (s:=Aj E H S) (d:=d) (ty:=ty) (p:=p) (af:=af) (g:=g) al am (K x _ ac) (K y _ ag) ⟨by omega,by omega⟩;rw [Dz rfl] at this;simpa using this
end
end Pal
namespace Pal
open Go Go.Conc
section
variable {P:Program}{J:Judge P}{Q:Gs_}{b:Frame}{n:Nat}{ds:Ld_}{ops:Ao_}{k:Li_}{cs:Lf_}{L:Env}{s:St}{E E' H:LH}{S:List Seg}
variable {d:Option Tmp}{x y:Operand}{t u ty e:TypeId}{p:String}{af:Ae_}{g:On_}{v:Value}{i:Nat}{rest:List Nat}{kd:IntKind}
theorem JS.perm{todo:Li_}{S':List Seg}(K:S.flatten.Perm S'.flatten)(O:Aq E H S)(h:Aq E H S'->JL J Q b n L ds todo cs (Aj E H S')):JL J Q b n L ds todo cs (Aj E H S):=by
 have U:Aq E H S':=Nd.perm O K;rw [show Aj E H S=Aj E H S' from EY O K];exact h U
theorem Gs{todo:Li_}{A B:Seg}(j:Nat)(K:S[j]? =some (A++B))(O:Aq E H S)(h:Aq E H (S.set j A++ [B])->JL J Q b n L ds todo cs (Aj E H (S.set j A++ [B]))):JL J Q b n L ds todo cs (Aj E H S):=by
 refine JS.perm ?_ O h;have U:=(Ec (seg':=A) K).1;have Y:=(Ec (seg':=A) K).2;rw [G1];refine U.trans ?_;have Z:=Y.symm.append_right B
 rwa [List.append_assoc] at Z
theorem JS.swap{todo:Li_}{A B:Seg}(j l:Nat)(O:S[j]? =some A)(U:S[l]? =some B)(Y:(j==l)=false)(Z:Aq E H S)(h:Aq E H ((S.set j B).set l A)->JL J Q b n L ds todo cs (Aj E H ((S.set j B).set l A))):JL J Q b n L ds todo cs (Aj E H S):=by
 have K:j≠l:=by simpa using Y
 refine JS.perm ?_ Z h;have a1:=(Ec (seg':=B) O).1;have ac:(S.set j [])[l]? =some B:=by rw [List.getElem?_set_ne K];exact U
 have ag:=(Ec (seg':=A) ac).1;have al:((S.set j B).set l A)[l]? =some A:=by
  have:l<(S.set j B).length:=by rw [List.length_set];exact(List.getElem?_eq_some_iff.1 U).1
  rw [List.getElem?_set,if_pos rfl,if_pos this]
 have c1:=(Ec (seg':=A) al).1;rw [List.set_set] at c1;have am:((S.set j B).set l [])[j]? =some B:=by
  have:j<S.length:=(List.getElem?_eq_some_iff.1 O).1;rw [List.getElem?_set_ne (Ne.symm K)];simp [this]
 have c2:=(Ec (seg':=B) am).1;have ap:(((S.set j B).set l []).set j [])=((S.set j []).set l []):=by
  rw [List.set_comm _ _ K,List.set_set,List.set_comm _ _ K.symm]
 rw [ap] at c2;exact a1.trans ((ag.append_right A).trans ((c2.symm.append_right A).trans c1.symm))
theorem F6{bk off:Nat}{c:Av_}{f:Nat×Nat}{vs:Lv_}{seg:Seg}(j:Nat)(K:Aq E H S)(O:S[j]? =some ((bk,.cells c e f)::seg))(U:(c.toList.drop off).take vs.length=vs):∀i v,vs[i]? =some v->(Aj E H S).cell? (Addr.add ⟨bk,off,none⟩ i)=some v:=
 UT K O λi v hi=>by
  have Y:i<vs.length:=(List.getElem?_eq_some_iff.1 hi).1
  rw [← U,List.getElem?_take_of_lt Y,List.getElem?_drop,Array.getElem?_toList] at hi
  exact hi
theorem Ls(vs:Lv_):∀(c:Av_) (off:Nat),off+vs.length<=c.size->∀j,(A8 c off vs)[j]? =if off<=j/\j<off+vs.length then vs[j - off]? else c[j]? :=by
 induction vs with
 | nil=>intro c off _ j;simp [A8];omega
 | cons w vs K=>
  intro c off U j;simp only [A8,List.length_cons] at*;rw [K _ _ (by simp;omega)];by_cases O:j=off
  ·subst O;rw [if_neg (by omega),if_pos (by omega),Nat.sub_self,List.getElem?_cons_zero,Array.getElem?_setIfInBounds_self_of_lt (by omega)]
  ·by_cases e2:off+1<=j/\j<off+1+vs.length
   ·rw [if_pos e2,if_pos (by omega)];have:j - off=(j - (off+1))+1:=by omega
    rw [this];simp
   ·rw [if_neg e2,if_neg (by omega),Array.getElem?_setIfInBounds_ne (by omega)]
end
end Pal
namespace Pal
open Go Go.Conc
theorem elim_inl{α β K:Type}{f:α->Option K}{g:β->Option K}{x:α}{r:K}(h:Sum.elim f g (.inl x)=some r):f x=some r:=h
theorem elim_inr{α β K:Type}{f:α->Option K}{g:β->Option K}{x:β}{r:K}(h:Sum.elim f g (.inr x)=some r):g x=some r:=h
def room{α:Type}(xs:List α)(x:α):Option (List α):=if xs.length+1<=2 ^ 40 then some (xs++ [x]) else none
theorem U3{α:Type}{xs ys:List α}{x:α}(h:room xs x=some ys):xs.length+1<=2 ^ 40/\ys=xs++ [x]:=by
 unfold room at h;split at h
 ·rename_i hb;exact⟨hb,(Option.some.inj h).symm⟩
 ·cases h
def NN(a b:Int):Option Int:=if b=0 then none else some (a.tmod b)
def NA(a b:Nat):Option Nat:=if b=0 then none else some (a % b)
section
variable {P:Program}{s:St}{ρ:Operand->Value}{x y z:Operand}{d:Option Tmp}{t u ty e:TypeId}{p:String}{af:Ae_}{g:On_}{v:Value}{kd kd':IntKind}{m m':Int}{a b:Nat}
theorem W5{r:Int}(K:ρ x=iV m)(O:ρ y=iV m')(h:NN m m'=some r):Yl P ⟨d,.binOp .rem t x y u,ty,p,af,g⟩ ρ s (iV r):=by
 unfold NN at h;split at h
 ·cases h
 ·rename_i U;cases h;exact Yl.rem K O U
theorem Wa{r:Nat}(K:ρ x= .int .u64 (a:Int))(O:ρ y= .int .u64 (b:Int))(h:NA a b=some r):Yl P ⟨d,.binOp .rem t x y u,ty,p,af,g⟩ ρ s (.int .u64 (r:Int)):=by
 unfold NA at h;split at h
 ·cases h
 ·rename_i U;cases h;exact XA K O U
theorem Yl.min2{ats:Array TypeId}(K:ρ x=iV m)(O:ρ y=iV m'):Yl P ⟨d,.call ⟨.builtin .min,#[x,y],ats⟩,ty,p,af,g⟩ ρ s (iV (min m m')):=by
 have e:(if m'<m then m' else m)=min m m':=by split <;> omega
 simp [Yl,execOp,lp,pure,bind,Sem.bind,K,O,resolve,invoke,builtin,Builtin.min_,Builtin.min2,e]
theorem Yl.max2{ats:Array TypeId}(K:ρ x=iV m)(O:ρ y=iV m'):Yl P ⟨d,.call ⟨.builtin .max,#[x,y],ats⟩,ty,p,af,g⟩ ρ s (iV (max m m')):=by
 have e:(if m<m' then m' else m)=max m m':=by split <;> omega
 simp [Yl,execOp,lp,pure,bind,Sem.bind,K,O,resolve,invoke,builtin,Builtin.max_,Builtin.max2,e]
end
def Lf(P:Program):List Field->List (Nat×Nat)->Prop
 | f::K,(o,n)::O=>f.offset=o/\Bh P f.type=some n/\Lf P K O
 | [],[]=>True
 | _,_=>False
theorem Lf.mapM{P:Program}:∀{K:List Field} {O:List (Nat×Nat)},Lf P K O->K.mapM (λf=>(Bh P f.type).map λn=>(f.offset,n))=some O
 | [],[],_=>rfl
 | [],_::_,h=>h.elim
 | _::_,[],h=>h.elim
 | f::K,(o,n)::O,h=>by
  obtain⟨U,Y,Z⟩:=h
  simp only [List.mapM_cons,bind,Y,Option.map_some,Option.bind_some,Lf.mapM Z,U];rfl
theorem Ow{L:Env}{ρ:Operand->Value}(h:EL L ρ):∀{l:List (Nat×Operand)} {vs:List (Nat×Value)},l.mapM (λq=>(ev L q.2).map λv=>(q.1,v))=some vs->l.map (λ(j,x)=>(j,ρ x))=vs
 | [],vs,e=>by simp at e;subst e;rfl
 | q::l,vs,e=>by
  simp only [List.mapM_cons,bind] at e
  cases K:ev L q.2 with
  | none=>rw [K] at e;simp at e
  | some w=>
   rw [K] at e
   simp only [Option.map_some,Option.bind_some] at e
   obtain⟨Y,U,O⟩:=bind_some e
   simp at O;subst O
   simp [Ow h U,h _ _ K]
theorem Da{P:Program}{s:St}{ρ:Operand->Value}{L:Env}{d:Option Tmp}{t ty:TypeId}{p:String}{af:Ae_}{g:On_}{z:Value}{K:Array Field}{O:Array (Nat×Operand)}{vs:List (Nat×Value)}{cells:Av_}(places:List (Nat×Nat))(h:EL L ρ)(U:zeroOf P t=some z)(Y:P.underlying t=some (.struct K))(Z:Lf P K.toList places)
  (ac:O.toList.mapM (λq=>(ev L q.2).map λv=>(q.1,v))=some vs) (ag:Kj (places.toArray[·]?) z.cells vs=some cells):Yl P ⟨d,.build t O,ty,p,af,g⟩ ρ s (.agg cells):=
 Yl.build (places:=places.toArray) U Y (by simpa using Z.mapM) (Ow h ac) (by rw [fill_eq];exact ag)
theorem OL.again{α:Type}{e:TypeId}{pp:Rp α}{E:LH}{a:Option Addr}{bk c o:Nat}{f:Av_}{xs:List α}{m:Int}{x:α}(O:OL e pp E a c [(bk,.cells f e (0,0))] xs)(hm:ix xs m=some x)(U:o=m.toNat*pp.n):
  ∃ws,pp.r E ws x/\(∀j w,ws[j]? =some w->f[o+j]? =some w)/\o+pp.n<=f.size/\∀(x':α) (ws':Lv_),pp.r E ws' x'->OL e pp E a c [(bk,.cells (A8 f o ws') e (0,0))] (xs.set m.toNat x'):=by
 obtain⟨m,rfl,hm⟩:=Gt hm;obtain⟨ap,aq,ws,av,K,Y,Z,ac,ag⟩:=OL.get O hm;simp only [List.cons.injEq,Prod.mk.injEq,Obj.cells.injEq,and_true] at K;obtain⟨rfl,rfl⟩:=K;have al:(m+1)*pp.n=m*pp.n+pp.n:=Nat.succ_mul _ _;have am:o=m*pp.n:=by simpa using U
 subst am;exact⟨ws,Y,Z,by rw [← al];exact ac,by simpa using ag⟩
section
variable {P:Program}{J:Judge P}{Q:Gs_}{b:Frame}{n:Nat}{ds:Ld_}{ops:Ao_}{k:Li_}{cs:Lf_}{L:Env}{s:St}{E E' H:LH}{S:List Seg}
variable {d:Option Tmp}{x y:Operand}{t u ty e:TypeId}{p:String}{af:Ae_}{g:On_}{v:Value}{i:Nat}{rest:List Nat}{kd:IntKind}
theorem JS.app{α:Type}{pp:Rp α}{t1 t2:TypeId}{K c:Nat}{a:Option Addr}{seg:Seg}{xs ys:List α}{xv:α}{Z:Nat}{d1:Tmp}{ats:Array TypeId}{O:TypeId}{U:String}{Y:Ae_}{g':On_}{z:Value}(j:Nat)(al:room xs xv=some ys)
  (am:ops[i]? =some ⟨some d1,.buildSlice t2 1 #[(0,y)],O,U,Y,g'⟩) (hw:AJ L ops ⟨some d1,.buildSlice t2 1 #[(0,y)],O,U,Y,g'⟩=some true) (ap:BH b n ⟨some d1,.buildSlice t2 1 #[(0,y)],O,U,Y,g'⟩=true)
  (aq:ops[Z]? =some ⟨d,.call ⟨.builtin .append,#[x,.tmp d1],ats⟩,ty,p,af,g⟩) (av:∀w,AJ (As L (some d1) w) ops ⟨d,.call ⟨.builtin .append,#[x,.tmp d1],ats⟩,ty,p,af,g⟩=some true) (aw:BH b n ⟨d,.call ⟨.builtin .append,#[x,.tmp d1],ats⟩,ty,p,af,g⟩=true)
  (ay:∀w,ev (As L (some d1) w) x=some (.slice a xs.length c)) (az:ev L y=some v) (aI:ats[0]? =some t) (aJ:ats[1]? =some t1) (aK:P.underlying t=some (.slice e)) (aL:P.underlying t1=some (.slice e)) (aM:P.underlying t2=some (.slice e)) (aN:Bh P e=some pp.n) (hb:FE P e=some K) (aO:zeroOf P e=some z) (aP:z.cells.size=pp.n)
  (aQ:0<K) (aR:K<=64) (aS:0<pp.n) (aT:pp.n<=64) (aU:OL e pp E a c seg xs) (aV:pp.r E v.cells.toList xv) (aW:Aq E H S) (aX:S[j]? =some seg)
  (h:∀w ac ag seg',OL e pp E ac ag seg' ys->Aq E H (S.set j seg')->JL J Q b n (As (As L (some d1) w) d (.slice ac ys.length ag)) ds (.inRegion ops rest::k) cs (Aj E H (S.set j seg'))):
  JL J Q b n L ds (.inRegion ops (i::Z::rest)::k) cs (Aj E H S):=by
 obtain⟨aY,rfl⟩:=U3 al;exact UL j am hw ap aq av aw ay az aI aJ aK aL aM aN hb aO aP aQ aR aS aT aY aU aV aW aX h
theorem Bw{todo:Li_}{S':List Seg}(K:S=S')(O:Aq E H S)(h:Aq E H S'->JL J Q b n L ds todo cs (Aj E H S')):JL J Q b n L ds todo cs (Aj E H S):=by
 subst K;exact h O
theorem QS{todo:Li_}(K:Aq E H S)(h:Aq E H (S++ [[]])->JL J Q b n L ds todo cs (Aj E H (S++ [[]]))):JL J Q b n L ds todo cs (Aj E H S):=
 H7 (S':=S++ [[]]) (by rw [G1,List.append_nil]) K h
end
end Pal
namespace Pal
open Go Go.Conc
theorem EB.Lb{P:Program}{J:Judge P}{f:FuncId}{args:Av_}{s:St}{R:Value->St->Prop}(h:EB J f args s R)(U:∀v s',R v s'->s'.q=false):EB J f args s (λv s'=>R v s'/\∃w,Fits s' w):=λQ c cs Y=>
 h Q c cs λv s' K=>by
  by_cases O:∃w,Fits s' w
  ·exact Y v s' ⟨K,O⟩
  ·exact J.step ⟨rfl,λw f=>absurd ⟨w,f⟩ O,λe=>by have:=U v s' K;subst e;cases this⟩
def AV(l:List Nat):Nat->Bool:=λx=>l.contains x
section
variable {P:Program}{J:Judge P}{Q:Gs_}{b:Frame}{n:Nat}{ds:Ld_}{ops:Ao_}{k:Li_}{cs:Lf_}{m fuel:Nat}{D:Nat->Bool}{listed:Array Bool}{L:Env}{s:St}{E E' H:LH}{S:List Seg}
variable {d:Option Tmp}{x y:Operand}{t u ty e:TypeId}{p:String}{af:Ae_}{g:On_}{v:Value}{i:Nat}{kd:IntKind}
def Gc(ops:Ao_)(listed:Array Bool)(m i:Nat):Bool:=match ops[i]? with
 | some oi=>decide (i<m)&&Region.noSelect ops&& !Eh oi.op&&IH ops listed i oi&&Hy ops listed&&listed.size==ops.size&&(Region.ready .any ops listed).contains i
 | none=>false
theorem Wg(m:Nat){id:Nat}(hm:P.follows .mixedOrders=true)(K:(b.kind != .early)=true)
  (O:DC ops m=true) (h:DC ops m=true->AH J Q b n ds ops k cs m Dc ops.size (Array.replicate ops.size false) L (Aj E H S)):JL J Q b n L ds (.code (.region id ops true)::k) cs (Aj E H S):=
 OJ m Dc rfl hm K (h O)
theorem QL{oi:Oper}{i:Nat}(hi:ops[i]? =some oi)(K:Gc ops listed m i=true):decide (i<m)=true/\Region.noSelect ops=true/\(!Eh oi.op)=true/\IH ops listed i oi=true/\Hy ops listed=true/\(listed.size==ops.size)=true/\(Region.ready .any ops listed).contains i=true:=by
 simp only [Gc,hi,Bool.and_eq_true] at K;obtain⟨⟨⟨⟨⟨⟨O,U⟩,Y⟩,Z⟩,ac⟩,ag⟩,al⟩:=K;exact⟨O,U,Y,Z,ac,ag,al⟩
theorem JG.val{oi:Oper}(i:Nat)(hi:ops[i]? =some oi)(K:DC ops m=true)(O:Gc ops listed m i=true)(U:s.q=false)
  (hw:AJ L ops oi=some true) (Y:Bd n oi.dst=true) (Z:∀ρ,EL L ρ->∀s':St,(∀x o,(Br D s).E x=some o->s'.E x=some o)->Yl P oi ρ s' v)
  (h:AH J Q b n ds ops k cs m D fuel (A4 listed i) (As L oi.dst v) s):AH J Q b n ds ops k cs m D (fuel+1) listed L s:=
 let ⟨ac,ag,al,am,ap,aq,av⟩:=QL hi O
 VR hi ac K ag al am ap aq av U hw Y (λρ aw s' _ ay=>Z ρ aw s' ay) h
theorem ZV{oi:Oper}(i:Nat)(hi:ops[i]? =some oi)(K:DC ops m=true)(O:Gc ops listed m i=true)(U:s.q=false)
  (hw:AJ L ops oi=some false) (Y:Bd n oi.dst=true)
  (h:AH J Q b n ds ops k cs m D fuel (A4 listed i) (As L oi.dst undef) s):AH J Q b n ds ops k cs m D (fuel+1) listed L s:=
 let ⟨Z,ac,ag,al,am,ap,aq⟩:=QL hi O
 Vq hi Z K ac ag al am ap aq U hw Y h
theorem Zm{α:Type}{pp:Rp α}{a:Option Addr}{c:Nat}{xs:List α}{xv:α}{K:Int}(i:Nat)(Y:Am pp E a c xs)(O:ix xs K=some xv)
  (Z:ops[i]? =some ⟨d,.indexAddr t x y,ty,p,af,g⟩) (ac:DC ops m=true) (ag:Gc ops listed m i=true) (al:s.q=false)
  (hw:AJ L ops ⟨d,.indexAddr t x y,ty,p,af,g⟩=some true) (am:Bd n d=true)
  (ap:ev L x=some (.slice a xs.length c)) (aq:ev L y=some (.int kd K)) (av:P.underlying t=some (.slice e)) (aw:Bh P e=some pp.n)
  (h:∀bk o ws,pp.r E ws xv->At E bk o ws->AH J Q b n ds ops k cs m D fuel (A4 listed i) (As L d (.pointer (some ⟨bk,o,none⟩))) s):
  AH J Q b n ds ops k cs m D (fuel+1) listed L s:=by
 obtain⟨K,rfl,O⟩:=Gt O;have ay:K<xs.length:=(List.getElem?_eq_some_iff.1 O).1;obtain⟨aK,⟨rfl,_⟩ | ⟨bk,off,rfl,az⟩⟩:=Y
 ·simp at ay
 obtain⟨ws,aI,aJ⟩:=az K xv O;refine JG.val (v:= .pointer (some ⟨bk,off+K*pp.n,none⟩)) i Z ac ag al hw am (λρ U s' _=>?_) (h bk _ ws aI aJ);have:=MA (P:=P) (s:=s') (d:=d) (ty:=ty) (p:=p) (af:=af) (g:=g) av aw (U x _ ap) (U y _ aq) ⟨by omega,by omega⟩;rw [Dz rfl] at this;simpa using this
theorem JG.call{f:FuncId}{args:Array Operand}{ats:Array TypeId}{vs:Lv_}{R:Value->LH->Seg->Prop}(Y:AO J f vs E [] R)(Z:Region.ready .any ops listed= [i])
  (ac:ops[i]? =some ⟨d,.call ⟨.value (.func f),args,ats⟩,ty,p,af,g⟩) (ag:Bd n d=true) (hw:AJ L ops ⟨d,.call ⟨.value (.func f),args,ats⟩,ty,p,af,g⟩=some true) (hb:Dv P f=true) (al:evs L args.toList=some vs) (am:Aq E H S)
  (ap:∀v E' seg',Le E E'->R v E' seg'->Aq E' H (S++ [seg'])->AH J Q b n ds ops k cs m Dc fuel (A4 listed i) (As L d v) (Aj E' H (S++ [seg']))):
  AH J Q b n ds ops k cs m Dc (fuel+1) listed L (Aj E H S):=by
 have aq:=EB.Lb (Y (A9 S.flatten H) trivial) (by rintro v s' ⟨E',B',_,_,_,rfl⟩;rfl);refine AH.call rfl Z ac ag hw hb al aq ?_;rintro v aK ⟨⟨E',B',hle,av,aw,rfl⟩,w,ay⟩;have e2:mk E' (A9 S.flatten H) B'=mk E' H (B'++S.flatten):=by unfold mk;rw [FP]
 have az:Nd E' H S.flatten:=Nd.grow am λx K=>by
  have aI:=ay.d x K;have aJ:A9 B' (A9 S.flatten H) x=none:=aI;exact(HW aJ).1
 have O:Nd E' H (B'++S.flatten):=Nd.glue aw az;have U:(B'++S.flatten).Perm (S++ [B']).flatten:=by rw [G1];exact List.perm_append_comm
 rw [e2,EY O U];exact⟨rfl,λx o K=>hle x o K,ap v E' B' hle av (Nd.perm O U)⟩
end
end Pal
namespace Pal
open Go Go.Conc
theorem M9{E H:LH}{S:List Seg}{j bk:Nat}{o:Obj}{seg:Seg}(K:Aq E H S)(O:S[j]? =some ((bk,o)::seg)):E bk=none:=by
 have hm:(bk,o)∈S.flatten:=List.mem_flatten.2 ⟨_,List.mem_of_getElem? O,by simp⟩;exact((Nd.iff.1 K).2 _ hm).1
end Pal
namespace Pal
open Go Go.Conc
def Jz{α:Type}(n:Int)(z:α):Option (List α):=if 0<=n/\n<=2 ^ 20 then some (List.replicate n.toNat z) else none
def C3{α:Type}(xs ys:List α):Option (List α):=if xs.length+ys.length<=2 ^ 40 then some (xs++ys) else none
def Ha{α:Type}(xs:List α)(lo hi:Int):Option (List α):=if 0<=lo/\lo<=hi/\hi<=xs.length then some ((xs.take hi.toNat).drop lo.toNat) else none
section
variable {P:Program}{s:St}{ρ:Operand->Value}{x y z:Operand}{d:Option Tmp}{t u ty e:TypeId}{p:String}{af:Ae_}{g:On_}{v:Value}{kd kd':IntKind}{m m':Int}{a b:Nat}
end
section
variable {P:Program}{J:Judge P}{Q:Gs_}{b:Frame}{n:Nat}{ds:Ld_}{ops:Ao_}{k:Li_}{cs:Lf_}{L L':Env}{s:St}{E E' H:LH}{S:List Seg}
variable {d:Option Tmp}{x y:Operand}{t u ty e:TypeId}{p:String}{af:Ae_}{g:On_}{v:Value}{i:Nat}{rest:List Nat}{kd:IntKind}
theorem VF{ρ:Operand->Value}:execOp ρ ⟨d,.makeSlice t x y,ty,p,af,g⟩=(do pure (Next.value (← Instr.makeSlice t (ρ x) (ρ y)))):=by
 simp only [execOp]
theorem Od{α:Type}(w:List α):∀m:Nat,((List.replicate m w).flatten).length=m*w.length
 | 0=>by simp
 | m+1=>by rw [List.replicate_succ,List.flatten_cons,List.length_append,Od w m,Nat.succ_mul,Nat.add_comm]
theorem V2(z:Av_)(O:0<z.size):∀m:Nat,((Array.range (m*z.size)).map (z[· % z.size]!)).toList=(List.replicate m z.toList).flatten:=by
 intro m;apply List.ext_getElem?;intro j;simp only [Array.toList_map,Array.toList_range,List.getElem?_map];by_cases K:j<m*z.size
 ·rw [List.getElem?_range K];have Y:j / z.size<m:=(Nat.div_lt_iff_lt_mul O).2 K;have U:j % z.size<z.size:=Nat.mod_lt _ O;have hw:(List.replicate m z.toList)[j / z.size]? =some z.toList:=by simp [Y]
  have:=J6 (n:=z.size) (wss:=List.replicate m z.toList) (λws Z=>by rw [List.eq_of_mem_replicate Z];simp) hw (j % z.size) z[j % z.size] (by simp [U]);rw [show j / z.size*z.size+j % z.size=j from by rw [Nat.mul_comm];exact Nat.div_add_mod _ _] at this;rw [this];simp [U]
 ·have hlen:((List.replicate m z.toList).flatten).length=m*z.size:=by rw [Od];simp
  rw [List.getElem?_eq_none (by simpa using K),List.getElem?_eq_none (by rw [hlen];omega)];rfl
theorem JS.make{α:Type}{pp:Rp α}{z:Value}{Z:α}{m:Int}{xs:List α}(U:Jz m Z=some xs)
  (av:ops[i]? =some ⟨d,.makeSlice t x y,ty,p,af,g⟩) (hw:AJ L ops ⟨d,.makeSlice t x y,ty,p,af,g⟩=some true) (aw:BH b n ⟨d,.makeSlice t x y,ty,p,af,g⟩=true)
  (ay:ev L x=some (iV m)) (Y:ev L y=some (iV m)) (az:P.underlying t=some (.slice e)) (aI:Bh P e=some pp.n) {O:Nat} (hb:FE P e=some O) (aT:O<=64) (aJ:zeroOf P e=some z) (aU:0<pp.n) (ac:pp.r E z.cells.toList Z) (aK:Aq E H S)
  (h:∀r seg,OL e pp E (some ⟨r,0,none⟩) xs.length seg xs->Aq E H (S++ [seg])->JL J Q b n (As L d (.slice (some ⟨r,0,none⟩) xs.length xs.length)) ds (.inRegion ops rest::k) cs (Aj E H (S++ [seg]))):
  JL J Q b n L ds (.inRegion ops (i::rest)::k) cs (Aj E H S):=by
 unfold Jz at U;split at U
 rotate_left
 ·cases U
 rename_i hm;cases U;refine JL.op av hw aw λρ ag=>?_;rw [VF,ag x _ ay,ag y _ Y];refine Au _ _ ?_;unfold Instr.makeSlice;refine Au _ _ (Cg az ?_);simp only [asInt,HX];obtain⟨inf,aL,aM⟩:=OA hb;refine Au (x:=typeInfo e) _ (J4 aL ?_);simp only [aM,Jq (show -9223372036854775808<=m/\m<=9223372036854775807 by omega)];have aV:(O:Int)*m<=64*2 ^ 20:=by
  have al:(O:Int)*m<=64*m:=Int.mul_le_mul_of_nonneg_right (by omega) hm.1;omega
 have aN:((decide (m<0) || decide ((O:Int)*m>2 ^ 48)) || decide (m<0) || decide (m>m))=false:=by
  simp only [Bool.or_eq_false_iff,decide_eq_false_iff_not];omega
 rw [aN];simp only [Bool.false_eq_true,if_false];refine Au (x:=askRoom _) _ ?_;have aO:∀{Q:Unit->St->Prop} {X:Halt->St->Prop} (w:Nat),Q () (Aj E H S)->lp P (askRoom w) (Aj E H S) Q X:=by
  intro Q X w am;unfold askRoom;split
  ·exact⟨.inl ⟨rfl,rfl⟩,am⟩
  ·exact am
 refine aO _ (Au (x:=Go.sizeOf e) _ (EH aI ?_));have ap:z.cells.size=pp.n:=by simpa using pp.len ac
 have fin:∀K:Av_,((Array.range (m.toNat*pp.n)).map (K[· % K.size]!)).toList=(List.replicate m.toNat z.cells.toList).flatten->lp P (do let a ← newRow e ((Array.range (m.toNat*pp.n)).map (K[· % K.size]!));pure (Value.slice (some a) m.toNat m.toNat)) (Aj E H S) (λa s'=>lp P (pure (Next.value a)) s' (λaP s'=>match aP with
   | .value v=>JL J Q b n (As L d v) ds (.inRegion ops rest::k) cs s'
   | .skip=>JL J Q b n (As L d undef) ds (.inRegion ops rest::k) cs s'
   | _=>False) (λ_ _=>False)) (λ_ _=>False):=by
  intro K aQ;refine Au _ _ (I0 aK λr aq=>?_);rw [(Fz aq).1];have aW:((Array.range (m.toNat*pp.n)).map (K[· % K.size]!)).size=m.toNat*pp.n:=by simp
  have:=h r _ ⟨List.replicate m.toNat z.cells.toList,.inr ⟨r,_,rfl,rfl,by simp,by simp,by
   rw [aQ,List.take_of_length_le (by rw [Od];simp [ap])]⟩,by simp,λi y us Y hu=>by
    have:=List.mem_of_getElem? Y;have aR:=List.eq_of_mem_replicate this
    have:=List.mem_of_getElem? hu;have e2:=List.eq_of_mem_replicate this
    subst aR e2;exact ac⟩ (Fz aq).2
  simp only [List.length_replicate] at this;exact this
 split
 ·rename_i aS;have al:m.toNat=0:=by rcases Nat.mul_eq_zero.1 aS with h | h <;> omega
  exact fin #[] (by simp [al])
 ·refine Au (x:=zeroValue e) _ (Ho aJ ?_);refine fin z.cells ?_;rw [← ap];exact V2 z.cells (by omega) _
theorem MM{α:Type}{pp:Rp α}(O:ops[i]? =some ⟨d,.buildSlice t 0 #[],ty,p,af,g⟩)(hw:AJ L ops ⟨d,.buildSlice t 0 #[],ty,p,af,g⟩=some true)(U:BH b n ⟨d,.buildSlice t 0 #[],ty,p,af,g⟩=true)
  (Y:P.underlying t=some (.slice e)) (Z:Bh P e=some pp.n) (ac:Aq E H S)
  (h:∀r seg,OL e pp E (some ⟨r,0,none⟩) 0 seg []->Aq E H (S++ [seg])->JL J Q b n (As L d (.slice (some ⟨r,0,none⟩) 0 0)) ds (.inRegion ops rest::k) cs (Aj E H (S++ [seg]))):
  JL J Q b n L ds (.inRegion ops (i::rest)::k) cs (Aj E H S):=by
 refine JL.op O hw U λρ al=>?_;rw [QN];refine Au _ _ ?_;unfold Instr.buildSlice;refine Au _ _ (Cg Y ?_);refine Au _ _ (EH Z ?_);rw [if_neg (by omega),if_pos (by omega)];refine Au (x:=pure #[]) _ ?_;simp only [lp,pure,List.map_toArray,List.map_nil,Instr.fill];refine Au _ _ (I0 ac λr K=>?_);rw [(Fz K).1];exact h r _ ⟨[],.inr ⟨r,_,rfl,rfl,by simp,Nat.le_refl _,by simp⟩,rfl,λi x ws ag=>by simp at ag⟩ (Fz K).2
theorem Am.rows{α:Type}{pp:Rp α}{a:Option Addr}{c:Nat}{xs:List α}(U:Am pp E a c xs):∃wss:List (Lv_),wss.length=xs.length/\(∀(i:Nat) x ws,xs[i]? =some x->wss[i]? =some ws->pp.r E ws x)/\
  ((xs= []/\∀ad:Addr,a=some ad->ad.spot=none∨c=0)∨∃bk off,a=some ⟨bk,off,none⟩/\∀(i:Nat) ws,wss[i]? =some ws->At E bk (off+i*pp.n) ws):=by
 obtain⟨ag,U⟩:=U;rcases U with⟨rfl,Z⟩ | ⟨bk,off,rfl,ac⟩
 ·exact⟨[],rfl,λi x ws O=>by simp at O,.inl ⟨rfl,Z⟩⟩
 ·have Y:∀i:Fin xs.length,∃ws,pp.r E ws xs[i]/\At E bk (off+i*pp.n) ws:=λi=>ac i xs[i] (List.getElem?_eq_getElem i.2);refine⟨List.ofFn λi=>Classical.choose (Y i),by simp,λi x ws O hw=>?_,.inr ⟨bk,off,rfl,λi ws hw=>?_⟩⟩
  ·have K:i<xs.length:=(List.getElem?_eq_some_iff.1 O).1;simp [K] at hw;subst hw;rw [List.getElem?_eq_getElem K] at O;cases O;exact(Classical.choose_spec (Y ⟨i,K⟩)).1
  ·have K:i<xs.length:=by have:=(List.getElem?_eq_some_iff.1 hw).1;simpa using this
   simp [K] at hw;subst hw;exact(Classical.choose_spec (Y ⟨i,K⟩)).2
theorem Lp{n:Nat}:∀{wss:List (Lv_)},(∀ws∈wss,ws.length=n)->wss.flatten.length=wss.length*n
 | [],_=>by simp
 | ws::wss,h=>by rw [List.flatten_cons,List.length_append,h ws (by simp),Lp λw hw=>h w (List.mem_cons_of_mem _ hw),List.length_cons,Nat.succ_mul,Nat.add_comm]
theorem Of{n:Nat}:∀{wss:List (Lv_)},(∀ws∈wss,ws.length=n)->∀{j:Nat} {w:Value},wss.flatten[j]? =some w->∃(i m:Nat) (ws:Lv_),wss[i]? =some ws/\ws[m]? =some w/\j=i*n+m
 | [],_,_,_,h=>by simp at h
 | us::wss,O,j,w,h=>by
  have hu:=O us (by simp)
  rw [List.flatten_cons] at h
  rcases Nat.lt_or_ge j us.length with K | K
  ·rw [List.getElem?_append_left K] at h
   exact⟨0,j,us,rfl,h,by simp⟩
  ·rw [List.getElem?_append_right K] at h;obtain⟨i,m,ws,U,Y,Z⟩:=Of (λws hw=>O ws (List.mem_cons_of_mem _ hw)) h;exact⟨i+1,m,ws,by simpa using U,Y,by rw [Nat.succ_mul];omega⟩
theorem Mw{α:Type}{pp:Rp α}{wss O:List (Lv_)}{xs ys:List α}(U:wss.length=xs.length)(h:∀(i:Nat) x ws,xs[i]? =some x->wss[i]? =some ws->pp.r E ws x)(Y:∀(i:Nat) x ws,ys[i]? =some x->O[i]? =some ws->pp.r E ws x):
  ∀(i:Nat) y us,(xs++ys)[i]? =some y->(wss++O)[i]? =some us->pp.r E us y:=by
 intro i y us K hu;rcases Nat.lt_or_ge i xs.length with hi | hi
 ·rw [List.getElem?_append_left hi] at K;rw [List.getElem?_append_left (by omega)] at hu;exact h i y us K hu
 ·rw [List.getElem?_append_right hi] at K;rw [List.getElem?_append_right (by omega),U] at hu;exact Y _ y us K hu
variable {B0:List (Nat×Obj)}
theorem Uw{e t t1:TypeId}{Z az l c m:Nat}{a:Option Addr}{blk:List (Nat×Obj)}{xs ys:Lv_}{i:Nat}{rest:List Nat}{d:Option Tmp}{x y:Operand}{ats:Array TypeId}{ty:TypeId}{p:String}{af:Ae_}{g:On_}{z:Value}{ax:Option Addr}{cx:Nat}{B1:List (Nat×Obj)}
  (aQ:ops[i]? =some ⟨d,.call ⟨.builtin .append,#[x,y],ats⟩,ty,p,af,g⟩) (hw:AJ L ops ⟨d,.call ⟨.builtin .append,#[x,y],ats⟩,ty,p,af,g⟩=some true) (aR:BH b n ⟨d,.call ⟨.builtin .append,#[x,y],ats⟩,ty,p,af,g⟩=true)
  (aS:ev L x=some (.slice a l c)) (aT:ev L y=some (.slice ax m cx)) (aU:ats[0]? =some t) (aV:ats[1]? =some t1) (aW:P.underlying t=some (.slice e)) (aX:P.underlying t1=some (.slice e)) (aY:Bh P e=some Z) (hb:FE P e=some az) (aZ:zeroOf P e=some z) (a0:z.cells.size=Z)
  (a1:0<az) (a2:az<=64) (a3:l+m<=2 ^ 40) (a4:∀w∈ys,CW w=true) (av:GS e Z a l c blk xs) (aI:Nd E H (B0++blk++B1)) (aJ:HA (mk E H (B0++blk++B1)) (.slice ax m cx) Z ys)
  (h:∀aN aw aK,GS e Z aN (l+m) aw aK (xs++ys)->Nd E H (B0++aK)->JL J Q b n (As L d (.slice aN (l+m) aw)) ds (.inRegion ops rest::k) cs (mk E H (B0++aK))):
  JL J Q b n L ds (.inRegion ops (i::rest)::k) cs (mk E H (B0++blk++B1)):=by
 refine JL.op aQ hw aR λρ aO=>?_;rw [Lo,aO x _ aS,aO y _ aT];have a5:NH (B0++blk++B1) B0.length e Z a l c xs:=by
  rcases av with⟨K,Y,al,am,ac⟩ | ⟨bk,f,K,Y,al,am,ac⟩
  ·exact .inl ⟨K,Y,al,ac⟩
  ·refine .inr ⟨bk,f,K,?_,al,am,ac⟩;subst Y;simp
 have hlen:=av.length;refine Au _ _ (OB (pl:=B0.length) aU aV aX aW aY hb aZ a0 aI a5 aJ a4 a1 a3 a2 ?_ ?_ ?_)
 ·
  intro bk f O ay bb be a6 aL aM ag;rcases av with⟨K,_⟩ | ⟨U,f0,K,Y,al,am,ac⟩
  ·rw [K] at ay;cases ay
  ·subst Y;have a7:U=bk:=by rw [K] at ay;simpa using ay
   subst a7;have a8:(B0++ [(U,Obj.cells f0 e (0,0))]++B1).set B0.length (U,.cells O e (0,0))=B0++ [(U,.cells O e (0,0))]++B1:=by
    rw [List.append_assoc,List.append_assoc];exact I5 _ _ _ _
   rw [a8] at ag ⊢;have ap:Nd E H (B0++ [(U,.cells O e (0,0))]):=J8.Nd.left ag;refine JL.drop (B0++ [(U,.cells O e (0,0))]) (λp aq=>?_) ag (h a c _ (.inr ⟨U,O,K,rfl,aL,a6,aM.symm⟩) ap);exact List.mem_iff_getElem?.1 (List.mem_append_left _ aq)
 ·intro aP hm;rcases av with⟨K,Y,al,am,ac⟩ | ⟨U,f0,K,_⟩
  ·subst hm;have a9:ys= []:=by
    cases ax with
    | none=>exact aJ.2
    | some ad=>have:=aJ.2.1;simp at this;exact this
   subst Y am ac a9;have ap:Nd E H (B0++ []):=J8.Nd.left aI;exact JL.drop (B0++ []) (λp aq=>List.mem_iff_getElem?.1 (List.mem_append_left _ aq)) aI (h none 0 [] (by simpa using GS.nil) ap)
  ·rw [K] at aP;cases aP
 ·
  intro r O aw ba aL aM ag;have ap:Nd E H (B0++ [(r,.cells O e (0,0))]):=J8.Nd.pick ag;refine JL.drop (B0++ [(r,.cells O e (0,0))]) (λp aq=>?_) ag (h (some ⟨r,0,none⟩) aw _ (.inr ⟨r,O,rfl,rfl,aL,ba,aM.symm⟩) ap);refine List.mem_iff_getElem?.1 ?_;rcases List.mem_append.1 aq with q | q
  ·simp [q]
  ·exact List.mem_append_right _ q
theorem H9{α:Type}{pp:Rp α}{t1:TypeId}{al c cx:Nat}{a ax:Option Addr}{seg:Seg}{xs ys am:List α}{ats:Array TypeId}{z:Value}(j:Nat)(Y:C3 xs ys=some am)
  (aK:ops[i]? =some ⟨d,.call ⟨.builtin .append,#[x,y],ats⟩,ty,p,af,g⟩) (hw:AJ L ops ⟨d,.call ⟨.builtin .append,#[x,y],ats⟩,ty,p,af,g⟩=some true) (aL:BH b n ⟨d,.call ⟨.builtin .append,#[x,y],ats⟩,ty,p,af,g⟩=true)
  (aM:ev L x=some (.slice a xs.length c)) (aN:ev L y=some (.slice ax ys.length cx)) (aO:ats[0]? =some t) (aP:ats[1]? =some t1) (aQ:P.underlying t=some (.slice e)) (aR:P.underlying t1=some (.slice e)) (aS:Bh P e=some pp.n) (hb:FE P e=some al) (aT:zeroOf P e=some z) (aU:z.cells.size=pp.n)
  (aV:0<al) (aW:al<=64) (ap:OL e pp E a c seg xs) (av:Am pp E ax cx ys) (aX:Aq E H S) (aw:S[j]? =some seg)
  (h:∀Z ac seg',OL e pp E Z ac seg' am->Aq E H (S.set j seg')->JL J Q b n (As L d (.slice Z am.length ac)) ds (.inRegion ops rest::k) cs (Aj E H (S.set j seg'))):
  JL J Q b n L ds (.inRegion ops (i::rest)::k) cs (Aj E H S):=by
 unfold C3 at Y;split at Y
 rotate_left
 ·cases Y
 rename_i aY;cases Y;obtain⟨wss,ap,ay,aZ⟩:=ap;obtain⟨a0,az⟩:=G4 aX aw;obtain⟨ag,O,aq,U⟩:=av.rows;have aI:=H5 O aq;rw [a0];have a1:∀w∈ag.flatten,CW w=true:=λw hw=>by
  obtain⟨us,a2,hw⟩:=List.mem_flatten.1 hw;obtain⟨q,K⟩:=List.mem_iff_getElem?.1 a2;have a3:q<ys.length:=by rw [← O];exact(List.getElem?_eq_some_iff.1 K).1
  exact pp.one (aq q _ us (List.getElem?_eq_getElem a3) K) w hw
 have hlen:(xs++ys).length=xs.length+ys.length:=by simp
 have aJ:HA (mk E H ((S.set j []).flatten++seg)) (.slice ax ys.length cx) pp.n ag.flatten:=by
  rcases U with⟨U,bf⟩ | ⟨bk,off,rfl,U⟩
  ·subst U;have:ag= []:=List.eq_nil_of_length_eq_zero O;subst this;cases ax with
   | none=>exact⟨rfl,rfl⟩
   | some ad=>exact⟨.inr rfl,by simp,Nat.zero_le _,λq w K=>by simp at K⟩
  ·refine⟨.inl rfl,by rw [Lp aI,O],av.1,λq w K=>?_⟩;obtain⟨a4,m,ws,a5,e2,a6⟩:=Of aI K;have:=(U a4 ws a5).cell (H:=H) (B:=(S.set j []).flatten++seg) e2;subst a6;rw [← Nat.add_assoc];exact this
 have a7:(S.set j []).flatten++seg=(S.set j []).flatten++seg++ []:=(List.append_nil _).symm;rw [a7] at az aJ ⊢;refine Uw aK hw aL aM aN aO aP aQ aR aS hb aT aU aV aW aY a1 ap az aJ λZ ac a8 a9 ba=>?_;obtain⟨bb,be⟩:=I7 aw ba;rw [bb];have:=h Z ac a8 ⟨wss++ag,by rw [hlen,List.flatten_append];exact a9,by simp [ay,O],Mw ay aZ aq⟩ be;rw [hlen] at this;exact this
end
end Pal
namespace Pal
open Go Go.Conc
section
variable {P:Program}{J:Judge P}{Q:Gs_}{b:Frame}{n:Nat}{ds:Ld_}{ops:Ao_}{k:Li_}{cs:Lf_}{m fuel:Nat}{D:Nat->Bool}{listed:Array Bool}{L L':Env}{s:St}{E E' H:LH}{S:List Seg}
variable {d:Option Tmp}{x y:Operand}{t u ty e:TypeId}{p:String}{af:Ae_}{g:On_}{v:Value}{i:Nat}{rest:List Nat}{kd:IntKind}
theorem Di(h:Sub L' L)(k':AH J Q b n ds ops k cs m D fuel listed L' s):AH J Q b n ds ops k cs m D fuel listed L s:=λT K=>k' T (K.sub h)
theorem FQ{K:Nat}{O:Array Bool}(fuel:Nat)(listed:Array Bool)(I:Env->St->Prop)(U:∀L s,I L s->AH J Q b n ds ops k cs m D fuel listed L s)(h:(∀L s,I L s->AH J Q b n ds ops k cs m D fuel listed L s)->AH J Q b n ds ops k cs m D K O L s):AH J Q b n ds ops k cs m D K O L s:=h U
end
theorem ZG{α:Type}{kk:Nat}{pp:Rp α}{E:LH}{bk o:Nat}{ws:Lv_}{xs:List α}{m:Int}{x:α}(O:(rA kk pp).r E ws xs)(h:At E bk o ws)(hm:ix xs m=some x):∃us,pp.r E us x/\At E bk (o+m.toNat*pp.n) us/\0<=m/\m<kk:=by
 obtain⟨U,wss,rfl,Y,K⟩:=O;obtain⟨m,rfl,hm⟩:=Gt hm;have ag:m<xs.length:=(List.getElem?_eq_some_iff.1 hm).1;have hw:wss[m]? =some wss[m]:=List.getElem?_eq_getElem (by omega);refine⟨wss[m],K m x _ hm hw,?_,by omega,by omega⟩;obtain⟨f,e,fr,Z,g2⟩:=h;refine⟨f,e,fr,Z,λj w ac=>?_⟩;rw [Nat.add_assoc];exact g2 _ _ (J6 (H5 (Y.trans U.symm) K) hw j w ac)
section
variable {P:Program}{s:St}{ρ:Operand->Value}{x y z:Operand}{d:Option Tmp}{t u ty e:TypeId}{p:String}{af:Ae_}{g:On_}{v v':Value}
end
end Pal
namespace Pal
open Go Go.Conc
section
variable {P:Program}{J:Judge P}{Q:Gs_}{b:Frame}{n:Nat}{ds:Ld_}{ops:Ao_}{k:Li_}{cs:Lf_}{L:Env}{E H:LH}{S:List Seg}
variable {d:Option Tmp}{x y:Operand}{t u ty e:TypeId}{p:String}{af:Ae_}{g:On_}{i:Nat}{rest:List Nat}{kd:IntKind}
end
end Pal
namespace Pal
open Go Go.Conc
section
variable {P:Program}{s:St}{ρ:Operand->Value}{x y z:Operand}{d:Option Tmp}{t u ty e:TypeId}{p:String}{af:Ae_}{g:On_}{v v':Value}
theorem U5{o:BinOp}{c K:Av_}(O:o= .eql∨o= .neq)(U:P.eqGuardType P.depth t=false){Q:Unit->St->Prop}{X:Halt->St->Prop}(k:Q () s):lp P (eqGuard o t x y (.agg c) (.agg K)) s Q X:=by
 rcases O with rfl | rfl <;> (simp [eqGuard,lp,bind,Sem.bind,program,pure,U];exact k)
end
end Pal
namespace Pal
open Go Go.Conc
section
variable {P:Program}(J:Judge P)(Q:Gs_)(b:Frame)(n:Nat)(ds:Ld_)(ops:Ao_)(k:Li_)(cs:Lf_)(m:Nat)(D:Nat->Bool)
def Take(fuel:Nat)(listed:Array Bool)(L:Env)(s:St)(i:Nat):Prop:=
 ∃o,ops[i]? =some o/\(!Eh o.op)=true/\Bd n o.dst=true/\AJ L ops o=some true/\∀ρ,EL L ρ->lp P (execOp ρ o) (Br D s) (λO s'=>match O with
  | .value v=>AH J Q b n ds ops k cs m D fuel (A4 listed i) (As L o.dst v) (Cj D s s')
  | .skip=>AH J Q b n ds ops k cs m D fuel (A4 listed i) (As L o.dst undef) (Cj D s s')
  | .enter f args=>∃R,EB J f args (Cj D s s') R/\∀v K,R v K->K.q=false/\(∀x o,(Br D s).E x=some o->(Br D K).E x=some o)/\AH J Q b n ds ops k cs m D fuel (A4 listed i) (As L o.dst v) K
  | _=>False) (λ_ _=>False)
end
section
variable {P:Program}{J:Judge P}{Q:Gs_}{b:Frame}{n:Nat}{ds:Ld_}{ops:Ao_}{k:Li_}{cs:Lf_}{m fuel:Nat}{D:Nat->Bool}{listed:Array Bool}{L:Env}{s:St}{E E' H:LH}{S:List Seg}
variable {d:Option Tmp}{x y:Operand}{t u ty e:TypeId}{p:String}{af:Ae_}{g:On_}{v:Value}{i:Nat}{kd:IntKind}
theorem Om(U:s.q=false){l:List Nat}(K:Region.ready .any ops listed=l)(Y:l≠ [])(h:∀i∈l,Take J Q b n ds ops k cs m D fuel listed L s i):AH J Q b n ds ops k cs m D (fuel+1) listed L s:=
 RF U (by rw [K];exact Y) λi hi o O=>by
  rw [K] at hi
  obtain⟨o',Z,ac,ag,al,am⟩:=h i hi
  obtain rfl:o'=o:=by rw [Z] at O;exact Option.some.inj O
  exact⟨ac,ag,true,al,λe=>(by cases e),λ_=>am⟩
theorem JG.one(K:s.q=false)(O:Region.ready .any ops listed= [i])(h:Take J Q b n ds ops k cs m D fuel listed L s i):AH J Q b n ds ops k cs m D (fuel+1) listed L s:=
 Om K O (by simp) (by simpa using h)
theorem F9{i j:Nat}(K:s.q=false)(O:Region.ready .any ops listed= [i,j])(hi:Take J Q b n ds ops k cs m D fuel listed L s i)(U:Take J Q b n ds ops k cs m D fuel listed L s j):AH J Q b n ds ops k cs m D (fuel+1) listed L s:=
 Om K O (by simp) (by intro q K;simp at K;rcases K with rfl | rfl <;> assumption)
end
end Pal
namespace Pal
open Go Go.Conc
theorem OL.ab{α:Type}{e:TypeId}{pp:Rp α}{E0 E H:LH}{S:List Seg}{a:Option Addr}{c j:Nat}{seg:Seg}{xs:List α}(U:OL e pp E0 a c seg xs)(ac:Aq E H S)(ag:S[j]? =some seg):∃wss:List (Lv_),HA (Aj E H S) (.slice a xs.length c) pp.n wss.flatten/\wss.length=xs.length/\∀(i:Nat) x ws,xs[i]? =some x->wss[i]? =some ws->pp.r E0 ws x:=by
 obtain⟨wss,U,al,am⟩:=U;refine⟨wss,?_,al,am⟩;rcases U with⟨rfl,ap,Z,Y,K⟩ | ⟨bk,f,rfl,rfl,Z,Y,K⟩
 ·exact⟨ap,K⟩
 ·have hle:xs.length*pp.n<=f.size:=by rw [Z];exact Nat.mul_le_mul_right _ Y
  refine⟨.inl rfl,by rw [K];simp [hle],Y,λq w O=>?_⟩;rw [K,List.getElem?_take] at O;split at O
  ·refine BU ac ag ?_;simpa using O
  ·cases O
section
variable {P:Program}{E H:LH}{S:List Seg}{d:Option Tmp}{x y:Operand}{t ty e:TypeId}{p:String}{af:Ae_}{g:On_}
theorem XI{E0:LH}{ρ:Operand->Value}{K:Next->St->Prop}{α:Type}{pp:Rp α}{t1:TypeId}{aJ c cx:Nat}{a ax:Option Addr}{seg:Seg}{xs ys aK:List α}{ats:Array TypeId}{z:Value}(j:Nat)(ay:C3 xs ys=some aK)
  (aV:ρ x= .slice a xs.length c) (aW:ρ y= .slice ax ys.length cx) (aX:ats[0]? =some t) (aY:ats[1]? =some t1) (aZ:P.underlying t=some (.slice e)) (a0:P.underlying t1=some (.slice e)) (a1:Bh P e=some pp.n) (hb:FE P e=some aJ) (a2:zeroOf P e=some z) (a3:z.cells.size=pp.n)
  (a4:0<aJ) (a5:aJ<=64) (av:OL e pp E0 a c seg xs) (a6:∃Z:List (Lv_),HA (Aj E H S) (.slice ax ys.length cx) pp.n Z.flatten/\Z.length=ys.length/\∀(i:Nat) x ws,ys[i]? =some x->Z[i]? =some ws->pp.r E0 ws x) (a7:Aq E H S) (aQ:S[j]? =some seg)
  (h:∀Y O g seg',OL e pp E0 Y O seg' aK->Aq E H (S.set j (g++seg'))->K (.value (.slice Y aK.length O)) (Aj E H (S.set j (g++seg')))):
  lp P (execOp ρ ⟨d,.call ⟨.builtin .append,#[x,y],ats⟩,ty,p,af,g⟩) (Aj E H S) K (λ_ _=>False):=by
 unfold C3 at ay;split at ay
 rotate_left
 ·cases ay
 rename_i a8;cases ay;obtain⟨Z,aR,az,aL⟩:=a6;obtain⟨wss,av,aS,a9⟩:=av;obtain⟨ba,aM⟩:=G4 a7 aQ;have bb:=H5 az aL;have be:∀w∈Z.flatten,CW w=true:=λw hw=>by
  obtain⟨us,bf,hw⟩:=List.mem_flatten.1 hw;obtain⟨q,aT⟩:=List.mem_iff_getElem?.1 bf;have bg:q<ys.length:=by rw [← az];exact(List.getElem?_eq_some_iff.1 aT).1
  exact pp.one (aL q _ us (List.getElem?_eq_getElem bg) aT) w hw
 have hlen:(xs++ys).length=xs.length+ys.length:=by simp
 rw [ba] at aR ⊢;rw [Lo,aV,aW];have aN:∀{Y O seg'},GS e pp.n Y (xs.length+ys.length) O seg' (wss.flatten++Z.flatten)->OL e pp E0 Y O seg' (xs++ys):=λbh=>
  ⟨wss++Z,by rw [hlen,List.flatten_append];exact bh,by simp [aS,az],Mw aS a9 aL⟩
 have fin:∀Y O g seg',OL e pp E0 Y O seg' (xs++ys)->Nd E H ((S.set j []).flatten++(g++seg'))->K (.value (.slice Y (xs.length+ys.length) O)) (mk E H ((S.set j []).flatten++(g++seg'))):=λY O g seg' bi ag=>by
  obtain⟨bj,bl⟩:=I7 aQ ag;rw [bj];have:=h Y O g seg' bi bl;rw [hlen] at this;exact this
 have bm:NH ((S.set j []).flatten++seg) (S.set j []).flatten.length e pp.n a xs.length c wss.flatten:=by
  rcases av with⟨U,ac,aw,am,ap⟩ | ⟨bk,f,U,ac,aw,am,ap⟩
  ·exact .inl ⟨U,ac,aw,ap⟩
  ·refine .inr ⟨bk,f,U,?_,aw,am,ap⟩;subst ac;simp
 refine Au _ _ (OB (pl:=(S.set j []).flatten.length) aX aY a0 aZ a1 hb a2 a3 aM bm aR be a4 a8 a5 ?_ ?_ ?_)
 ·intro bk f al aI bv bw bn aO aP ag;rcases av with⟨U,_⟩ | ⟨aq,f0,U,ac,aw,am,ap⟩
  ·rw [U] at aI;cases aI
  ·subst ac;have bo:aq=bk:=by rw [U] at aI;simpa using aI
   subst bo;have bp:((S.set j []).flatten++ [(aq,Obj.cells f0 e (0,0))]).set (S.set j []).flatten.length (aq,.cells al e (0,0))=(S.set j []).flatten++ [(aq,.cells al e (0,0))]:=I5 _ _ _ _;rw [bp] at ag ⊢;exact fin a c [] _ (aN (.inr ⟨aq,al,U,rfl,aO,bn,aP.symm⟩)) ag
 ·intro aU hm;rcases av with⟨U,ac,aw,am,ap⟩ | ⟨aq,f0,U,_⟩
  ·have bq:Z.flatten= []:=List.eq_nil_of_length_eq_zero (by rw [Lp bb,az,hm];simp);have:=fin none 0 [] [] (aN (by rw [ac,hm,ap,bq];exact GS.nil)) (by rw [am] at aM;simpa using aM);rw [ac,hm] at this;rw [am];simp only [List.append_nil] at this ⊢;exact this
  ·rw [U] at aU;cases aU
 ·intro r al O br aO aP ag;have bu:(S.set j []).flatten++seg++ [(r,Obj.cells al e (0,0))]=(S.set j []).flatten++(seg++ [(r,.cells al e (0,0))]):=List.append_assoc _ _ _;rw [bu] at ag ⊢;exact fin (some ⟨r,0,none⟩) O seg _ (aN (.inr ⟨r,al,rfl,rfl,aO,br,aP.symm⟩)) ag
theorem Xw{E0:LH}{ρ:Operand->Value}{K:Next->St->Prop}{α:Type}{pp:Rp α}{t1:TypeId}{O c cx:Nat}{a ax:Option Addr}{seg Y:Seg}{xs ys U:List α}{ats:Array TypeId}{z:Value}(j al:Nat)(am:C3 xs ys=some U)
  (ap:ρ x= .slice a xs.length c) (aq:ρ y= .slice ax ys.length cx) (av:ats[0]? =some t) (aw:ats[1]? =some t1) (ay:P.underlying t=some (.slice e)) (az:P.underlying t1=some (.slice e)) (aI:Bh P e=some pp.n) (hb:FE P e=some O) (aJ:zeroOf P e=some z) (aK:z.cells.size=pp.n)
  (aL:0<O) (aM:O<=64) (aN:OL e pp E0 a c seg xs) (aO:OL e pp E0 ax cx Y ys) (Z:Aq E H S) (aP:S[j]? =some seg) (aQ:S[al]? =some Y)
  (h:∀ac ag g seg',OL e pp E0 ac ag seg' U->Aq E H (S.set j (g++seg'))->K (.value (.slice ac U.length ag)) (Aj E H (S.set j (g++seg')))):
  lp P (execOp ρ ⟨d,.call ⟨.builtin .append,#[x,y],ats⟩,ty,p,af,g⟩) (Aj E H S) K (λ_ _=>False):=
 XI j am ap aq av aw ay az aI hb aJ aK aL aM aN (aO.ab Z aQ) Z aP h
end
section
variable {P:Program}{J:Judge P}{Q:Gs_}{b:Frame}{n:Nat}{ds:Ld_}{ops:Ao_}{k:Li_}{cs:Lf_}{m fuel:Nat}{D:Nat->Bool}{listed:Array Bool}{L:Env}{s:St}{E E' H:LH}{S:List Seg}
variable {d:Option Tmp}{x y:Operand}{t u ty e:TypeId}{p:String}{af:Ae_}{g:On_}{v:Value}{i:Nat}{kd:IntKind}
end
end Pal
namespace Pal
open Go Go.Conc
section
variable {P:Program}{J:Judge P}{Q:Gs_}{b:Frame}{n:Nat}{ds:Ld_}{ops:Ao_}{k:Li_}{cs:Lf_}{m fuel:Nat}{D:Nat->Bool}{listed:Array Bool}{L:Env}{s:St}{E E' H:LH}{S:List Seg}
variable {d:Option Tmp}{x y:Operand}{t u ty e:TypeId}{p:String}{af:Ae_}{g:On_}{v:Value}{i:Nat}{kd:IntKind}
theorem Take.L3{oi:Oper}(hi:ops[i]? =some oi)(K:(!Eh oi.op&&Bd n oi.dst)=true)(hw:AJ L ops oi=some true)
  (h:∀ρ,EL L ρ->lp P (execOp ρ oi) s (λO s'=>match O with
   | .value v=>AH J Q b n ds ops k cs m Dc fuel (A4 listed i) (As L oi.dst v) s'
   | .skip=>AH J Q b n ds ops k cs m Dc fuel (A4 listed i) (As L oi.dst undef) s'
   | _=>False) (λ_ _=>False)):Take J Q b n ds ops k cs m Dc fuel listed L s i:=by
 simp only [Bool.and_eq_true] at K
 refine⟨oi,hi,K.1,K.2,hw,λρ Y=>Ee _ (h ρ Y) ?_ (λ_ _ h=>h)⟩
 intro O s' U
 cases O with
 | value v=>exact U
 | skip=>exact U
 | _=>exact U.elim
theorem Take.EP{α:Type}{pp:Rp α}{len:Nat}{K:Array (Nat×Operand)}(vs:Lv_){z:Value}(xs:List α)(O:Aq E H S)
  (U:ops[i]? =some ⟨d,.buildSlice t len K,ty,p,af,g⟩) (hw:AJ L ops ⟨d,.buildSlice t len K,ty,p,af,g⟩=some true) (Y:Bd n d=true)
  (Z:P.underlying t=some (.slice e)) (ac:Bh P e=some pp.n) (ag:zeroOf P e=some z) (al:decide (0<len*pp.n/\len*pp.n<=2 ^ 24)=true)
  (am:K.toList.mapM (λq=>(ev L q.2).map λv=>(q.1,v))=some ((vs.zipIdx 0).map λq=>(q.2,q.1)))
  (ap:vs.length=len) (aq:xs.length=len) (av:Kn pp E xs vs)
  (h:∀r seg,OL e pp E (some ⟨r,0,none⟩) len seg xs->Aq E H (S++ [seg])->AH J Q b n ds ops k cs m Dc fuel (A4 listed i) (As L d (.slice (some ⟨r,0,none⟩) xs.length len)) (Aj E H (S++ [seg]))):
  Take J Q b n ds ops k cs m Dc fuel listed L (Aj E H S) i:=
 Take.L3 U (by simp [Eh,Y]) hw λρ aw=>S6 aw vs xs Z ac ag al am ap aq av O λr seg ay az=>h r seg ay az
theorem Take.app0{α:Type}{pp:Rp α}{t1:TypeId}{U c cx:Nat}{a ax:Option Addr}{seg Z:Seg}{xs ys Y:List α}{ats:Array TypeId}{z:Value}(j ac:Nat)(al:Aq E H S)(am:C3 xs ys=some Y)
  (ap:ops[i]? =some ⟨d,.call ⟨.builtin .append,#[x,y],ats⟩,ty,p,af,g⟩) (hw:AJ L ops ⟨d,.call ⟨.builtin .append,#[x,y],ats⟩,ty,p,af,g⟩=some true) (aq:Bd n d=true)
  (av:ev L x=some (.slice a xs.length c)) (aw:ev L y=some (.slice ax ys.length cx)) (ay:ats[0]? =some t) (az:ats[1]? =some t1) (aI:P.underlying t=some (.slice e)) (aJ:P.underlying t1=some (.slice e)) (aK:Bh P e=some pp.n) (hb:FE P e=some U) (aL:zeroOf P e=some z) (aM:z.cells.size=pp.n)
  (aN:0<U) (aO:U<=64) (aP:OL e pp E a c seg xs) (aQ:OL e pp E ax cx Z ys) (aR:S[j]? =some seg) (aS:S[ac]? =some Z)
  (h:∀K O g seg',OL e pp E K O seg' Y->Aq E H (S.set j (g++seg'))->AH J Q b n ds ops k cs m Dc fuel (A4 listed i) (As L d (.slice K Y.length O)) (Aj E H (S.set j (g++seg')))):
  Take J Q b n ds ops k cs m Dc fuel listed L (Aj E H S) i:=
 Take.L3 ap (by simp [Eh,aq]) hw λρ ag=>Xw j ac am (ag _ _ av) (ag _ _ aw) ay az aI aJ aK hb aL aM aN aO aP aQ al aR aS λK O aT seg' aU aV=>h K O aT seg' aU aV
theorem Take.I8{z:Value}(O:Aq E H S)(U:ops[i]? =some ⟨d,.alloc e,ty,p,af,g⟩)(hw:AJ L ops ⟨d,.alloc e,ty,p,af,g⟩=some true)(Y:Bd n d=true)(Z:zeroOf P e=some z)
  (h:∀r,Aq E H (S++ [[(r,.cells z.cells e (0,0))]])->AH J Q b n ds ops k cs m Dc fuel (A4 listed i) (As L d (.pointer (some ⟨r,0,none⟩))) (Aj E H (S++ [[(r,.cells z.cells e (0,0))]]))):
  Take J Q b n ds ops k cs m Dc fuel listed L (Aj E H S) i:=
 Take.L3 U (by simp [Eh,Y]) hw λρ _=>by
  show lp P (do pure (Next.value (← Instr.alloc e true (.tuple #[])))) _ _ _
  refine Au _ _ ?_
  unfold Instr.alloc
  refine Au _ _ (Ho Z ?_)
  refine Au _ _ (I0 O λr K=>?_)
  rw [(Fz K).1]
  exact h r (Fz K).2
end
end Pal
namespace Pal
open Go Go.Conc
theorem B9{α:Type}{kk:Nat}{pp:Rp α}{E:LH}{ws:Lv_}{xs:List α}(K:(rA kk pp).r E ws xs):ws.length=kk*pp.n:=(rA kk pp).len K
theorem Hr{α:Type}{kk:Nat}{pp:Rp α}{E:LH}{ws:Lv_}{xs:List α}{m:Int}{x:α}(O:(rA kk pp).r E ws xs)(hm:ix xs m=some x):∃us,pp.r E us x/\0<=m/\m<kk/\(∀j w,us[j]? =some w->ws[m.toNat*pp.n+j]? =some w):=by
 obtain⟨U,wss,rfl,Y,K⟩:=O;obtain⟨m,rfl,hm⟩:=Gt hm;have ac:m<xs.length:=(List.getElem?_eq_some_iff.1 hm).1;have hw:wss[m]? =some wss[m]:=List.getElem?_eq_getElem (by omega);exact⟨wss[m],K m x _ hm hw,by omega,by omega,λj w Z=>J6 (H5 (Y.trans U.symm) K) hw j w Z⟩
section
variable {P:Program}{J:Judge P}{Q:Gs_}{b:Frame}{n:Nat}{ds:Ld_}{ops:Ao_}{k:Li_}{cs:Lf_}{L:Env}{E H:LH}{S:List Seg}
variable {d:Option Tmp}{x y:Operand}{t u ty e:TypeId}{p:String}{af:Ae_}{g:On_}{i:Nat}{rest:List Nat}{kd:IntKind}{s:St}{ρ:Operand->Value}
theorem H4{α:Type}{kk:Nat}{pp:Rp α}{a:Addr}{ws:Lv_}{xs:List α}(K:(rA kk pp).r E ws xs)(O:Dd P t=some true)(U:Bh P t=some (kk*pp.n))(Y:ρ x= .pointer (some a))(h:∀j v,ws[j]? =some v->s.cell? (a.add j)=some v):Yl P ⟨d,.load t x,ty,p,af,g⟩ ρ s (.agg ws.toArray):=
 H3 O (by rw [B9 K];exact U) Y h
theorem SO{α:Type}{pp:Rp α}{kk:Nat}{ws:Lv_}{xs:List α}{xv:α}{m:Int}{O:Bool}(Y:(rA kk pp).r E ws xs)(hm:ix xs m=some xv)
  (aq:ops[i]? =some ⟨d,.index t x y,ty,p,af,g⟩) (hw:AJ L ops ⟨d,.index t x y,ty,p,af,g⟩=some true) (av:BH b n ⟨d,.index t x y,ty,p,af,g⟩=true)
  (aw:ev L x=some (.agg ws.toArray)) (ay:ev L y=some (.int kd m)) (az:P.underlying t=some (.array kk e)) (Z:Bh P e=some pp.n) (aI:Dd P e=some O)
  (h:∀us,pp.r E us xv->JL J Q b n (As L d (if O then .agg us.toArray else us.headD undef)) ds (.inRegion ops rest::k) cs s) (aJ:O=false->pp.n=1):
  JL J Q b n L ds (.inRegion ops (i::rest)::k) cs s:=by
 obtain⟨us,ac,aK,aL,ag⟩:=Hr Y hm;have hlen:=pp.len ac;have aM:=B9 Y;refine AY aq hw av (λρ al=>?_) (h us ac);refine FO (sm:=Instr.index t (ρ x) (ρ y)) rfl ?_;rw [al _ _ aw,al _ _ ay];unfold Instr.index;simp only [asIntOf,HX];refine Au (x:=underlying t) _ (Cg az ?_);simp only [aK,aL,and_self,if_true];refine Au (x:=Go.sizeOf e) _ (EH Z ?_);unfold Go.part;refine Au (x:=isAgg e) _ (MF aI ?_);have aO:m.toNat*pp.n+pp.n<=ws.length:=by
  rw [aM];have:(m.toNat+1)*pp.n<=kk*pp.n:=Nat.mul_le_mul_right _ (by omega);rw [Nat.succ_mul] at this;exact this
 cases O with
 | true=>
  simp only [if_true];refine Au (x:=Go.sizeOf e) _ (EH Z ?_);have aN:ws.toArray.extract (m.toNat*pp.n) (m.toNat*pp.n+pp.n)=us.toArray:=by
   apply Array.ext_getElem?;intro j;by_cases am:j<us.length
   ·have U:=ag j us[j] (List.getElem?_eq_getElem am);simp only [Array.getElem?_extract,List.size_toArray,List.getElem?_toArray];rw [if_pos (by omega),U];simp [am]
   ·rw [Array.getElem?_eq_none (by simp;omega),Array.getElem?_eq_none (by simp;omega)]
  rw [aN];exact⟨rfl,rfl⟩
 | false=>
  have ap:=aJ rfl;obtain⟨w,rfl⟩:∃w,us= [w]:=by
   match us,hlen with
   | [w],_=>exact⟨w,rfl⟩
   | [],K=>rw [ap] at K;cases K
   | _::_::_,K=>rw [ap] at K;simp at K
  have U:=ag 0 w rfl;simp only [Bool.false_eq_true,if_false,List.getElem?_toArray];rw [Nat.add_zero] at U;rw [U];exact⟨rfl,rfl⟩
end
end Pal
namespace Pal
open Go Go.Conc
def HD(S:List Seg):List Nat->Prop
 | []=>True
 | bk::bks=>(∃(j:Nat) (o:Obj),S[j]? =some [(bk,o)])/\HD S bks
theorem HD.mem{S:List Seg}:∀{bks:List Nat},HD S bks->∀bk∈bks,∃(j:Nat) (o:Obj),S[j]? =some [(bk,o)]
 | [],_,_,h=>by cases h
 | b::bks,h,bk,hb=>by
  rcases List.mem_cons.1 hb with rfl | hb
  ·exact h.1
  ·exact h.2.mem bk hb
theorem HD.free{E H:LH}{S:List Seg}{bks:List Nat}(h:HD S bks)(K:Aq E H S):∀x,AV bks x=true->E x=none:=λx O=>by
 obtain⟨j,o,U⟩:=h.mem x (by simpa [AV] using O)
 exact M9 K U
section
variable {P:Program}{J:Judge P}{Q:Gs_}{b:Frame}{n:Nat}{ds:Ld_}{ops:Ao_}{k:Li_}{cs:Lf_}{m fuel:Nat}{D:Nat->Bool}{listed:Array Bool}{L:Env}{s:St}{E E' H:LH}{S:List Seg}
variable {d:Option Tmp}{x y:Operand}{t u ty e:TypeId}{p:String}{af:Ae_}{g:On_}{v:Value}{i:Nat}{kd:IntKind}
theorem Wx(m:Nat)(bks:List Nat){id:Nat}(U:HD S bks)(Y:Aq E H S)(hm:P.follows .mixedOrders=true)(K:(b.kind != .early)=true)(O:DC ops m=true)
  (h:DC ops m=true->AH J Q b n ds ops k cs m (AV bks) ops.size (Array.replicate ops.size false) L (Aj E H S)):JL J Q b n L ds (.code (.region id ops true)::k) cs (Aj E H S):=
 OJ m (AV bks) rfl hm K (h O)
theorem Cb{bks:List Nat}{bk o:Nat}{c:Av_}{f:Nat×Nat}{w:Value}{s':St}(j:Nat)(K:Aq E H S)(O:S[j]? =some [(bk,.cells c e f)])(U:AV bks bk=true)(Y:∀x o,(Br (AV bks) (Aj E H S)).E x=some o->s'.E x=some o)(hw:c[o]? =some w):s'.cell? ⟨bk,o,none⟩=some w:=by
 have Z:(Br (AV bks) (Aj E H S)).E bk=some (.cells c e f):=by
  show(if AV bks bk then(Aj E H S).get bk else E bk)=_
  rw [if_pos U];exact DF (i:=0) K O rfl
 have ac:=Y _ _ Z;unfold St.cell? St.get;rw [ac];exact hw
theorem ae{bks:List Nat}{s':St}(O:Aq E H S)(U:∀x o,(Br (AV bks) (Aj E H S)).E x=some o->s'.E x=some o)(Y:HD S bks):∀x o,E x=some o->s'.E x=some o:=λx o K=>U x o (by
 show(if AV bks x then(Aj E H S).get x else E x)=some o
 rw [if_neg (λhd=>by rw [Y.free O x hd] at K;cases K)];exact K)
end
end Pal
namespace Pal
open Go Go.Conc
theorem WO{P:Program}{s:St}{ρ:Operand->Value}{x y:Operand}{d:Option Tmp}{t ty e:TypeId}{p:String}{af:Ae_}{g:On_}{kd:IntKind}{α:Type}{xs:List α}{xv:α}{m:Int}{bk c K:Nat}(hm:ix xs m=some xv)(O:P.underlying t=some (.slice e))(U:Bh P e=some K)(Y:ρ x= .slice (some ⟨bk,0,none⟩) xs.length c)(Z:ρ y= .int kd m):
  Yl P ⟨d,.indexAddr t x y,ty,p,af,g⟩ ρ s (.pointer (some ⟨bk,m.toNat*K,none⟩)):=by
 obtain⟨m,rfl,hm⟩:=Gt hm;have ac:m<xs.length:=(List.getElem?_eq_some_iff.1 hm).1;have:=MA (P:=P) (s:=s) (d:=d) (ty:=ty) (p:=p) (af:=af) (g:=g) O U Y Z ⟨by omega,by omega⟩;rw [Dz rfl] at this;simpa using this
end Pal
namespace Pal
open Go Go.Conc
def Ir(ws:Lv_)(q:Nat)(us:Lv_):Lv_:=(A8 ws.toArray q us).toList
theorem MH{ws us:Lv_}{q:Nat}(h:q+us.length<=ws.length)(j:Nat):(Ir ws q us)[j]? =if q<=j/\j<q+us.length then us[j - q]? else ws[j]? :=by
 unfold Ir;rw [Array.getElem?_toList,Ls us _ q (by simpa using h)];simp
theorem UO{l ws us:Lv_}{q:Nat}(h:q+us.length<=ws.length):A8 (l++ws).toArray (l.length+q) us=(l++Ir ws q us).toArray:=by
 apply Array.ext_getElem?;intro j;rw [Ls us _ _ (by simp;omega)];simp only [List.getElem?_toArray];by_cases O:l.length+q<=j/\j<l.length+q+us.length
 ·rw [if_pos O,List.getElem?_append_right (by omega),MH h,if_pos (by omega)];congr 1;omega
 ·rw [if_neg O];rcases Nat.lt_or_ge j l.length with K | K
  ·rw [List.getElem?_append_left K,List.getElem?_append_left K]
  ·rw [List.getElem?_append_right K,List.getElem?_append_right K,MH h,if_neg (by omega)]
theorem Js{ws us:Lv_}(h:us.length=ws.length):Ir ws 0 us=us:=by
 apply List.ext_getElem?;intro j;rw [MH (by omega)];split
 ·simp
 ·rename_i K;rw [List.getElem?_eq_none (by omega),List.getElem?_eq_none (by omega)]
theorem GF{E H:LH}{S:List Seg}{bk:Nat}{l ws:Lv_}{e:TypeId}{f:Nat×Nat}(j:Nat)(K:Aq E H S)(O:S[j]? =some [(bk,.cells (l++ws).toArray e f)]):∀q v,ws[q]? =some v->(Aj E H S).cell? (Addr.add ⟨bk,l.length,none⟩ q)=some v:=λq v U=>by
 rw [Dz rfl]
 refine BU K O ?_
 simp only [List.getElem?_toArray]
 rw [List.getElem?_append_right (by omega)]
 rw [show l.length+q - l.length=q by omega];exact U
theorem I1{E H:LH}{S:List Seg}{bk o:Nat}{l ws:Lv_}{e:TypeId}{f:Nat×Nat}{w:Value}(j:Nat)(K:Aq E H S)(O:S[j]? =some [(bk,.cells (l++ws).toArray e f)])(U:ws[o]? =some w):(Aj E H S).cell? ⟨bk,l.length+o,none⟩=some w:=by
 have:=GF j K O o w U
 rwa [Dz rfl] at this
theorem Nr{α:Type}{kk:Nat}{pp:Rp α}{E:LH}{ws us:Lv_}{xs:List α}{m:Int}{x y:α}(Z:(rA kk pp).r E ws xs)(hm:ix xs m=some x)(hu:pp.r E us y):(rA kk pp).r E (Ir ws (m.toNat*pp.n) us) (xs.set m.toNat y)/\m.toNat*pp.n+us.length<=ws.length:=by
 have aw:=B9 Z;obtain⟨ac,wss,rfl,ag,al⟩:=Z;obtain⟨m,rfl,hm⟩:=Gt hm;have ay:m<xs.length:=(List.getElem?_eq_some_iff.1 hm).1;have am:=pp.len hu;have az:=H5 (ag.trans ac.symm) al;have ap:m*pp.n+us.length<=wss.flatten.length:=by
  rw [aw,am];have:(m+1)*pp.n<=kk*pp.n:=Nat.mul_le_mul_right _ (by omega);rw [Nat.succ_mul] at this;exact this
 simp only [Int.toNat_natCast];refine⟨⟨by simpa using ac,wss.set m us,?_,by simpa using ag,λi aI aJ O U=>?_⟩,ap⟩
 ·apply List.ext_getElem?;intro j;rw [MH ap];have key:∀(wss:List (Lv_)) (m:Nat) (hm:m<wss.length),(∀ws∈wss,ws.length=pp.n)->∀j,(wss.set m us).flatten[j]? =if m*pp.n<=j/\j<m*pp.n+us.length then us[j - m*pp.n]? else wss.flatten[j]? :=by
   intro wss
   induction wss with
   | nil=>intro m hm;simp at hm
   | cons vs wss aK=>
    intro m hm aq j;have aL:vs.length=pp.n:=aq vs (by simp);cases m with
    | zero=>
     simp only [List.set_cons_zero,List.flatten_cons,Nat.zero_mul,Nat.zero_le,true_and,Nat.zero_add,Nat.sub_zero];split
     ·rename_i K;rw [List.getElem?_append_left K]
     ·rename_i K;rw [List.getElem?_append_right (by omega),List.getElem?_append_right (by omega),am,aL]
    | succ m=>
     simp only [List.set_cons_succ,List.flatten_cons];have Y:(m+1)*pp.n=m*pp.n+pp.n:=Nat.succ_mul _ _;rcases Nat.lt_or_ge j vs.length with K | K
     ·rw [List.getElem?_append_left K,List.getElem?_append_left K,if_neg (by omega)]
     ·rw [List.getElem?_append_right K,List.getElem?_append_right K,aK m (by simpa using hm) (λws aM=>aq ws (List.mem_cons_of_mem _ aM))];by_cases av:m*pp.n<=j - vs.length/\j - vs.length<m*pp.n+us.length
      ·rw [if_pos av,if_pos (by omega)];congr 1;omega
      ·rw [if_neg av,if_neg (by omega)]
  exact(key wss m (by omega) az j).symm
 ·rw [List.getElem?_set] at O U;by_cases Y:m=i
  ·subst Y;rw [if_pos rfl,if_pos ay] at O;rw [if_pos rfl,if_pos (by omega)] at U;cases O;cases U;exact hu
  ·rw [if_neg Y] at O U;exact al i aI aJ O U
theorem GI{α:Type}{kk:Nat}{pp:Rp α}{E:LH}{w:Value}{x:α}(h:pp.r E [w] x):(rA kk pp).r E (List.replicate kk w) (List.replicate kk x):=by
 refine⟨by simp,List.replicate kk [w],?_,by simp,λi y us K hu=>?_⟩
 ·induction kk with
  | zero=>rfl
  | succ k O=>rw [List.replicate_succ,List.replicate_succ,List.flatten_cons,← O];rfl
 ·have U:=List.eq_of_mem_replicate (List.mem_of_getElem? K);have e2:=List.eq_of_mem_replicate (List.mem_of_getElem? hu);subst U e2;exact h
section
variable {P:Program}{J:Judge P}{Q:Gs_}{b:Frame}{n:Nat}{ds:Ld_}{ops:Ao_}{k:Li_}{cs:Lf_}{L:Env}{E H:LH}{S:List Seg}
variable {d:Option Tmp}{x y:Operand}{t u ty e:TypeId}{p:String}{af:Ae_}{g:On_}{i:Nat}{rest:List Nat}{kd:IntKind}{s:St}{ρ:Operand->Value}
theorem I3{α:Type}{kk:Nat}{pp:Rp α}{ws:Lv_}{xs:List α}{xv:α}{m:Int}{bk o:Nat}(K:(rA kk pp).r E ws xs)(hm:ix xs m=some xv)(O:P.underlying t=some (.array kk e))(U:Bh P e=some pp.n)(Y:ρ x= .pointer (some ⟨bk,o,none⟩))(Z:ρ y= .int kd m):
  Yl P ⟨d,.indexAddr t x y,ty,p,af,g⟩ ρ s (.pointer (some ⟨bk,o+m.toNat*pp.n,none⟩)):=by
 obtain⟨us,al,ac,ag,am⟩:=Hr K hm;have:=QY (P:=P) (s:=s) (d:=d) (ty:=ty) (p:=p) (af:=af) (g:=g) O U Y Z ⟨ac,ag⟩;rw [Dz rfl] at this;exact this
theorem Hq{bk o:Nat}{l ws us:Lv_}{v:Value}(j:Nat)(U:ops[i]? =some ⟨d,.store t x y,ty,p,af,g⟩)(hw:AJ L ops ⟨d,.store t x y,ty,p,af,g⟩=some true)(Y:BH b n ⟨d,.store t x y,ty,p,af,g⟩=true)(Z:Aq E H S)
  (ac:ev L x=some (.pointer (some ⟨bk,l.length+o,none⟩))) (ag:ev L y=some v) (K:v.cells.toList=us) (al:Bh P t=some us.length) (am:∀u∈us,CW u=true) (ap:S[j]? =some [(bk,.cells (l++ws).toArray e (0,0))]) (hle:o+us.length<=ws.length)
  (h:Aq E H (S.set j [(bk,.cells (l++Ir ws o us).toArray e (0,0))])->JL J Q b n (As L d undef) ds (.inRegion ops rest::k) cs (Aj E H (S.set j [(bk,.cells (l++Ir ws o us).toArray e (0,0))]))):
  JL J Q b n L ds (.inRegion ops (i::rest)::k) cs (Aj E H S):=by
 have aq:v.cells.size=us.length:=by rw [← K];simp
 refine JS.store (v:=v) (off:=l.length+o) j U hw Y Z ac ag (by rw [aq];exact al) (by rw [K];exact am) ap (by simp;omega) λO=>?_;rw [K,UO hle] at O ⊢;exact h O
end
end Pal
namespace Pal
open Go Go.Conc
section
variable {P:Program}{s:St}{ρ:Operand->Value}{x y z:Operand}{d:Option Tmp}{t u ty e:TypeId}{p:String}{af:Ae_}{g:On_}{v v':Value}{E:LH}
theorem SG{n:Nat}{kd:IntKind}{a b:Int}(K:P.underlying t=some (.int kd)){Q:Bool->St->Prop}{X:Halt->St->Prop}(k:Q (a==b) s):lp P (Op.equalIn (n+1) t (.int kd a) (.int kd b)) s Q X:=by
 unfold Op.equalIn;refine Au _ _ (Cg K ?_);simp only [if_true];exact k
end
theorem WV{E H:LH}{S:List Seg}{bks:List Nat}{bk:Nat}{l ws:Lv_}{e:TypeId}{f:Nat×Nat}{s':St}(j:Nat)(K:Aq E H S)(O:S[j]? =some [(bk,.cells (l++ws).toArray e f)])(U:AV bks bk=true)(Y:∀x o,(Br (AV bks) (Aj E H S)).E x=some o->s'.E x=some o):∀q v,ws[q]? =some v->s'.cell? (Addr.add ⟨bk,l.length,none⟩ q)=some v:=λq v Z=>by
 rw [Dz rfl]
 refine Cb j K O U Y ?_
 simp only [List.getElem?_toArray]
 rw [List.getElem?_append_right (by omega)]
 rw [show l.length+q - l.length=q by omega];exact Z
end Pal
namespace Pal
open Go Go.Conc
section
variable {P:Program}{s:St}{ρ:Operand->Value}{x y z:Operand}{d:Option Tmp}{t u ty e xt t1 t2:TypeId}{p:String}{af:Ae_}{g:On_}{v v':Value}{o:Option (Int×Option Int)}
end
def TV{P:Program}(J:Judge P)(v:Value)(args:Av_)(s:St)(R:Value->St->Prop):Prop:=
 ∀(Q:Gs_) (c:Frame) (cs:Lf_),(∀w s',R w s'->J.ok Q (G (c.finish w) cs) s')->
  lp P (do let d ← Deferred.ofValue v args;invoke d.target d.args) s (λK s'=>match K with
   | .enter f a=>J.ok Q (G (Frame.enter P f a .normal) (c::cs)) s'
   | .round l f tm as O=>J.ok Q (G (Frame.round l f tm as O .normal) (c::cs)) s'
   | _=>False) (λ_ _=>False)
def FZ{P:Program}(J:Judge P)(v:Value)(args:Lv_)(E:LH)(B:Seg)(R:Value->LH->Seg->Prop):Prop:=
 ∀H,Nd E H B->TV J v args.toArray (mk E H B) (λv s'=>∃E' B',Le E E'/\R v E' B'/\Nd E' H B'/\s'=mk E' H B')
section
variable {P:Program}{J:Judge P}{Q:Gs_}{b:Frame}{n:Nat}{L:Env}{ds:Ld_}{k:Li_}{cs:Lf_}{E:LH}{H:LH}{S:List Seg}{i:Nat}{rest:List Nat}{d:Option Tmp}{ty e t:TypeId}{p:String}{af:Ae_}{g:On_}{ops:Ao_}
theorem FZ.ofFn{f:FuncId}{caps vs:Lv_}{B:Seg}{R:Value->LH->Seg->Prop}(hb:Dv P f=true)(h:AO J f (vs++caps) E B R):FZ J (.func (.func f) #[] caps.toArray) vs E B R:=λH K Q c cs O=>by
 simp only [Deferred.ofValue,bind,Sem.bind,pure,invoke]
 have e: #[]++vs.toArray++caps.toArray=(vs++caps).toArray:=by simp
 rw [e];exact IX hb (h H K Q c cs O)
theorem Vu{x:Operand}{O:Value}{args:Array Operand}{ats:Array TypeId}{s:St}{vs:Lv_}{R:Value->St->Prop}
  (Y:ops[i]? =some ⟨d,.call ⟨.value x,args,ats⟩,ty,p,af,g⟩) (hw:AJ L ops ⟨d,.call ⟨.value x,args,ats⟩,ty,p,af,g⟩=some true) (U:((b.kind != .early)&&Bd n d)=true)
  (Z:ev L x=some O) (ac:evs L args.toList=some vs) (ag:TV J O vs.toArray s R) (al:∀v s',R v s'->JL J Q b n (As L d v) ds (.inRegion ops rest::k) cs s'):
  JL J Q b n L ds (.inRegion ops (i::rest)::k) cs s:=λT K=>by
 simp only [Bool.and_eq_true] at U
 have am:args.map (Bs T)=vs.toArray:=by
  rw [← Gr K.Gb ac];apply Array.ext';simp
 refine Judge.oper Y (B3 K hw) (by simpa using U.1) (.inr λc ap=>by cases ap) ?_;have hd:lp P (execOp (Bs T) ⟨d,.call ⟨.value x,args,ats⟩,ty,p,af,g⟩) s (upon J Q b T ds ops i rest k cs d) (K4 J Q b T ds ops i rest k cs):=by
  have aq:execOp (Bs T) ⟨d,.call ⟨.value x,args,ats⟩,ty,p,af,g⟩=(do let d ← Deferred.ofValue O vs.toArray;invoke d.target d.args):=by
   simp only [execOp,resolve,am,K.Gb _ _ Z]
  rw [aq];refine Ee _ (ag Q (fr b T ds (.inRegion ops (i::rest)::k)) cs λv s' av=>?_) (λaw s' h=>?_) (λ_ _ h=>h.elim)
  ·rw [Gq (o:=⟨d,.call ⟨.value x,args,ats⟩,ty,p,af,g⟩) _ _ _ _ _ Y];exact al v s' av _ (K.put U.2 v)
  ·cases aw <;> first | exact h | exact h.elim
 exact hd
theorem KO{x:Operand}{O:Value}{args:Array Operand}{ats:Array TypeId}{vs:Lv_}{seg:Seg}{R:Value->LH->Seg->Prop}(j:Nat)
  (am:FZ J O vs E seg R) (ap:ops[i]? =some ⟨d,.call ⟨.value x,args,ats⟩,ty,p,af,g⟩) (hw:AJ L ops ⟨d,.call ⟨.value x,args,ats⟩,ty,p,af,g⟩=some true) (aq:((b.kind != .early)&&Bd n d)=true)
  (K:ev L x=some O) (av:evs L args.toList=some vs) (U:Aq E H S) (Y:S[j]? =some seg) (aw:∀v E' seg',Le E E'->R v E' seg'->Aq E' H (S.set j seg')->JL J Q b n (As L d v) ds (.inRegion ops rest::k) cs (Aj E' H (S.set j seg'))):
  JL J Q b n L ds (.inRegion ops (i::rest)::k) cs (Aj E H S):=by
 have Z:S.flatten.Perm (seg++(S.set j []).flatten):=(Ec (seg':=seg) Y).1.trans List.perm_append_comm;have ac:Nd E H (seg++(S.set j []).flatten):=Nd.perm U Z;have ay:Aj E H S=mk E (A9 (S.set j []).flatten H) seg:=by
  rw [show Aj E H S=mk E H S.flatten from rfl,EY U Z];unfold mk;rw [FP]
 rw [ay];refine Vu ap hw aq K av (am _ (Nd.front ac)) ?_;rintro v s' ⟨E',B',hle,az,aI,rfl⟩;have e2:mk E' (A9 (S.set j []).flatten H) B'=mk E' H (B'++(S.set j []).flatten):=by unfold mk;rw [FP]
 have aJ:Nd E H (S.set j []).flatten:=by
  have:=ac;rw [Nd.iff] at this ⊢;rw [List.map_append,List.nodup_append] at this;exact⟨this.1.2.1,λq aK=>this.2 q (List.mem_append_right _ aK)⟩
 refine Sw rfl λ⟨w,aL⟩=>?_;have aM:Nd E' H (S.set j []).flatten:=aJ.grow λx K=>by
  have aN:=aL.d x K;have aO:A9 B' (A9 (S.set j []).flatten H) x=none:=aN;exact(HW aO).1
 have ag:Nd E' H (B'++(S.set j []).flatten):=Nd.glue aI aM;rw [e2];have al:(B'++(S.set j []).flatten).Perm (S.set j B').flatten:=List.perm_append_comm.trans (Ec Y).2.symm;rw [EY ag al];exact aw v E' B' hle az (Nd.perm ag al)
theorem Take.ZX{bks:List Nat}{m fuel:Nat}{listed:Array Bool}{f:FuncId}{args:Array Operand}{ats:Array TypeId}{vs:Lv_}{R:Value->LH->Seg->Prop}(ap:HD S bks)(Z:Aq E H S)(aq:AO J f vs E [] R)
  (av:ops[i]? =some ⟨d,.call ⟨.value (.func f),args,ats⟩,ty,p,af,g⟩) (hw:AJ L ops ⟨d,.call ⟨.value (.func f),args,ats⟩,ty,p,af,g⟩=some true) (aw:Bd n d=true) (hb:Dv P f=true) (ay:evs L args.toList=some vs)
  (az:∀v E' seg',Le E E'->R v E' seg'->Aq E' H (S++ [seg'])->AH J Q b n ds ops k cs m (AV bks) fuel (A4 listed i) (As L d v) (Aj E' H (S++ [seg']))):
  Take J Q b n ds ops k cs m (AV bks) fuel listed L (Aj E H S) i:=by
 have aI:=EB.Lb (aq (A9 S.flatten H) trivial) (by rintro v s' ⟨E',B',_,_,_,rfl⟩;rfl);refine⟨_,av,by simp [Eh],aw,hw,λρ ac=>?_⟩;have aJ:args.map ρ=vs.toArray:=by
  rw [← Gr ac ay];apply Array.ext';simp
 have aK:ρ (.func f)= .func (.func f) #[] #[]:=ac _ _ rfl;simp only [execOp,resolve,bind,Sem.bind,Deferred.ofValue,aK,pure,invoke];have e: #[]++args.map ρ++ #[]=vs.toArray:=by rw [aJ];simp
 rw [e];refine IX hb ?_;rw [KF];refine⟨_,aI,?_⟩;rintro v aS ⟨⟨E',B',hle,aL,aM,rfl⟩,w,aN⟩;have e2:mk E' (A9 S.flatten H) B'=mk E' H (B'++S.flatten):=by unfold mk;rw [FP]
 have aO:Nd E' H S.flatten:=Nd.grow Z λx O=>by
  have aP:=aN.d x O;have U:A9 B' (A9 S.flatten H) x=none:=aP;exact(HW U).1
 have ag:Nd E' H (B'++S.flatten):=Nd.glue aM aO;have al:(B'++S.flatten).Perm (S++ [B']).flatten:=by rw [G1];exact List.perm_append_comm
 have am:Aq E' H (S++ [B']):=Nd.perm ag al;rw [e2,EY ag al];refine⟨rfl,λx o O=>?_,az v E' B' hle aL am⟩;by_cases hd:AV bks x=true
 ·obtain⟨j,o',Y⟩:=ap.mem x (by simpa [AV] using hd);have U:(Aj E H S).get x=some o':=DF (i:=0) Z Y rfl;have aQ:j<S.length:=(List.getElem?_eq_some_iff.1 Y).1;have aR:(Aj E' H (S++ [B'])).get x=some o':=DF (i:=0) am (by rw [List.getElem?_append_left aQ];exact Y) rfl;have K:(if AV bks x then(Aj E H S).get x else E x)=some o:=O
  show(if AV bks x then(Aj E' H (S++ [B'])).get x else E' x)=some o
  rw [if_pos hd] at K ⊢;rw [aR,← U];exact K
 ·have K:(if AV bks x then(Aj E H S).get x else E x)=some o:=O
  show(if AV bks x then(Aj E' H (S++ [B'])).get x else E' x)=some o
  rw [if_neg hd] at K ⊢;exact hle _ _ K
theorem Take.EJ{m fuel:Nat}{listed:Array Bool}{f:FuncId}{args:Array Operand}{ats:Array TypeId}{vs:Lv_}{R:Value->LH->Seg->Prop}(O:Aq E H S)(U:AO J f vs E [] R)
  (Y:ops[i]? =some ⟨d,.call ⟨.value (.func f),args,ats⟩,ty,p,af,g⟩) (hw:AJ L ops ⟨d,.call ⟨.value (.func f),args,ats⟩,ty,p,af,g⟩=some true) (Z:Bd n d=true) (hb:Dv P f=true) (ac:evs L args.toList=some vs)
  (K:∀v E' seg',Le E E'->R v E' seg'->Aq E' H (S++ [seg'])->AH J Q b n ds ops k cs m Dc fuel (A4 listed i) (As L d v) (Aj E' H (S++ [seg']))):
  Take J Q b n ds ops k cs m Dc fuel listed L (Aj E H S) i:=by
 have e:AV []=Dc:=by funext x;rfl
 rw [← e] at K ⊢;exact Take.ZX (bks:= []) trivial O U Y hw Z hb ac K
end
end Pal
namespace Pal
open Go Go.Conc
open Go.ConcN (upd upd_same upd_ne)
def Cy:Loc->Option Nat | .cell a=>some a.block | .obj r=>some r | _=>none
structure BP (t:Trace) (w:World) (N:Nat) (S:Nat->St) (Sh:Nat->Prop):Prop where
 fits:∀i,i<N->Fits (S i) w
 hh:∀i j,i<N->j<N->i≠j->∀b,(S i).H b≠none->(S j).H b=none/\(S j).E b=none
 sh:∀i,i<N->∀b,Sh b->(S i).H b=none/\(S i).E b=none
 Gd:∀b,Sh b->b<w.heap.size
 clean:∀said,¬Race said t
 low:∀op∈t,op.act.low w.heap.size
 kH:∀i,i<N->∀b,(S i).H b≠none->∀x a,touchAt t x=some a->Cy a.loc=some b->Knows t i x
 kE:∀i,i<N->∀b,(S i).E b≠none->∀x a,touchAt t x=some a->Cy a.loc=some b->a.write=true->Knows t i x
theorem OI{t:Trace}{x:Nat}{a:Touch}{b n:Nat}(Z:∀op∈t,op.act.low n)(h:touchAt t x=some a)(hb:Cy a.loc=some b):b<n:=by
 obtain⟨op,ac,K⟩:=touch_of h;have O:=Z op (mem_of_getElem? ac);cases U:op.act with
 | access e=>
  rw [U] at K O;simp only [MemAct.touch?,Option.some.injEq] at K;subst K;simp only [MemAct.low] at O;cases Y:e.loc with
  | cell ad=>rw [Y] at O hb;simp only [Cy,Option.some.injEq] at hb;subst hb;exact O
  | obj r=>rw [Y] at O hb;simp only [Cy,Option.some.injEq] at hb;subst hb;exact O
  | _=>rw [Y] at hb;simp [Cy] at hb
 | mark m=>
  rw [U] at K O;cases m <;> simp only [MemAct.touch?] at K <;> first
   | (simp at K;done)
   | (simp only [Option.some.injEq] at K;subst K;simp only [Cy,Option.some.injEq] at hb;subst hb;exact O)
 | _=>rw [U] at K;simp [MemAct.touch?] at K
theorem KM{s:St}{w w':World}{e:Event}{a:Touch}{b:Nat}(h:Ev s w w' e)(K:(MemAct.ofEvent e).touch? =some a)(hb:Cy a.loc=some b):
  GH s w w' b a.write:=by
 obtain⟨loc,wr,Y⟩:=e;cases loc with
 | cell ad=>
  obtain⟨O,U⟩:=h;simp only at O;subst O;simp only [MemAct.ofEvent,MemAct.touch?,Option.some.injEq] at K;subst K;simp only [Cy,Option.some.injEq] at hb;subst hb;exact U
 | obj r=>
  obtain⟨O,U⟩:=h;simp only at O;subst O;simp only [MemAct.ofEvent,MemAct.touch?,Option.some.injEq] at K;subst K;simp only [Cy,Option.some.injEq] at hb;subst hb;exact U
 | mark m=>
  cases m <;> simp only [Ev] at h <;> first | exact h.elim | simp [MemAct.ofEvent,MemAct.touch?] at K
 | _=>exact h.elim
theorem Zd{s:St}{w w':World}{e:Event}(h:Ev s w w' e):(MemAct.ofEvent e).low w'.heap.size:=by
 obtain⟨loc,wr,U⟩:=e;cases loc with
 | cell ad=>obtain⟨K,O⟩:=h;simp only at K;subst K;exact O.1
 | obj r=>obtain⟨K,O⟩:=h;simp only at K;subst K;cases wr <;> exact O.1
 | mark m=>cases m <;> simp only [Ev] at h <;> first | exact h.elim | exact trivial
 | _=>exact h.elim
theorem Ul{l:Loc}(h:l.isMemory=true):∃b,Cy l=some b:=by
 cases l <;> simp [Loc.isMemory] at h <;> exact⟨_,rfl⟩
theorem BP.own{t:Trace}{w w':World}{N:Nat}{S:Nat->St}{Sh:Nat->Prop}(h:BP t w N S Sh){i:Nat}(hi:i<N){s':St}{fn:FuncId}{pos:String}{es:Array Event}
  (aS:Fits s' w') (Y:Fr (S i) w s' w') (ay:∀e∈es,Ev (S i) w w' e):BP (t++MemOp.ofEvents i fn pos es) w' N (upd S i s') Sh:=by
 have aN:∀j,j<N->j≠i->∀b o,((S j).H b=some o∨(S j).E b=some o)->w'.heap[b]? =some o/\(S i).H b=none:=by
  intro j U Z b o K;have hw:w.heap[b]? =some o:=K.elim ((h.fits j U).h b o) ((h.fits j U).e b o);have al:b<w.heap.size:=by
   rcases Nat.lt_or_ge b w.heap.size with aJ | aJ
   ·exact aJ
   ·simp [Array.getElem?_eq_none aJ] at hw
  have aO:(S i).H b=none:=by
   cases aT:(S i).H b with
   | none=>rfl
   | some u=>
    have:=h.hh i j hi U (Ne.symm Z) b (by rw [aT];simp);rcases K with K | K
    ·rw [this.1] at K;cases K
    ·rw [this.2] at K;cases K
  exact⟨by rw [Y.keep b al aO,hw],aO⟩
 have az:∀j,j<N->∀b,w.heap.size<=b->(S j).H b=none/\(S j).E b=none:=by
  intro j U b hb;constructor
  ·cases O:(S j).H b with
   | none=>rfl
   | some o=>have:=(h.fits j U).h b o O;simp [Array.getElem?_eq_none hb] at this
  ·cases O:(S j).E b with
   | none=>rfl
   | some o=>have:=(h.fits j U).e b o O;simp [Array.getElem?_eq_none hb] at this
 have am:∀op∈MemOp.ofEvents i fn pos es,op.g=i/\∃e∈es,op.act=MemAct.ofEvent e:=by
  intro op am;obtain⟨e,he,rfl⟩:=mem_ofEvents am;exact⟨rfl,e,he,rfl⟩
 have hold:∀x a,touchAt t x=some a->touchAt (t++MemOp.ofEvents i fn pos es) x=some a:=by
  intro x a O;obtain⟨op,K,_⟩:=touch_of O;rw [touchAt_old (lt_size_of_getElem? K)];exact O
 have aI:∀x a,touchAt (t++MemOp.ofEvents i fn pos es) x=some a->touchAt t x=some a∨(Knows (t++MemOp.ofEvents i fn pos es) i x/\∃e∈es,(MemAct.ofEvent e).touch? =some a):=by
  intro x a O;obtain⟨op,K,aP⟩:=touch_of O;rcases getElem?_append_cases K with⟨al,aU⟩ | ⟨_,aV⟩
  ·left;rw [touchAt_of aU];exact aP
  ·right;obtain⟨aW,e,he,aq⟩:=am op aV;exact⟨by have:=knows_own K;rwa [aW] at this,e,he,by rw [← aq];exact aP⟩
 have aX:∀j,j<N->j≠i->∀b,s'.H b≠none->(S j).H b=none/\(S j).E b=none:=by
  intro j U Z b hb;rcases Y.own b hb with O | O
  ·exact h.hh i j hi U (Ne.symm Z) b O
  ·exact az j U b O
 have aY:∀j,j<N->j≠i->∀b,(S j).H b≠none->s'.H b=none/\s'.E b=none:=by
  intro j U Z b hb;have ac:=h.hh j i U hi Z b hb;have al:¬w.heap.size<=b:=λO=>hb (az j U b O).1;constructor
  ·cases O:s'.H b with
   | none=>rfl
   | some o=>
    rcases Y.own b (by rw [O];simp) with y | y
    ·exact absurd ac.1 y
    ·exact absurd y al
  ·cases O:s'.E b with
   | none=>rfl
   | some o=>
    rcases Y.Ey b (by rw [O];simp) with y | y | y
    ·exact absurd ac.2 y
    ·exact absurd ac.1 y
    ·exact absurd y al
 constructor
 ·intro j U;by_cases e:j=i
  ·subst e;rw [upd_same];exact aS
  ·rw [upd_ne _ _ e];exact⟨λb o K=>(aN j U e b o (.inr K)).1,λb o K=>(aN j U e b o (.inl K)).1,(h.fits j U).d⟩
 ·intro a c aQ av Z b hb;by_cases e:a=i
  ·subst e;rw [upd_same] at hb;rw [upd_ne _ _ (Ne.symm Z)];exact aX c av (Ne.symm Z) b hb
  ·rw [upd_ne _ _ e] at hb;by_cases aR:c=i
   ·subst aR;rw [upd_same];exact aY a aQ Z b hb
   ·rw [upd_ne _ _ aR];exact h.hh a c aQ av Z b hb
 ·intro j U b hb;by_cases e:j=i
  ·subst e;rw [upd_same];have ac:=h.sh j U b hb;have al:=h.Gd b hb;constructor
   ·cases O:s'.H b with
    | none=>rfl
    | some o=>
     rcases Y.own b (by rw [O];simp) with y | y
     ·exact absurd ac.1 y
     ·omega
   ·cases O:s'.E b with
    | none=>rfl
    | some o=>
     rcases Y.Ey b (by rw [O];simp) with y | y | y
     ·exact absurd ac.2 y
     ·exact absurd ac.1 y
     ·omega
  ·rw [upd_ne _ _ e];exact h.sh j U b hb
 ·exact λb hb=>Nat.lt_of_lt_of_le (h.Gd b hb) Y.size
 ·intro said;refine noRace_append (g:=i) (h.clean said) (λop K=>(am op K).1) λx a O op K c av aZ=>?_;obtain⟨_,e,he,aq⟩:=am op K;rw [aq] at av;obtain⟨a0,hm,ap,_⟩:=aZ;obtain⟨b,hb⟩:=Ul hm;have a1:Cy c.loc=some b:=by rw [← a0];exact hb
  have aw:=KM (ay e he) av a1;rcases aw.2 with y | y | ⟨y,aK⟩
  ·exact h.kH i hi b y x a O hb
  ·have:=OI h.low O hb;omega
  ·rcases ap with z | z
   ·exact h.kE i hi b y x a O hb z
   ·rw [aK] at z;cases z
 ·intro op K;rcases Array.mem_append.1 K with K | K
  ·exact MemAct.low_mono Y.size (h.low op K)
  ·obtain⟨_,e,he,aq⟩:=am op K;rw [aq];exact Zd (ay e he)
 ·intro j U b hb x a O ag;by_cases e:j=i
  ·subst e;rw [upd_same] at hb;rcases aI x a O with K | ⟨aL,_⟩
   ·rcases Y.own b hb with y | y
    ·exact(h.kH j U b y x a K ag).app _
    ·have:=OI h.low K ag;omega
   ·exact aL
  ·rw [upd_ne _ _ e] at hb;rcases aI x a O with K | ⟨_,ev,he,aM⟩
   ·exact(h.kH j U b hb x a K ag).app _
   ·have aw:=KM (ay ev he) aM ag;have ac:=h.hh j i U hi e b hb;rcases aw.2 with y | y | ⟨y,_⟩
    ·exact absurd ac.1 y
    ·exact absurd (az j U b y).1 hb
    ·exact absurd ac.2 y
 ·intro j U b hb x a O ag ap;by_cases e:j=i
  ·subst e;rw [upd_same] at hb;rcases aI x a O with K | ⟨aL,_⟩
   ·rcases Y.Ey b hb with y | y | y
    ·exact(h.kE j U b y x a K ag ap).app _
    ·exact(h.kH j U b y x a K ag).app _
    ·have:=OI h.low K ag;omega
   ·exact aL
  ·rw [upd_ne _ _ e] at hb;rcases aI x a O with K | ⟨_,ev,he,aM⟩
   ·exact(h.kE j U b hb x a K ag ap).app _
   ·have aw:=KM (ay ev he) aM ag;rcases aw.2 with y | y | ⟨_,aK⟩
    ·exact absurd ((h.hh i j hi U (Ne.symm e) b y).2) hb
    ·exact absurd (az j U b y).2 hb
    ·rw [aK] at ap;cases ap
theorem BP.mute{t u:Trace}{w w':World}{N:Nat}{S:Nat->St}{Sh:Nat->Prop}(h:BP t w N S Sh){g:Nat}(hu:∀op∈u,op.g=g)(Z:∀op∈u,op.act.touch? =none)(al:∀op∈u,op.act.low w'.heap.size)(hw:w'.heap=w.heap):BP (t++u) w' N S Sh:=by
 have ac:∀x a,touchAt (t++u) x=some a->touchAt t x=some a:=by
  intro x a O;obtain⟨op,K,U⟩:=touch_of O;rcases getElem?_append_cases K with⟨av,am⟩ | ⟨_,ap⟩
  ·rw [touchAt_of am];exact U
  ·rw [Z op ap] at U;cases U
 exact⟨λi hi=>⟨λb o K=>by rw [hw];exact(h.fits i hi).e b o K,λb o K=>by rw [hw];exact(h.fits i hi).h b o K,(h.fits i hi).d⟩,h.hh,h.sh,λb hb=>by rw [hw];exact h.Gd b hb,
  λsaid=>noRace_append (g:=g) (h.clean said) hu (λx a _ op K c ag _=>by rw [Z op K] at ag;cases ag),
  λop K=>(Array.mem_append.1 K).elim (λK=>by rw [hw];exact h.low op K) (al op),
  λi hi b hb x a O Y=>(h.kH i hi b hb x a (ac x a O) Y).app _,λi hi b hb x a O Y aq=>(h.kE i hi b hb x a (ac x a O) Y aq).app _⟩
theorem BP.ghost{t:Trace}{w:World}{N:Nat}{S:Nat->St}{Sh:Nat->Prop}(h:BP t w N S Sh){i:Nat}(hi:i<N){s₀:St}(al:Ca (S i) s₀):BP t w N (upd S i s₀) Sh:=by
 have Z:∀b,s₀.H b≠none->(S i).H b≠none:=λb hb=>by obtain⟨o,am⟩:=HY hb;rw [al.own b o am];simp
 have ap:∀b,s₀.E b≠none->(S i).E b≠none∨(S i).H b≠none:=λb hb=>by
  obtain⟨o,am⟩:=HY hb;rcases al.Ey b o am with x | x
  ·exact .inl (by rw [x];simp)
  ·exact .inr (by rw [x.1];simp)
 have ac:∀{x:Option Obj},¬x≠none->x=none:=λh=>Classical.not_not.1 h;constructor
 ·intro j K;by_cases e:j=i
  ·subst e;rw [upd_same];exact al.fits (h.fits j K)
  ·rw [upd_ne _ _ e];exact h.fits j K
 ·intro a c aq av ag b hb;by_cases e:a=i
  ·subst e;rw [upd_same] at hb;rw [upd_ne _ _ (Ne.symm ag)];exact h.hh a c aq av ag b (Z b hb)
  ·rw [upd_ne _ _ e] at hb;by_cases aw:c=i
   ·subst aw;rw [upd_same];have O:=h.hh a c aq av ag b hb;exact⟨ac λx=>Z b x O.1,ac λx=>(ap b x).elim (λy=>y O.2) λy=>y O.1⟩
   ·rw [upd_ne _ _ aw];exact h.hh a c aq av ag b hb
 ·intro j K b hb;by_cases e:j=i
  ·subst e;rw [upd_same];have O:=h.sh j K b hb;exact⟨ac λx=>Z b x O.1,ac λx=>(ap b x).elim (λy=>y O.2) λy=>y O.1⟩
  ·rw [upd_ne _ _ e];exact h.sh j K b hb
 ·exact h.Gd
 ·exact h.clean
 ·exact h.low
 ·intro j K b hb x a U Y;by_cases e:j=i
  ·subst e;rw [upd_same] at hb;exact h.kH j K b (Z b hb) x a U Y
  ·rw [upd_ne _ _ e] at hb;exact h.kH j K b hb x a U Y
 ·intro j K b hb x a U Y ay;by_cases e:j=i
  ·subst e;rw [upd_same] at hb;rcases ap b hb with y | y
   ·exact h.kE j K b y x a U Y ay
   ·exact h.kH j K b y x a U Y
  ·rw [upd_ne _ _ e] at hb;exact h.kE j K b hb x a U Y ay
end Pal
namespace Pal
open Go Go.Conc
open Go.ConcN (sumTo upd sumTo_upd upd_ne upd_same)
abbrev St.none:St:=St.quiet
def Gg(o o':Os):Prop:=∃d:Nat,o'={o with wall:=o.wall+d,mono:=o.mono+d}
theorem Gg.refl(o:Os):Gg o o:=⟨0,rfl⟩
theorem Gg.of{o o':Os}(h:o'=o):Gg o o':=h▸ .refl o
theorem Gg.trans{a b c:Os}(h:Gg a b)(k:Gg b c):Gg a c:=by
 obtain⟨d,rfl⟩:=h;obtain⟨e,rfl⟩:=k;exact⟨d+e,by simp [Nat.add_assoc]⟩
def lone(s:St):Nat->St:=λi=>if i=0 then s else St.none
structure Hh (P:Program) (gs:Array Goroutine) (w:World) (t:Trace) (q:Nat->Nat) (Sh:Nat->Prop) (g:Goroutine) (s:St):Prop where
 main:gs[0]? =some g
 lv:Leavers P t gs q
 B4:BP t w gs.size (lone s) Sh
 over:t.HandedOver
 hears:Deaf t 0=0
def Reaches(P:Program)(gs:Array Goroutine)(w:World)(sl:Option (Nat×Nat))(t:Trace)(s:St)(K:Gs_):Prop:=
 ∃(n:Nat) (gs':Array Goroutine) (w':World) (U:Option (Nat×Nat)) (O:Trace) (q':Nat->Nat) (Y:Nat->Prop) (g':Goroutine) (s':St),
  runNT P n (crowd gs w sl) t=(.next (crowd gs' w' U),O)/\Hh P gs' w' O q' Y g' s'/\K g' s'/\Le' s s'/\w'.tape=w.tape/\Gg w.os w'.os/\w'.output=w.output
 where
  Le' (s s' : St) : Prop := ∀ b o, s.E b = some o -> s'.E b = some o
theorem Ru{s s':St}:upd (lone s) 0 s'=lone s':=by
 funext i;unfold upd lone;split <;> rfl
theorem Mx{P:Program}{m m':Machine}{t ops:Trace}{k:Nat}{r:Stepped×Trace}(h:stepT P m=(.next m',ops))(K:runNT P k m' (t++ops)=r):runNT P (k+1) m t=r:=by
 simp only [runNT,h];exact K
theorem Hh.at_{P:Program}{gs:Array Goroutine}{w:World}{t:Trace}{q:Nat->Nat}{Sh:Nat->Prop}{g:Goroutine}{s:St}(h:Hh P gs w t q Sh g s)(d:Nat):Hh P gs (w.at d) t q Sh g s:=
 ⟨h.main,h.lv,by
  have:=h.B4.mute (u:= #[]) (w':=w.at d) (g:=0) (by simp) (by simp) (by simp) rfl
  simpa using this,h.over,h.hears⟩
theorem Vx{P:Program}{g:Goroutine}{s:St}{K:Gs_}(aQ:SS P true g s K):
  ∀(M:Nat) (gs:Array Goroutine) (w:World) (sl:Option (Nat×Nat)) (t:Trace) (q:Nat->Nat) (Sh:Nat->Prop),sumTo gs.size q<=M->Hh P gs w t q Sh g s->Reaches P gs w sl t s K:=by
 intro M
 induction M with
 | zero=>?_
 | succ M aV=>?_
 all_goals
  intro gs w sl t q Sh ba hC;have aw:=aQ.1;have aW:∀x∈gs,awake x:=by
   intro x al;obtain⟨i,hi,rfl⟩:=Array.mem_iff_getElem.1 al;rcases Nat.eq_zero_or_pos i with rfl | ay
   ·have:gs[0]=g:=by simpa [Array.getElem?_eq_getElem hi] using hC.main
    rw [this];exact awake_of (.inl aw)
   ·exact awake_of ((hC.lv.old i _ ay (Array.getElem?_eq_getElem hi)).status.elim .inl λx=> .inr (.inr x))
  obtain⟨i,x,d,am,hi,al,aR⟩:=crowd_pick (P:=P) (w:=w) (sl:=sl) aW ⟨0,g,hC.main,aw⟩;have az:=hC.at_ d;have aI:0<gs.size:=(Array.getElem?_eq_some_iff.1 hC.main).1;rcases Nat.eq_zero_or_pos i with rfl | ay
  ·obtain rfl:x=g:=by rw [hC.main] at hi;exact(Option.some.inj hi).symm
   have aX:Fits s (w.at d):=az.B4.fits 0 aI;obtain⟨g',s',w',es,aJ,aK,aL,Z,ap⟩:=aQ.2.1 (w.at d) aX;have aM:=runT_crowd_go (P:=P) (sl:=am) (i:=0) hi (show stepG P (0==0) x (w.at d)=_ from aJ);have aq:((gs.map (woken P x g' w')).setIfInBounds 0 g').size=gs.size:=by simp
   have Y:∀op∈MemOp.ofEvents 0 x.frame.fn x.frame.place es,op.g=0:=λop O=>by obtain⟨e,_,rfl⟩:=mem_ofEvents O;rfl
   have aY:deafBehind (Deaf t 0) es=Deaf t 0:=deafBehind_still (λe he=>by
    have:=ap e he
    unfold Ev at this
    constructor <;> intro aZ <;> rw [aZ] at this <;> exact this) _
   refine⟨1,_,w',am,t++MemOp.ofEvents 0 x.frame.fn x.frame.place es,q,Sh,g',s',Mx (aR.trans aM) rfl,⟨by simp [aI],⟨λj y U ac=>?_,λj U=>?_⟩,?_,?_,?_⟩,aK,Z.ext,Z.tape,.of Z.os,Z.output⟩
   ·have aN:0≠j:=by omega
    rw [Array.getElem?_setIfInBounds_ne aN,Array.getElem?_map] at ac;obtain⟨z,aO,rfl⟩:=Option.map_eq_some_iff.1 ac;have ag:=hC.lv.old j z U aO;rw [woken_quitsD ag,Deaf_other t (by omega) _ Y];exact ag
   ·rw [Deaf_other t (g':=0) (by simp at U;omega) _ Y];exact hC.lv.above j (by simpa using U)
   ·rw [aq,← Ru (s:=s)];exact az.B4.own aI aL (by simpa [lone] using Z) (by simpa [lone] using ap)
   ·exact handedOver_app hC.over λop O=> .inl (Y op O)
   ·rw [Deaf_own,aY];exact hC.hears
  ·
   have ag:=hC.lv.old i x ay hi;have a0:(i==0)=false:=by simp;omega
   have aS:i<gs.size:=(Array.getElem?_eq_some_iff.1 hi).1;cases aP:q i with
   | zero=>rw [aP] at ag;rw [ag.1] at al;cases al
   | succ k=>
    rw [aP] at ag;rcases ag with⟨a1,_⟩ | ⟨_,x',es,hm,a2,a3⟩
    ·rw [a1] at al;cases al
    have bb:sumTo gs.size (upd q i k)+(k+1)=sumTo gs.size q+k:=by
     have:=sumTo_upd q k id aS;simpa [aP] using this
    first
     | (exfalso;omega)
     | (
      have aM:=runT_crowd_go (P:=P) (sl:=am) (i:=i) hi (by rw [a0];exact a2 (w.at d))
      have aq:((gs.map (woken P x x' (w.at d))).setIfInBounds i x').size=gs.size:=by simp
      have Y:∀op∈MemOp.ofEvents i x.frame.fn x.frame.place es,op.g=i:=λop O=>by obtain⟨e,_,rfl⟩:=mem_ofEvents O;rfl
      have aT:∀op∈MemOp.ofEvents i x.frame.fn x.frame.place es,op.act.touch? =none:=λop O=>by obtain⟨e,he,rfl⟩:=mem_ofEvents O;exact touch_mute (hm e he)
      have a4:Hh P ((gs.map (woken P x x' (w.at d))).setIfInBounds i x') (w.at d) (t++MemOp.ofEvents i x.frame.fn x.frame.place es) (upd q i k) Sh g s:=by
       refine⟨?_,⟨λj y U ac=>?_,λj U=>?_⟩,?_,?_,?_⟩
       ·have aN:i≠0:=by omega
        rw [Array.getElem?_setIfInBounds_ne aN,Array.getElem?_map,hC.main]
        simp [woken_run aw]
       ·by_cases av:i=j
        ·subst av
         rw [Array.getElem?_setIfInBounds_self_of_lt (by simpa using aS)] at ac
         obtain rfl:=Option.some.inj ac
         rw [upd_same,Deaf_own]
         exact a3
        ·rw [Array.getElem?_setIfInBounds_ne av,Array.getElem?_map] at ac
         obtain⟨z,aO,rfl⟩:=Option.map_eq_some_iff.1 ac
         have aU:=hC.lv.old j z U aO
         rw [woken_quitsD aU,upd_ne q k (Ne.symm av),Deaf_other t av _ Y]
         exact aU
       ·rw [Deaf_other t (g':=i) (by simp at U;omega) _ Y]
        exact hC.lv.above j (by simpa using U)
       ·rw [aq]
        exact az.B4.mute Y aT (λop O=>by obtain⟨e,he,rfl⟩:=mem_ofEvents O;exact low_mute (hm e he) _) rfl
       ·exact handedOver_app hC.over λop O=> .inr (aT op O)
       ·rw [Deaf_other t (by omega) _ Y];exact hC.hears
      obtain⟨n,gs',w',a5,a6,q',a7,g',s',aJ,aK,aL,Z,ap,a8,a9⟩:=aV _ (w.at d) am _ _ Sh (by rw [aq];omega) a4
      exact⟨n+1,gs',w',a5,a6,q',a7,g',s',Mx (aR.trans aM) aJ,aK,aL,Z,ap,a8,a9⟩)
def GG(P:Program):Judge P where
 main:=true
 ok Q g s:=∀gs w sl t q Sh,Hh P gs w t q Sh g s->Reaches P gs w sl t s Q
 stop {Q g s} h:=λgs w sl t q Sh hC=>⟨0,gs,w,sl,t,q,Sh,g,s,rfl,hC,h,λ_ _ h=>h,rfl,.refl _,rfl⟩
 step {Q g s} h:=λgs w sl t q Sh hC=>by
  obtain⟨n,gs',w',K,O,q',U,g',s',Y,Z,ac,ag,al,am,ap⟩:=Vx h _ gs w sl t q Sh (Nat.le_refl _) hC
  obtain⟨aq,av,aw,ay,az,aI,aJ,aK,aL,k1,aM,aN,aO,aP,aQ,aR⟩:=ac gs' w' K O q' U Z
  refine⟨n+aq,av,aw,ay,az,aI,aJ,aK,aL,?_,aM,aN,λb o h=>aO b o (ag b o h),aP.trans al,am.trans aQ,aR.trans ap⟩
  rw [runNT_add,Y];exact k1
 trans {Q R g s} h k:=λgs w sl t q Sh hC=>by
  obtain⟨n,gs',w',K,O,q',U,g',s',Y,Z,ac,ag,al,am,ap⟩:=h gs w sl t q Sh hC
  obtain⟨aq,av,aw,ay,az,aI,aJ,aK,aL,k1,aM,aN,aO,aP,aQ,aR⟩:=k g' s' ac gs' w' K O q' U Z
  refine⟨n+aq,av,aw,ay,az,aI,aJ,aK,aL,?_,aM,aN,λb o h=>aO b o (ag b o h),aP.trans al,am.trans aQ,aR.trans ap⟩
  rw [runNT_add,Y];exact k1
 ghost {Q g s s₀} aS h:=λgs w sl t q Sh hC=>by
  have aT:0<gs.size:=(Array.getElem?_eq_some_iff.1 hC.main).1
  have aU:Hh P gs w t q Sh g s₀:=⟨hC.main,hC.lv,by
   rw [← Ru (s:=s)];exact hC.B4.ghost aT (by simpa [lone] using aS),hC.over,hC.hears⟩
  obtain⟨n,gs',w',K,O,q',U,g',s',Y,Z,ac,ag,al,am,ap⟩:=h gs w sl t q Sh aU
  exact⟨n,gs',w',K,O,q',U,g',s',Y,Z,ac,λb o h=>ag b o (aS.ext b o h),al,am,ap⟩
end Pal
namespace Pal
open Go Go.Conc
open Go.ConcN (upd upd_same upd_ne)
section
variable {t u:Trace}{w w':World}{N:Nat}{S:Nat->St}{Sh:Nat->Prop}
theorem BP.ext(h:BP t w N S Sh)(ag:∀said,¬Race said (t++u))(hu:∀op∈u,∀a,op.act.touch? =some a->∀b,Cy a.loc=some b->Sh b)
  (al:∀op∈u,op.act.low w.heap.size) (Z:w'.heap.size=w.heap.size) (hw:∀b,¬Sh b->w'.heap[b]? =w.heap[b]?):BP (t++u) w' N S Sh:=by
 have hold:∀x a b,touchAt (t++u) x=some a->Cy a.loc=some b->¬Sh b->touchAt t x=some a:=by
  intro x a b U hb O;obtain⟨op,K,ac⟩:=touch_of U;rcases getElem?_append_cases K with⟨aw,am⟩ | ⟨_,ap⟩
  ·rw [touchAt_of am];exact ac
  ·exact absurd (hu op ap a ac b hb) O
 have O:∀i,i<N->∀b,((S i).H b≠none∨(S i).E b≠none)->¬Sh b:=by
  intro i hi b hb aq;have:=h.sh i hi b aq;exact hb.elim (λx=>x this.1) (λx=>x this.2)
 refine⟨λi hi=>⟨λb o K=>?_,λb o K=>?_,(h.fits i hi).d⟩,h.hh,h.sh,λb hb=>by rw [Z];exact h.Gd b hb,ag,λop K=>?_,λi hi b hb x a U Y=>?_,λi hi b hb x a U Y av=>?_⟩
 ·rw [hw b (O i hi b (.inr (by rw [K];simp)))];exact(h.fits i hi).e b o K
 ·rw [hw b (O i hi b (.inl (by rw [K];simp)))];exact(h.fits i hi).h b o K
 ·rcases Array.mem_append.1 K with K | K
  ·rw [Z];exact h.low op K
  ·rw [Z];exact al op K
 ·exact(h.kH i hi b hb x a (hold x a b U Y (O i hi b (.inl hb))) Y).app _
 ·exact(h.kE i hi b hb x a (hold x a b U Y (O i hi b (.inr hb))) Y av).app _
theorem BP.congr{S':Nat->St}(h:BP t w N S Sh)(K:∀i,i<N->(S' i).E=(S i).E/\(S' i).H=(S i).H):BP t w N S' Sh:=by
 refine⟨λi hi=>⟨by rw [(K i hi).1];exact(h.fits i hi).e,by rw [(K i hi).2];exact(h.fits i hi).h,by rw [(K i hi).1,(K i hi).2];exact(h.fits i hi).d⟩,λi j hi O U b=>?_,λi hi b=>?_,h.Gd,h.clean,h.low,λi hi b=>?_,λi hi b=>?_⟩
 ·rw [(K i hi).2,(K j O).1,(K j O).2];exact h.hh i j hi O U b
 ·rw [(K i hi).1,(K i hi).2];exact h.sh i hi b
 ·rw [(K i hi).2];exact h.kH i hi b
 ·rw [(K i hi).1];exact h.kE i hi b
theorem BP.less(h:BP t w N S Sh){i:Nat}{s':St}(am:∀b o,s'.E b=some o->(S i).E b=some o)(ap:∀b o,s'.H b=some o->(S i).H b=some o):BP t w N (upd S i s') Sh:=by
 have Y:∀j b o,(upd S i s' j).E b=some o->(S j).E b=some o:=by
  intro j b o K;by_cases e:j=i
  ·subst e;rw [upd_same] at K;exact am b o K
  ·rwa [upd_ne _ _ e] at K
 have e2:∀j b o,(upd S i s' j).H b=some o->(S j).H b=some o:=by
  intro j b o K;by_cases e:j=i
  ·subst e;rw [upd_same] at K;exact ap b o K
  ·rwa [upd_ne _ _ e] at K
 have n1:∀j b,(S j).E b=none->(upd S i s' j).E b=none:=by
  intro j b hb;cases U:(upd S i s' j).E b with
  | none=>rfl
  | some o=>rw [Y j b o U] at hb;cases hb
 have n2:∀j b,(S j).H b=none->(upd S i s' j).H b=none:=by
  intro j b hb;cases U:(upd S i s' j).H b with
  | none=>rfl
  | some o=>rw [e2 j b o U] at hb;cases hb
 have Z:∀j b,(upd S i s' j).E b≠none->(S j).E b≠none:=λj b hb x=>hb (n1 j b x);have p2:∀j b,(upd S i s' j).H b≠none->(S j).H b≠none:=λj b hb x=>hb (n2 j b x);exact⟨λj O=>⟨λb o K=>(h.fits j O).e b o (Y j b o K),λb o K=>(h.fits j O).h b o (e2 j b o K),λb hb=>n2 j b ((h.fits j O).d b (Z j b hb))⟩,
  λa c ac ag al b hb=>⟨n2 c b (h.hh a c ac ag al b (p2 a b hb)).1,n1 c b (h.hh a c ac ag al b (p2 a b hb)).2⟩,
  λj O b hb=>⟨n2 j b (h.sh j O b hb).1,n1 j b (h.sh j O b hb).2⟩,h.Gd,h.clean,h.low,
  λj O b hb=>h.kH j O b (p2 j b hb),λj O b hb=>h.kE j O b (Z j b hb)⟩
theorem BP.push(h:BP t w N S Sh){i:Nat}(hi:i<N){E:LH}(ac:∀b o,E b=some o->(S i).E b=some o)
  (am:∀b,E b≠none->∀x a,touchAt t x=some a->Cy a.loc=some b->a.write=true->Knows t N x):BP t w (N+1) (upd S N ⟨E,λ_=>none,false⟩) Sh:=by
 have O:∀j,j<N->upd S N ⟨E,λ_=>none,false⟩ j=S j:=λj K=>upd_ne _ _ (by omega);have aq:∀b,E b≠none->(S i).E b≠none:=λb hb=>by obtain⟨o,Y⟩:=HY hb;rw [ac b o Y];simp
 have al:∀b,(S i).E b=none->E b=none:=λb hb=>by
  cases ag:E b with
  | none=>rfl
  | some o=>rw [ac b o ag] at hb;cases hb
 have cs:∀j,j<N+1->j<N∨j=N:=λj K=>by omega
 constructor
 ·intro j K;rcases cs j K with K | rfl
  ·rw [O j K];exact h.fits j K
  ·rw [upd_same];exact⟨λb o Y=>(h.fits i hi).e b o (ac b o Y),λb o Y=>(by cases Y),λb _=>rfl⟩
 ·intro a c U Z ap b hb;rcases cs a U with U | rfl
  ·rw [O a U] at hb;rcases cs c Z with Z | rfl
   ·rw [O c Z];exact h.hh a c U Z ap b hb
   ·rw [upd_same];refine⟨rfl,al b ?_⟩;by_cases e:a=i
    ·subst e;cases ag:(S a).E b with
     | none=>rfl
     | some o=>exact absurd ((h.fits a U).d b (by rw [ag];simp)) hb
    ·exact(h.hh a i U hi e b hb).2
  ·rw [upd_same] at hb;exact absurd rfl hb
 ·intro j K b hb;rcases cs j K with K | rfl
  ·rw [O j K];exact h.sh j K b hb
  ·rw [upd_same];exact⟨rfl,al b (h.sh i hi b hb).2⟩
 ·exact h.Gd
 ·exact h.clean
 ·exact h.low
 ·intro j K b hb;rcases cs j K with K | rfl
  ·rw [O j K] at hb;exact h.kH j K b hb
  ·rw [upd_same] at hb;exact absurd rfl hb
 ·intro j K b hb;rcases cs j K with K | rfl
  ·rw [O j K] at hb;exact h.kE j K b hb
  ·rw [upd_same] at hb;exact am b hb
theorem BP.share(h:BP t w N S Sh){i:Nat}(hi:i<N){b₀:Nat}{o₀:Obj}(U:(S i).H b₀=some o₀):
  BP t w N (upd S i {S i with H:=λb=>if b=b₀ then none else(S i).H b}) (λb=>Sh b∨b=b₀):=by
 have K:BP t w N (upd S i {S i with H:=λb=>if b=b₀ then none else(S i).H b}) Sh:=
  h.less (λb o O=>O) (λb o O=>by simp only at O;split at O <;> first | (cases O;done) | exact O)
 have ac:b₀<w.heap.size:=by
  have:=(h.fits i hi).h b₀ o₀ U;rcases Nat.lt_or_ge b₀ w.heap.size with Y | Y
  ·exact Y
  ·simp [Array.getElem?_eq_none Y] at this
 refine⟨K.fits,K.hh,λj Z b hb=>?_,λb hb=>hb.elim (K.Gd b) (λe=>e▸ac),K.clean,K.low,K.kH,K.kE⟩;rcases hb with hb | rfl
 ·exact K.sh j Z b hb
 ·by_cases e:j=i
  ·subst e;rw [upd_same];refine⟨by simp,?_⟩;cases ag:(S j).E b with
   | none=>rfl
   | some o=>have:=(h.fits j Z).d b (by rw [ag];simp);rw [U] at this;cases this
  ·rw [upd_ne _ _ e];exact h.hh i j hi Z (Ne.symm e) b (by rw [U];simp)
end
end Pal
namespace Pal
open Go Go.Conc
open Go.ConcN (upd upd_same upd_ne sumTo sumTo_upd)
abbrev GP:=Gs_
structure M4 where
 l:Bool
 k:Bool
 s:Bool
 w:Nat
instance:DecidableEq M4:=λa b=>decidable_of_iff (a.l=b.l/\a.k=b.k/\a.s=b.s/\a.w=b.w) ⟨λh=>by cases a;cases b;simp_all,λh=>by subst h;simp⟩
def M4.zero:M4:=⟨false,false,false,0⟩
def M4.num(m:M4):Int:=((m.l.toNat+2*m.k.toNat+4*m.s.toNat+8*m.w:Nat):Int)
inductive LP where
 | FY | G8 | DY (sv aw:Bool) (it:Nat) | Cd (sv aw:Bool) (it:Nat) (old:M4) | Ig (sv:Bool) | Ck (sv:Bool) | FV | Es (sv:Bool) | DW (ex:Bool) | len | Kw | JH | Fw
 | Gy | JW | JX | JI | HE | Ez (old:M4) | Hd | ER (st:Bool) | ET
inductive Ph where
 | G7 (k:Nat) | Gw | IP | Hb | GK | G6 | Fa
 | De | FX (m:Nat) | Hc (v:Nat) | HK | Fs | G5 | F0 | Ge | Hx
 | Gf (j:Nat) | Ip (j:Nat) | HB (j:Nat) | GU (j:Nat) | FH (j:Nat) | GM | FB (K:List Nat) (vs:Lv_)
 | HJ | It | Im | Iw (j:Nat)
 | lk (k:Nat) (p:LP)
inductive Nx where
 | ph (p:Ph) | gone (d:Nat)
structure Fam where
 wg:Nat
 mu:Nat
 fd:Nat
 ty:TypeId
 aA:TypeId
 aF:TypeId
 n:Nat
 msg:Nat->Value->LH->Prop
 fin:GP
namespace Fam
variable (F:Fam)
def has(_:Fam)(_:Nat):Bool:=false
def KK:Int:=4294967296
def HM(st sm:Int):Obj:= .cells #[.int .u64 st,.int .u32 sm] F.ty (0,0)
def word(v wt:Nat):Int:=(v:Int)*KK+wt
def WG(w:World)(v wt sm:Nat):Prop:=w.heap[F.wg]? =some (F.HM (word v wt) sm)
def put(w:World)(v wt sm:Nat):World:={w with heap:=w.heap.setIfInBounds F.wg (F.HM (word v wt) sm)}
def sA:Addr:=⟨F.wg,0,none⟩
def mA:Addr:=⟨F.wg,1,none⟩
def HL(st sm:Int):Obj:= .cells #[.int .i32 st,.int .u32 sm] F.aA (0,0)
def MU(w:World)(m:M4)(q:Nat):Prop:=w.heap[F.mu]? =some (F.HL m.num q)
def FC(w:World)(m:M4)(q:Nat):World:={w with heap:=w.heap.setIfInBounds F.mu (F.HL m.num q)}
def uA:Addr:=⟨F.mu,0,none⟩
def qA:Addr:=⟨F.mu,1,none⟩
def Is(f:Nat->Value):Obj:= .cells (Array.ofFn λi:Fin F.n=>f i) F.aF (0,0)
def FD(w:World)(f:Nat->Value):Prop:=w.heap[F.fd]? =some (F.Is f)
def He(w:World)(f:Nat->Value):World:={w with heap:=w.heap.setIfInBounds F.fd (F.Is f)}
def B6(a:Addr):Event:=⟨.cell a,false,true⟩
def Ej(a:Addr):Event:=⟨.cell a,true,true⟩
def Cs(m:Mark):Event:=⟨.mark m,false,true⟩
def act:Ph->Nat->Nat->Nat->Option ((Nat×Nat×Nat)×Array Event×Nx)
 | .Gw,v,wt,sm=>some ((v,wt,sm),#[Cs (.releaseMerge F.sA)],.ph .IP)
 | .IP,v,wt,sm=>some ((v,wt,sm),#[Cs .disable],.ph .Hb)
 | .Hb,v,wt,sm=>if 1<=v/\v<2147483648/\wt<=1 then some ((v - 1,wt,sm),#[B6 F.sA,Ej F.sA],if v=1/\wt=1 then .ph .GK else .gone 1) else none
 | .GK,v,wt,sm=>if v=0/\wt=1 then some ((0,1,sm),#[B6 F.sA],.ph .G6) else none
 | .G6,v,wt,sm=>if v=0/\wt=1 then some ((0,0,sm),#[Ej F.sA],.ph .Fa) else none
 | .Fa,v,wt,sm=>if sm=0 then some ((v,wt,1),semEvents F.mA,.gone 1) else none
 | .De,v,wt,sm=>some ((v,wt,sm),#[Cs .disable],.ph (.FX F.n))
 | .FX m,v,wt,sm=>if v<=m/\wt=0 then some ((v,0,sm),#[B6 F.sA],if v=0 then .ph .F0 else .ph (.Hc v)) else none
 | .Hc m,v,wt,sm=>if v<=m/\1<=m/\wt=0 then some (if v=m then((v,1,sm),#[B6 F.sA,Ej F.sA],.ph .It) else((v,0,sm),#[B6 F.sA],.ph (.FX (m - 1)))) else none
 | .HK,v,wt,sm=>some ((v,wt,sm),#[Cs (.write F.mA)],.ph .Fs)
 | .Fs,v,wt,sm=>if sm=1 then some ((v,wt,0),semEvents F.mA,.ph .G5) else none
 | .G5,v,wt,sm=>if v=0/\wt=0 then some ((0,0,sm),#[B6 F.sA],.ph .F0) else none
 | .F0,v,wt,sm=>some ((v,wt,sm),#[Cs .enable],.ph .Im)
 | .HJ,v,wt,sm=>some ((v,wt,sm),#[],.ph .Gw)
 | .It,v,wt,sm=>some ((v,wt,sm),#[],.ph .HK)
 | .Im,v,wt,sm=>some ((v,wt,sm),#[],.ph .Ge)
 | .Iw j,v,wt,sm=>some ((v,wt,sm),#[],.ph (.HB j))
 | .Gf j,v,wt,sm=>some ((v,wt,sm),#[Cs .disable],.ph (.Ip j))
 | .Ip j,v,wt,sm=>if v<2147483647/\wt=0 then some ((v+1,0,sm),#[B6 F.sA,Ej F.sA],if v=0 then .ph (.Iw j) else .ph (.GU j)) else none
 | .HB j,v,wt,sm=>some ((v,wt,sm),#[Cs (.read F.mA)],.ph (.GU j))
 | .GU j,v,wt,sm=>some ((v,wt,sm),#[Cs .enable],.ph (.FH j))
 | _,_,_,_=>none
abbrev LO:=M4×Nat×Array Event×Option LP
def Fq(sv aw:Bool)(it:Nat)(old m:M4)(q:Nat):List LO:=
 (if old.l=true/\old.s=false/\it<4 then
  (if aw=false/\old.k=false/\old.w≠0 then
   [if m=old then({m with k:=true},q,#[B6 F.uA,Ej F.uA],some (.DY sv true (it+1))) else(m,q,#[B6 F.uA],some (.DY sv aw (it+1)))]
  else [(m,q,#[],some (.Cd sv aw (it+1) m))])
 else [])++
 (if m=old then
  (if old.l=false/\old.s=false then [({m with l:=true,k:= !aw&&m.k},q,#[B6 F.uA,Ej F.uA],some .len)]
  else [({m with k:= !aw&&m.k,s:=m.s || (sv&&m.l),w:=m.w+1},q,#[B6 F.uA,Ej F.uA],some (.Ig sv)),({m with k:= !aw&&m.k,s:=m.s || (sv&&m.l),w:=m.w+1},q,#[B6 F.uA,Ej F.uA],some (.Ck sv))])
 else [(m,q,#[B6 F.uA],some (.DY sv aw it))])
def BR:LP->M4->Nat->List LO
 | .FY,m,q=> [(m,q,#[Cs .disable],some .G8)]
 | .G8,m,q=>if m=M4.zero then [(⟨true,false,false,0⟩,q,#[B6 F.uA,Ej F.uA],some .len)] else [(m,q,#[B6 F.uA],some (.DY false false 0))]
 | .DY sv aw it,m,q=> [(m,q,#[],some (.Cd sv aw it m))]
 | .Cd sv aw it old,m,q=>F.Fq sv aw it old m q
 | .Ig sv,m,q=> [(m,q,#[],some (.Ck sv))]
 | .Ck sv,m,q=> [(m,q - 1,semEvents F.qA,some (if sv then .Es true else .FV))]
 | .FV,m,q=> [(m,q,#[],some (.Es false)),(m,q,#[],some (.Es true))]
 | .Es sv,m,q=>if m.s=true then [(m,q,#[],some (.DW (!sv || m.w==1)))] else [(m,q,#[],some (.Cd sv true 0 m))]
 | .DW ex,m,q=> [(⟨true,m.k,!ex,m.w - 1⟩,q,#[B6 F.uA,Ej F.uA],some .len)]
 | .len,m,q=> [(m,q,#[Cs .enable],some .Kw)]
 | .Kw,m,q=> [(m,q,#[],some .JH)]
 | .JH,m,q=> [(m,q,#[Cs (.acquire F.uA)],some .Fw)]
 | .Fw,_,_=> []
 | .Gy,m,q=> [(m,q,#[],some .JW)]
 | .JW,m,q=> [(m,q,#[],some .JX)]
 | .JX,m,q=> [(m,q,#[Cs (.releaseMerge F.uA)],some .JI)]
 | .JI,m,q=> [(m,q,#[Cs .disable],some .HE)]
 | .HE,m,q=> [({m with l:=false},q,#[B6 F.uA,Ej F.uA],some (if m.s=true then .ER true else if m.k=false/\m.w≠0 then .Ez {m with l:=false} else .ET))]
 | .Ez old,m,q=>if m=old then [(⟨false,true,false,old.w - 1⟩,q,#[B6 F.uA,Ej F.uA],some (.ER false))] else [(m,q,#[B6 F.uA],some .Hd)]
 | .Hd,m,q=> [(m,q,#[],some (if m.l=false/\m.k=false/\m.s=false/\m.w≠0 then .Ez m else .ET))]
 | .ER _,m,q=> [(m,q+1,semEvents F.qA,some .ET)]
 | .ET,m,q=> [(m,q,#[Cs .enable],none)]
def Co:Ph->Bool
 | .Gf _ | .Ip _ | .HB _ | .GU _ | .FH _ | .GM | .FB _ _ | .Iw _=>true
 | .De | .FX _ | .Hc _ | .HK | .Fs | .G5 | .F0 | .Ge | .Hx | .It | .Im=>true
 | _=>false
def Cx:Ph->Bool
 | .IP | .Hb | .GK | .G6 | .Fa=>true
 | _=>false
def Jg:Ph->St->St
 | .Gw,_=> .quiet
 | _,s=>s
def start(_:Fam)(k:Nat):Ph:= .lk k .FY
def Fl(j:Nat):Ph:=if j+1=F.n then .GM else .Gf (j+1)
def Eu(j:Nat):Ph:=if j+1=F.n then .De else .Gf (j+1)
def CY(k:Nat):Option LP->Ph
 | some p=> .lk k p
 | none=> .HJ
end Fam
def CR(m:M4):Prop:=m.w<134217728
def Dr:LP->M4->Nat->Prop
 | .Cd sv aw it old,m,_=>(aw=true->old.k=true)/\(sv=true->aw=true)/\it<=4/\CR old/\CR m/\(aw=true->m.k=true)
 | .DY sv aw it,m,_=>(sv=true->aw=true)/\it<=4/\CR m/\(aw=true->m.k=true)
 | .Ck _,_,q=>q≠0
 | .Es _,m,_=>(m.s=true->m.l=false/\m.k=false/\m.w≠0)/\(m.s=false->m.k=true)/\CR m
 | .DW ex,m,_=>m.s=true/\m.l=false/\m.k=false/\1<=m.w/\(ex=false->2<=m.w)/\CR m
 | .HE,m,_=>m.l=true/\CR m
 | .Ez old,m,_=>old.l=false/\old.k=false/\old.s=false/\old.w≠0/\CR old/\CR m
 | .ER _,m,q=>q<=1/\CR m
 | _,m,_=>CR m
def Way(P:Program)(main:Bool)(X:GP):GP:=(AP P main).ok X
theorem Jr.Ah{P:Program}{main:Bool}{Q K:GP}(h:∀g s,Q g s->K g s):∀{r:Rk} {g:Goroutine} {s:St},Jr P main Q r g s->Jr P main K r g s
 | .leaf,_,_,x=>h _ _ x
 | .node _,_,_,.inl x=> .inl (h _ _ x)
 | .node _,_,_,.inr ⟨O,x⟩=> .inr ⟨O,λw f=>let ⟨g',s',w',es,U,Y,Z⟩:=x w f;⟨g',s',w',es,U,Jr.Ah h Y,Z⟩⟩
theorem Way.Ah{P:Program}{main:Bool}{Q K:GP}(h:∀g s,Q g s->K g s){g:Goroutine}{s:St}(x:Way P main Q g s):Way P main K g s:=
 let ⟨r,O⟩:=x;⟨r,Jr.Ah (λg s ⟨s₀,a,b⟩=>⟨s₀,a,h g s₀ b⟩) O⟩
def Gx(w K w':World):Prop:=w'.heap=K.heap/\w'.tape=w.tape/\Gg w.os w'.os/\w'.output=w.output
section
variable (P:Program)(F:Fam)
def L4(X:Ph->GP)(main:Bool):Nx->GP
 | .ph p,g,s=>Way P main (X p) g s
 | .gone d,g,_=>∃q,QuitsD P q d g
def Fam.Jw(H:LH)(f:Nat->Value):LH:=λb=>if b=F.fd then some (F.Is f) else H b
structure GV (X:Ph->GP) (p:Ph) (g:Goroutine) (s:St):Prop where
 run:g.status= .running
 offers:g.offers=none
 quiet:Fam.Cx p=true->s= .quiet
 live:Fam.Cx p=false->s.q=false
 act:∀v wt sm v' wt' sm' es K,F.act p v wt sm=some ((v',wt',sm'),es,K)->
  ∃g',(∀w,F.WG w v wt sm->stepG P (Fam.Co p) g w= .go g' (F.put w v' wt' sm') es)/\g'.status= .running/\L4 P X (Fam.Co p) K g' (Fam.Jg p s)
 IL:(p= .Fa∨∃k b,p= .lk k (.ER b))->mayWake P g=true
 ES:p= .Fs->∀w v wt,F.WG w v wt 0->stepG P true g w= .go {g with status:= .blocked} w #[]
 go:∀j,p= .FH j->∃g' child,g'.status= .running/\child.status= .running/\(∀w,stepG P true g w= .spawn g' child w #[])/\Way P false (X (F.start j)) child ⟨s.E,λ_=>none,false⟩/\Way P true (X (F.Eu j)) g' s
 lk:∀k l,p= .lk k l->l≠ .Fw->∀w m q,F.MU w m q->Dr l m q->∃m' q' es x g' w',(m',q',es,x)∈F.BR l m q/\stepG P false g w= .go g' w' es/\Gx w (F.FC w m' q') w'/\g'.status= .running/\Way P false (X (Fam.CY k x)) g' s
 Ck:∀k sv,p= .lk k (.Ck sv)->∀w m,F.MU w m 0->stepG P false g w= .go {g with status:= .blocked} w #[]
 store:∀k,p= .lk k .Fw->∃v,F.msg k v s.E/\∃g',g'.status= .running/\(∀w f,F.FD w f->stepG P false g w= .go g' (F.He w (upd f k v)) #[⟨.cell ⟨F.fd,k,none⟩,true,false⟩])/\Way P false (X (.lk k .Gy)) g' s
 fin:p= .Ge->∃g',(∀w,stepG P true g w= .go g' w #[Fam.Cs (.acquire F.sA)])/\∀E' f,Le s.E E'->E' F.fd=none->(∀b,E' b≠none->s.H b=none)->(∀k,k<F.n->F.msg k (f k) E')->F.fin g' ⟨E',F.Jw s.H f,false⟩
theorem L4.Ah{X O:Ph->GP}(h:∀p g s,X p g s->O p g s){main:Bool}{K:Nx}{g:Goroutine}{s:St}(x:L4 P X main K g s):L4 P O main K g s:=by
 cases K with
 | ph p=>exact Way.Ah (h p) x
 | gone d=>exact x
theorem GV.Ah{X ac:Ph->GP}(h:∀p g s,X p g s->ac p g s){p:Ph}{g:Goroutine}{s:St}(x:GV P F X p g s):GV P F ac p g s where
 run:=x.run
 offers:=x.offers
 quiet:=x.quiet
 live:=x.live
 act v wt sm v' wt' sm' es ag e:=let ⟨g',K,O,U⟩:=x.act v wt sm v' wt' sm' es ag e;⟨g',K,O,U.Ah P h⟩
 IL:=x.IL
 ES:=x.ES
 go j e:=let ⟨g',c,K,O,U,Y,Z⟩:=x.go j e;⟨g',c,K,O,U,Y.Ah (h _),Z.Ah (h _)⟩
 lk k l e al w m q hm am:=let ⟨m',q',es,y,g',w',K,O,U,Y,Z⟩:=x.lk k l e al w m q hm am;⟨m',q',es,y,g',w',K,O,U,Y,Z.Ah (h _)⟩
 Ck:=x.Ck
 store k e:=let ⟨v,K,g',O,U,Y⟩:=x.store k e;⟨v,K,g',O,U,Y.Ah (h _)⟩
 fin:=x.fin
def Stop(p:Ph)(g:Goroutine)(s:St):Prop:=∃X:Ph->GP,(∀p g s,X p g s->GV P F X p g s)/\X p g s
variable {P F}
theorem Stop.law{p:Ph}{g:Goroutine}{s:St}(h:Stop P F p g s):GV P F (Stop P F) p g s:=by
 obtain⟨X,O,K⟩:=h;exact(O p g s K).Ah P F λp g s K=>⟨X,O,K⟩
theorem GV.stop{p:Ph}{g:Goroutine}{s:St}(h:GV P F (Stop P F) p g s):Stop P F p g s:=
 ⟨λp g s=>GV P F (Stop P F) p g s,λ_ _ _ x=>x.Ah P F λ_ _ _ y=>y.law,h⟩
end
end Pal
