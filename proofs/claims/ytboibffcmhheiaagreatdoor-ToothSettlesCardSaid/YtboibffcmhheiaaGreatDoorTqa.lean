/- ToothSettles. Part 1 of 8. -/
import Derived.Conc.Own5
import Derived.Conc.Listed
import Derived.Conc.DeferLaws
import Derived.Orders
set_option linter.all false
set_option maxRecDepth 100000
namespace Pal
open Go Go.Conc
abbrev LH:=Nat→Option Obj
structure St where
 E:LH
 H:LH
 q:Bool
abbrev Ld_:=List Deferred
abbrev Ao_:=Array Oper
abbrev Li_:=List Item
abbrev Lf_:=List Frame
abbrev On_:=Option (Nat×Bool)
abbrev Ae_:=Array Edge
abbrev Gs_:=Goroutine→St→Prop
abbrev Lv_:=List Value
abbrev AD:=Array Value
def St.get(s:St)(b:Nat):Option Obj:=match s.E b with | some o=>some o | none=>s.H b
structure Fits (s:St) (w:World):Prop where
 e:∀b o,s.E b=some o→w.heap[b]? =some o
 h:∀b o,s.H b=some o→w.heap[b]? =some o
 d:∀b,s.E b≠none→s.H b=none
theorem Fits.get{s:St}{w:World}(f:Fits s w){b:Nat}{o:Obj}(h:s.get b=some o):w.heap[b]? =some o:=by
 unfold St.get at h;split at h
 ·rename_i o' K;cases h;exact f.e _ _ K
 ·exact f.h _ _ h
theorem Fits.T3{s:St}{w:World}(f:Fits s w){b:Nat}{o:Obj}(h:s.H b=some o):b<w.heap.size:=by
 have:=f.h _ _ h;rcases Nat.lt_or_ge b w.heap.size with K | K
 ·exact K
 ·simp [Array.getElem?_eq_none K] at this
theorem Fits.lt{s:St}{w:World}(f:Fits s w){b:Nat}{o:Obj}(h:s.get b=some o):b<w.heap.size:=by
 have:=f.get h;rcases Nat.lt_or_ge b w.heap.size with K | K
 ·exact K
 ·simp [Array.getElem?_eq_none K] at this
def cellAt(o:Obj)(a:Addr):Option Value:=match o with | .cells c _ _=>if a.spot.isSome then none else c[a.off]? | _=>none
def frozenAt(o:Obj)(a:Addr):Bool:=match o with | .cells _ _ (lo,hi)=>lo≤a.off&&a.off<hi | _=>false
def shapeOf(o:Obj):Option (TypeId×Nat):=match o with | .cells c e _=>some (e,c.size) | _=>none
def CY:Value→Bool | .agg _ | .tuple _=>false | _=>true
def Jf(o:Obj)(a:Addr)(v:Value):Obj:=match o with | .cells c e f=> .cells (if a.spot.isSome then c else c.setIfInBounds a.off v) e f | o=>o
def Ix(o:Obj):Bool:=match o with | .cells ..=>false | .chan ..=>false | .pending ..=>false | .view ..=>false | .number ..=>false | _=>true
def St.cell? (s:St)(a:Addr):Option Value:=(s.get a.block).bind (cellAt · a)
def St.upd(s:St)(b:Nat)(o:Obj):St:={s with H:=fun x=>if x=b then some o else s.H x}
theorem QN{w:World}{a:Addr}{o:Obj}(h:w.heap[a.block]? =some o):w.cell? a=cellAt o a:=by
 unfold World.cell? cellAt;rw [h];cases o <;> rfl
theorem Qt{w:World}{a:Addr}{o:Obj}(h:w.heap[a.block]? =some o):w.frozen? a=frozenAt o a:=by
 unfold World.frozen? frozenAt;rw [h];cases o <;> rfl
theorem Up{w:World}{b:Nat}{o:Obj}(h:w.heap[b]? =some o):w.shape? b=shapeOf o:=by
 unfold World.shape? shapeOf;rw [h];cases o <;> rfl
def lp(P:Program){α:Type}:Sem α→St→(α→St→Prop)→(Halt→St→Prop)→Prop
 | .pure a,s,Q,_=>Q a s
 | .load m a k,s,Q,X=>m= .plain∧∃v,s.cell? a=some v∧lp P (k v) s Q X
 | .store m a v k,s,Q,X=>m= .plain∧CY v=true∧∃o,s.H a.block=some o∧(cellAt o a).isSome=true∧frozenAt o a=false∧lp P k (s.upd a.block (Jf o a v)) Q X
 | .new o k,s,Q,X=>s.q=false∧∀r,s.E r=none→s.H r=none→lp P (k r) (s.upd r o) Q X
 | .shape r k,s,Q,X=>∃o,s.get r=some o∧lp P (k (shapeOf o)) s Q X
 | .freeze _ _ _,_,_,_=>False
 | .frozen a k,s,Q,X=>∃o,s.get a.block=some o∧lp P (k (frozenAt o a)) s Q X
 | .getObj r k,s,Q,X=>∃o,s.get r=some o∧Ix o=true∧lp P (k o) s Q X
 | .setObj r o k,s,Q,X=>(∃o₀,s.H r=some o₀∧Ix o₀=true)∧Ix o=true∧lp P k (s.upd r o) Q X
 | .choose q k,s,Q,X=>if q.forced then lp P (k 0) s Q X else s.q=false∧∀t,lp P (k (q.cut t)) s Q X
 | .sys _ _,_,_,_=>False
 | .program k,s,Q,X=>lp P (k P) s Q X
 | .mark m k,s,Q,X=>((s.q=false∧m= .noRoom)∨∃f,m= .extern f)∧lp P k s Q X
 | .halt h,s,_,X=>X h s
theorem Dz{P:Program}{α:Type}(x:Sem α):∀{s:St} {Q V:α→St→Prop} {X Y:Halt→St→Prop},lp P x s Q X→(∀a s,Q a s→V a s)→(∀h s,X h s→Y h s)→lp P x s V Y:=by
 induction x with
 | pure a=>intro s Q V X Y h K O;exact K _ _ h
 | load m a k U=>intro s Q V X Y h K O;obtain⟨Z,v,ag,al⟩:=h;exact⟨Z,v,ag,U _ al K O⟩
 | store m a v k U=>intro s Q V X Y h K O;obtain⟨Z,ag,o,al,ap,av,a0⟩:=h;exact⟨Z,ag,o,al,ap,av,U a0 K O⟩
 | new o k U=>intro s Q V X Y h K O;exact⟨h.1,fun r Z ag=>U _ (h.2 r Z ag) K O⟩
 | shape r k U=>intro s Q V X Y h K O;obtain⟨o,Z,ag⟩:=h;exact⟨o,Z,U _ ag K O⟩
 | freeze a n k U=>intro s Q V X Y h K O;exact h
 | frozen a k U=>intro s Q V X Y h K O;obtain⟨o,Z,ag⟩:=h;exact⟨o,Z,U _ ag K O⟩
 | getObj r k U=>intro s Q V X Y h K O;obtain⟨o,Z,ag,al⟩:=h;exact⟨o,Z,ag,U _ al K O⟩
 | setObj r o k U=>intro s Q V X Y h K O;obtain⟨Z,ag,al⟩:=h;exact⟨Z,ag,U al K O⟩
 | choose q k U=>
  intro s Q V X Y h K O;simp only [lp] at h ⊢;split
  ·rename_i am;rw [if_pos am] at h;exact U _ h K O
  ·rename_i am;rw [if_neg am] at h;exact⟨h.1,fun t=>U _ (h.2 t) K O⟩
 | sys c k U=>intro s Q V X Y h K O;exact h
 | program k U=>intro s Q V X Y h K O;exact U _ h K O
 | mark m k U=>intro s Q V X Y h K O;exact⟨h.1,U h.2 K O⟩
 | halt h=>intro s Q V X Y h K O;exact O _ _ h
theorem AH{P:Program}{α β:Type}(x:Sem α)(f:α→Sem β):∀{s:St} {Q:β→St→Prop} {X:Halt→St→Prop},lp P x s (fun a s'=>lp P (f a) s' Q X) X→lp P (x>>=f) s Q X:=by
 show ∀{s:St} {Q:β→St→Prop} {X:Halt→St→Prop},lp P x s (fun a s'=>lp P (f a) s' Q X) X→lp P (Sem.bind x f) s Q X
 induction x with
 | pure a=>intro s Q X h;exact h
 | load m a k K=>intro s Q X h;obtain⟨O,v,U,V⟩:=h;exact⟨O,v,U,K _ V⟩
 | store m a v k K=>intro s Q X h;obtain⟨O,U,o,V,Z,ag,al⟩:=h;exact⟨O,U,o,V,Z,ag,K al⟩
 | new o k K=>intro s Q X h;exact⟨h.1,fun r O U=>K _ (h.2 r O U)⟩
 | shape r k K=>intro s Q X h;obtain⟨o,O,U⟩:=h;exact⟨o,O,K _ U⟩
 | freeze a n k K=>intro s Q X h;exact h
 | frozen a k K=>intro s Q X h;obtain⟨o,O,U⟩:=h;exact⟨o,O,K _ U⟩
 | getObj r k K=>intro s Q X h;obtain⟨o,O,U,V⟩:=h;exact⟨o,O,U,K _ V⟩
 | setObj r o k K=>intro s Q X h;obtain⟨O,U,V⟩:=h;exact⟨O,U,K V⟩
 | choose q k K=>
  intro s Q X h;simp only [lp,Sem.bind] at h ⊢;split
  ·rename_i Y;rw [if_pos Y] at h;exact K _ h
  ·rename_i Y;rw [if_neg Y] at h;exact⟨h.1,fun t=>K _ (h.2 t)⟩
 | sys c k K=>intro s Q X h;exact h
 | program k K=>intro s Q X h;exact K _ h
 | mark m k K=>intro s Q X h;exact⟨h.1,K h.2⟩
 | halt h=>intro s Q X h;exact h
structure Fr (s:St) (w:World) (s':St) (w':World):Prop where
 size:w.heap.size≤w'.heap.size
 keep:∀b,b<w.heap.size→s.H b=none→w'.heap[b]? =w.heap[b]?
 own:∀b,s'.H b≠none→s.H b≠none∨w.heap.size≤b
 ext:∀b o,s.E b=some o→s'.E b=some o
 EF:∀b,s'.E b≠none→s.E b≠none∨s.H b≠none∨w.heap.size≤b
 tape:w'.tape=w.tape
 os:w'.os=w.os
 output:w'.output=w.output
theorem Fr.refl(s:St)(w:World):Fr s w s w:=
 ⟨Nat.le_refl _,fun _ _ _=>rfl,fun _ h=> .inl h,fun _ _ h=>h,fun _ h=> .inl h,rfl,rfl,rfl⟩
theorem Fr.trans{s K O:St}{w U V:World}(h:Fr s w K U)(k:Fr K U O V):Fr s w O V where
 size:=Nat.le_trans h.size k.size
 keep b hb Y:=by
  rw [k.keep b (Nat.lt_of_lt_of_le hb h.size) ?_,h.keep b hb Y];by_cases Z:K.H b=none
  ·exact Z
  ·rcases h.own b Z with x | x
   ·exact absurd Y x
   ·omega
 own b hb:=by
  rcases k.own b hb with x | x
  ·exact h.own b x
  ·exact .inr (Nat.le_trans h.size x)
 ext b o ag:=k.ext b o (h.ext b o ag)
 EF b hb:=by
  rcases k.EF b hb with x | x | x
  ·exact h.EF b x
  ·rcases h.own b x with y | y
   ·exact .inr (.inl y)
   ·exact .inr (.inr y)
  ·exact .inr (.inr (Nat.le_trans h.size x))
 tape:=k.tape.trans h.tape
 os:=k.os.trans h.os
 output:=k.output.trans h.output
def F6(s:St)(w w':World)(b:Nat)(write:Bool):Prop:=
 b<w'.heap.size∧(s.H b≠none∨w.heap.size≤b∨(s.E b≠none∧write=false))
def Ev(s:St)(w w':World)(e:Event):Prop:=
 match e.loc with
 | .cell a=>e.sync=false∧F6 s w w' a.block e.write
 | .obj r=>e.sync=false∧F6 s w w' r e.write
 | .mark (.extern _)=>True
 | .mark .noRoom=>True
 | _=>False
theorem F6.Ai{s K:St}{w O w' U:World}{b:Nat}{wr:Bool}(h:Fr s w K O)(hs:w'.heap.size≤U.heap.size)(t:F6 K O w' b wr):F6 s w U b wr:=by
 refine⟨Nat.lt_of_lt_of_le t.1 hs,?_⟩;rcases t.2 with x | x | ⟨x,y⟩
 ·rcases h.own b x with z | z
  ·exact .inl z
  ·exact .inr (.inl z)
 ·exact .inr (.inl (Nat.le_trans h.size x))
 ·rcases h.EF b x with z | z | z
  ·exact .inr (.inr ⟨z,y⟩)
  ·exact .inl z
  ·exact .inr (.inl z)
theorem Ev.Ai{s K:St}{w O w' U:World}{e:Event}(h:Fr s w K O)(hs:w'.heap.size≤U.heap.size)(t:Ev K O w' e):Ev s w U e:=by
 unfold Ev at t ⊢;split <;> rename_i he <;> simp only [he] at t
 ·exact⟨t.1,t.2.Ai h hs⟩
 ·exact⟨t.1,t.2.Ai h hs⟩
 ·trivial
 ·trivial
def Jj{α:Type}:Result α→World | .ok _ w=>w | .halt _ w=>w
def Zg{α:Type}(Q:α→St→Prop)(X:Halt→St→Prop)(s:St):Result α→Prop | .ok a _=>Q a s | .halt h _=>X h s
theorem RE{s:St}{b:Nat}{o:Obj}(h:s.get b=some o)(K:s.H b=none):s.E b≠none:=by
 intro e;unfold St.get at h;rw [e] at h;simp only at h;rw [K] at h;cases h
theorem O3{s:St}{w w':World}{b:Nat}{o:Obj}(f:Fits s w)(U:s.E b=none)(hb:w'.heap[b]? =some o)(V:∀c,c≠b→∀x,w.heap[c]? =some x→w'.heap[c]? =some x):Fits (s.upd b o) w' where
 e c x K:=by
  have O:c≠b:=fun e=>by subst e;simp [St.upd] at K;rw [U] at K;cases K
  exact V c O x (f.e c x K)
 h c x K:=by
  simp only [St.upd] at K;split at K
  ·rename_i e;subst e;cases K;exact hb
  ·rename_i O;exact V c O x (f.h c x K)
 d c K:=by
  have O:c≠b:=fun e=>by subst e;exact K U
  simp only [St.upd,if_neg O];exact f.d c K
theorem MK{P:Program}{α:Type}(x:Sem α):∀{s:St} {w:World} {Q:α→St→Prop} {X:Halt→St→Prop},lp P x s Q X→Fits s w→
  ∃s',Fits s' (Jj (x.run P w))∧Fr s w s' (Jj (x.run P w))∧(∀e∈x.events P w #[],Ev s w (Jj (x.run P w)) e)∧Zg Q X s' (x.run P w):=by
 induction x with
 | pure a=>intro s w Q X h f;exact⟨s,f,.refl _ _,by simp [Sem.events_pure'],h⟩
 | load m a k O=>
  intro s w Q X h f;obtain⟨rfl,v,a8,h⟩:=h;obtain⟨o,K,bV⟩:=Option.bind_eq_some_iff.1 a8;have hw:=f.get K;have a9:w.cell? a=some v:=by rw [QN hw,bV]
  have U:(Sem.load Mode.plain a k).run P w=(k v).run P w:=by simp [Sem.run,a9]
  have V:(Sem.load Mode.plain a k).events P w #[]= #[⟨.cell a,false,false⟩]++(k v).events P w #[]:=by
   rw [← Sem.events_acc];simp only [Sem.events,Sem.runT,a9];rfl
  rw [U,V];obtain⟨s',Z,Y,ag,al⟩:=O v h f;refine⟨s',Z,Y,fun e he=>?_,al⟩;rcases Array.mem_append.1 he with he | he
  ·simp at he;subst he;refine⟨rfl,Nat.lt_of_lt_of_le (f.lt K) Y.size,?_⟩;by_cases a3:s.H a.block=none
   ·refine .inr (.inr ⟨?_,rfl⟩);exact RE K a3
   ·exact .inl a3
  ·exact ag e he
 | store m a v k O=>
  intro s w Q X h f;obtain⟨rfl,a8,o,K,a9,bW,h⟩:=h;have hw:=f.h _ _ K;obtain⟨u,hu⟩:=Option.isSome_iff_exists.1 a9;have bo:w.cell? a=some u:=by rw [QN hw,hu]
  have bv:w.frozen? a=false:=by rw [Qt hw,bW]
  have bb:=f.T3 K;obtain⟨be,bi,f0,rfl⟩:∃c e f,o= .cells c e f:=by cases o <;> simp [cellAt] at hu;exact⟨_,_,_,rfl⟩
  have bY:(w.setCell a v).heap[a.block]? =some (Jf (.cells be bi f0) a v):=by
   simp [World.setCell,Jf,Array.getElem?_modify,hw]
  have a4:∀c,c≠a.block→(w.setCell a v).heap[c]? =w.heap[c]? :=by
   intro c av;simp [World.setCell,Array.getElem?_modify,Ne.symm av]
  have ap:s.E a.block=none:=by
   cases ap:s.E a.block with
   | none=>rfl
   | some x=>have:=f.d a.block (by rw [ap];simp);rw [K] at this;cases this
  have a5:Fits (s.upd a.block (Jf (.cells be bi f0) a v)) (w.setCell a v):=O3 f ap bY (fun c av x a0=>by rw [a4 c av];exact a0);have U:(Sem.store Mode.plain a v k).run P w=k.run P (w.setCell a v):=by
   cases v <;> first | (simp [CY] at a8;done) | simp [Sem.run,bo,bv]
  have V:(Sem.store Mode.plain a v k).events P w #[]= #[⟨.cell a,true,false⟩]++k.events P (w.setCell a v) #[]:=by
   rw [← Sem.events_acc];cases v <;> first | (simp [CY] at a8;done) | (simp only [Sem.events,Sem.runT,bo,bv];rfl)
  have am:Fr s w (s.upd a.block (Jf (.cells be bi f0) a v)) (w.setCell a v):=by
   refine⟨by simp [World.setCell],fun b hb a1=>a4 b (fun e=>by subst e;rw [K] at a1;cases a1),fun b hb=>?_,fun _ _ h=>h,fun _ h=> .inl h,rfl,rfl,rfl⟩;simp only [St.upd] at hb;split at hb
   ·rename_i e;subst e;exact .inl (by rw [K];simp)
   ·exact .inl hb
  rw [U,V];obtain⟨s',Z,Y,ag,al⟩:=O h a5;refine⟨s',Z,am.trans Y,fun e he=>?_,al⟩;rcases Array.mem_append.1 he with he | he
  ·simp at he;subst he;exact⟨rfl,Nat.lt_of_lt_of_le bb (am.trans Y).size,.inl (by rw [K];simp)⟩
  ·exact(ag e he).Ai am (Nat.le_refl _)
 | new o k O=>
  intro s w Q X h f;have bw:s.E w.heap.size=none:=by
   cases ap:s.E w.heap.size with
   | none=>rfl
   | some x=>have:=f.e _ _ ap;simp at this
  have bZ:s.H w.heap.size=none:=by
   cases ap:s.H w.heap.size with
   | none=>rfl
   | some x=>have:=f.h _ _ ap;simp at this
  have U:(Sem.new o k).run P w=(k w.heap.size).run P {w with heap:=w.heap.push o}:=by simp [Sem.run]
  have V:(Sem.new o k).events P w #[]=(k w.heap.size).events P {w with heap:=w.heap.push o} #[]:=by simp only [Sem.events,Sem.runT]
  rw [U,V];have a5:Fits (s.upd w.heap.size o) {w with heap:=w.heap.push o}:=O3 f bw (by simp) (fun c av x a0=>by
   have:c<w.heap.size:=by
    rcases Nat.lt_or_ge c w.heap.size with a6 | a6
    ·exact a6
    ·simp [Array.getElem?_eq_none a6] at a0
   simp [Array.getElem?_push,Nat.ne_of_lt this,a0])
  have am:Fr s w (s.upd w.heap.size o) {w with heap:=w.heap.push o}:=by
   refine⟨by simp,fun b hb a1=>by simp [Array.getElem?_push,Nat.ne_of_lt hb],fun b hb=>?_,fun _ _ h=>h,fun _ h=> .inl h,rfl,rfl,rfl⟩;simp only [St.upd] at hb;split at hb
   ·rename_i e;subst e;exact .inr (Nat.le_refl _)
   ·exact .inl hb
  obtain⟨s',Z,Y,ag,al⟩:=O _ (h.2 _ bw bZ) a5;exact⟨s',Z,am.trans Y,fun e he=>(ag e he).Ai am (Nat.le_refl _),al⟩
 | shape r k O=>
  intro s w Q X h f;obtain⟨o,K,h⟩:=h;have a7:=Up (f.get K);have U:(Sem.shape r k).run P w=(k (shapeOf o)).run P w:=by simp [Sem.run,a7]
  have V:(Sem.shape r k).events P w #[]=(k (shapeOf o)).events P w #[]:=by simp only [Sem.events,Sem.runT,a7]
  rw [U,V];exact O _ h f
 | freeze a n k O=>intro s w Q X h f;exact h.elim
 | frozen a k O=>
  intro s w Q X h f;obtain⟨o,K,h⟩:=h;have a7:=Qt (a:=a) (f.get K);have U:(Sem.frozen a k).run P w=(k (frozenAt o a)).run P w:=by simp [Sem.run,a7]
  have V:(Sem.frozen a k).events P w #[]=(k (frozenAt o a)).events P w #[]:=by simp only [Sem.events,Sem.runT,a7]
  rw [U,V];exact O _ h f
 | getObj r k O=>
  intro s w Q X h f;obtain⟨o,K,bd,h⟩:=h;have hw:=f.get K;have U:(Sem.getObj r k).run P w=(k o).run P w:=by cases o <;> simp [Ix] at bd <;> simp [Sem.run,hw]
  have V:(Sem.getObj r k).events P w #[]= #[⟨.obj r,false,false⟩]++(k o).events P w #[]:=by
   rw [← Sem.events_acc];cases o <;> simp [Ix] at bd <;> (simp only [Sem.events,Sem.runT,hw,Obj.isChan];rfl)
  rw [U,V];obtain⟨s',Z,Y,ag,al⟩:=O o h f;refine⟨s',Z,Y,fun e he=>?_,al⟩;rcases Array.mem_append.1 he with he | he
  ·simp at he;subst he;refine⟨rfl,Nat.lt_of_lt_of_le (f.lt K) Y.size,?_⟩;by_cases a3:s.H r=none
   ·refine .inr (.inr ⟨?_,rfl⟩);exact RE K a3
   ·exact .inl a3
  ·exact ag e he
 | setObj r o k O=>
  intro s w Q X h f;obtain⟨⟨o₀,K,bU⟩,bd,h⟩:=h;have hw:=f.h _ _ K;have bb:=f.T3 K;have ap:s.E r=none:=by
   cases ap:s.E r with
   | none=>rfl
   | some x=>have:=f.d r (by rw [ap];simp);rw [K] at this;cases this
  have U:(Sem.setObj r o k).run P w=k.run P {w with heap:=w.heap.setIfInBounds r o}:=by
   cases o₀ <;> simp [Ix] at bU <;> simp [Sem.run,hw]
  have V:(Sem.setObj r o k).events P w #[]= #[⟨.obj r,true,false⟩]++k.events P {w with heap:=w.heap.setIfInBounds r o} #[]:=by
   rw [← Sem.events_acc];cases o₀ <;> simp [Ix] at bU <;> cases o <;> simp [Ix] at bd <;> (simp only [Sem.events,Sem.runT,hw,Obj.isChan];rfl)
  have a4:∀c,c≠r→(w.heap.setIfInBounds r o)[c]? =w.heap[c]? :=fun c av=>by simp [Ne.symm av]
  have a5:Fits (s.upd r o) {w with heap:=w.heap.setIfInBounds r o}:=O3 f ap (by simp [bb]) (fun c av x a0=>by show(w.heap.setIfInBounds r o)[c]? =_;rw [a4 c av];exact a0);have am:Fr s w (s.upd r o) {w with heap:=w.heap.setIfInBounds r o}:=by
   refine⟨by simp,fun b hb a1=>a4 b (fun e=>by subst e;rw [K] at a1;cases a1),fun b hb=>?_,fun _ _ h=>h,fun _ h=> .inl h,rfl,rfl,rfl⟩;simp only [St.upd] at hb;split at hb
   ·rename_i e;subst e;exact .inl (by rw [K];simp)
   ·exact .inl hb
  rw [U,V];obtain⟨s',Z,Y,ag,al⟩:=O h a5;refine⟨s',Z,am.trans Y,fun e he=>?_,al⟩;rcases Array.mem_append.1 he with he | he
  ·simp at he;subst he;exact⟨rfl,Nat.lt_of_lt_of_le bb (am.trans Y).size,.inl (by rw [K];simp)⟩
  ·exact(ag e he).Ai am (Nat.le_refl _)
 | choose q k O=>
  intro s w Q X h f;simp only [lp] at h;by_cases a2:q.forced
  ·rw [if_pos a2] at h;have U:(Sem.choose q k).run P w=(k 0).run P w:=by simp [Sem.run,a2]
   have V:(Sem.choose q k).events P w #[]=(k 0).events P w #[]:=by simp only [Sem.events,Sem.runT];rw [if_pos a2]
   rw [U,V];exact O _ h f
  ·rw [if_neg a2] at h;have U:(Sem.choose q k).run P w=(k (q.cut (w.tape w.drawn q))).run P {w with drawn:=w.drawn+1}:=by simp [Sem.run,a2]
   have V:(Sem.choose q k).events P w #[]=(k (q.cut (w.tape w.drawn q))).events P {w with drawn:=w.drawn+1} #[]:=by simp only [Sem.events,Sem.runT];rw [if_neg a2]
   rw [U,V];have am:Fr s w s {w with drawn:=w.drawn+1}:=⟨Nat.le_refl _,fun _ _ _=>rfl,fun _ h=> .inl h,fun _ _ h=>h,fun _ h=> .inl h,rfl,rfl,rfl⟩;obtain⟨s',Z,Y,ag,al⟩:=O _ (h.2 (w.tape w.drawn q)) (⟨f.e,f.h,f.d⟩:Fits s {w with drawn:=w.drawn+1});exact⟨s',Z,am.trans Y,fun e he=>(ag e he).Ai am (Nat.le_refl _),al⟩
 | sys c k O=>intro s w Q X h f;exact h.elim
 | program k O=>
  intro s w Q X h f;have U:(Sem.program k).run P w=(k P).run P w:=by simp [Sem.run]
  have V:(Sem.program k).events P w #[]=(k P).events P w #[]:=by simp only [Sem.events,Sem.runT]
  rw [U,V];exact O _ h f
 | mark m k O=>
  intro s w Q X h f;have U:(Sem.mark m k).run P w=k.run P w:=by simp [Sem.run]
  have V:(Sem.mark m k).events P w #[]= #[⟨.mark m,false,true⟩]++k.events P w #[]:=by
   rw [← Sem.events_acc];simp only [Sem.events,Sem.runT];rfl
  rw [U,V];obtain⟨hm,h⟩:=h;obtain⟨s',Z,Y,ag,al⟩:=O h f;refine⟨s',Z,Y,fun e he=>?_,al⟩;rcases Array.mem_append.1 he with he | he
  ·simp at he;subst he;rcases hm with⟨_,rfl⟩ | ⟨g,rfl⟩ <;> trivial
  ·exact ag e he
 | halt h=>intro s w Q X a6 f;exact⟨s,f,.refl _ _,by simp [Sem.events_halt],a6⟩
theorem OF{P:Program}{fn:FuncId}{es:Array Event}(h:∀e∈es,∃f,e.loc= .mark (.extern f)):seen P fn es= #[]:=by
 rw [seen_def];have:∀(l:List Event) (q:Bool),(∀e∈l,∃f,e.loc= .mark (.extern f))→(l.foldl (seenStep fun f=>(P.funcs[f]?).any (·.norace)) (q,#[])).2= #[]:=by
  intro l
  induction l with
  | nil=>intro q _;rfl
  | cons e l K=>
   intro q h;obtain⟨f,O⟩:=h e (by simp);rw [List.foldl_cons];have:seenStep (fun f=>(P.funcs[f]?).any (·.norace)) (q,#[]) e=((P.funcs[f]?).any (·.norace),#[]):=by simp [seenStep,O]
   rw [this];exact K _ fun x U=>h x (by simp [U])
 exact this es.toList _ fun e he=>h e (Array.mem_toList_iff.1 he)
def St.quiet:St:=⟨fun _=>none,fun _=>none,true⟩
theorem O0{P:Program}{α:Type}(x:Sem α):∀{Q:α→St→Prop} {X:Halt→St→Prop},lp P x .quiet Q X→
  ∃es,(∀w,x.events P w #[]=es)∧(∀e∈es,∃f,e.loc= .mark (.extern f))∧((∃a,Q a .quiet∧(∀w,x.run P w= .ok a w))∨(∃a,X a .quiet∧(∀w,x.run P w= .halt a w))):=by
 induction x with
 | pure a=>intro Q X h;exact⟨#[],fun w=>by simp [Sem.events_pure'],by simp,.inl ⟨a,h,fun w=>rfl⟩⟩
 | load m a k K=>intro Q X h;obtain⟨_,v,Z,_⟩:=h;simp [St.cell?,St.get,St.quiet] at Z
 | store m a v k K=>intro Q X h;obtain⟨_,_,o,ag,_⟩:=h;cases ag
 | new o k K=>intro Q X h;cases h.1
 | shape r k K=>intro Q X h;obtain⟨o,O,_⟩:=h;simp [St.get,St.quiet] at O
 | freeze a n k K=>intro Q X h;exact h.elim
 | frozen a k K=>intro Q X h;obtain⟨o,O,_⟩:=h;simp [St.get,St.quiet] at O
 | getObj r k K=>intro Q X h;obtain⟨o,O,_⟩:=h;simp [St.get,St.quiet] at O
 | setObj r o k K=>intro Q X h;obtain⟨⟨o,O,_⟩,_⟩:=h;cases O
 | choose q k K=>
  intro Q X h;simp only [lp] at h;by_cases U:q.forced
  ·rw [if_pos U] at h;have V:∀w,(Sem.choose q k).run P w=(k 0).run P w:=fun w=>by simp [Sem.run,U]
   have Y:∀w,(Sem.choose q k).events P w #[]=(k 0).events P w #[]:=fun w=>by simp only [Sem.events,Sem.runT];rw [if_pos U]
   simpa only [V,Y] using K _ h
  ·rw [if_neg U] at h;cases h.1
 | sys c k K=>intro Q X h;exact h.elim
 | program k K=>
  intro Q X h;have V:∀w,(Sem.program k).run P w=(k P).run P w:=fun w=>by simp [Sem.run]
  have Y:∀w,(Sem.program k).events P w #[]=(k P).events P w #[]:=fun w=>by simp only [Sem.events,Sem.runT]
  simpa only [V,Y] using K _ h
 | mark m k K=>
  intro Q X h;obtain⟨hm,h⟩:=h;obtain⟨es,O,Z,ag⟩:=K h;have V:∀w,(Sem.mark m k).run P w=k.run P w:=fun w=>by simp [Sem.run]
  have Y:∀w,(Sem.mark m k).events P w #[]= #[⟨.mark m,false,true⟩]++k.events P w #[]:=fun w=>by rw [← Sem.events_acc];simp only [Sem.events,Sem.runT];rfl
  refine⟨#[⟨.mark m,false,true⟩]++es,fun w=>by rw [Y,O],fun e he=>?_,by simpa only [V] using ag⟩;rcases Array.mem_append.1 he with he | he
  ·simp at he;subst he;rcases hm with⟨U,_⟩ | hm
   ·cases U
   ·obtain⟨f,rfl⟩:=hm;exact⟨f,rfl⟩
  ·exact Z e he
 | halt h=>intro Q X al;exact⟨#[],fun w=>by simp [Sem.events_halt],by simp,.inr ⟨h,al,fun w=>rfl⟩⟩
end Pal
namespace Pal
open Go Go.Conc
def SW(P:Program)(main:Bool)(g:Goroutine)(s:St)(K:Gs_):Prop:=
 g.status= .running∧(∀w,Fits s w→
  ∃g' s' w' es,stepG P main g w= .go g' w' es∧K g' s'∧Fits s' w'∧Fr s w s' w'∧(∀e∈es,Ev s w w' e))∧
  (s= .quiet→∃g',(∀w,stepG P main g w= .go g' w #[])∧K g' .quiet)
structure Dj (s s₀:St):Prop where
 ext:∀b o,s.E b=some o→s₀.E b=some o
 own:∀b o,s₀.H b=some o→s.H b=some o
 EF:∀b o,s₀.E b=some o→s.E b=some o∨(s.H b=some o∧s₀.H b=none)
 q:s₀.q=s.q
theorem Dj.refl(s:St):Dj s s:=⟨fun _ _ h=>h,fun _ _ h=>h,fun _ _ h=> .inl h,rfl⟩
theorem Dj.fits{s s₀:St}(g:Dj s s₀){w:World}(f:Fits s w):Fits s₀ w where
 e b o h:=by
  rcases g.EF b o h with x | x
  ·exact f.e _ _ x
  ·exact f.h _ _ x.1
 h b o h:=f.h _ _ (g.own _ _ h)
 d b h:=by
  cases K:s₀.E b with
  | none=>exact absurd K h
  | some o=>
   rcases g.EF b o K with x | x
   ·cases O:s₀.H b with
    | none=>rfl
    | some y=>have:=g.own _ _ O;rw [f.d b (by rw [x];simp)] at this;cases this
   ·exact x.2
theorem Ho{α:Type}{x:Option α}(h:x≠none):∃a,x=some a:=by cases x <;> simp at h;exact⟨_,rfl⟩
theorem Dj.fr{s s₀ s':St}{w w':World}(g:Dj s s₀)(f:Fr s₀ w s' w'):Fr s w s' w' where
 size:=f.size
 keep b hb O:=f.keep b hb (by
  cases h:s₀.H b with
  | none=>rfl
  | some o=>rw [g.own _ _ h] at O;cases O)
 own b hb:=(f.own b hb).imp (fun h=>by obtain⟨o,K⟩:=Ho h;rw [g.own _ _ K];simp) id
 ext b o h:=f.ext _ _ (g.ext _ _ h)
 EF b hb:=by
  rcases f.EF b hb with h | h | h
  ·obtain⟨o,K⟩:=Ho h;rcases g.EF _ _ K with x | x
   ·exact .inl (by rw [x];simp)
   ·exact .inr (.inl (by rw [x.1];simp))
  ·obtain⟨o,K⟩:=Ho h;exact .inr (.inl (by rw [g.own _ _ K];simp))
  ·exact .inr (.inr h)
 tape:=f.tape
 os:=f.os
 output:=f.output
theorem Dj.F6{s s₀:St}{w w':World}{b:Nat}{wr:Bool}(g:Dj s s₀)(t:F6 s₀ w w' b wr):F6 s w w' b wr:=by
 refine⟨t.1,?_⟩;rcases t.2 with h | h | ⟨h,hw⟩
 ·obtain⟨o,K⟩:=Ho h;exact .inl (by rw [g.own _ _ K];simp)
 ·exact .inr (.inl h)
 ·obtain⟨o,K⟩:=Ho h;rcases g.EF _ _ K with x | x
  ·exact .inr (.inr ⟨by rw [x];simp,hw⟩)
  ·exact .inl (by rw [x.1];simp)
theorem Dj.ev{s s₀:St}{w w':World}{e:Event}(g:Dj s s₀)(t:Ev s₀ w w' e):Ev s w w' e:=by
 unfold Ev at t ⊢;split <;> rename_i he <;> simp only [he] at t
 ·exact⟨t.1,g.F6 t.2⟩
 ·exact⟨t.1,g.F6 t.2⟩
 ·trivial
 ·trivial
theorem Dj.quiet{s₀:St}(g:Dj .quiet s₀):s₀= .quiet:=by
 obtain⟨E,H,q⟩:=s₀;have K:E=fun _=>none:=by
  funext b;cases h:E b with
  | none=>rfl
  | some o=>rcases g.EF b o h with x | ⟨x,_⟩ <;> cases x
 have O:H=fun _=>none:=by
  funext b;cases h:H b with
  | none=>rfl
  | some o=>cases g.own b o h
 have U:q=true:=g.q;subst K O U;rfl
inductive Rk:Type where
 | leaf:Rk
 | node (f:World→Rk):Rk
def Rk.sub(a b:Rk):Prop:=∃f w,b= .node f∧a=f w
theorem Rk.wf:WellFounded Rk.sub:=⟨fun r=>by
 induction r with
 | leaf=>exact⟨_,fun a ⟨f,w,h,_⟩=>by cases h⟩
 | node f K=>exact⟨_,fun a ⟨g,w,h,e⟩=>by cases h;subst e;exact K w⟩⟩
def Jr(P:Program)(main:Bool)(Q:Gs_):Rk→Gs_
 | .leaf,g,s=>Q g s
 | .node f,g,s=>Q g s∨(g.status= .running∧∀w,Fits s w→
  ∃g' s' w' es,stepG P main g w= .go g' w' es∧Jr P main Q (f w) g' s'∧Fits s' w'∧Fr s w s' w'∧(∀e∈es,Ev s w w' e)∧(s= .quiet→s'= .quiet∧w'=w∧es= #[]))
structure Judge (P:Program) where
 main:Bool
 ok:(Gs_)→Gs_
 stop:∀{Q g s},Q g s→ok Q g s
 step:∀{Q g s},SW P main g s (ok Q)→ok Q g s
 trans:∀{Q R g s},ok Q g s→(∀g' s',Q g' s'→ok R g' s')→ok R g s
 ghost:∀{Q g s s₀},Dj s s₀→ok Q g s₀→ok Q g s
def JQ(Q:Gs_)(g:Goroutine)(s:St):Prop:=∃s₀,Dj s s₀∧Q g s₀
theorem Dj.trans{a b c:St}(h:Dj a b)(k:Dj b c):Dj a c where
 ext x o y:=k.ext _ _ (h.ext _ _ y)
 own x o y:=h.own _ _ (k.own _ _ y)
 EF x o y:=by
  rcases k.EF x o y with z | z
  ·rcases h.EF x o z with u | u
   ·exact .inl u
   ·refine .inr ⟨u.1,?_⟩;cases K:c.H x with
    | none=>rfl
    | some v=>have:=k.own _ _ K;rw [u.2] at this;cases this
  ·exact .inr ⟨h.own _ _ z.1,z.2⟩
 q:=k.q.trans h.q
def BB(P:Program)(main:Bool):Judge P where
 main:=main
 ok Q g s:=∃r,Jr P main (JQ Q) r g s
 stop h:=⟨.leaf,_,.refl _,h⟩
 step {Q g s} h:=by
  obtain⟨U,h,hu⟩:=h;have ag:∀w,∃r:Rk,Fits s w→∃g' s' w' es,stepG P main g w= .go g' w' es∧Jr P main (JQ Q) r g' s'∧Fits s' w'∧Fr s w s' w'∧(∀e∈es,Ev s w w' e)∧(s= .quiet→s'= .quiet∧w'=w∧es= #[]):=by
   intro w;by_cases f:Fits s w
   ·by_cases e:s= .quiet
    ·obtain⟨g',K,r,O⟩:=hu e;exact⟨r,fun _=>⟨g',.quiet,w,#[],K w,O,e▸f,e▸ .refl _ _,by simp,fun _=>⟨rfl,rfl,rfl⟩⟩⟩
    ·obtain⟨g',s',w',es,K,⟨r,O⟩,Y,al,am⟩:=h w f;exact⟨r,fun _=>⟨g',s',w',es,K,O,Y,al,am,fun x=>absurd x e⟩⟩
   ·exact⟨.leaf,fun x=>absurd x f⟩
  exact⟨.node fun w=>Classical.choose (ag w),.inr ⟨U,fun w f=>Classical.choose_spec (ag w) f⟩⟩
 trans {Q R g s} h k:=by
  obtain⟨r,h⟩:=h;have av:∀(r:Rk) {g:Goroutine} {s s₀:St},Dj s s₀→Jr P main (JQ R) r g s₀→Jr P main (JQ R) r g s:=by
   intro r g s s₀ hg V;cases r with
   | leaf=>obtain⟨Z,K,O⟩:=V;exact⟨Z,hg.trans K,O⟩
   | node f=>
    rcases V with⟨Z,K,O⟩ | ⟨U,V⟩
    ·exact .inl ⟨Z,hg.trans K,O⟩
    ·exact .inr ⟨U,fun w f=>let ⟨g',s',w',es,K,O,Y,al,am,ap⟩:=V w (hg.fits f);⟨g',s',w',es,K,O,Y,hg.fr al,fun e he=>hg.ev (am e he),fun e=>ap (by subst e;exact hg.quiet)⟩⟩
  induction r generalizing g s with
  | leaf=>
   obtain⟨s₀,K,O⟩:=h;obtain⟨r,U⟩:=k _ _ O;exact⟨r,av r K U⟩
  | node f a1=>
   rcases h with⟨s₀,K,O⟩ | ⟨U,h⟩
   ·obtain⟨r,U⟩:=k _ _ O;exact⟨r,av r K U⟩
   ·have ag:∀w,∃r:Rk,Fits s w→∃g' s' w' es,stepG P main g w= .go g' w' es∧Jr P main (JQ R) r g' s'∧Fits s' w'∧Fr s w s' w'∧(∀e∈es,Ev s w w' e)∧(s= .quiet→s'= .quiet∧w'=w∧es= #[]):=by
     intro w;by_cases a0:Fits s w
     ·obtain⟨g',s',w',es,K,O,Y⟩:=h w a0;obtain⟨r,U⟩:=a1 w O;exact⟨r,fun _=>⟨g',s',w',es,K,U,Y⟩⟩
     ·exact⟨.leaf,fun x=>absurd x a0⟩
    exact⟨.node fun w=>Classical.choose (ag w),.inr ⟨U,fun w f=>Classical.choose_spec (ag w) f⟩⟩
 ghost {Q g s s₀} hg h:=by
  obtain⟨r,V⟩:=h;refine⟨r,?_⟩;cases r with
  | leaf=>obtain⟨Z,K,O⟩:=V;exact⟨Z,hg.trans K,O⟩
  | node f=>
   rcases V with⟨Z,K,O⟩ | ⟨U,V⟩
   ·exact .inl ⟨Z,hg.trans K,O⟩
   ·exact .inr ⟨U,fun w f=>let ⟨g',s',w',es,K,O,Y,al,am,ap⟩:=V w (hg.fits f);⟨g',s',w',es,K,O,Y,hg.fr al,fun e he=>hg.ev (am e he),fun e=>ap (by subst e;exact hg.quiet)⟩⟩
def Lv(P:Program)(Q:Gs_):Nat→Goroutine→Prop
 | 0,g=>Q g .quiet
 | n+1,g=>Q g .quiet∨(g.status= .running∧∃g',(∀w,stepG P false g w= .go g' w #[])∧Lv P Q n g')
def GB(P:Program):Judge P where
 main:=false
 ok Q g s:=s= .quiet→∃n,Lv P Q n g
 stop h e:=⟨0,by subst e;exact h⟩
 step {Q g s} h e:=by
  obtain⟨g',K,O⟩:=h.2.2 e;obtain⟨n,U⟩:=O rfl;exact⟨n+1,.inr ⟨h.1,g',K,U⟩⟩
 trans {Q R g s} h k e:=by
  obtain⟨n,U⟩:=h e;have:∀n g,Lv P Q n g→∃m,Lv P R m g:=by
   intro n
   induction n with
   | zero=>intro g h;exact k _ _ h rfl
   | succ n V=>
    intro g h;rcases h with h | ⟨Y,g',K,O⟩
    ·exact k _ _ h rfl
    ·obtain⟨m,hm⟩:=V g' O;exact⟨m+1,.inr ⟨Y,g',K,hm⟩⟩
  exact this n g U
 ghost {Q g s s₀} hg h e:=by subst e;exact h hg.quiet
end Pal
namespace Pal
open Go Go.Conc
def fr(b:Frame)(T:AD)(ds:Ld_)(todo:Li_):Frame:={b with tmps:=T,todo:=todo,defers:=ds,mode:= .run}
def EC(b:Frame)(T:AD)(ds:Ld_)(todo:Li_):Frame:={b with tmps:=T,todo:=todo,defers:=ds,mode:= .returning}
def BO(T:AD):Operand→Value
 | .tmp t=>T.getD t undef
 | .const v=>v
 | .global g=> .pointer (some ⟨g,0,none⟩)
 | .func f=> .func (.func f) #[] #[]
abbrev Env:=List (Nat×Value)
def look:Env→Nat→Option Value
 | [],_=>none
 | (t,v)::L,u=>if t=u then some v else look L u
def ev(L:Env):Operand→Option Value
 | .tmp t=>look L t
 | .const v=>some v
 | .global g=>some (.pointer (some ⟨g,0,none⟩))
 | .func f=>some (.func (.func f) #[] #[])
structure Has (n:Nat) (L:Env) (T:AD):Prop where
 size:T.size=n
 at_:∀t v,look L t=some v→T.getD t undef=v
theorem Has.ev{n:Nat}{L:Env}{T:AD}(h:Has n L T){x:Operand}{v:Value}(e:ev L x=some v):BO T x=v:=by
 cases x with
 | tmp t=>exact h.at_ t v e
 | const u=>cases e;rfl
 | global g=>cases e;rfl
 | func f=>cases e;rfl
def CX(T:AD):Option Tmp→Value→AD
 | some d,v=>T.setIfInBounds d v
 | none,_=>T
def AI(L:Env):Option Tmp→Value→Env
 | some d,v=>(d,v)::L
 | none,_=>L
def BE(n:Nat):Option Tmp→Bool
 | some d=>d<n
 | none=>true
theorem W4(T:AD)(d:Nat)(v:Value)(h:d<T.size)(t:Nat):(T.setIfInBounds d v).getD t undef=if d=t then v else T.getD t undef:=by
 by_cases e:d=t
 ·subst e;simp [Array.getD_eq_getD_getElem?,h]
 ·simp [Array.getD_eq_getD_getElem?,e]
theorem Has.put{n:Nat}{L:Env}{T:AD}(h:Has n L T){d:Option Tmp}(K:BE n d=true)(v:Value):Has n (AI L d v) (CX T d v):=by
 cases d with
 | none=>exact h
 | some d=>
  have O:d<T.size:=by rw [h.size];simpa [BE] using K
  refine⟨by simp [CX,h.size],fun t u hu=>?_⟩;simp only [CX,W4 T d v O];simp only [AI,look] at hu;split at hu
  ·rename_i e;rw [if_pos e];exact Option.some.inj hu
  ·rename_i e;rw [if_neg e];exact h.at_ t u hu
def Sub:Env→Env→Prop
 | [],_=>True
 | (t,v)::L',L=>look L t=some v∧Sub L' L
theorem Sub.look{L:Env}:∀{L':Env},Sub L' L→∀t v,look L' t=some v→Pal.look L t=some v
 | [],_,t,v,e=>by simp [Pal.look] at e
 | (u,w)::L',h,t,v,e=>by
  simp only [Pal.look] at e
  split at e
  ·rename_i K;subst K;cases e;exact h.1
  ·exact Sub.look h.2 t v e
theorem Has.sub{n:Nat}{L L':Env}{T:AD}(h:Has n L T)(s:Sub L' L):Has n L' T:=⟨h.size,fun t v e=>h.at_ t v (s.look t v e)⟩
section
variable {P:Program}(J:Judge P)(Q:Gs_)
def JL(b:Frame)(n:Nat)(L:Env)(ds:Ld_)(todo:Li_)(cs:Lf_)(s:St):Prop:=
 ∀T,Has n L T→J.ok Q (G (fr b T ds todo) cs) s
end
section
variable {P:Program}{J:Judge P}{Q:Gs_}{b:Frame}{n:Nat}{L L':Env}{ds:Ld_}{k:Li_}{cs:Lf_}{s s':St}
theorem Judge.Dt{g g':Goroutine}(K:g.status= .running)(h:∀w,stepG P J.main g w= .go g' w)(k:J.ok Q g' s):J.ok Q g s:=
 J.step ⟨K,fun w f=>⟨g',s,w,#[],h w,k,f,.refl _ _,by simp⟩,fun e=>⟨g',h,e▸k⟩⟩
theorem Gn(h:Sub L' L)(k':JL J Q b n L' ds k cs s):JL J Q b n L ds k cs s:=fun T K=>k' T (K.sub h)
theorem JL.ghost(h:Dj s s')(k':JL J Q b n L ds k cs s'):JL J Q b n L ds k cs s:=fun T K=>J.ghost h (k' T K)
theorem JL.skip(h:JL J Q b n L ds k cs s):JL J Q b n L ds (.code .skip::k) cs s:=fun T K=>Judge.Dt rfl (fun w=>by simp [G,stepG,stepG.exec,fr]) (h T K)
theorem JL.label{l:Nat}(h:JL J Q b n L ds k cs s):JL J Q b n L ds (.code (.label l)::k) cs s:=fun T K=>Judge.Dt rfl (fun w=>by simp [G,stepG,stepG.exec,fr]) (h T K)
theorem Mr{i:Nat}(h:JL J Q b n L ds k cs s):JL J Q b n L ds (.inBlock i::k) cs s:=fun T K=>Judge.Dt rfl (fun w=>by simp [G,stepG,stepG.exec,fr]) (h T K)
theorem Uu{c:Code}(h:JL J Q b n L ds k cs s):JL J Q b n L ds (.inScope c::k) cs s:=fun T K=>Judge.Dt rfl (fun w=>by simp [G,stepG,stepG.exec,fr]) (h T K)
theorem JL.seq{x y:Code}(h:JL J Q b n L ds (.code x:: .code y::k) cs s):JL J Q b n L ds (.code (.seq x y)::k) cs s:=fun T K=>Judge.Dt rfl (fun w=>by simp [G,stepG,stepG.exec,fr]) (h T K)
theorem JL.block{i:Nat}{c:Code}(h:JL J Q b n L ds (.code c:: .inBlock i::k) cs s):JL J Q b n L ds (.code (.block i c)::k) cs s:=fun T K=>Judge.Dt rfl (fun w=>by simp [G,stepG,stepG.exec,fr]) (h T K)
theorem JL.scope{c:Code}(h:JL J Q b n L ds (.code c:: .inScope c::k) cs s):JL J Q b n L ds (.code (.scope c)::k) cs s:=fun T K=>Judge.Dt rfl (fun w=>by simp [G,stepG,stepG.exec,fr]) (h T K)
theorem IY{c:Code}(h:JL J Q b n L ds (.code c:: .inLoop c::k) cs s):JL J Q b n L ds (.code (.loop c)::k) cs s:=fun T K=>Judge.Dt rfl (fun w=>by simp [G,stepG,stepG.exec,fr]) (h T K)
theorem JL.again{c:Code}(h:JL J Q b n L ds (.code c:: .inLoop c::k) cs s):JL J Q b n L ds (.inLoop c::k) cs s:=fun T K=>Judge.Dt rfl (fun w=>by simp [G,stepG,stepG.exec,fr]) (h T K)
theorem JL.exit{i:Nat}{k':Li_}(K:exitTo i k=some k')(h:JL J Q b n L ds k' cs s):JL J Q b n L ds (.code (.exit i)::k) cs s:=fun T O=>Judge.Dt rfl (fun w=>by simp [G,stepG,stepG.exec,fr,K]) (h T O)
theorem JL.goto{l:Nat}{k':Li_}(K:gotoIn l k=some k')(h:JL J Q b n L ds k' cs s):JL J Q b n L ds (.code (.goto l)::k) cs s:=fun T O=>Judge.Dt rfl (fun w=>by simp [G,stepG,stepG.exec,fr,K]) (h T O)
theorem Sq(T:AD)(todo:Li_)(x:Operand):(fr b T ds todo).eval x=BO T x:=by cases x <;> rfl
theorem RJ(T:AD)(todo:Li_):(fr b T ds todo).eval=BO T:=funext (Sq T todo)
theorem JL.cond{c:Operand}{x y:Code}{t:Bool}(U:ev L c=some (.bool t))(h:JL J Q b n L ds (.code (if t then x else y)::k) cs s):JL J Q b n L ds (.code (.cond c x y)::k) cs s:=fun T O=>
 Judge.Dt rfl (fun w=>by
  have K:=Sq (b:=b) (ds:=ds) T (.code (.cond c x y)::k) c
  rw [O.ev U] at K
  simp only [fr] at K
  simp [G,stepG,stepG.exec,fr,K]) (h T O)
theorem Ve{c:Operand}{x y:Code}(K:ev L c=some (.bool true))(h:JL J Q b n L ds (.code x::k) cs s):JL J Q b n L ds (.code (.cond c x y)::k) cs s:=JL.cond K h
theorem U5{c:Operand}{x y:Code}(K:ev L c=some (.bool false))(h:JL J Q b n L ds (.code y::k) cs s):JL J Q b n L ds (.code (.cond c x y)::k) cs s:=JL.cond K h
theorem RD{c:Operand}{x y:Code}{t:Bool}(K:ev L c=some (.bool t))(O:t=true→JL J Q b n L ds (.code x::k) cs s)(U:t=false→JL J Q b n L ds (.code y::k) cs s):JL J Q b n L ds (.code (.cond c x y)::k) cs s:=by
 cases t
 ·exact JL.cond K (U rfl)
 ·exact JL.cond K (O rfl)
theorem PH{c:Operand}{x y:Code}{p:Prop} [Decidable p] (K:ev L c=some (.bool (decide p)))(O:p→JL J Q b n L ds (.code x::k) cs s)(U:¬p→JL J Q b n L ds (.code y::k) cs s):JL J Q b n L ds (.code (.cond c x y)::k) cs s:=
 RD K (fun h=>O (of_decide_eq_true h)) (fun h=>U (of_decide_eq_false h))
theorem JL.region{id:Nat}{ops:Ao_}(h:JL J Q b n L ds (.inRegion ops (List.range ops.size)::k) cs s):JL J Q b n L ds (.code (.region id ops false)::k) cs s:=fun T K=>Judge.Dt rfl (fun w=>by simp [G,stepG,stepG.exec,fr]) (h T K)
theorem JL.done{ops:Ao_}(h:JL J Q b n L ds k cs s):JL J Q b n L ds (.inRegion ops []::k) cs s:=fun T K=>Judge.Dt rfl (fun w=>by simp [G,stepG,stepG.exec,fr]) (h T K)
theorem Sx{id:Nat}{ops:Ao_}(K:s.q=false)(hm:P.follows .mixedOrders=true)(h:∀t,JL J Q b n L ds (.inRegion ops (Region.linearise .any ops t)::k) cs s):JL J Q b n L ds (.code (.region id ops true)::k) cs s:=fun T O=>by
 refine J.step ⟨rfl,fun w f=>⟨_,s,{w with drawn:=w.drawn+1},#[],?_,h (w.tape w.drawn (.order b.fn id)) T O,⟨f.e,f.h,f.d⟩,⟨Nat.le_refl _,fun _ _ _=>rfl,fun _ h=> .inl h,fun _ _ h=>h,fun _ h=> .inl h,rfl,rfl,rfl⟩,by simp⟩,fun e=>by subst e;cases K⟩
 simp [G,stepG,stepG.exec,fr,choose,Sem.run,Question.forced,Question.cut,Region.schedule,hm]
theorem Gl(T:AD)(ops:Ao_)(i:Nat)(rest:List Nat)(v:Value)(o:Oper)(K:ops[i]? =some o):
  (fr b T ds (.inRegion ops (i::rest)::k)).finish v=fr b (CX T o.dst v) ds (.inRegion ops rest::k):=by
 cases O:o.dst <;> simp [Frame.finish,fr,K,O,CX]
theorem stepG_op{main:Bool}{T:AD}{ops:Ao_}{i:Nat}{rest:List Nat}{o:Oper}{w:World}(K:ops[i]? =some o)(hw:Region.wanted o (yielded ops T)=true):
  stepG P main (G (fr b T ds (.inRegion ops (i::rest)::k)) cs) w=
   match b.roundOf,o.op with
   | some l,.defer c=>stepG.apply P true (fr b T ds (.inRegion ops (i::rest)::k)) cs none (do Instr.deferInRound l (← resolve (BO T) c o.type);pure .skip) w
   | _,_=>stepG.apply P true (fr b T ds (.inRegion ops (i::rest)::k)) cs none (execOp (BO T) o) w:=by
 have he:=RJ (b:=b) (ds:=ds) T (.inRegion ops (i::rest)::k);simp only [fr] at he;simp only [G,stepG,stepG.exec,fr,K,Option.map_some,Option.getD_some,hw,if_true,stepG.oper,Frame.oper?,he]
 rfl
theorem Fo(T:AD)(todo:Li_):(fr b T ds todo).fn=b.fn:=rfl
theorem G5(T:AD)(todo:Li_):(fr b T ds todo).todo=todo:=rfl
def upon(J:Judge P)(Q:Gs_)(b:Frame)(T:AD)(ds:Ld_)(ops:Ao_)(i:Nat)(rest:List Nat)(k:Li_)(cs:Lf_)(dst:Option Tmp):Next→St→Prop
 | .value v,s=>J.ok Q (G (fr b (CX T dst v) ds (.inRegion ops rest::k)) cs) s
 | .skip,s=>J.ok Q (G (fr b (CX T dst undef) ds (.inRegion ops rest::k)) cs) s
 | .defer d,s=>J.ok Q (G (fr b (CX T dst undef) (d::ds) (.inRegion ops rest::k)) cs) s
 | .enter f args,s=>J.ok Q (G (Frame.enter P f args .normal) (fr b T ds (.inRegion ops (i::rest)::k)::cs)) s
 | .round l f tmps assign body,s=>J.ok Q (G (Frame.round l f tmps assign body .normal) (fr b T ds (.inRegion ops (i::rest)::k)::cs)) s
 | _,_=>False
def N8(J:Judge P)(Q:Gs_)(b:Frame)(T:AD)(ds:Ld_)(ops:Ao_)(i:Nat)(rest:List Nat)(k:Li_)(cs:Lf_):Halt→St→Prop
 | .panic v,s=>J.ok Q (G ((fr b T ds (.inRegion ops (i::rest)::k)).raise [{v,recovered:=false}]) cs) s
 | _,_=>False
theorem Pb{s:St}{w w':World}{fn:FuncId}{es:Array Event}(h:∀e∈es,Ev s w w' e):∀e∈seen P fn es,Ev s w w' e:=fun e he=>h e (mem_seen he)
theorem Judge.oper{T:AD}{ops:Ao_}{i:Nat}{rest:List Nat}{o:Oper}(al:ops[i]? =some o)(hw:Region.wanted o (yielded ops T)=true)(a2:b.kind≠ .early)
  (am:b.roundOf=none∨∀c,o.op≠ .defer c)
  (h:lp P (execOp (BO T) o) s (upon J Q b T ds ops i rest k cs o.dst) (N8 J Q b T ds ops i rest k cs)):
  J.ok Q (G (fr b T ds (.inRegion ops (i::rest)::k)) cs) s:=by
 have U:((fr b T ds (.inRegion ops (i::rest)::k)).kind==CallKind.early)=false:=by simpa [fr] using a2
 have a0:∀w,stepG P J.main (G (fr b T ds (.inRegion ops (i::rest)::k)) cs) w=stepG.apply P true (fr b T ds (.inRegion ops (i::rest)::k)) cs none (execOp (BO T) o) w:=by
  intro w;rw [stepG_op al hw];split
  ·rename_i l c a1 a3;rcases am with am | am
   ·rw [am] at a1;cases a1
   ·exact absurd a3 (am c)
  ·rfl
 refine J.step ⟨rfl,fun w f=>?_,fun e=>?_⟩
 rotate_left
 ·subst e;simp only [a0];have ap:=fun v=>Gl (b:=b) (ds:=ds) (k:=k) T ops i rest v o al;obtain⟨es,he,V,h⟩:=O0 _ h;have ag:seen P b.fn es= #[]:=OF V;rcases h with⟨nx,K,O⟩ | ⟨x,K,O⟩
  ·cases nx with
   | value v=>exact⟨_,fun w=>by simp [stepG.apply,O,U,GStep.after,G,ap,Fo,he,ag],K⟩
   | skip=>exact⟨_,fun w=>by simp [stepG.apply,O,U,GStep.after,G,ap,Fo,he,ag],K⟩
   | enter g args=>exact⟨_,fun w=>by simp [stepG.apply,O,U,GStep.after,G,Fo,G5,he,ag],K⟩
   | round l g a4 as a5=>exact⟨_,fun w=>by simp [stepG.apply,O,U,GStep.after,G,Fo,G5,he,ag],K⟩
   | defer d=>
    have av:=Gl (b:=b) (ds:=d::ds) (k:=k) T ops i rest undef o al;exact⟨_,fun w=>by rw [← av];simp [stepG.apply,O,U,GStep.after,G,Fo,G5,he,ag];rfl,K⟩
   | _=>exact K.elim
  ·cases x with
   | panic v=>exact⟨_,fun w=>by simp [stepG.apply,O,U,GStep.after,G,Fo,G5,he,ag],K⟩
   | _=>exact K.elim
 obtain⟨s',Y,Z,a6,K⟩:=MK _ h f;rw [a0];have V:=Pb (P:=P) (fn:=b.fn) a6;have ap:=fun v=>Gl (b:=b) (ds:=ds) (k:=k) T ops i rest v o al;cases O:(execOp (BO T) o).run P w with
 | ok nx w'=>
  rw [O] at Y Z K V;simp only [Jj] at Y Z V;cases nx with
  | value v=>exact⟨_,s',w',seen P b.fn ((execOp (BO T) o).events P w #[])++ #[],by simp [stepG.apply,O,U,GStep.after,G,ap,Fo],K,Y,Z,by simpa using V⟩
  | skip=>exact⟨_,s',w',seen P b.fn ((execOp (BO T) o).events P w #[])++ #[],by simp [stepG.apply,O,U,GStep.after,G,ap,Fo],K,Y,Z,by simpa using V⟩
  | enter g args=>exact⟨_,s',w',seen P b.fn ((execOp (BO T) o).events P w #[])++ #[],by simp [stepG.apply,O,U,GStep.after,G,Fo,G5],K,Y,Z,by simpa using V⟩
  | round l g a4 as a5=>exact⟨_,s',w',seen P b.fn ((execOp (BO T) o).events P w #[])++ #[],by simp [stepG.apply,O,U,GStep.after,G,Fo,G5],K,Y,Z,by simpa using V⟩
  | defer d=>
   have av:=Gl (b:=b) (ds:=d::ds) (k:=k) T ops i rest undef o al;exact⟨_,s',w',seen P b.fn ((execOp (BO T) o).events P w #[])++ #[],by
    rw [← av];simp [stepG.apply,O,U,GStep.after,G,Fo,G5];rfl,K,Y,Z,by simpa using V⟩
  | _=>exact K.elim
 | halt x w'=>
  rw [O] at Y Z K V;simp only [Jj] at Y Z V;cases x with
  | panic v=>exact⟨_,s',w',seen P b.fn ((execOp (BO T) o).events P w #[])++ #[],by simp [stepG.apply,O,U,GStep.after,G,Fo,G5],K,Y,Z,by simpa using V⟩
  | _=>exact K.elim
theorem Judge.unwanted{T:AD}{ops:Ao_}{i:Nat}{rest:List Nat}{o:Oper}(K:ops[i]? =some o)(hw:Region.wanted o (yielded ops T)=false)
  (h:J.ok Q (G (fr b (CX T o.dst undef) ds (.inRegion ops rest::k)) cs) s):J.ok Q (G (fr b T ds (.inRegion ops (i::rest)::k)) cs) s:=by
 refine Judge.Dt rfl (fun w=>?_) h;have O:=Gl (b:=b) (ds:=ds) (k:=k) T ops i rest undef o K;rw [← O];simp [G,stepG,stepG.exec,fr,K,hw]
end
end Pal
namespace Pal
open Go Go.Conc
def Yl(P:Program)(o:Oper)(ρ:Operand→Value)(s:St)(v:Value):Prop:=lp P (execOp ρ o) s (fun nx s'=>nx= .value v∧s'=s) (fun _ _=>False)
def EL(L:Env)(ρ:Operand→Value):Prop:=∀x v,ev L x=some v→ρ x=v
def Bf(L:Env)(ops:Ao_)(o:Oper):Option Bool:=
 match o.guard with
 | none=>some true
 | some (j,K)=>match(ops[j]?).bind (·.dst) with
  | some d=>match look L d with
   | some (.bool b)=>some (b==K)
   | some (.tuple _)=>some false
   | _=>none
  | none=>none
section
variable {P:Program}{J:Judge P}{Q:Gs_}{b:Frame}{n:Nat}{L L':Env}{ds:Ld_}{k:Li_}{cs:Lf_}{s s':St}
theorem Has.Gr{T:AD}(h:Has n L T):EL L (BO T):=fun _ _ e=>h.ev e
theorem getD_some{T:AD}{d:Nat}{c:Bool}(h:T.getD d undef= .bool c):T[d]? =some (.bool c):=by
 rw [Array.getD_eq_getD_getElem?] at h;cases K:T[d]? with
 | none=>rw [K] at h;simp [undef] at h
 | some v=>rw [K] at h;simp at h;rw [h]
theorem Dh{T:AD}{ops:Ao_}{o:Oper}{c:Bool}(h:Has n L T)(hw:Bf L ops o=some c):Region.wanted o (yielded ops T)=c:=by
 unfold Bf at hw;unfold Region.wanted;cases hg:o.guard with
 | none=>rw [hg] at hw;simpa using hw
 | some p=>
  obtain⟨j,V⟩:=p;rw [hg] at hw;simp only at hw ⊢;cases K:(ops[j]?).bind (·.dst) with
  | none=>rw [K] at hw;simp at hw
  | some d=>
   rw [K] at hw;simp only at hw;cases O:look L d with
   | none=>rw [O] at hw;simp at hw
   | some v=>
    rw [O] at hw;cases v with
    | bool x=>
     simp only [Option.some.injEq] at hw;have:=getD_some (h.at_ d _ O);simp only [yielded,K,Option.bind_some,this];simp [← hw]
    | tuple c=>
     simp only [Option.some.injEq] at hw;have hg:=h.at_ d _ O;simp only [yielded,K,Option.bind_some];cases U:T[d]? with
     | none=>simp [← hw]
     | some u=>
      have:u= .tuple c:=by rw [Array.getD_eq_getD_getElem?,U] at hg;exact hg
      subst this;simp [← hw]
    | _=>simp at hw
def Du:Op→Bool | .defer _=>true | _=>false
def CS(b:Frame)(n:Nat)(o:Oper):Bool:=(b.kind != .early)&&(BE n o.dst&& !Du o.op)
theorem Yl.out{P:Program}{o:Oper}{ρ:Operand→Value}{s:St}{v:Value}(h:Yl P o ρ s v):Pal.lp P (execOp ρ o) s (fun nx s'=>nx= .value v∧s'=s) (fun _ _=>False):=by unfold Yl at h;exact h
theorem Bb{ops:Ao_}{i:Nat}{rest:List Nat}{o:Oper}{v:Value}(V:ops[i]? =some o)(hw:Bf L ops o=some true)(K:CS b n o=true)
  (h:∀ρ,EL L ρ→Yl P o ρ s v) (Y:JL J Q b n (AI L o.dst v) ds (.inRegion ops rest::k) cs s):
  JL J Q b n L ds (.inRegion ops (i::rest)::k) cs s:=fun T O=>by
 simp only [CS,Bool.and_eq_true] at K
 obtain⟨K,Z,U⟩:=K
 refine Judge.oper V (Dh O hw) (by simpa using K) (.inr fun c ag=>by rw [ag] at U;simp [Du] at U) (Dz _ (h _ O.Gr).out ?_ ?_)
 ·rintro nx s' ⟨rfl,rfl⟩
  exact Y _ (O.put Z v)
 ·intro _ _ al;exact al.elim
theorem TB{ops:Ao_}{i:Nat}{rest:List Nat}{o:Oper}(O:ops[i]? =some o)(hw:Bf L ops o=some false)(U:BE n o.dst=true)
  (V:JL J Q b n (AI L o.dst undef) ds (.inRegion ops rest::k) cs s):
  JL J Q b n L ds (.inRegion ops (i::rest)::k) cs s:=fun _ K=>
 Judge.unwanted O (Dh K hw) (V _ (K.put U undef))
theorem JL.op{ops:Ao_}{i:Nat}{rest:List Nat}{o:Oper}(Z:ops[i]? =some o)(hw:Bf L ops o=some true)(K:CS b n o=true)
  (h:∀ρ,EL L ρ→lp P (execOp ρ o) s (fun nx s'=>match nx with
   | .value v=>JL J Q b n (AI L o.dst v) ds (.inRegion ops rest::k) cs s'
   | .skip=>JL J Q b n (AI L o.dst undef) ds (.inRegion ops rest::k) cs s'
   | _=>False) (fun _ _=>False)):
  JL J Q b n L ds (.inRegion ops (i::rest)::k) cs s:=fun T O=>by
 simp only [CS,Bool.and_eq_true] at K
 obtain⟨K,V,Y⟩:=K
 refine Judge.oper Z (Dh O hw) (by simpa using K) (.inr fun c ag=>by rw [ag] at Y;simp [Du] at Y) (Dz _ (h _ O.Gr) ?_ ?_)
 ·intro nx s' U
  cases nx with
  | value v=>exact U _ (O.put V v)
  | skip=>exact U _ (O.put V undef)
  | _=>exact U.elim
 ·intro _ _ al;exact al.elim
end
section
variable {P:Program}{ρ:Operand→Value}{s:St}{x y z:Operand}{d:Option Tmp}{t u ty:TypeId}{p:String}{af:Ae_}{g:On_}{v:Value}{kd kd':IntKind}{m m':Int}
theorem Yl.move(K:ρ x=v):Yl P ⟨d,.move x,ty,p,af,g⟩ ρ s v:=by simp [Yl,execOp,lp,pure,K]
theorem Yl.assign(K:ρ x=v):Yl P ⟨d,.assign x,ty,p,af,g⟩ ρ s v:=by simp [Yl,execOp,lp,pure,K]
theorem VD(K:ρ z= .bool true)(O:ρ x=v):Yl P ⟨d,.pick z x y,ty,p,af,g⟩ ρ s v:=by simp [Yl,execOp,lp,pure,bind,Sem.bind,asBool,K,O]
theorem VR(K:ρ z= .bool false)(O:ρ y=v):Yl P ⟨d,.pick z x y,ty,p,af,g⟩ ρ s v:=by simp [Yl,execOp,lp,pure,bind,Sem.bind,asBool,K,O]
theorem Yl.lss(K:ρ x= .int kd m)(O:ρ y= .int kd m'):Yl P ⟨d,.binOp .lss t x y u,ty,p,af,g⟩ ρ s (.bool (decide (m<m'))):=by
 simp [Yl,execOp,lp,pure,bind,Sem.bind,K,O,eqGuard,Go.binOp,Op.intCmp]
theorem Yl.leq(K:ρ x= .int kd m)(O:ρ y= .int kd m'):Yl P ⟨d,.binOp .leq t x y u,ty,p,af,g⟩ ρ s (.bool (decide (m≤m'))):=by
 simp [Yl,execOp,lp,pure,bind,Sem.bind,K,O,eqGuard,Go.binOp,Op.intCmp]
theorem Yl.gtr(K:ρ x= .int kd m)(O:ρ y= .int kd m'):Yl P ⟨d,.binOp .gtr t x y u,ty,p,af,g⟩ ρ s (.bool (decide (m'<m))):=by
 simp [Yl,execOp,lp,pure,bind,Sem.bind,K,O,eqGuard,Go.binOp,Op.intCmp]
theorem Yl.geq(K:ρ x= .int kd m)(O:ρ y= .int kd m'):Yl P ⟨d,.binOp .geq t x y u,ty,p,af,g⟩ ρ s (.bool (decide (m'≤m))):=by
 simp [Yl,execOp,lp,pure,bind,Sem.bind,K,O,eqGuard,Go.binOp,Op.intCmp]
theorem Yl.eql(K:ρ x= .int kd m)(O:ρ y= .int kd m'):Yl P ⟨d,.binOp .eql t x y u,ty,p,af,g⟩ ρ s (.bool (decide (m=m'))):=by
 simp [Yl,execOp,lp,pure,bind,Sem.bind,K,O,eqGuard,Go.binOp,Op.intCmp];rfl
theorem Yl.neq(K:ρ x= .int kd m)(O:ρ y= .int kd m'):Yl P ⟨d,.binOp .neq t x y u,ty,p,af,g⟩ ρ s (.bool (!decide (m=m'))):=by
 simp [Yl,execOp,lp,pure,bind,Sem.bind,K,O,eqGuard,Go.binOp,Op.intCmp];rfl
theorem Yl.add(K:ρ x= .int kd m)(O:ρ y= .int kd m'):Yl P ⟨d,.binOp .add t x y u,ty,p,af,g⟩ ρ s (.int kd (kd.wrap (m+m'))):=by
 simp [Yl,execOp,lp,pure,bind,Sem.bind,K,O,eqGuard,Go.binOp,Op.intArith]
theorem Yl.sub(K:ρ x= .int kd m)(O:ρ y= .int kd m'):Yl P ⟨d,.binOp .sub t x y u,ty,p,af,g⟩ ρ s (.int kd (kd.wrap (m - m'))):=by
 simp [Yl,execOp,lp,pure,bind,Sem.bind,K,O,eqGuard,Go.binOp,Op.intArith]
theorem Yl.mul(K:ρ x= .int kd m)(O:ρ y= .int kd m'):Yl P ⟨d,.binOp .mul t x y u,ty,p,af,g⟩ ρ s (.int kd (kd.wrap (m*m'))):=by
 simp [Yl,execOp,lp,pure,bind,Sem.bind,K,O,eqGuard,Go.binOp,Op.intArith]
theorem I0{a:Int}(h: -9223372036854775808≤a∧a≤9223372036854775807):IntKind.i64.wrap a=a:=by
 simp only [IntKind.wrap,IntKind.bits,IntKind.signed];simp;split <;> omega
theorem Yd(K:ρ x= .int .i64 m)(O:ρ y= .int .i64 m')(hb: -9223372036854775808≤m+m'∧m+m'≤9223372036854775807):Yl P ⟨d,.binOp .add t x y u,ty,p,af,g⟩ ρ s (.int .i64 (m+m')):=by
 have:=Yl.add (P:=P) (s:=s) (d:=d) (t:=t) (u:=u) (ty:=ty) (p:=p) (af:=af) (g:=g) K O;rwa [I0 hb] at this
theorem Xz(K:ρ x= .int .i64 m)(O:ρ y= .int .i64 m')(hb: -9223372036854775808≤m - m'∧m - m'≤9223372036854775807):Yl P ⟨d,.binOp .sub t x y u,ty,p,af,g⟩ ρ s (.int .i64 (m - m')):=by
 have:=Yl.sub (P:=P) (s:=s) (d:=d) (t:=t) (u:=u) (ty:=ty) (p:=p) (af:=af) (g:=g) K O;rwa [I0 hb] at this
theorem YK(K:ρ x= .int .i64 m)(O:ρ y= .int .i64 m')(hb: -9223372036854775808≤m*m'∧m*m'≤9223372036854775807):Yl P ⟨d,.binOp .mul t x y u,ty,p,af,g⟩ ρ s (.int .i64 (m*m')):=by
 have:=Yl.mul (P:=P) (s:=s) (d:=d) (t:=t) (u:=u) (ty:=ty) (p:=p) (af:=af) (g:=g) K O;rwa [I0 hb] at this
theorem Yl.rem(K:ρ x= .int kd m)(O:ρ y= .int kd m')(U:m'≠0):Yl P ⟨d,.binOp .rem t x y u,ty,p,af,g⟩ ρ s (.int kd (m.tmod m')):=by
 simp [Yl,execOp,lp,pure,bind,Sem.bind,K,O,eqGuard,Go.binOp,Op.intDiv,U]
theorem Yl.quo(K:ρ x= .int kd m)(O:ρ y= .int kd m')(U:m'≠0):Yl P ⟨d,.binOp .quo t x y u,ty,p,af,g⟩ ρ s (.int kd (kd.wrap (m.tdiv m'))):=by
 simp [Yl,execOp,lp,pure,bind,Sem.bind,K,O,eqGuard,Go.binOp,Op.intDiv,U]
theorem Yl.and(K:ρ x= .int kd m)(O:ρ y= .int kd m'):Yl P ⟨d,.binOp .and t x y u,ty,p,af,g⟩ ρ s (.int kd (kd.wrap (BitVec.ofInt kd.bits m&&& BitVec.ofInt kd.bits m').toNat)):=by
 simp [Yl,execOp,lp,pure,bind,Sem.bind,K,O,eqGuard,Go.binOp,Op.intBits]
theorem Yl.or(K:ρ x= .int kd m)(O:ρ y= .int kd m'):Yl P ⟨d,.binOp .or t x y u,ty,p,af,g⟩ ρ s (.int kd (kd.wrap (BitVec.ofInt kd.bits m ||| BitVec.ofInt kd.bits m').toNat)):=by
 simp [Yl,execOp,lp,pure,bind,Sem.bind,K,O,eqGuard,Go.binOp,Op.intBits]
theorem Yl.xor(K:ρ x= .int kd m)(O:ρ y= .int kd m'):Yl P ⟨d,.binOp .xor t x y u,ty,p,af,g⟩ ρ s (.int kd (kd.wrap (BitVec.ofInt kd.bits m ^^^ BitVec.ofInt kd.bits m').toNat)):=by
 simp [Yl,execOp,lp,pure,bind,Sem.bind,K,O,eqGuard,Go.binOp,Op.intBits]
theorem Yl.shl(K:ρ x= .int kd m)(O:ρ y= .int kd' m')(U:0≤m'):Yl P ⟨d,.binOp .shl t x y u,ty,p,af,g⟩ ρ s (.int kd (kd.wrap (m*2 ^ (min m'.toNat kd.bits)))):=by
 have:¬m'<0:=by omega
 simp [Yl,execOp,lp,pure,bind,Sem.bind,K,O,eqGuard,Go.binOp,Op.shift,this]
theorem Yl.shr(K:ρ x= .int kd m)(O:ρ y= .int kd' m')(U:0≤m'):Yl P ⟨d,.binOp .shr t x y u,ty,p,af,g⟩ ρ s (.int kd (m.fdiv (2 ^ (min m'.toNat kd.bits)))):=by
 have:¬m'<0:=by omega
 simp [Yl,execOp,lp,pure,bind,Sem.bind,K,O,eqGuard,Go.binOp,Op.shift,this]
theorem Yl.not{c:Bool}(K:ρ x= .bool c):Yl P ⟨d,.unOp .not t x,ty,p,af,g⟩ ρ s (.bool (!c)):=by
 simp [Yl,execOp,lp,pure,bind,Sem.bind,K,Op.unary]
theorem EB(ht:P.underlying t=some (.int kd'))(hu:P.underlying u=some (.int kd))(K:ρ x= .int kd' m):Yl P ⟨d,.convert t u x,ty,p,af,g⟩ ρ s (.int kd (kd.wrap m)):=by
 simp [Yl,execOp,lp,pure,bind,Sem.bind,K,Go.convert,underlying,program,ht,hu,Conv.intToInt]
theorem Yl.extract{vs:AD}{i:Nat}(K:ρ x= .tuple vs)(hi:vs[i]? =some v):Yl P ⟨d,.extract x i,ty,p,af,g⟩ ρ s v:=by
 simp [Yl,execOp,lp,pure,bind,Sem.bind,K,Instr.extract,hi]
theorem Yl.nilCheck{a:Addr}(K:ρ x= .pointer (some a)):Yl P ⟨d,.nilCheck x,ty,p,af,g⟩ ρ s (.pointer (some a)):=by
 simp [Yl,execOp,lp,pure,K]
theorem Yl.len{a:Option Addr}{e:TypeId}{l c:Nat}{ats:Array TypeId}(K:ats[0]? =some t)(ht:P.underlying t=some (.slice e))(O:ρ x= .slice a l c):
  Yl P ⟨d,.call ⟨.builtin .len,#[x],ats⟩,ty,p,af,g⟩ ρ s (.int .i64 l):=by
 simp [Yl,execOp,lp,pure,bind,Sem.bind,O,resolve,invoke,builtin,Builtin.len_,K,underlying,program,ht,goInt]
theorem Ff{K:TypeDesc}(ht:P.underlying t=some K)(O:∀ms,K≠ .interface ms)(U:ρ x=v):Yl P ⟨d,.makeInterface t x,ty,p,af,g⟩ ρ s (.iface t v):=by
 have:lp P (Instr.makeInterface t v) s (fun r s'=>r= .iface t v∧s'=s) (fun _ _=>False):=by
  unfold Instr.makeInterface;simp only [lp,bind,Sem.bind,underlying,program,ht];cases K <;> first | exact⟨rfl,rfl⟩ | exact absurd rfl (O _)
 simp only [Yl,execOp,U];exact AH _ _ (Dz _ this (fun r s' ⟨V,Y⟩=>⟨by rw [V],Y⟩) (fun _ _ h=>h))
theorem IZ{fn:Fn}{a c:Array Operand}{K O:AD}(U:a.map ρ=K)(V:c.map ρ=O):Yl P ⟨d,.makeFunc fn a c,ty,p,af,g⟩ ρ s (.func fn K O):=by
 simp [Yl,execOp,lp,pure,bind,Sem.bind,Instr.makeFunc,U,V]
end
attribute [irreducible] Yl
end Pal
namespace Pal
open Go Go.Conc
def Le(E E':LH):Prop:=∀b o,E b=some o→E' b=some o
theorem Le.refl(E:LH):Le E E:=fun _ _ h=>h
theorem Le.trans{E E' K:LH}(h:Le E E')(k:Le E' K):Le E K:=fun b o x=>k b o (h b o x)
theorem Ar{E:LH}:Le E E:=Le.refl E
theorem Le.Ac{a b c:LH}(h:Le a b)(k:Le b c):Le a c:=h.trans k
def Bl:List (Nat×Obj)→LH→LH
 | [],H=>H
 | (b,o)::B,H=>fun x=>if x=b then some o else Bl B H x
def mk(E H:LH)(B:List (Nat×Obj)):St:=⟨E,Bl B H,false⟩
def Nd(E H:LH):List (Nat×Obj)→Prop
 | []=>True
 | (b,_)::B=>E b=none∧H b=none∧(∀p∈B,p.1≠b)∧Nd E H B
theorem QC{H:LH}{b:Nat}:∀{B:List (Nat×Obj)},H b=none→(∀p∈B,p.1≠b)→Bl B H b=none
 | [],h,_=>h
 | (c,o)::B,h,hb=>by
  have K:b≠c:=fun e=>hb (c,o) (by simp) e.symm
  simp only [Bl,if_neg K]
  exact QC h fun p O=>hb p (List.mem_cons_of_mem _ O)
theorem G0{H:LH}{b:Nat}:∀{B:List (Nat×Obj)},Bl B H b=none→H b=none∧∀p∈B,p.1≠b
 | [],h=>⟨h,by simp⟩
 | (c,o)::B,h=>by
  simp only [Bl] at h
  split at h
  ·cases h
  ·rename_i O;obtain⟨U,V⟩:=G0 h;refine⟨U,fun p K=>?_⟩;rcases List.mem_cons.1 K with rfl | K
   ·exact fun e=>O e.symm
   ·exact V p K
theorem Qr{H:LH}{x:Nat}{o:Obj}{r:Nat}:∀{B:List (Nat×Obj)},(∀p∈B,p.1≠r)→Bl (B++ [(r,o)]) H x=if x=r then some o else Bl B H x
 | [],_=>rfl
 | (c,u)::B,h=>by
  simp only [List.cons_append,Bl]
  by_cases e:x=c
  ·subst e
   have:x≠r:=fun e=>h (x,u) (by simp) e;simp [this]
  ·simp only [if_neg e];exact Qr fun p K=>h p (List.mem_cons_of_mem _ K)
theorem Nd.append{E H:LH}{r:Nat}{o:Obj}(O:E r=none)(U:H r=none):∀{B:List (Nat×Obj)},(∀p∈B,p.1≠r)→Nd E H B→Nd E H (B++ [(r,o)])
 | [],_,_=>⟨O,U,by simp,trivial⟩
 | (c,u)::B,h,V=>by
  obtain⟨Y,Z,ag,al⟩:=V
  refine⟨Y,Z,fun p K=>?_,Nd.append O U (fun p K=>h p (List.mem_cons_of_mem _ K)) al⟩
  rcases List.mem_append.1 K with K | K
  ·exact ag p K
  ·simp at K;subst K;exact fun e=>h (c,u) (by simp) e.symm
theorem Iz{E H:LH}{b:Nat}{o:Obj}:∀{B:List (Nat×Obj)} {i:Nat},Nd E H B→B[i]? =some (b,o)→Bl B H b=some o
 | [],_,_,h=>by simp at h
 | (c,u)::B,0,_,h=>by simp at h;obtain⟨rfl,rfl⟩:=h;simp [Bl]
 | (c,u)::B,i+1,K,h=>by
  simp at h
  have O:b≠c:=K.2.2.1 (b,o) (List.mem_of_getElem? h)
  simp only [Bl,if_neg O]
  exact Iz K.2.2.2 h
theorem QQ{E H:LH}{b:Nat}{o o':Obj}:∀{B:List (Nat×Obj)} {i:Nat},Nd E H B→B[i]? =some (b,o)→Bl (B.set i (b,o')) H=fun x=>if x=b then some o' else Bl B H x
 | [],_,_,h=>by simp at h
 | (c,u)::B,0,_,h=>by
  simp at h;obtain⟨rfl,rfl⟩:=h
  funext x
  simp only [List.set_cons_zero,Bl]
  split <;> rfl
 | (c,u)::B,i+1,K,h=>by
  simp at h
  have O:b≠c:=K.2.2.1 (b,o) (List.mem_of_getElem? h)
  funext x
  simp only [List.set_cons_succ,Bl]
  rw [QQ K.2.2.2 h]
  by_cases e:x=c
  ·subst e;simp [Ne.symm O]
  ·simp [e]
theorem Nd.set{E H:LH}{b:Nat}{o o':Obj}:∀{B:List (Nat×Obj)} {i:Nat},Nd E H B→B[i]? =some (b,o)→Nd E H (B.set i (b,o'))
 | [],_,_,h=>by simp at h
 | (c,u)::B,0,K,h=>by simp at h;obtain⟨rfl,rfl⟩:=h;exact K
 | (c,u)::B,i+1,K,h=>by
  simp at h
  refine⟨K.1,K.2.1,fun p O=>?_,K.2.2.2.set h⟩
  have hm:=List.mem_or_eq_of_mem_set O
  rcases hm with hm | rfl
  ·exact K.2.2.1 p hm
  ·exact K.2.2.1 (b,o) (List.mem_of_getElem? h)
theorem Nd.Sb{E H:LH}{b:Nat}{o:Obj}:∀{B:List (Nat×Obj)} {i:Nat},Nd E H B→B[i]? =some (b,o)→E b=none
 | [],_,_,h=>by simp at h
 | (c,u)::B,0,K,h=>by simp at h;obtain⟨rfl,rfl⟩:=h;exact K.1
 | (c,u)::B,i+1,K,h=>by simp at h;exact Nd.Sb K.2.2.2 h
theorem OQ{E H:LH}{B:List (Nat×Obj)}{i b:Nat}{o:Obj}(K:Nd E H B)(h:B[i]? =some (b,o)):(mk E H B).get b=some o:=by
 unfold St.get mk;simp only [K.Sb h,Iz K h]
theorem Ur{E H:LH}{B:List (Nat×Obj)}{b:Nat}{o:Obj}(h:E b=some o):(mk E H B).get b=some o:=by
 unfold St.get mk;simp only [h]
theorem R5{E H:LH}{B:List (Nat×Obj)}{i b off:Nat}{c:AD}{e:TypeId}{f:Nat×Nat}{v:Value}(K:Nd E H B)(h:B[i]? =some (b,.cells c e f))(O:c[off]? =some v):(mk E H B).cell? ⟨b,off,none⟩=some v:=by
 unfold St.cell?;rw [OQ K h];exact O
theorem Vv{E H:LH}{B:List (Nat×Obj)}{b off:Nat}{c:AD}{e:TypeId}{f:Nat×Nat}{v:Value}(h:E b=some (.cells c e f))(K:c[off]? =some v):(mk E H B).cell? ⟨b,off,none⟩=some v:=by
 unfold St.cell?;rw [Ur h];exact K
section
variable {P:Program}{J:Judge P}{Q:Gs_}{b:Frame}{n:Nat}{L L':Env}{ds:Ld_}{k:Li_}{cs:Lf_}{E H:LH}{B B':List (Nat×Obj)}
theorem I2{r:Nat}(O:(mk E H B).E r=none)(U:(mk E H B).H r=none)(o:Obj)(V:Nd E H B):Nd E H (B++ [(r,o)])∧(mk E H B).upd r o=mk E H (B++ [(r,o)]):=by
 obtain⟨Y,K⟩:=G0 U;refine⟨Nd.append O Y K V,?_⟩;unfold St.upd mk;congr 1;funext x;exact(Qr K).symm
theorem Zi{i bk:Nat}{o o':Obj}(K:Nd E H B)(h:B[i]? =some (bk,o)):(mk E H B).upd bk o'=mk E H (B.set i (bk,o')):=by
 unfold St.upd mk;congr 1;exact(QQ K h).symm
theorem JL.drop(B':List (Nat×Obj))(h:∀p∈B',∃i:Nat,B[i]? =some p)(U:Nd E H B)(k':JL J Q b n L ds k cs (mk E H B')):JL J Q b n L ds k cs (mk E H B):=
 JL.ghost (s':=mk E H B') ⟨fun _ _ h=>h,fun x o O=>by
  show Bl B H x=some o
  have key:∀{B':List (Nat×Obj)},(∀p∈B',∃i:Nat,B[i]? =some p)→Bl B' H x=some o→Bl B H x=some o:=by
   intro B'
   induction B' with
   | nil=>
    intro _ O
    have al:∀p∈B,p.1≠x:=by
     intro p K e
     have:∀{B:List (Nat×Obj)},Nd E H B→p∈B→H p.1=none:=by
      intro B U K
      induction B with
      | nil=>simp at K
      | cons q B V=>
       rcases List.mem_cons.1 K with rfl | K
       ·exact U.2.1
       ·exact V U.2.2.2 K
     have Z:=this U K
     rw [e] at Z
     have ag:H x=some o:=O
     rw [Z] at ag;cases ag
    have:∀{B:List (Nat×Obj)},(∀p∈B,p.1≠x)→Bl B H x=H x:=by
     intro B Y
     induction B with
     | nil=>rfl
     | cons q B V=>
      have am:x≠q.1:=fun e=>Y q (by simp) e.symm
      obtain⟨c,u⟩:=q
      simp only [Bl,if_neg am]
      exact V fun p K=>Y p (List.mem_cons_of_mem _ K)
    rw [this al];exact O
   | cons q B' V=>
    intro Y O
    obtain⟨c,u⟩:=q
    simp only [Bl] at O
    split at O
    ·rename_i e;subst e;cases O
     obtain⟨i,hi⟩:=Y (x,o) (by simp)
     exact Iz U hi
    ·exact V (fun p K=>Y p (List.mem_cons_of_mem _ K)) O
  exact key h O,fun _ _ h=> .inl h,rfl⟩ k'
theorem ON{x:Nat}:∀{B:List (Nat×Obj)} {i:Nat} {bk:Nat} {o u:Obj},Nd E H B→B[i]? =some (bk,o)→Bl (B.eraseIdx i) H x=some u→x≠bk∧Bl B H x=some u
 | [],_,_,_,_,_,h,_=>by simp at h
 | (c,v)::B,0,bk,o,u,O,h,K=>by
  simp at h;obtain⟨rfl,rfl⟩:=h
  simp only [List.eraseIdx_cons_zero] at K
  have U:x≠c:=by
   intro e;subst e;rw [QC O.2.1 O.2.2.1] at K;cases K
  exact⟨U,by simp only [Bl,if_neg U];exact K⟩
 | (c,v)::B,i+1,bk,o,u,O,h,K=>by
  simp at h;simp only [List.eraseIdx_cons_succ,Bl] at K ⊢;split at K
  ·rename_i e;subst e;rw [if_pos rfl];exact⟨fun e=>O.2.2.1 (bk,o) (List.mem_of_getElem? h) e.symm,K⟩
  ·rename_i e;rw [if_neg e];exact ON O.2.2.2 h K
theorem JL.freeze(i:Nat){bk:Nat}{o:Obj}(K:Nd E H B)(h:B[i]? =some (bk,o))
  (k':∀E',Le E E'→E' bk=some o→Nd E' H (B.eraseIdx i)→JL J Q b n L ds k cs (mk E' H (B.eraseIdx i))):JL J Q b n L ds k cs (mk E H B):=by
 have ap:=List.mem_of_getElem? h;have av:E bk=none∧H bk=none:=by
  have:∀{B:List (Nat×Obj)},Nd E H B→(bk,o)∈B→E bk=none∧H bk=none:=by
   intro B K O
   induction B with
   | nil=>simp at O
   | cons q B V=>
    rcases List.mem_cons.1 O with rfl | O
    ·exact⟨K.1,K.2.1⟩
    ·exact V K.2.2.2 O
  exact this K ap
 let E':LH:=fun x=>if x=bk then some o else E x
 have ag:E' bk=some o:=by simp [E']
 have hle:Le E E':=fun x u U=>by
  have:x≠bk:=fun e=>by subst e;rw [av.1] at U;cases U
  simp [E',this,U]
 have a0:Nd E' H (B.eraseIdx i):=by
  have:∀{B:List (Nat×Obj)} {i:Nat},Nd E H B→B[i]? =some (bk,o)→Nd E' H (B.eraseIdx i)∧∀p∈B.eraseIdx i,p.1≠bk:=by
   intro B
   induction B with
   | nil=>intro i _ h;simp at h
   | cons q B V=>
    obtain⟨c,v⟩:=q;intro i K h;have up:∀{B:List (Nat×Obj)},Nd E H B→(∀p∈B,p.1≠bk)→Nd E' H B:=by
     intro B K al
     induction B with
     | nil=>trivial
     | cons q B a1=>exact⟨by simpa [E',al q (by simp)] using K.1,K.2.1,K.2.2.1,a1 K.2.2.2 fun p O=>al p (List.mem_cons_of_mem _ O)⟩
    cases i with
    | zero=>
     simp at h;obtain⟨rfl,rfl⟩:=h;exact⟨up K.2.2.2 K.2.2.1,K.2.2.1⟩
    | succ i=>
     simp at h;obtain⟨Y,Z⟩:=V K.2.2.2 h;have am:c≠bk:=fun e=>K.2.2.1 (bk,o) (List.mem_of_getElem? h) e.symm;refine⟨⟨by simpa [E',am] using K.1,K.2.1,fun p O=>K.2.2.1 p (List.mem_of_mem_eraseIdx O),Y⟩,fun p O=>?_⟩;rcases List.mem_cons.1 O with rfl | O
     ·exact am
     ·exact Z p O
  exact(this K h).1
 refine JL.ghost (s':=mk E' H (B.eraseIdx i)) ⟨fun x u U=>hle x u U,fun x u U=>(ON K h U).2,fun x u U=>?_,rfl⟩ (k' E' hle ag a0);by_cases e:x=bk
 ·subst e;right;have:u=o:=by have:E' x=some u:=U;rw [ag] at this;exact(Option.some.inj this).symm
  subst this;refine⟨Iz K h,?_⟩;cases a2:(mk E' H (B.eraseIdx i)).H x with
  | none=>rfl
  | some y=>exact absurd rfl (ON K h a2).1
 ·left;have Y:E' x=some u:=U;have Z:E' x=E x:=by simp [E',e]
  show E x=some u;rw [← Z];exact Y
def Fn(P:Program)(f:FuncId)(args:AD)(s:St)(R:Value→St→Prop):Prop:=
 ∀(J:Judge P) (Q:Gs_) (c:Frame) (cs:Lf_),(∀v s',R v s'→J.ok Q (G (c.finish v) cs) s')→J.ok Q (G (Frame.enter P f args .normal) (c::cs)) s
def D3(P:Program)(f:FuncId):Bool:=match P.funcs[f]? with | some fn=> !(fn.name== "runtime.NumGoroutine")&&fn.body.isSome | none=>false
def evs(L:Env):List Operand→Option (Lv_)
 | []=>some []
 | x::xs=>match ev L x,evs L xs with | some v,some vs=>some (v::vs) | _,_=>none
theorem F4{L:Env}{ρ:Operand→Value}(h:EL L ρ):∀{xs:List Operand} {vs:Lv_},evs L xs=some vs→xs.map ρ=vs
 | [],vs,e=>by simp [evs] at e;subst e;rfl
 | x::xs,vs,e=>by
  simp only [evs] at e
  split at e
  ·rename_i v ws K O
   cases e;rw [List.map_cons,h x v K,F4 h O]
  ·cases e
theorem Jy{f:FuncId}{args:AD}{s:St}{Q:Next→St→Prop}{X:Halt→St→Prop}(K:D3 P f=true)(h:Q (.enter f args) s):lp P (callFunc f args) s Q X:=by
 unfold D3 at K;unfold callFunc;simp only [bind,Sem.bind,program,lp];cases O:P.funcs[f]? with
 | none=>rw [O] at K;cases K
 | some fn=>
  rw [O] at K;simp only [Bool.and_eq_true,Bool.not_eq_true'] at K;have hb:fn.body.isNone=false:=by cases U:fn.body <;> simp_all
  simp only [K.1,hb,Bool.false_eq_true,if_false];exact h
def Cm(P:Program)(f:FuncId)(L:Env)(n:Nat)(s:St)(v:Value):Prop:=∃fn,P.funcs[f]? =some fn∧∀T,Has n L T→lp P (results fn T) s (fun u s'=>u=v∧s'=s) (fun _ _=>False)
theorem Judge.leave{T:AD}{todo:Li_}{c:Frame}{s:St}{v:Value}{fn:Func}(V:b.kind= .normal)(Y:P.funcs[b.fn]? =some fn)(U:lp P (results fn T) s (fun u s'=>u=v∧s'=s) (fun _ _=>False))
  (h:J.ok Q (G (c.finish v) cs) s):J.ok Q (G (EC b T [] todo) (c::cs)) s:=by
 refine J.step ⟨rfl,fun w f=>?_,fun e=>?_⟩
 rotate_left
 ·subst e;obtain⟨es,he,am,U⟩:=O0 _ U;have ap:seen P b.fn es= #[]:=OF am;rcases U with⟨u,⟨rfl,_⟩,O⟩ | ⟨x,K,_⟩
  ·exact⟨_,fun w=>by simp [G,stepG,unwind,EC,Y,O,doReturn,V,GStep.after,he,ap],h⟩
  ·exact K.elim
 obtain⟨s',Z,ag,al,K⟩:=MK _ U f;cases O:(results fn T).run P w with
 | halt x w'=>rw [O] at K;exact K.elim
 | ok u w'=>
  rw [O] at Z ag al K;obtain⟨rfl,rfl⟩:=K;exact⟨_,s',w',seen P b.fn ((results fn T).events P w #[])++ #[],by simp [G,stepG,unwind,EC,Y,O,doReturn,V,GStep.after],h,Z,ag,by simp only [Array.append_empty];exact Pb al⟩
theorem JL.ret{s:St}{c:Frame}{v:Value}(O:b.kind= .normal)(U:b.roundOf=none)(K:Cm P b.fn L n s v)(h:J.ok Q (G (c.finish v) cs) s):JL J Q b n L [] (.code .ret::k) (c::cs) s:=fun T V=>by
 obtain⟨fn,Y,K⟩:=K
 refine Judge.Dt (g':=G (EC b T [] (.code .ret::k)) (c::cs)) rfl (fun w=>by simp [G,stepG,stepG.exec,fr,EC,U]) ?_
 exact Judge.leave O Y (K T V) h
theorem JL.fin{s:St}{c:Frame}{v:Value}(O:b.kind= .normal)(U:b.roundOf=none)(K:Cm P b.fn L n s v)(h:J.ok Q (G (c.finish v) cs) s):JL J Q b n L [] [] (c::cs) s:=fun T V=>by
 obtain⟨fn,Y,K⟩:=K
 refine Judge.Dt (g':=G (EC b T [] []) (c::cs)) rfl (fun w=>by simp [G,stepG,stepG.exec,fr,EC,U]) ?_
 exact Judge.leave O Y (K T V) h
theorem Cm.one{f:FuncId}{fn:Func}{s:St}{t:Tmp}{v:Value}(K:P.funcs[f]? =some fn)(O:fn.results= #[.tmp t])(h:look L t=some v):Cm P f L n s v:=
 ⟨fn,K,fun T U=>by
  have e:results fn T=Sem.pure v:=by
   have:=U.at_ t v h
   simp only [results,O,Array.mapM_eq_mapM_toList]
   show Sem.pure (T.getD t undef)=_
   rw [this]
  rw [e];exact⟨rfl,rfl⟩⟩
theorem Cm.none{f:FuncId}{fn:Func}{s:St}(K:P.funcs[f]? =some fn)(O:fn.results= #[]):Cm P f L n s (.tuple #[]):=
 ⟨fn,K,fun T U=>by
  have e:results fn T=Sem.pure (.tuple #[]):=by
   simp only [results,O,Array.mapM_eq_mapM_toList]
   rfl
  rw [e];exact⟨rfl,rfl⟩⟩
def FR:Nat→Lv_→Env
 | _,[]=> []
 | i,v::vs=>(i,v)::FR (i+1) vs
theorem JC{i:Nat}{vs:Lv_}{t:Nat}{v:Value}(h:look (FR i vs) t=some v):i≤t∧vs[t - i]? =some v:=by
 induction vs generalizing i with
 | nil=>simp [FR,look] at h
 | cons u vs K=>
  simp only [FR,look] at h;split at h
  ·rename_i e;subst e;cases h;simp
  ·rename_i U;obtain⟨V,O⟩:=K h;refine⟨by omega,?_⟩;have:t - i=(t - (i+1))+1:=by omega
   rw [this];simpa using O
end
end Pal
namespace Pal
open Go Go.Conc
def BD(P:Program)(t:TypeId):Option Nat:=(P.info? t).map (·.size)
def Dk(P:Program)(t:TypeId):Option Bool:=match P.underlying t with | some (.struct _)=>some true | some (.array _ _)=>some true | some _=>some false | none=>none
def zeroOf(P:Program)(t:TypeId):Option Value:=(P.info? t).bind (·.zero)
section
variable {P:Program}{s:St}{t:TypeId}
theorem EX{K:Nat}{Q:Nat→St→Prop}{X:Halt→St→Prop}(h:BD P t=some K)(k:Q K s):lp P (Go.sizeOf t) s Q X:=by
 unfold BD at h;simp only [Go.sizeOf,typeInfo,bind,Sem.bind,program,lp];cases hi:P.info? t with
 | none=>rw [hi] at h;cases h
 | some i=>rw [hi] at h;simp at h;subst h;exact k
theorem Gk{z:Value}{Q:Value→St→Prop}{X:Halt→St→Prop}(h:zeroOf P t=some z)(k:Q z s):lp P (zeroValue t) s Q X:=by
 unfold zeroOf at h;simp only [zeroValue,typeInfo,bind,Sem.bind,program,lp];cases hi:P.info? t with
 | none=>rw [hi] at h;cases h
 | some i=>
  rw [hi] at h;simp at h;show lp P (match i.zero with | some v=>pure v | none=>unsupported _) s Q X
  rw [h];exact k
theorem KV{c:Bool}{Q:Bool→St→Prop}{X:Halt→St→Prop}(h:Dk P t=some c)(k:Q c s):lp P (isAgg t) s Q X:=by
 unfold Dk at h;simp only [isAgg,underlying,bind,Sem.bind,program,lp];cases hu:P.underlying t with
 | none=>rw [hu] at h;cases h
 | some u=>
  rw [hu] at h;cases u <;> simp at h <;> subst h <;> exact k
theorem Dm{u:TypeDesc}{Q:TypeDesc→St→Prop}{X:Halt→St→Prop}(h:P.underlying t=some u)(k:Q u s):lp P (underlying t) s Q X:=by
 simp only [underlying,bind,Sem.bind,program,lp,h];exact k
theorem SL{a:Addr}{v:Value}{Q:Value→St→Prop}{X:Halt→St→Prop}(h:s.cell? a=some v)(k:Q v s):lp P (load a) s Q X:=⟨rfl,v,h,k⟩
theorem Qo{a:Addr}{Q:AD→St→Prop}{X:Halt→St→Prop}:∀(vs:Lv_) (i:Nat) (acc:AD),(∀j v,vs[j]? =some v→s.cell? (a.add (i+j))=some v)→Q (acc++vs.toArray) s→lp P (loadCellsFrom a i vs.length acc) s Q X
 | [],i,acc,_,k=>by simpa [loadCellsFrom,lp,pure] using k
 | v::vs,i,acc,h,k=>by
  simp only [List.length_cons,loadCellsFrom]
  refine AH _ _ (SL (h 0 v rfl) ?_)
  refine Qo vs (i+1) (acc.push v) (fun j u K=>?_) (by simpa using k)
  have:=h (j+1) u (by simpa using K)
  rwa [show i+1+j=i+(j+1) from by omega]
theorem Qs{a:Addr}{vs:Lv_}{m:Nat}{Q:AD→St→Prop}{X:Halt→St→Prop}(hm:m=vs.length)(h:∀j v,vs[j]? =some v→s.cell? (a.add j)=some v)(k:Q vs.toArray s):lp P (loadCells a m) s Q X:=by
 subst hm;exact Qo vs 0 #[] (fun j v K=>by simpa using h j v K) (by simpa using k)
theorem Uz{a:Addr}{v:Value}{Q:Value→St→Prop}{X:Halt→St→Prop}(ht:Dk P t=some false)(h:s.cell? a=some v)(k:Q v s):lp P (loadVar t a) s Q X:=by
 unfold loadVar;refine AH _ _ (KV ht ?_);exact SL h k
theorem QB{a:Addr}{vs:Lv_}{Q:Value→St→Prop}{X:Halt→St→Prop}(ht:Dk P t=some true)(K:BD P t=some vs.length)(h:∀j v,vs[j]? =some v→s.cell? (a.add j)=some v)(k:Q (.agg vs.toArray) s):lp P (loadVar t a) s Q X:=by
 unfold loadVar;refine AH _ _ (KV ht ?_);show lp P (do let r ← loadCells a (← Go.sizeOf t);pure (Value.agg r)) s Q X
 refine AH (x:=Go.sizeOf t) _ (EX K ?_);refine AH _ _ (Qs rfl h ?_);exact k
end
section
variable {P:Program}{ρ:Operand→Value}{s:St}{x y z:Operand}{d:Option Tmp}{t u ty e:TypeId}{p:String}{af:Ae_}{g:On_}{v:Value}{kd kd':IntKind}{m m':Int}
theorem Fz{o:Oper}{sm:Sem Value}(K:execOp ρ o=(do pure (Next.value (← sm))))(h:lp P sm s (fun r s'=>r=v∧s'=s) (fun _ _=>False)):Yl P o ρ s v:=by
 unfold Yl;rw [K];exact AH _ _ (Dz _ h (fun r s' ⟨O,U⟩=>⟨by rw [O],U⟩) (fun _ _ h=>h))
theorem Yl.load{a:Addr}(ht:Dk P t=some false)(K:ρ x= .pointer (some a))(h:s.cell? a=some v):Yl P ⟨d,.load t x,ty,p,af,g⟩ ρ s v:=
 Fz (sm:=Instr.loadAt t (ρ x)) rfl (by rw [K];exact Uz ht h ⟨rfl,rfl⟩)
theorem F5{a:Addr}{vs:Lv_}(ht:Dk P t=some true)(K:BD P t=some vs.length)(O:ρ x= .pointer (some a))(h:∀j v,vs[j]? =some v→s.cell? (a.add j)=some v):Yl P ⟨d,.load t x,ty,p,af,g⟩ ρ s (.agg vs.toArray):=
 Fz (sm:=Instr.loadAt t (ρ x)) rfl (by rw [O];exact QB ht K h ⟨rfl,rfl⟩)
theorem Yl.fieldAddr{a:Addr}{K:Array Field}{i:Nat}{fl:Field}{O:Nat}(ht:P.underlying t=some (.struct K))(hi:K[i]? =some fl)(U:BD P fl.type=some (O+1))(V:ρ x= .pointer (some a)):
  Yl P ⟨d,.fieldAddr t x i,ty,p,af,g⟩ ρ s (.pointer (some (a.add fl.offset))):=
 Fz (sm:=Instr.fieldAt t (ρ x) i) rfl (by
  rw [V];unfold Instr.fieldAt
  refine AH _ _ (Dm ht ?_)
  simp only [hi,Instr.sureAddr,bind,Sem.bind,pure]
  refine AH (x:=fieldPlace a fl) _ ?_
  unfold fieldPlace
  refine AH _ _ (EX U ?_)
  simp only [Nat.add_eq_zero_iff,Nat.succ_ne_self,and_false,if_false,lp,pure]
  exact⟨trivial,trivial⟩)
theorem MB{a:Addr}{l c K:Nat}(ht:P.underlying t=some (.slice e))(O:BD P e=some K)(U:ρ x= .slice (some a) l c)(V:ρ y= .int kd m)(h:0≤m∧m<l):
  Yl P ⟨d,.indexAddr t x y,ty,p,af,g⟩ ρ s (.pointer (some (a.add (m.toNat*K)))):=
 Fz (sm:=Instr.indexAt t (ρ x) (ρ y)) rfl (by
  rw [U,V];unfold Instr.indexAt
  simp only [asIntOf,bind,Sem.bind,pure]
  refine AH (x:=underlying t) _ (Dm ht ?_)
  simp only [Sem.bind]
  refine AH (x:=underlying t) _ (Dm ht ?_)
  simp only [Sem.bind,h,and_self,if_true]
  refine AH (x:=Go.sizeOf e) _ (EX O ?_)
  exact⟨rfl,rfl⟩)
theorem QV{a:Addr}{l K:Nat}(ht:P.underlying t=some (.array l e))(O:BD P e=some K)(U:ρ x= .pointer (some a))(V:ρ y= .int kd m)(h:0≤m∧m<l):
  Yl P ⟨d,.indexAddr t x y,ty,p,af,g⟩ ρ s (.pointer (some (a.add (m.toNat*K)))):=
 Fz (sm:=Instr.indexAt t (ρ x) (ρ y)) rfl (by
  rw [U,V];unfold Instr.indexAt
  simp only [asIntOf,bind,Sem.bind,pure]
  refine AH (x:=underlying t) _ (Dm ht ?_)
  simp only [Sem.bind,Instr.sureAddr,pure]
  refine AH (x:=underlying t) _ (Dm ht ?_)
  simp only [Sem.bind,h,and_self,if_true]
  refine AH (x:=Go.sizeOf e) _ (EX O ?_)
  exact⟨rfl,rfl⟩)
end
section
variable {P:Program}{J:Judge P}{Q:Gs_}{b:Frame}{n:Nat}{L L':Env}{ds:Ld_}{k:Li_}{cs:Lf_}{E H:LH}{B B':List (Nat×Obj)}
variable {ops:Ao_}{i:Nat}{rest:List Nat}{d:Option Tmp}{x y:Operand}{t u ty e:TypeId}{p:String}{af:Ae_}{g:On_}{v:Value}
theorem G1{cells:AD}{Q:Addr→St→Prop}{X:Halt→St→Prop}(K:Nd E H B)(k:∀r,Nd E H (B++ [(r,.cells cells e (0,0))])→Q ⟨r,0,none⟩ (mk E H (B++ [(r,.cells cells e (0,0))]))):lp P (newRow e cells) (mk E H B) Q X:=by
 simp only [newRow,newObj,bind,Sem.bind,lp,pure];refine⟨rfl,fun r O U=>?_⟩;obtain⟨V,Y⟩:=I2 O U (.cells cells e (0,0)) K;rw [Y];exact k r V
theorem JL.alloc{z:Value}(K:ops[i]? =some ⟨d,.alloc e,ty,p,af,g⟩)(hw:Bf L ops ⟨d,.alloc e,ty,p,af,g⟩=some true)(O:CS b n ⟨d,.alloc e,ty,p,af,g⟩=true)(U:Nd E H B)(V:zeroOf P e=some z)
  (h:∀r,Nd E H (B++ [(r,.cells z.cells e (0,0))])→JL J Q b n (AI L d (.pointer (some ⟨r,0,none⟩))) ds (.inRegion ops rest::k) cs (mk E H (B++ [(r,.cells z.cells e (0,0))]))):
  JL J Q b n L ds (.inRegion ops (i::rest)::k) cs (mk E H B):=
 JL.op K hw O fun ρ _=>by
  show lp P (do pure (Next.value (← Instr.alloc e true (.tuple #[])))) _ _ _
  refine AH _ _ ?_
  unfold Instr.alloc
  refine AH _ _ (Gk V ?_)
  refine AH _ _ (G1 U fun r Y=>?_)
  exact h r Y
theorem JL.box(K:ops[i]? =some ⟨d,.box e x,ty,p,af,g⟩)(hw:Bf L ops ⟨d,.box e x,ty,p,af,g⟩=some true)(O:CS b n ⟨d,.box e x,ty,p,af,g⟩=true)(U:Nd E H B)(V:ev L x=some v)
  (h:∀r,Nd E H (B++ [(r,.cells v.cells e (0,0))])→JL J Q b n (AI L d (.pointer (some ⟨r,0,none⟩))) ds (.inRegion ops rest::k) cs (mk E H (B++ [(r,.cells v.cells e (0,0))]))):
  JL J Q b n L ds (.inRegion ops (i::rest)::k) cs (mk E H B):=
 JL.op K hw O fun ρ Y=>by
  show lp P (do pure (Next.value (← Instr.box e (ρ x)))) _ _ _
  rw [Y x v V]
  refine AH _ _ ?_
  unfold Instr.box
  refine AH _ _ (G1 U fun r Z=>?_)
  exact h r Z
def A2(c:AD)(off:Nat):Lv_→AD
 | []=>c
 | v::vs=>A2 (c.setIfInBounds off v) (off+1) vs
theorem Mt(c:AD)(off:Nat)(vs:Lv_):(A2 c off vs).size=c.size:=by
 induction vs generalizing c off with
 | nil=>rfl
 | cons v vs K=>simp [A2,K]
theorem OD{bk:Nat}{Q:Unit→St→Prop}{X:Halt→St→Prop}{pl off:Nat}{sp:Option Nat}:∀(vs:Lv_) (j:Nat) (c:AD) (B:List (Nat×Obj)),(∀v∈vs,CY v=true)→Nd E H B→B[pl]? =some (bk,.cells c e (0,0))→off+j+vs.length≤c.size→(sp=none∨0<j)→
  (∀B',B'=B.set pl (bk,.cells (A2 c (off+j) vs) e (0,0))→Nd E H B'→Q () (mk E H B'))→lp P (storeCells ⟨bk,off,sp⟩ vs j) (mk E H B) Q X
 | [],j,c,B,_,O,K,_,_,k=>by
  simp only [storeCells,lp,pure]
  refine k B ?_ O
  simp only [A2]
  exact(List.ext_getElem? fun i=>by
   by_cases hi:pl=i
   ·subst hi
    obtain⟨Y,Z⟩:=List.getElem?_eq_some_iff.1 K
    simp [Y,Z]
   ·simp [hi])
 | v::vs,j,c,B,U,O,K,hle,V,k=>by
  simp only [storeCells,List.length_cons] at*
  have ag:off+j<c.size:=by omega
  have al:(Addr.add ⟨bk,off,sp⟩ j)=⟨bk,off+j,none⟩:=by
   unfold Addr.add;split
   ·rename_i am;subst am;rcases V with rfl | V
    ·rfl
    ·omega
   ·rfl
  have ap:(cellAt (.cells c e (0,0)) ⟨bk,off+j,none⟩).isSome=true:=by simp [cellAt,ag]
  refine AH (x:=store (Addr.add ⟨bk,off,sp⟩ j) v) _ ?_;rw [al];refine⟨rfl,U v (by simp),_,Iz O K,ap,by simp [frozenAt],?_⟩;simp only [lp];have av:Jf (.cells c e (0,0)) ⟨bk,off+j,none⟩ v= .cells (c.setIfInBounds (off+j) v) e (0,0):=by simp [Jf]
  rw [av,Zi O K];have a0:(B.set pl (bk,.cells (c.setIfInBounds (off+j) v) e (0,0)))[pl]? =some (bk,.cells (c.setIfInBounds (off+j) v) e (0,0)):=by
   have:pl<B.length:=(List.getElem?_eq_some_iff.1 K).1;simp [this]
  refine OD vs (j+1) _ _ (fun u hu=>U u (List.mem_cons_of_mem _ hu)) (O.set K) a0 (by simp;omega) (.inr (by omega)) fun a1 a2 a3=>k a1 ?_ a3;rw [a2,List.set_set];simp only [A2]
  rfl
theorem OH{bk off pl:Nat}{c:AD}{Q:Unit→St→Prop}{X:Halt→St→Prop}(K:BD P t=some v.cells.size)(O:∀u∈v.cells.toList,CY u=true)(U:Nd E H B)(V:B[pl]? =some (bk,.cells c e (0,0)))(hle:off+v.cells.size≤c.size)
  (k:Nd E H (B.set pl (bk,.cells (A2 c off v.cells.toList) e (0,0)))→Q () (mk E H (B.set pl (bk,.cells (A2 c off v.cells.toList) e (0,0))))):lp P (storeVar t ⟨bk,off,none⟩ v) (mk E H B) Q X:=by
 unfold storeVar;refine AH _ _ (EX K ?_);simp only [ne_eq,not_true_eq_false,if_false];refine OD v.cells.toList 0 c B O U V (by simpa using hle) (.inl rfl) fun B' e Y=>?_;subst e;exact k Y
theorem JL.store{bk off:Nat}{c:AD}(pl:Nat)(O:ops[i]? =some ⟨d,.store t x y,ty,p,af,g⟩)(hw:Bf L ops ⟨d,.store t x y,ty,p,af,g⟩=some true)(U:CS b n ⟨d,.store t x y,ty,p,af,g⟩=true)(V:Nd E H B)
  (Y:ev L x=some (.pointer (some ⟨bk,off,none⟩))) (Z:ev L y=some v) (ag:BD P t=some v.cells.size) (al:∀u∈v.cells.toList,CY u=true) (am:B[pl]? =some (bk,.cells c e (0,0))) (hle:off+v.cells.size≤c.size)
  (h:Nd E H (B.set pl (bk,.cells (A2 c off v.cells.toList) e (0,0)))→JL J Q b n (AI L d undef) ds (.inRegion ops rest::k) cs (mk E H (B.set pl (bk,.cells (A2 c off v.cells.toList) e (0,0))))):
  JL J Q b n L ds (.inRegion ops (i::rest)::k) cs (mk E H B):=
 JL.op O hw U fun ρ K=>by
  show lp P (do Instr.storeAt t (ρ x) (ρ y);pure Next.skip) _ _ _
  rw [K x _ Y,K y _ Z]
  refine AH _ _ ?_
  unfold Instr.storeAt
  simp only [Instr.sureAddr,bind,Sem.bind,pure]
  exact OH ag al V am hle fun ap=>h ap
end
end Pal
namespace Pal
open Go Go.Conc
def EE(P:Program)(t:TypeId):Option Nat:=(P.info? t).map (·.bytes)
section
variable {P:Program}{J:Judge P}{Q:Gs_}{b:Frame}{n:Nat}{L L':Env}{ds:Ld_}{k:Li_}{cs:Lf_}{E H:LH}{B B':List (Nat×Obj)}{s:St}
variable {ops:Ao_}{i:Nat}{rest:List Nat}{d:Option Tmp}{x y:Operand}{t u ty e:TypeId}{p:String}{af:Ae_}{g:On_}{v:Value}
theorem Ir{inf:TypeInfo}{Q:TypeInfo→St→Prop}{X:Halt→St→Prop}(h:P.info? t=some inf)(k:Q inf s):lp P (typeInfo t) s Q X:=by
 simp only [typeInfo,bind,Sem.bind,program,lp,h];exact k
theorem MA{K:Nat}(h:EE P t=some K):∃inf,P.info? t=some inf∧inf.bytes=K:=by
 unfold EE at h;cases hi:P.info? t with
 | none=>rw [hi] at h;cases h
 | some i=>rw [hi] at h;simp at h;exact⟨i,rfl,h⟩
theorem HR{β:Type}{z y:Nat}{code:BoundsCode}{f:Nat→Sem β}{K:β→St→Prop}{X:Halt→St→Prop}(V:z≤y)(O:lp P (f z) s K X):lp P (Instr.sliceBound (.int .i64 z) y code>>=f) s K X:=by
 refine AH _ _ ?_;unfold Instr.sliceBound;have U:(0:Int)≤(z:Int)∧(z:Int)≤(y:Int):=⟨by omega,by omega⟩;simp only [asIntOf,bind,Sem.bind,pure];rw [if_pos U];simpa [lp] using O
theorem Hn{α β:Type}(a:α)(f:α→Sem β):((pure a:Sem α)>>=f)=f a:=rfl
theorem bE{l c:Nat}{X:Halt→St→Prop}:lp P (Instr.sliceBounds true l c none none none) s (fun r s'=>r=(0,l,c)∧s'=s) X:=by
 unfold Instr.sliceBounds;exact⟨rfl,rfl⟩
theorem aZ{l c:Nat}{lo:Nat}(K:lo≤l){X:Halt→St→Prop}:lp P (Instr.sliceBounds true l c (some (.int .i64 lo)) none none) s (fun r s'=>r=(lo,l,c)∧s'=s) X:=by
 simp only [Instr.sliceBounds,if_true,Option.isSome_none,Option.isSome_some,Bool.false_eq_true,if_false,Hn];exact HR K ⟨rfl,rfl⟩
theorem aR{l c:Nat}{hi:Nat}(hh:hi≤c){X:Halt→St→Prop}:lp P (Instr.sliceBounds true l c none (some (.int .i64 hi)) none) s (fun r s'=>r=(0,hi,c)∧s'=s) X:=by
 simp only [Instr.sliceBounds,if_true,Option.isSome_none,Option.isSome_some,Bool.false_eq_true,if_false,Hn];exact HR hh ⟨rfl,rfl⟩
theorem bB{l c:Nat}{lo hi:Nat}(hh:hi≤c)(K:lo≤hi){X:Halt→St→Prop}:lp P (Instr.sliceBounds true l c (some (.int .i64 lo)) (some (.int .i64 hi)) none) s (fun r s'=>r=(lo,hi,c)∧s'=s) X:=by
 have e:Instr.sliceBounds true l c (some (.int .i64 lo)) (some (.int .i64 hi)) none=(Instr.sliceBound (.int .i64 hi) c .sliceAcap>>=fun h=>Instr.sliceBound (.int .i64 lo) h .sliceB>>=fun l=>pure (l,h,c)):=by
  simp [Instr.sliceBounds]
 rw [e];exact HR hh (HR K ⟨rfl,rfl⟩)
theorem bF{l c:Nat}{hi mx:Nat}(hm:mx≤c)(hh:hi≤mx){X:Halt→St→Prop}:lp P (Instr.sliceBounds true l c none (some (.int .i64 hi)) (some (.int .i64 mx))) s (fun r s'=>r=(0,hi,mx)∧s'=s) X:=by
 simp only [Instr.sliceBounds,if_true,Option.isSome_none,Option.isSome_some,Bool.false_eq_true,if_false,Hn];exact HR hm (HR hh ⟨rfl,rfl⟩)
theorem bu{l c:Nat}{lo hi mx:Nat}(hm:mx≤c)(hh:hi≤mx)(K:lo≤hi){X:Halt→St→Prop}:lp P (Instr.sliceBounds true l c (some (.int .i64 lo)) (some (.int .i64 hi)) (some (.int .i64 mx))) s (fun r s'=>r=(lo,hi,mx)∧s'=s) X:=by
 simp only [Instr.sliceBounds,if_true,Option.isSome_none,Option.isSome_some,Bool.false_eq_true,if_false,Hn];exact HR hm (HR hh (HR K ⟨rfl,rfl⟩))
theorem VP{l c lo hi mx:Nat}{V Y Z:Option Value}{X:Halt→St→Prop}
  (O:match Z with | some w=>w= .int .i64 mx | none=>mx=c) (K:match Y with | some w=>w= .int .i64 hi | none=>hi=l∧Z=none) (U:match V with | some w=>w= .int .i64 lo | none=>lo=0) (hm:mx≤c) (hh:hi≤mx) (ag:lo≤hi):
  lp P (Instr.sliceBounds true l c V Y Z) s (fun r s'=>r=(lo,hi,mx)∧s'=s) X:=by
 cases Z with
 | none=>
  cases Y with
  | none=>
   cases V with
   | none=>obtain rfl:mx=c:=O;obtain rfl:hi=l:=K.1;obtain rfl:lo=0:=U;exact bE
   | some w=>obtain rfl:mx=c:=O;obtain rfl:hi=l:=K.1;obtain rfl:w= .int .i64 lo:=U;exact aZ ag
  | some w=>
   cases V with
   | none=>obtain rfl:mx=c:=O;obtain rfl:w= .int .i64 hi:=K;obtain rfl:lo=0:=U;exact aR hh
   | some w'=>obtain rfl:mx=c:=O;obtain rfl:w= .int .i64 hi:=K;obtain rfl:w'= .int .i64 lo:=U;exact bB hh ag
 | some w0=>
  cases Y with
  | none=>exact absurd K.2 (fun h=>by cases h)
  | some w=>
   cases V with
   | none=>obtain rfl:w0= .int .i64 mx:=O;obtain rfl:w= .int .i64 hi:=K;obtain rfl:lo=0:=U;exact bF hm hh
   | some w'=>obtain rfl:w0= .int .i64 mx:=O;obtain rfl:w= .int .i64 hi:=K;obtain rfl:w'= .int .i64 lo:=U;exact bu hm hh ag
theorem WN{a:Option Addr}{l c O lo hi mx:Nat}{U V K:Option Value}{Q:Value→St→Prop}{X:Halt→St→Prop}(ht:P.underlying t=some (.slice e))(Y:BD P e=some O)
  (Z:match K with | some w=>w= .int .i64 mx | none=>mx=c) (ag:match V with | some w=>w= .int .i64 hi | none=>hi=l∧K=none) (al:match U with | some w=>w= .int .i64 lo | none=>lo=0) (hm:mx≤c) (hh:hi≤mx) (am:lo≤hi)
  (k:Q (.slice (if mx=lo then a else a.map (·.add (lo*O))) (hi - lo) (mx - lo)) s):lp P (Instr.slice t (.slice a l c) U V K) s Q X:=by
 unfold Instr.slice;refine AH _ _ (Dm ht ?_);have hb:=VP (P:=P) (s:=s) (X:=X) Z ag al hm hh am;refine AH _ _ (Dz _ hb ?_ (fun _ _ h=>h));rintro r s' ⟨rfl,rfl⟩;exact AH _ _ (EX Y k)
theorem Yl.slice{ρ:Operand→Value}{a:Option Addr}{l c O lo hi mx:Nat}{olo ohi omx:Option Operand}(ht:P.underlying t=some (.slice e))(U:BD P e=some O)(V:ρ x= .slice a l c)
  (Y:match omx with | some w=>ρ w= .int .i64 mx | none=>mx=c) (K:match ohi with | some w=>ρ w= .int .i64 hi | none=>hi=l∧omx=none) (Z:match olo with | some w=>ρ w= .int .i64 lo | none=>lo=0) (hm:mx≤c) (hh:hi≤mx) (ag:lo≤hi):
  Yl P ⟨d,.slice t x olo ohi omx,ty,p,af,g⟩ ρ s (.slice (if mx=lo then a else a.map (·.add (lo*O))) (hi - lo) (mx - lo)):=
 Fz (sm:=Instr.sliceAt t (ρ x) (olo.map ρ) (ohi.map ρ) (omx.map ρ)) rfl (by
  rw [V];unfold Instr.sliceAt
  refine AH _ _ (Dm ht ?_)
  refine WN ht U (mx:=mx) (hi:=hi) (lo:=lo) ?_ ?_ ?_ hm hh ag ⟨rfl,rfl⟩
  ·cases omx <;> exact Y
  ·cases ohi with
   | none=>exact⟨K.1,by rw [K.2];rfl⟩
   | some w=>exact K
  ·cases olo <;> exact Z)
def GK(s:St)(v:Value)(K:Nat)(xs:Lv_):Prop:=
 match v with
 | .slice (some a) l c=>(a.spot=none∨l=0)∧xs.length=l*K∧l≤c∧∀j w,xs[j]? =some w→s.cell? ⟨a.block,a.off+j,none⟩=some w
 | .slice none l _=>l=0∧xs= []
 | _=>False
theorem Dp{a:Addr}(h:a.spot=none)(j:Nat):a.add j=⟨a.block,a.off+j,none⟩:=by
 unfold Addr.add;obtain⟨b,o,sp⟩:=a;simp only at h;subst h;split
 ·rename_i e;subst e;rfl
 ·rfl
theorem Jx{V l:Nat}{xs:Lv_}{Q:AD→St→Prop}{X:Halt→St→Prop}(Y:∃a c,v= .slice a l c)(h:GK s v V xs)(k:Q xs.toArray s):lp P (Builtin.firstCells V l v) s Q X:=by
 obtain⟨a,c,rfl⟩:=Y;cases a with
 | none=>
  obtain⟨K,rfl⟩:=h;exact k
 | some a=>
  obtain⟨K,O,ag,Z⟩:=h;refine Qs O.symm (fun j w U=>?_) k;rcases K with K | K
  ·rw [Dp K];exact Z j w U
  ·rw [K,Nat.zero_mul] at O;rw [List.eq_nil_of_length_eq_zero O] at U;cases U
theorem Vz(nl:Nat):∀(r c:Nat),Builtin.growBy nl r c≤max c (2*nl+768):=by
 intro r
 induction r with
 | zero=>intro c;simp [Builtin.growBy];omega
 | succ r K=>
  intro c;simp only [Builtin.growBy];split
  ·omega
  ·rename_i h;have:=K (c+(c+768) / 4);omega
theorem QI{need old:Nat}(h:old<need):Builtin.nextslicecap need old≤2*need+768:=by
 unfold Builtin.nextslicecap;split
 ·omega
 ·split
  ·omega
  ·have:=Vz need 4 old;omega
theorem Qp(z:AD)(m:Nat):(Builtin.zeroCells z m).size=m*z.size:=by simp [Builtin.zeroCells]
def N2(B:List (Nat×Obj))(pl:Nat)(e:TypeId)(K:Nat)(a:Option Addr)(l c:Nat)(xs:Lv_):Prop:=
 (a=none∧l=0∧c=0∧xs= [])∨∃bk f,a=some ⟨bk,0,none⟩∧B[pl]? =some (bk,.cells f e (0,0))∧f.size=c*K∧l≤c∧xs=f.toList.take (l*K)
theorem Qu(c:AD)(off:Nat)(vs:Lv_)(h:off+vs.length≤c.size):(A2 c off vs).toList.take (off+vs.length)=c.toList.take off++vs:=by
 induction vs generalizing c off with
 | nil=>simp [A2]
 | cons v vs O=>
  simp only [A2,List.length_cons] at*;have:=O (c.setIfInBounds off v) (off+1) (by simp;omega);rw [show off+(vs.length+1)=off+1+vs.length from by omega,this];have K:off<c.toList.length:=by simp;omega
  rw [Array.toList_setIfInBounds,List.take_add_one];have U:(c.toList.set off v)[off]? =some v:=by simp at K;simp [K]
  rw [U];simp [List.take_set_of_le]
theorem OY{ats:Array TypeId}{a:Option Addr}{l c K V m cx:Nat}{ax:Option Addr}{xs ys:Lv_}{z:Value}{Q:Value→St→Prop}{X:Halt→St→Prop}{pl:Nat}
  (bb:ats[0]? =some t) {t1 bd:TypeId} (be:ats[1]? =some t1) (bi:P.underlying t1=some (.slice bd)) (ht:P.underlying t=some (.slice e)) (bo:BD P e=some K) (hb:EE P e=some V) (bv:zeroOf P e=some z) (bw:z.cells.size=K)
  (av:Nd E H B) (hs:N2 B pl e K a l c xs)
  (am:GK (mk E H B) (.slice ax m cx) K ys) (bU:∀w∈ys,CY w=true) (b6:0<V) (b7:l+m≤2 ^ 40) (bV:V≤64)
  (bW:∀bk f O,a=some ⟨bk,0,none⟩→B[pl]? =some (bk,.cells f e (0,0))→O=A2 f (l*K) ys→l+m≤c→O.size=c*K→O.toList.take ((l+m)*K)=xs++ys→Nd E H (B.set pl (bk,.cells O e (0,0)))→Q (.slice a (l+m) c) (mk E H (B.set pl (bk,.cells O e (0,0)))))
  (bY:a=none→m=0→Q (.slice none 0 0) (mk E H B))
  (bZ:∀r O Y,l+m≤Y→O.size=Y*K→O.toList.take ((l+m)*K)=xs++ys→Nd E H (B++ [(r,.cells O e (0,0))])→Q (.slice (some ⟨r,0,none⟩) (l+m) Y) (mk E H (B++ [(r,.cells O e (0,0))]))):
  lp P (Builtin.append_ ats ty #[.slice a l c,.slice ax m cx]) (mk E H B) Q X:=by
 unfold Builtin.append_;simp only [bb,be,List.getElem?_toArray,List.getElem?_cons_zero,List.getElem?_cons_succ];refine AH _ _ (Dm ht ?_);refine AH _ _ (EX bo ?_);refine AH _ _ (Dm bi ?_);simp only [Hn,Bool.false_eq_true,if_false,Builtin.lenOf,Bool.not_false,if_true];have Z:ys.length=m*K:=by
  cases ax with
  | none=>obtain⟨a0,a1⟩:=am;subst a0 a1;simp
  | some ad=>exact am.2.1
 have a2:∃(b0:Option Addr) (Y:Nat),GK (mk E H B) (.slice a l c) K xs∧b0=a∧Y=c:=by
  refine⟨a,c,?_,rfl,rfl⟩;rcases hs with⟨rfl,rfl,rfl,rfl⟩ | ⟨bk,f,rfl,ag,U,al,rfl⟩
  ·exact⟨rfl,rfl⟩
  ·have hle:l*K≤f.size:=by rw [U];exact Nat.mul_le_mul_right _ al
   refine⟨.inl rfl,by simp [Nat.min_eq_left hle],al,fun j w ap=>?_⟩;refine R5 av ag ?_;simp only [Nat.zero_add];rw [List.getElem?_take] at ap;split at ap
   ·simpa using ap
   ·cases ap
 obtain⟨_,_,a2,_,_⟩:=a2;have a3:xs.length=l*K:=by
  rcases hs with⟨rfl,rfl,rfl,rfl⟩ | ⟨bk,f,rfl,ag,U,al,rfl⟩
  ·simp
  ·have hle:l*K≤f.size:=by rw [U];exact Nat.mul_le_mul_right _ al
   simp [Nat.min_eq_left hle]
 split
 ·rename_i a8;refine AH _ _ (Jx ⟨ax,cx,rfl⟩ am ?_);rcases hs with⟨rfl,rfl,rfl,rfl⟩ | ⟨bk,f,rfl,ag,U,al,rfl⟩
  ·obtain rfl:m=0:=by omega
   simp only;exact bY rfl rfl
  ·simp only;have hle:l*K+ys.length≤f.size:=by rw [Z,U,← Nat.add_mul];exact Nat.mul_le_mul_right _ a8
   have b1:(Addr.add ⟨bk,0,none⟩ (l*K))=⟨bk,l*K,none⟩:=by rw [Dp rfl];simp
   rw [b1];refine AH _ _ (OD (pl:=pl) ys.toArray.toList 0 f B (by simpa using bU) av ag (by simpa using hle) (.inl rfl) fun B' a9 a4=>?_);simp only [Nat.add_zero] at a9;subst a9;refine bW bk f _ rfl ag rfl a8 (by rw [Mt,U]) ?_ a4;have:=Qu f (l*K) ys hle;rw [Z,← Nat.add_mul] at this;exact this
 ·rename_i b8;have a0:¬(((l+m:Nat):Int)>IntKind.i64.max∧(False∨V=0)):=by rintro⟨_,h | h⟩ <;> omega
  have a1:¬(Builtin.nextslicecap (l+m) c*V>2 ^ 48):=by
   have:=QI (need:=l+m) (old:=c) (by omega);have b9:Builtin.nextslicecap (l+m) c*V≤(2*(l+m)+768)*64:=Nat.mul_le_mul this bV;omega
  obtain⟨inf,a5,a6⟩:=MA hb;refine AH _ _ (Ir a5 ?_);rw [a6,if_neg a0];refine AH _ _ (Ir a5 ?_);rw [a6,if_neg a1];refine AH _ _ ?_;simp only [choose,lp,Question.forced,Bool.false_eq_true,if_false];refine⟨rfl,fun b2=>?_⟩;generalize b3:(Question.appendCap (l+m) c e).cut b2=a7;have b4:l+m≤a7:=by rw [← b3];simp [Question.cut]
  refine AH _ _ (Ir a5 ?_);rw [a6];have b5:∀{α:Type} {f:Unit→Sem α} {Q:α→St→Prop},lp P (f ()) (mk E H B) Q X→lp P (askRoom (a7*V)>>=f) (mk E H B) Q X:=by
   intro α f Q U;refine AH _ _ ?_;unfold askRoom;split
   ·exact⟨.inl ⟨rfl,rfl⟩,U⟩
   ·exact U
  refine b5 (AH _ _ (Jx ⟨a,c,rfl⟩ a2 ?_));refine AH _ _ (Jx ⟨ax,cx,rfl⟩ am ?_);refine AH _ _ (Gk bv ?_);refine AH _ _ (G1 av fun r a4=>?_);refine bZ r _ a7 b4 ?_ ?_ a4
  ·simp only [Array.size_append,List.size_toArray,Qp,bw,a3,Z];rw [← Nat.add_mul,← Nat.add_mul];congr 1;omega
  ·simp only [Array.toList_append];rw [List.take_append_of_le_length (by simp [a3,Z,Nat.add_mul])];rw [List.take_of_length_le (by simp [a3,Z,Nat.add_mul])]
end
end Pal
namespace Pal
open Go Go.Conc
theorem Of{P:Program}{α:Type}(x:Sem α):∀{s:St} {Q:α→St→Prop} {X:Halt→St→Prop},lp P x s Q X→lp P x s (fun a s'=>Q a s'∧s'.E=s.E∧s'.q=s.q) X:=by
 induction x with
 | pure a=>intro s Q X h;exact⟨h,rfl,rfl⟩
 | load m a k K=>intro s Q X h;obtain⟨O,v,U,V⟩:=h;exact⟨O,v,U,K _ V⟩
 | store m a v k K=>intro s Q X h;obtain⟨O,U,o,V,Z,ag,al⟩:=h;exact⟨O,U,o,V,Z,ag,K al⟩
 | new o k K=>intro s Q X h;exact⟨h.1,fun r O U=>K _ (h.2 r O U)⟩
 | shape r k K=>intro s Q X h;obtain⟨o,O,U⟩:=h;exact⟨o,O,K _ U⟩
 | freeze a n k K=>intro s Q X h;exact h
 | frozen a k K=>intro s Q X h;obtain⟨o,O,U⟩:=h;exact⟨o,O,K _ U⟩
 | getObj r k K=>intro s Q X h;obtain⟨o,O,U,V⟩:=h;exact⟨o,O,U,K _ V⟩
 | setObj r o k K=>intro s Q X h;obtain⟨O,U,V⟩:=h;exact⟨O,U,K V⟩
 | choose q k K=>
  intro s Q X h;simp only [lp] at h ⊢;split
  ·rename_i Y;rw [if_pos Y] at h;exact K _ h
  ·rename_i Y;rw [if_neg Y] at h;exact⟨h.1,fun t=>K _ (h.2 t)⟩
 | sys c k K=>intro s Q X h;exact h
 | program k K=>intro s Q X h;exact K _ h
 | mark m k K=>intro s Q X h;exact⟨h.1,K h.2⟩
 | halt h=>intro s Q X h;exact h
def BK(D:Nat→Bool)(s:St):St:=⟨fun b=>if D b then s.get b else s.E b,fun b=>if D b then none else s.H b,s.q⟩
def CP(D:Nat→Bool)(s s':St):St:=⟨fun b=>if D b then s.E b else s'.E b,fun b=>if D b then s.H b else s'.H b,s'.q⟩
theorem KH(D:Nat→Bool)(s:St):CP D s (BK D s)=s:=by
 obtain⟨E,H,q⟩:=s;unfold CP BK;congr 1
 ·funext b;by_cases h:D b <;> simp [h]
 ·funext b;by_cases h:D b <;> simp [h]
theorem W1{D:Nat→Bool}{s:St}{w:World}(f:Fits s w):Fits (BK D s) w where
 e b o h:=by
  by_cases K:D b
  ·simp [BK,K] at h;exact f.get h
  ·simp [BK,K] at h;exact f.e b o h
 h b o h:=by
  by_cases K:D b
  ·simp [BK,K] at h
  ·simp [BK,K] at h;exact f.h b o h
 d b h:=by
  by_cases K:D b
  ·simp [BK,K]
  ·simp [BK,K] at h ⊢;exact f.d b h
def Ef{P:Program}(J:Judge P)(f:FuncId)(args:AD)(s:St)(R:Value→St→Prop):Prop:=
 ∀(Q:Gs_) (c:Frame) (cs:Lf_),(∀v s',R v s'→J.ok Q (G (c.finish v) cs) s')→J.ok Q (G (Frame.enter P f args .normal) (c::cs)) s
theorem Ef.Ai{P:Program}{J:Judge P}{f:FuncId}{args:AD}{s:St}{R K:Value→St→Prop}(h:Ef J f args s R)(O:∀v s',R v s'→K v s'):Ef J f args s K:=
 fun Q c cs U=>h Q c cs fun v s' V=>U v s' (O v s' V)
section
variable {P:Program}{J:Judge P}{Q:Gs_}{b:Frame}{n:Nat}{L L':Env}{ds:Ld_}{k:Li_}{cs:Lf_}{s s':St}
theorem Judge.Sa(D:Nat→Bool){T:AD}{ops:Ao_}{i:Nat}{rest:List Nat}{o:Oper}(V:ops[i]? =some o)(hw:Region.wanted o (yielded ops T)=true)(a9:b.kind≠ .early)
  (bb:∀c,o.op≠ .defer c) (bd:s.q=false)
  (h:lp P (execOp (BO T) o) (BK D s) (fun nx s'=>upon J Q b T ds ops i rest k cs o.dst nx (CP D s s')) (fun _ _=>False)):
  J.ok Q (G (fr b T ds (.inRegion ops (i::rest)::k)) cs) s:=by
 refine J.step ⟨rfl,fun w f=>?_,fun e=>by subst e;cases bd⟩;have Y:((fr b T ds (.inRegion ops (i::rest)::k)).kind==CallKind.early)=false:=by simpa [fr] using a9
 have be:stepG P J.main (G (fr b T ds (.inRegion ops (i::rest)::k)) cs) w=stepG.apply P true (fr b T ds (.inRegion ops (i::rest)::k)) cs none (execOp (BO T) o) w:=by
  rw [stepG_op V hw];split
  ·rename_i l c bY bi;exact absurd bi (bb c)
  ·rfl
 obtain⟨Z,ap,av,bo,O⟩:=MK _ (Of _ h) (W1 (D:=D) f);have a0:=Pb (P:=P) (fn:=b.fn) bo;have a4:=fun v=>Gl (b:=b) (ds:=ds) (k:=k) T ops i rest v o V;have key:∀w',Fits Z w'→Fr (BK D s) w Z w'→Z.E=(BK D s).E→Fits (CP D s Z) w'∧Fr s w (CP D s Z) w':=by
  intro w' a1 g2 bv;have a5:∀b,D b=true→b<w.heap.size→w'.heap[b]? =w.heap[b]? :=fun b hb a2=>g2.keep b a2 (by simp [BK,hb]);have a6:∀b o,(s.H b=some o∨s.E b=some o)→b<w.heap.size:=fun b o V=>by
   have:=V.elim (f.h b o) (f.e b o);rcases Nat.lt_or_ge b w.heap.size with a3 | a3
   ·exact a3
   ·simp [Array.getElem?_eq_none a3] at this
  refine⟨⟨fun b o hb=>?_,fun b o hb=>?_,fun b hb=>?_⟩,⟨g2.size,fun b a2 hb=>?_,fun b hb=>?_,fun b o hb=>?_,fun b hb=>?_,g2.tape,g2.os,g2.output⟩⟩
  ·by_cases K:D b
   ·simp [CP,K] at hb;rw [a5 b K (a6 b o (.inr hb))];exact f.e b o hb
   ·simp [CP,K] at hb;exact a1.e b o hb
  ·by_cases K:D b
   ·simp [CP,K] at hb;rw [a5 b K (a6 b o (.inl hb))];exact f.h b o hb
   ·simp [CP,K] at hb;exact a1.h b o hb
  ·by_cases K:D b
   ·simp [CP,K] at hb ⊢;exact f.d b hb
   ·simp [CP,K] at hb ⊢;exact a1.d b hb
  ·exact g2.keep b a2 (by by_cases K:D b <;> simp [BK,K,hb])
  ·by_cases K:D b
   ·simp [CP,K] at hb;exact .inl hb
   ·simp [CP,K] at hb;rcases g2.own b hb with q | q
    ·left;simpa [BK,K] using q
    ·exact .inr q
  ·by_cases K:D b
   ·simp [CP,K];exact hb
   ·simp only [CP,K,Bool.false_eq_true,if_false];rw [bv];simp [BK,K,hb]
  ·by_cases K:D b
   ·simp [CP,K] at hb;exact .inl hb
   ·simp [CP,K] at hb;rcases g2.EF b hb with q | q | q
    ·left;simpa [BK,K] using q
    ·right;left;simpa [BK,K] using q
    ·exact .inr (.inr q)
 have bw:∀w',(∀e∈seen P b.fn ((execOp (BO T) o).events P w #[]),Ev (BK D s) w w' e)→∀e∈seen P b.fn ((execOp (BO T) o).events P w #[]),Ev s w w' e:=by
  intro w' he e hm;have:=he e hm;have a7:∀{b wr},F6 (BK D s) w w' b wr→F6 s w w' b wr:=by
   intro b wr ht;refine⟨ht.1,?_⟩;rcases ht.2 with q | q | ⟨q,a8⟩
   ·left;by_cases K:D b <;> simp [BK,K] at q;exact q
   ·exact .inr (.inl q)
   ·by_cases K:D b
    ·simp [BK,K,St.get] at q;by_cases am:s.E b=none
     ·left;intro bU;rw [am,bU] at q;exact q rfl
     ·exact .inr (.inr ⟨am,a8⟩)
    ·simp [BK,K] at q;exact .inr (.inr ⟨q,a8⟩)
  unfold Ev at this ⊢;split <;> rename_i bV <;> simp only [bV] at this
  ·exact⟨this.1,a7 this.2⟩
  ·exact⟨this.1,a7 this.2⟩
  ·trivial
  ·trivial
 rw [be];cases U:(execOp (BO T) o).run P w with
 | ok nx w'=>
  rw [U] at ap av O a0;simp only [Jj] at ap av a0;obtain⟨O,am,_⟩:=O;obtain⟨k1,ag⟩:=key w' ap av am;have al:=bw w' a0;cases nx with
  | value v=>exact⟨_,_,w',seen P b.fn ((execOp (BO T) o).events P w #[])++ #[],by simp [stepG.apply,U,Y,GStep.after,G,a4,Fo],O,k1,ag,by simpa using al⟩
  | skip=>exact⟨_,_,w',seen P b.fn ((execOp (BO T) o).events P w #[])++ #[],by simp [stepG.apply,U,Y,GStep.after,G,a4,Fo],O,k1,ag,by simpa using al⟩
  | enter g args=>exact⟨_,_,w',seen P b.fn ((execOp (BO T) o).events P w #[])++ #[],by simp [stepG.apply,U,Y,GStep.after,G,Fo,G5],O,k1,ag,by simpa using al⟩
  | round l g bZ as b0=>exact⟨_,_,w',seen P b.fn ((execOp (BO T) o).events P w #[])++ #[],by simp [stepG.apply,U,Y,GStep.after,G,Fo,G5],O,k1,ag,by simpa using al⟩
  | defer d=>
   have bW:=Gl (b:=b) (ds:=d::ds) (k:=k) T ops i rest undef o V;exact⟨_,_,w',seen P b.fn ((execOp (BO T) o).events P w #[])++ #[],by
    rw [← bW];simp [stepG.apply,U,Y,GStep.after,G,Fo,G5];rfl,O,k1,ag,by simpa using al⟩
  | _=>exact O.elim
 | halt x w'=>rw [U] at O;exact O.elim
end
end Pal
namespace Pal
open Go Go.Conc
def PK(m:Nat)(listed:Array Bool):Bool:=(List.range m).all fun i=>listed.getD i false
def Bi(listed:Array Bool)(i:Nat):Array Bool:=listed.setIfInBounds i true
section
variable {P:Program}(J:Judge P)(Q:Gs_)(b:Frame)(ds:Ld_)(ops:Ao_)(k:Li_)(cs:Lf_)(m:Nat)(D:Nat→Bool)
def JA:Nat→Array Bool→AD→St→Prop
 | 0,listed,T,s=>Region.ready .any ops listed= []∧J.ok Q (G (fr b T ds (.inRegion ops []::k)) cs) s
 | fuel+1,listed,T,s=>
  (PK m listed=true∧∀t,J.ok Q (G (fr b T ds (.inRegion ops (Region.linearise.go .any ops (fuel+1) t listed [])::k)) cs) s)∨
  (Region.ready .any ops listed≠ []∧s.q=false∧∀i∈Region.ready .any ops listed,∀o,ops[i]? =some o→(∀c,o.op≠ .defer c)∧
   (Region.wanted o (yielded ops T)=false→JA fuel (Bi listed i) (CX T o.dst undef) s)∧
   (Region.wanted o (yielded ops T)=true→lp P (execOp (BO T) o) (BK D s) (fun nx s'=>match nx with
    | .value v=>JA fuel (Bi listed i) (CX T o.dst v) (CP D s s')
    | .skip=>JA fuel (Bi listed i) (CX T o.dst undef) (CP D s s')
    | .enter f args=>∃R,Ef J f args (CP D s s') R∧∀v K,R v K→K.q=false∧(∀x o,(BK D s).E x=some o→(BK D K).E x=some o)∧JA fuel (Bi listed i) (CX T o.dst v) K
    | _=>False) (fun _ _=>False)))
variable {J Q b ds ops k cs m D}
theorem WC(Y:b.kind≠ .early):∀(fuel t:Nat) (listed:Array Bool) (T:AD) (s:St),JA J Q b ds ops k cs m D fuel listed T s→
  J.ok Q (G (fr b T ds (.inRegion ops (Region.linearise.go .any ops fuel t listed [])::k)) cs) s:=by
 intro fuel
 induction fuel with
 | zero=>intro t listed T s h;simpa [Region.linearise.go] using h.2
 | succ fuel K=>
  intro t listed T s h;rcases h with⟨_,h⟩ | ⟨Z,ag,h⟩
  ·exact h t
  ·obtain⟨i,hi⟩:∃i,(Region.ready .any ops listed)[t % (Region.ready .any ops listed).length]? =some i:=by
    have:0<(Region.ready .any ops listed).length:=List.length_pos_iff.2 Z;exact⟨_,List.getElem?_eq_getElem (Nat.mod_lt _ this)⟩
   have V:=List.mem_of_getElem? hi;have hgo:Region.linearise.go .any ops (fuel+1) t listed []=i::Region.linearise.go .any ops fuel (t / (Region.ready .any ops listed).length) (Bi listed i) []:=by
    simp only [Region.linearise.go];change (match(Region.ready .any ops listed)[t % (Region.ready .any ops listed).length]? with
     | some i=>Region.linearise.go .any ops fuel (t / (Region.ready .any ops listed).length) (listed.setIfInBounds i true) [i]
     | none=> [].reverse)=_
    rw [hi];simp only;rw [linearise_go_acc];rfl
   rw [hgo];obtain⟨_,o,O,_⟩:=mem_ready.1 V;obtain⟨al,am,ap⟩:=h i V o O;cases hw:Region.wanted o (yielded ops T) with
   | false=>exact Judge.unwanted O hw (K _ _ _ _ (am hw))
   | true=>
    refine Judge.Sa D O hw Y al ag (Dz _ (ap hw) ?_ (fun _ _ h=>h));intro nx s' U;cases nx with
    | value v=>exact K _ _ _ _ U
    | skip=>exact K _ _ _ _ U
    | enter f args=>
     obtain⟨R,av,a0⟩:=U;refine av Q _ cs fun v a1 a2=>?_;rw [Gl _ _ _ _ _ _ O];exact K _ _ _ _ (a0 v a1 a2).2.2
    | _=>exact U.elim
theorem Ym{T:AD}{d:Option Tmp}{v:Value}{x:Operand}(h:∀t,d=some t→x≠ .tmp t):BO (CX T d v) x=BO T x:=by
 cases d with
 | none=>rfl
 | some t=>
  cases x with
  | tmp u=>
   have K:t≠u:=fun e=>h t rfl (e▸rfl);simp only [CX,BO,Array.getD_eq_getD_getElem?,Array.getElem?_setIfInBounds_ne K]
  | _=>rfl
theorem G2{T:AD}{d:Option Tmp}{v:Value}{o:Oper}(hs:∀cs b,o.op≠ .select cs b)(h:∀t,d=some t→t ∉ o.looksAt ops):
  execOp (BO (CX T d v)) o=execOp (BO T) o∧Region.wanted o (yielded ops (CX T d v))=Region.wanted o (yielded ops T):=by
 refine⟨execOp_congr o hs fun x K=>Ym fun t ht O=>h t ht ?_,?_⟩
 ·subst O;exact List.mem_append_left _ (List.mem_filterMap.2 ⟨.tmp t,by simpa using K,rfl⟩)
 ·have:=wanted_put (ops:=ops) o (⟨T,[]⟩:Act) d v h
  rwa [act_put'] at this
 where
  act_put' {T : AD} {d : Option Tmp} {v : Value} : (⟨T, []⟩ : Act).put d v = ⟨CX T d v, []⟩ := by cases d <;> rfl
theorem HO{T:AD}{d e:Option Tmp}{v u:Value}(h:∀t,d=some t→e≠some t):CX (CX T d v) e u=CX (CX T e u) d v:=by
 cases d with
 | none=>rfl
 | some t=>
  cases e with
  | none=>rfl
  | some K=>
   have O:t≠K:=fun q=>h t rfl (q▸rfl);simp [CX,Array.setIfInBounds_comm _ _ O]
theorem Qz{D:Nat→Bool}{s s':St}(K:s'.E=(BK D s).E):(BK D (CP D s s')).E=(BK D s).E:=by
 funext x;by_cases h:D x
 ·simp [BK,CP,h,St.get]
 ·have:=congrFun K x;simp [BK,h] at this;simp [BK,CP,h,this]
def HZ(ops:Ao_)(listed:Array Bool)(i:Nat)(oi:Oper):Bool:=
 (List.range ops.size).all fun j=>j==i || listed.getD j true || match ops[j]? with
  | some K=>(K.after.any fun e=>Region.binds .any e&&e.on==i) || oi.apart ops K
  | none=>true
def waits(ops:Ao_):Nat→Nat→Nat→Bool
 | 0,_,_=>false
 | f+1,j,i=>match ops[j]? with
  | some K=>K.after.any fun e=>Region.binds .any e&&(e.on==i || waits ops f e.on i)
  | none=>true
def DR(ops:Ao_)(m:Nat):Bool:=
 (List.range ops.size).all fun j=>decide (j<m) || (List.range m).all fun i=>waits ops ops.size j i
def G9(ops:Ao_)(listed:Array Bool):Bool:=
 (List.range ops.size).all fun j=> !listed.getD j false || match ops[j]? with
  | some K=>K.after.all fun e=> !Region.binds .any e || listed.getD e.on false
  | none=>true
theorem OG{listed:Array Bool}(h:G9 ops listed=true){j:Nat}{K:Oper}(O:ops[j]? =some K)(U:listed.getD j false=true):∀e∈K.after,Region.binds .any e=true→listed.getD e.on false=true:=by
 intro e he hb;have:=List.all_eq_true.1 h j (List.mem_range.2 (Array.getElem?_eq_some_iff.1 O).1);rw [U,O] at this;simp only [Bool.not_true,Bool.false_or] at this;have:=Array.all_eq_true'.1 this e he;rw [hb] at this;simpa using this
theorem Qw{listed:Array Bool}(Y:G9 ops listed=true){i:Nat}:∀(f j:Nat) (O:Oper),ops[j]? =some O→(∀e∈O.after,Region.binds .any e=true→listed.getD e.on false=true)→waits ops f j i=true→listed.getD i false=true∨∃x,ops[x]? =none∧listed.getD x false=true:=by
 intro f
 induction f with
 | zero=>intro j O _ _ h;cases h
 | succ f Z=>
  intro j O ag al h;simp only [waits,ag] at h;obtain⟨e,he,K⟩:=Array.any_eq_true'.1 h;simp only [Bool.and_eq_true,Bool.or_eq_true,beq_iff_eq] at K;obtain⟨hb,K⟩:=K;have U:=al e he hb;rcases K with rfl | K
  ·exact .inl U
  ·cases V:ops[e.on]? with
   | none=>exact .inr ⟨_,V,U⟩
   | some o=>exact Z e.on o V (fun am ap av=>OG Y V U am ap av) K
theorem JA.take{i:Nat}{oi:Oper}{w:Bool}{v:Value}(hi:ops[i]? =some oi)(cc:i<m)(cd:DR ops m=true)(ce:Region.noSelect ops=true)(cf:∀c,oi.op≠ .defer c):
  ∀(fuel:Nat) (listed:Array Bool) (T:AD) (s:St),HZ ops listed i oi=true→G9 ops listed=true→listed.size=ops.size→i∈Region.ready .any ops listed→s.q=false→Region.wanted oi (yielded ops T)=w→
   (w=true→∀s',s'.q=false→(∀x o,(BK D s).E x=some o→s'.E x=some o)→Yl P oi (BO T) s' v)→
   JA J Q b ds ops k cs m D fuel (Bi listed i) (CX T oi.dst (if w then v else undef)) s→JA J Q b ds ops k cs m D (fuel+1) listed T s:=by
 have av:∀(j:Nat) (Y:Oper),ops[j]? =some Y→∀cs b,Y.op≠Op.select cs b:=fun j Y h cs b=>Region.noSelect_spec ce j Y cs b h;intro fuel
 induction fuel with
 | zero=>?_
 | succ fuel a4=>?_
 all_goals
  intro listed T s b0 b1 a0 a5 a6 hw a1 h;refine .inr ⟨fun e=>(by rw [e] at a5;cases a5),a6,fun j b2 Y O=>?_⟩;by_cases ap:j=i
  ·subst ap;obtain rfl:Y=oi:=by rw [hi] at O;exact(Option.some.inj O).symm
   refine⟨cf,fun bo=>?_,fun bv=>?_⟩
   ·rw [bo] at hw;subst hw;exact h
   ·rw [bv] at hw;subst hw;refine Dz _ (a1 rfl (BK D s) a6 fun _ _ h=>h).out ?_ (fun _ _ h=>h);rintro nx s' ⟨rfl,rfl⟩;rw [KH];exact h
  ·
   have b3:j∈Region.ready .any ops (Bi listed i):=ready_mono b2 ap;obtain⟨Z,U,b4,bw⟩:=mem_ready.1 b2;obtain rfl:U=Y:=by rw [O] at b4;exact(Option.some.inj b4).symm
   have bU:=(mem_ready.1 a5).1;have cg:(U.after.any fun e=>Region.binds .any e&&e.on==i)=false:=by
    rw [Array.any_eq_false];intro e he K;simp only [Bool.and_eq_true,beq_iff_eq] at K;have:=bw _ (Array.getElem_mem he) K.1;rw [K.2] at this;have V:listed.getD i true=listed.getD i false∨listed.size≤i:=by
     rcases Nat.lt_or_ge i listed.size with q | q
     ·left;simp [Array.getD_eq_getD_getElem?,q]
     ·exact .inr q
    rcases V with V | V
    ·rw [bU,this] at V;cases V
    ·rw [Array.getD_eq_getD_getElem?,Array.getElem?_eq_none V] at this;simp at this
   have ci:oi.apart ops U=true:=by
    have a2:j<ops.size:=(Array.getElem?_eq_some_iff.1 O).1;have:=List.all_eq_true.1 b0 j (List.mem_range.2 a2);simp only [Bool.or_eq_true,beq_iff_eq] at this;rcases this with(q | q) | q
    ·exact absurd q ap
    ·rw [Z] at q;cases q
    ·rw [O] at q;simp only [Bool.or_eq_true] at q;rw [cg] at q;exact q.resolve_left (by simp)
   obtain⟨ck,a7,a8⟩:=Oper.apart_spec ci;obtain⟨p1,p2⟩:=G2 (ops:=ops) (T:=T) (v:=if w then v else undef) (av j U O) ck
   first
    | exact absurd b3 (by rw [h.1];simp)
    | (
     rcases h with⟨cm,_⟩ | ⟨cB,_,h⟩
     ·
      exfalso
      have cn:¬j<m:=by
       intro a2
       have:=List.all_eq_true.1 cm j (List.mem_range.2 a2)
       have ag:(Bi listed i).getD j false=listed.getD j false:=getD_set_ne false (Ne.symm ap)
       rw [ag] at this
       have V:listed.getD j true=true:=by
        rcases Nat.lt_or_ge j listed.size with q | q
        ·simp [Array.getD_eq_getD_getElem?,q] at this ⊢;exact this
        ·simp [Array.getD_eq_getD_getElem?,Array.getElem?_eq_none q] at this
       rw [Z] at V;cases V
      have a2:j<ops.size:=(Array.getElem?_eq_some_iff.1 O).1
      have:=List.all_eq_true.1 cd j (List.mem_range.2 a2)
      simp only [Bool.or_eq_true,decide_eq_true_eq] at this
      have:=List.all_eq_true.1 (this.resolve_left cn) i (List.mem_range.2 cc)
      rcases Qw b1 _ j U O (fun e he hb=>bw e he hb) this with q | ⟨x,q1,q2⟩
      ·have co:i<listed.size:=by rw [a0];exact(Array.getElem?_eq_some_iff.1 hi).1
       simp [Array.getD_eq_getD_getElem?,co] at q bU
       rw [bU] at q;cases q
      ·have:¬x<listed.size:=by rw [a0];intro K;simp [K] at q1
       simp [Array.getD_eq_getD_getElem?,this] at q2
     ·obtain⟨cp,bo,bv⟩:=h j b3 U O
      have a9:Bi (Bi listed i) j=Bi (Bi listed j) i:=by
       unfold Bi;exact Array.setIfInBounds_comm _ _ (Ne.symm ap)
      have bb:i∈Region.ready .any ops (Bi listed j):=ready_mono a5 (Ne.symm ap)
      have bd:HZ ops (Bi listed j) i oi=true:=by
       refine List.all_eq_true.2 fun x K=>?_
       have:=List.all_eq_true.1 b0 x K
       simp only [Bool.or_eq_true,beq_iff_eq] at this ⊢
       rcases this with(q | q) | q
       ·exact .inl (.inl q)
       ·left;right
        by_cases e:j=x
        ·subst e;rw [Z] at q;cases q
        ·rw [Bi,getD_set_ne true e];exact q
       ·exact .inr q
      have be:(Bi listed j).size=ops.size:=by unfold Bi;simpa using a0
      have bi:G9 ops (Bi listed j)=true:=by
       refine List.all_eq_true.2 fun x K=>?_
       cases bV:ops[x]? with
       | none=>simp
       | some cq=>
        simp only [Bool.or_eq_true,Bool.not_eq_true']
        by_cases e:j=x
        ·subst e
         obtain rfl:cq=U:=by rw [O] at bV;exact(Option.some.inj bV).symm
         right
         refine Array.all_eq_true'.2 fun e he=>?_
         cases hb:Region.binds .any e with
         | false=>simp
         | true=>
          have:=bw e he hb
          by_cases ag:j=e.on
          ·rw [← ag] at this
           have bW:j<listed.size:=by rw [a0];exact(Array.getElem?_eq_some_iff.1 O).1
           simp [Array.getD_eq_getD_getElem?,bW] at this Z
           rw [Z] at this;cases this
          ·rw [Bi,getD_set_ne false ag];simpa using this
        ·cases b5:(Bi listed j).getD x false with
         | false=>exact .inl rfl
         | true=>
          right
          have cr:listed.getD x false=true:=by rw [Bi,getD_set_ne false e] at b5;exact b5
          refine Array.all_eq_true'.2 fun bY he=>?_
          cases hb:Region.binds .any bY with
          | false=>simp
          | true=>
           have:=OG b1 bV cr bY he hb
           by_cases ag:j=bY.on
           ·rw [← ag] at this
            have bW:j<listed.size:=by rw [a0];exact(Array.getElem?_eq_some_iff.1 O).1
            simp [Array.getD_eq_getD_getElem?,bW] at this Z
            rw [Z] at this;cases this
           ·rw [Bi,getD_set_ne false ag];simpa using this
      refine⟨cp,fun ct=>?_,fun cu=>?_⟩
      ·have:=bo (by rw [p2];exact ct)
       rw [a9,HO a7] at this
       obtain⟨q1,q2⟩:=G2 (ops:=ops) (T:=T) (d:=U.dst) (v:=undef) (o:=oi) (av i oi hi) a8
       exact a4 _ _ _ bd bi be bb a6 (by rw [q2];exact hw) (fun al s' cv bZ=>by unfold Yl;rw [q1];exact(a1 al s' cv bZ).out) this
      ·have b6:=Of _ (bv (by rw [p2];exact cu))
       rw [p1] at b6
       refine Dz _ b6 ?_ (fun _ _ h=>h)
       rintro nx s' ⟨K,bZ,cw⟩
       have b7:=Qz (D:=D) bZ
       have b8:(CP D s s').q=false:=by show s'.q=false;rw [cw];exact a6
       cases nx with
       | value u=>
        simp only at K ⊢
        rw [a9,HO a7] at K
        obtain⟨q1,q2⟩:=G2 (ops:=ops) (T:=T) (d:=U.dst) (v:=u) (o:=oi) (av i oi hi) a8
        exact a4 _ _ _ bd bi be bb b8 (by rw [q2];exact hw) (fun al s2 a3 am=>by unfold Yl;rw [q1];exact(a1 al s2 a3 (by rw [b7] at am;exact am)).out) K
       | skip=>
        simp only at K ⊢
        rw [a9,HO a7] at K
        obtain⟨q1,q2⟩:=G2 (ops:=ops) (T:=T) (d:=U.dst) (v:=undef) (o:=oi) (av i oi hi) a8
        exact a4 _ _ _ bd bi be bb b8 (by rw [q2];exact hw) (fun al s2 a3 am=>by unfold Yl;rw [q1];exact(a1 al s2 a3 (by rw [b7] at am;exact am)).out) K
       | enter f args=>
        obtain⟨R,cy,cz⟩:=K
        refine⟨R,cy,fun u cA hu=>?_⟩
        obtain⟨b9,ca,cb⟩:=cz u cA hu
        refine⟨b9,ca,?_⟩
        rw [a9,HO a7] at cb
        obtain⟨q1,q2⟩:=G2 (ops:=ops) (T:=T) (d:=U.dst) (v:=u) (o:=oi) (av i oi hi) a8
        exact a4 _ _ _ bd bi be bb b9 (by rw [q2];exact hw) (fun al s2 a3 am=>by unfold Yl;rw [q1];exact(a1 al s2 a3 (fun x o K=>am x o (ca x o K))).out) cb
       | _=>exact K.elim)
end
end Pal
namespace Pal
open Go Go.Conc
section
variable {P:Program}(J:Judge P)(Q:Gs_)(b:Frame)(n:Nat)(ds:Ld_)(ops:Ao_)(k:Li_)(cs:Lf_)(m:Nat)(D:Nat→Bool)
def AY(fuel:Nat)(listed:Array Bool)(L:Env)(s:St):Prop:=∀T,Has n L T→JA J Q b ds ops k cs m D fuel listed T s
end
def Ee:Nat→Bool:=fun _=>false
section
variable {P:Program}{J:Judge P}{Q:Gs_}{b:Frame}{n:Nat}{ds:Ld_}{ops:Ao_}{k:Li_}{cs:Lf_}{m fuel:Nat}{D:Nat→Bool}{listed:Array Bool}{L:Env}{s:St}
theorem Rj(m:Nat)(D:Nat→Bool){id:Nat}(K:s.q=false)(hm:P.follows .mixedOrders=true)(O:(b.kind != .early)=true)(h:AY J Q b n ds ops k cs m D ops.size (Array.replicate ops.size false) L s):JL J Q b n L ds (.code (.region id ops true)::k) cs s:=
 Sx K hm fun t T U=>WC (by simpa using O) ops.size t _ T s (h T U)
theorem U9{i:Nat}{oi:Oper}{v:Value}(hi:ops[i]? =some oi)(U:decide (i<m)=true)(V:DR ops m=true)(Y:Region.noSelect ops=true)(O:(!Du oi.op)=true)(Z:HZ ops listed i oi=true)(ag:G9 ops listed=true)(al:(listed.size==ops.size)=true)(am:(Region.ready .any ops listed).contains i=true)(ap:s.q=false)
  (hw:Bf L ops oi=some true) (av:BE n oi.dst=true) (a0:∀ρ,EL L ρ→∀s',s'.q=false→(∀x o,(BK D s).E x=some o→s'.E x=some o)→Yl P oi ρ s' v)
  (h:AY J Q b n ds ops k cs m D fuel (Bi listed i) (AI L oi.dst v) s):AY J Q b n ds ops k cs m D (fuel+1) listed L s:=fun T K=>by
 refine JA.take (w:=true) (v:=v) hi (by simpa using U) V Y (fun c a1=>by rw [a1] at O;simp [Du] at O) fuel listed T s Z ag (by simpa using al) (by simpa using am) ap (Dh K hw) (fun _ s' a2 a3=>a0 _ K.Gr s' a2 a3) ?_
 exact h _ (K.put av v)
theorem Vf{i:Nat}{oi:Oper}(hi:ops[i]? =some oi)(U:decide (i<m)=true)(V:DR ops m=true)(Y:Region.noSelect ops=true)(K:(!Du oi.op)=true)(Z:HZ ops listed i oi=true)(ag:G9 ops listed=true)(al:(listed.size==ops.size)=true)(am:(Region.ready .any ops listed).contains i=true)(ap:s.q=false)
  (hw:Bf L ops oi=some false) (av:BE n oi.dst=true)
  (h:AY J Q b n ds ops k cs m D fuel (Bi listed i) (AI L oi.dst undef) s):AY J Q b n ds ops k cs m D (fuel+1) listed L s:=fun T O=>by
 refine JA.take (w:=false) (v:=undef) hi (by simpa using U) V Y (fun c a0=>by rw [a0] at K;simp [Du] at K) fuel listed T s Z ag (by simpa using al) (by simpa using am) ap (Dh O hw) (fun e=>by cases e) ?_
 exact h _ (O.put av undef)
theorem R6(ag:s.q=false)(al:Region.ready .any ops listed≠ [])
  (h:∀i∈Region.ready .any ops listed,∀o,ops[i]? =some o→(!Du o.op)=true∧BE n o.dst=true∧∃w,Bf L ops o=some w∧
   (w=false→AY J Q b n ds ops k cs m D fuel (Bi listed i) (AI L o.dst undef) s)∧
   (w=true→∀ρ,EL L ρ→lp P (execOp ρ o) (BK D s) (fun nx s'=>match nx with
    | .value v=>AY J Q b n ds ops k cs m D fuel (Bi listed i) (AI L o.dst v) (CP D s s')
    | .skip=>AY J Q b n ds ops k cs m D fuel (Bi listed i) (AI L o.dst undef) (CP D s s')
    | .enter f args=>∃R,Ef J f args (CP D s s') R∧∀v K,R v K→K.q=false∧(∀x o,(BK D s).E x=some o→(BK D K).E x=some o)∧AY J Q b n ds ops k cs m D fuel (Bi listed i) (AI L o.dst v) K
    | _=>False) (fun _ _=>False))):
  AY J Q b n ds ops k cs m D (fuel+1) listed L s:=fun T O=>by
 refine .inr ⟨al,ag,fun i hi o am=>?_⟩
 obtain⟨Z,U,w,hw,ap,av⟩:=h i hi o am
 have V:=Dh O hw
 refine⟨fun c a0=>by rw [a0] at Z;simp [Du] at Z,fun e=>?_,fun e=>?_⟩
 ·rw [e] at V
  exact ap V.symm _ (O.put U undef)
 ·rw [e] at V;refine Dz _ (av V.symm _ O.Gr) ?_ (fun _ _ h=>h);intro nx s' Y;cases nx with
  | value v=>exact Y _ (O.put U v)
  | skip=>exact Y _ (O.put U undef)
  | enter f args=>
   obtain⟨R,a1,a2⟩:=Y;exact⟨R,a1,fun v K a3=>let ⟨a,b,c⟩:=a2 v K a3;⟨a,b,c _ (O.put U v)⟩⟩
  | _=>exact Y.elim
theorem AY.one{i:Nat}{o:Oper}(Z:s.q=false)(V:Region.ready .any ops listed= [i])(hi:ops[i]? =some o)(O:(!Du o.op&&BE n o.dst)=true)(hw:Bf L ops o=some true)
  (h:∀ρ,EL L ρ→lp P (execOp ρ o) (BK D s) (fun nx s'=>match nx with
    | .value v=>AY J Q b n ds ops k cs m D fuel (Bi listed i) (AI L o.dst v) (CP D s s')
    | .skip=>AY J Q b n ds ops k cs m D fuel (Bi listed i) (AI L o.dst undef) (CP D s s')
    | .enter f args=>∃R,Ef J f args (CP D s s') R∧∀v K,R v K→K.q=false∧(∀x o,(BK D s).E x=some o→(BK D K).E x=some o)∧AY J Q b n ds ops k cs m D fuel (Bi listed i) (AI L o.dst v) K
    | _=>False) (fun _ _=>False)):
  AY J Q b n ds ops k cs m D (fuel+1) listed L s:=by
 simp only [Bool.and_eq_true] at O;refine R6 Z (by rw [V];simp) fun j U o' Y=>?_;rw [V] at U;simp at U;subst U;obtain rfl:o'=o:=by rw [hi] at Y;exact(Option.some.inj Y).symm
 exact⟨O.1,O.2,true,hw,fun e=>(by cases e),fun _=>h⟩
theorem AY.call{i:Nat}{d:Option Tmp}{f:FuncId}{args:Array Operand}{ats:Array TypeId}{ty:TypeId}{p:String}{af:Ae_}{g:On_}{vs:Lv_}{R:Value→St→Prop}(U:s.q=false)(V:Region.ready .any ops listed= [i])
  (Y:ops[i]? =some ⟨d,.call ⟨.value (.func f),args,ats⟩,ty,p,af,g⟩) (Z:BE n d=true) (hw:Bf L ops ⟨d,.call ⟨.value (.func f),args,ats⟩,ty,p,af,g⟩=some true) (hb:D3 P f=true) (ag:evs L args.toList=some vs)
  (al:Ef J f vs.toArray s R) (h:∀v K,R v K→K.q=false∧(∀x o,(BK D s).E x=some o→(BK D K).E x=some o)∧AY J Q b n ds ops k cs m D fuel (Bi listed i) (AI L d v) K):
  AY J Q b n ds ops k cs m D (fuel+1) listed L s:=by
 refine AY.one U V Y (by simp [Du,Z]) hw fun ρ O=>?_;have am:args.map ρ=vs.toArray:=by
  rw [← F4 O ag];apply Array.ext';simp
 have ap:ρ (.func f)= .func (.func f) #[] #[]:=O _ _ rfl;simp only [execOp,resolve,bind,Sem.bind,Deferred.ofValue,ap,pure,invoke];have e: #[]++args.map ρ++ #[]=vs.toArray:=by rw [am];simp
 rw [e];refine Jy hb ?_;rw [KH];exact⟨R,al,h⟩
theorem AY.leaf{tail:List Nat}(K:PK m listed=true)(hgo:∀t,Region.linearise.go .any ops (fuel+1) t listed []=tail)(h:JL J Q b n L ds (.inRegion ops tail::k) cs s):AY J Q b n ds ops k cs m D (fuel+1) listed L s:=fun T O=>
 .inl ⟨K,fun t=>by rw [hgo t];exact h T O⟩
theorem AY.fin(K:Region.ready .any ops listed= [])(h:JL J Q b n L ds k cs s):AY J Q b n ds ops k cs m D 0 listed L s:=fun T O=>⟨K,JL.done h T O⟩
theorem ab{listed:Array Bool}{i:Nat}{tail:List Nat}{fuel:Nat}(K:Region.ready .any ops listed= [i])(h:∀t,Region.linearise.go .any ops fuel t (Bi listed i) []=tail)(t:Nat):Region.linearise.go .any ops (fuel+1) t listed []=i::tail:=by
 simp only [Region.linearise.go];change (match(Region.ready .any ops listed)[t % (Region.ready .any ops listed).length]? with
  | some i=>Region.linearise.go .any ops fuel (t / (Region.ready .any ops listed).length) (listed.setIfInBounds i true) [i]
  | none=> [].reverse)=_
 rw [K];simp only [List.length_singleton,Nat.mod_one,List.getElem?_cons_zero];rw [linearise_go_acc];have:=h (t / 1);unfold Bi at this;rw [this];rfl
theorem V6{i:Nat}{rest:List Nat}{d:Option Tmp}{f:FuncId}{args:Array Operand}{ats:Array TypeId}{ty:TypeId}{p:String}{af:Ae_}{g:On_}{vs:Lv_}{R:Value→St→Prop}
  (U:ops[i]? =some ⟨d,.call ⟨.value (.func f),args,ats⟩,ty,p,af,g⟩) (hw:Bf L ops ⟨d,.call ⟨.value (.func f),args,ats⟩,ty,p,af,g⟩=some true) (K:((b.kind != .early)&&BE n d)=true) (hb:D3 P f=true)
  (V:evs L args.toList=some vs) (Y:Ef J f vs.toArray s R) (Z:∀v s',R v s'→JL J Q b n (AI L d v) ds (.inRegion ops rest::k) cs s'):
  JL J Q b n L ds (.inRegion ops (i::rest)::k) cs s:=fun T O=>by
 simp only [Bool.and_eq_true] at K
 have ag:args.map (BO T)=vs.toArray:=by
  rw [← F4 O.Gr V];apply Array.ext';simp
 refine Judge.oper U (Dh O hw) (by simpa using K.1) (.inr fun c al=>by cases al) ?_;have am:lp P (execOp (BO T) ⟨d,.call ⟨.value (.func f),args,ats⟩,ty,p,af,g⟩) s (upon J Q b T ds ops i rest k cs d) (N8 J Q b T ds ops i rest k cs):=by
  simp only [execOp,resolve,bind,Sem.bind,Deferred.ofValue,BO,pure,invoke];have e: #[]++args.map (BO T)++ #[]=vs.toArray:=by rw [ag];simp
  rw [e];refine Jy hb (Y Q _ cs fun v s' ap=>?_);rw [Gl (o:=⟨d,.call ⟨.value (.func f),args,ats⟩,ty,p,af,g⟩) _ _ _ _ _ U];exact Z v s' ap _ (O.put K.2 v)
 exact am
theorem Ef.enter{f:FuncId}{fn:Func}{c:Code}{vs:Lv_}{R:Value→St→Prop}(V:P.funcs[f]? =some fn)(hb:fn.body=some c)(ag:vs.length≤fn.ntmps)
  (h:∀(Q:Gs_) (K:Frame) (cs:Lf_),(∀v s',R v s'→J.ok Q (G (K.finish v) cs) s')→JL J Q (base f) fn.ntmps (FR 0 vs) [] [.code c] (K::cs) s):Ef J f vs.toArray s R:=fun Q K cs Y=>by
 have he:Frame.enter P f vs.toArray .normal=fr (base f) (vs.toArray++Array.replicate (fn.ntmps - vs.length) undef) [] [.code c]:=by
  simp [Frame.enter,fr,V,hb,base];rfl
 rw [he];refine h Q K cs Y _ ⟨by simp;omega,fun t v ht=>?_⟩;obtain⟨_,O⟩:=JC ht;have Z:t<vs.length:=by
  rcases Nat.lt_or_ge t vs.length with U | U
  ·exact U
  ·simp at O;have:=(List.getElem?_eq_some_iff.1 O).1;omega
 rw [Array.getD_eq_getD_getElem?,Array.getElem?_append_left (by simpa using Z)];simp at O;simp [O]
end
end Pal
namespace Pal
open Go Go.Conc
section
variable {P:Program}{J:Judge P}{Q:Gs_}{b:Frame}{n:Nat}{ds:Ld_}{ops:Ao_}{k:Li_}{cs:Lf_}{L:Env}{s:St}{E E' H:LH}{B B0:List (Nat×Obj)}
theorem SM(O:s.q=false)(h:(∃w,Fits s w)→JL J Q b n L ds k cs s):JL J Q b n L ds k cs s:=fun T U=>by
 by_cases K:∃w,Fits s w
 ·exact h K T U
 ·exact J.step ⟨rfl,fun w f=>absurd ⟨w,f⟩ K,fun e=>by subst e;cases O⟩
theorem QK{x:Nat}:∀{B:List (Nat×Obj)},(∃p∈B,p.1=x)→Bl B H x≠none
 | [],⟨p,K,_⟩=>by cases K
 | (c,o)::B,⟨p,K,e⟩=>by
  simp only [Bl]
  split
  ·simp
  ·rename_i O;rcases List.mem_cons.1 K with q | q
   ·subst q;exact absurd e.symm O
   ·exact QK ⟨p,q,e⟩
theorem Nd.grow(O:Nd E H B)(U:∀x,E' x≠none→Bl B H x=none):Nd E' H B:=by
 have key:∀{C:List (Nat×Obj)},Nd E H C→(∀p∈C,p∈B)→Nd E' H C:=by
  intro C
  induction C with
  | nil=>intro _ _;trivial
  | cons p C V=>
   obtain⟨c,o⟩:=p;intro hC hs;refine⟨?_,hC.2.1,hC.2.2.1,V hC.2.2.2 fun p K=>hs p (List.mem_cons_of_mem _ K)⟩;cases Y:E' c with
   | none=>rfl
   | some u=>exact absurd (U c (by rw [Y];simp)) (QK ⟨(c,o),hs _ (by simp),rfl⟩)
 exact key O fun p K=>K
def Qj(E:LH)(K:Nat)(v:Value)(n:Nat)(xs:Lv_):Prop:=
 ∃a c,v= .slice a n c∧n≤c∧xs.length=n*K∧(n=0∨∃bk off f e fr,a=some ⟨bk,off,none⟩∧E bk=some (.cells f e fr)∧∀j w,xs[j]? =some w→f[off+j]? =some w)
theorem Qj.nil{K:Nat}:Qj E K (.slice none 0 0) 0 []:=⟨none,0,rfl,Nat.le_refl _,by simp,.inl rfl⟩
def GS(e:TypeId)(K:Nat)(a:Option Addr)(l c:Nat)(blk:List (Nat×Obj))(xs:Lv_):Prop:=
 (a=none∧l=0∧c=0∧blk= []∧xs= [])∨∃bk f,a=some ⟨bk,0,none⟩∧blk= [(bk,.cells f e (0,0))]∧f.size=c*K∧l≤c∧xs=f.toList.take (l*K)
theorem GS.nil{e:TypeId}{K:Nat}:GS e K none 0 0 [] []:= .inl ⟨rfl,rfl,rfl,rfl,rfl⟩
theorem GS.length{e:TypeId}{K:Nat}{a:Option Addr}{l c:Nat}{blk:List (Nat×Obj)}{xs:Lv_}(h:GS e K a l c blk xs):xs.length=l*K:=by
 rcases h with⟨_,rfl,_,_,rfl⟩ | ⟨bk,f,_,_,O,U,rfl⟩
 ·simp
 ·have:l*K≤c*K:=Nat.mul_le_mul_right _ U;simp [O,Nat.min_eq_left this]
theorem Ue{t e:TypeId}{v:Value}{Q:Value→St→Prop}{X:Halt→St→Prop}{z:Value}(ht:P.underlying t=some (.slice e))(U:BD P e=some v.cells.size)(V:zeroOf P e=some z)(am:z.cells.size=v.cells.size)(ap:0<v.cells.size)(av:v.cells.size≤64)
  (Y:Nd E H B) (k:∀r,Nd E H (B++ [(r,.cells v.cells e (0,0))])→Q (.slice (some ⟨r,0,none⟩) 1 1) (mk E H (B++ [(r,.cells v.cells e (0,0))]))):lp P (Instr.buildSlice t 1 #[(0,v)]) (mk E H B) Q X:=by
 unfold Instr.buildSlice;refine AH _ _ (Dm ht ?_);refine AH _ _ (EX U ?_);rw [if_neg (by omega),if_neg (by omega)];refine AH (x:=zeroValue e) _ (Gk V ?_);have Z:Instr.fill (fun i=>some (i*v.cells.size,v.cells.size)) ((Array.range (1*v.cells.size)).map fun i=>z.cells[i % z.cells.size]!) [(0,v)]=some v.cells:=by
  simp only [Instr.fill,Array.size_map,Array.size_range,Nat.one_mul,Nat.zero_mul];rw [if_neg (by simp)];congr 1;apply Array.ext_getElem?;intro j;have key:∀(l:Lv_) (st:Nat) (c:AD),st+l.length≤c.size→∀j,(List.foldl (fun cs (p:Value×Nat)=>cs.setIfInBounds (0+p.2) p.1) c (l.zipIdx st))[j]? =if st≤j∧j<st+l.length then l[j - st]? else c[j]? :=by
   intro l
   induction l with
   | nil=>intro st c _ j;simp;omega
   | cons x l ag=>
    intro st c a0 j;simp only [List.zipIdx_cons,List.foldl_cons,List.length_cons] at*;rw [ag (st+1) _ (by simp;omega) j];simp only [Nat.zero_add];by_cases al:j=st
    ·subst al;rw [if_neg (by omega),if_pos (by omega)];rw [Nat.sub_self,List.getElem?_cons_zero,Array.getElem?_setIfInBounds_self_of_lt (by omega)]
    ·by_cases K:st+1≤j∧j<st+1+l.length
     ·rw [if_pos K,if_pos (by omega)];have:j - st=(j - (st+1))+1:=by omega
      rw [this];simp
     ·rw [if_neg K,if_neg (by omega),Array.getElem?_setIfInBounds_ne (by omega)]
  have:=key v.cells.toList 0 ((Array.range v.cells.size).map fun i=>z.cells[i % z.cells.size]!) (by simp) j;rw [← Array.foldl_toList,Array.toList_zipIdx,this];by_cases O:j<v.cells.size
  ·simp [O]
  ·simp [O]
 rw [Hn];simp only [Z];exact AH _ _ (G1 Y k)
end
end Pal
namespace Pal
open Go Go.Conc
section
variable {P:Program}{J:Judge P}{Q:Gs_}{b:Frame}{n:Nat}{ds:Ld_}{ops:Ao_}{k:Li_}{cs:Lf_}{L:Env}{s:St}{E E' H:LH}{B B0:List (Nat×Obj)}
theorem Mp{ρ:Operand→Value}{d:Option Tmp}{x y:Operand}{ats:Array TypeId}{ty:TypeId}{p:String}{af:Ae_}{g:On_}:
  execOp ρ ⟨d,.call ⟨.builtin .append,#[x,y],ats⟩,ty,p,af,g⟩=(do pure (Next.value (← Builtin.append_ ats ty #[ρ x,ρ y]))):=by
 simp [execOp,resolve,invoke,builtin,bind,Sem.bind,pure]
theorem Uj{ρ:Operand→Value}{d:Option Tmp}{y:Operand}{t ty:TypeId}{p:String}{af:Ae_}{g:On_}:
  execOp ρ ⟨d,.buildSlice t 1 #[(0,y)],ty,p,af,g⟩=(do pure (Next.value (← Instr.buildSlice t 1 #[(0,ρ y)]))):=by
 simp [execOp]
theorem Y1{L:Env}{d1:Tmp}{w:Value}:ev (AI L (some d1) w) (.tmp d1)=some w:=by
 simp [AI,ev,look]
theorem HU{α:Type}(l r:List α)(x y:α):(l++x::r).set l.length y=l++y::r:=by simp
theorem Iu{e t t1:TypeId}{V av l c m:Nat}{a:Option Addr}{blk:List (Nat×Obj)}{xs ys:Lv_}{i:Nat}{rest:List Nat}{d:Option Tmp}{x y:Operand}{ats:Array TypeId}{ty:TypeId}{p:String}{af:Ae_}{g:On_}{z:Value}{ax:Option Addr}{cx:Nat}{B1:List (Nat×Obj)}
  (a8:ops[i]? =some ⟨d,.call ⟨.builtin .append,#[x,y],ats⟩,ty,p,af,g⟩) (hw:Bf L ops ⟨d,.call ⟨.builtin .append,#[x,y],ats⟩,ty,p,af,g⟩=some true) (a9:CS b n ⟨d,.call ⟨.builtin .append,#[x,y],ats⟩,ty,p,af,g⟩=true)
  (bb:ev L x=some (.slice a l c)) (bd:ev L y=some (.slice ax m cx)) (be:ats[0]? =some t) (bi:ats[1]? =some t1) (ht:P.underlying t=some (.slice e)) (bo:P.underlying t1=some (.slice e)) (bv:BD P e=some V) (hb:EE P e=some av) (bw:zeroOf P e=some z) (bU:z.cells.size=V)
  (bV:0<av) (bW:av≤64) (b6:0<m) (bY:l+m≤2 ^ 40) (bZ:∀w∈ys,CY w=true) (hg:GS e V a l c blk xs) (b0:Nd E H (B0++blk++B1)) (hs:GK (mk E H (B0++blk++B1)) (.slice ax m cx) V ys)
  (h:∀a6 ag a0,GS e V a6 (l+m) ag a0 (xs++ys)→Nd E H (B0++a0)→JL J Q b n (AI L d (.slice a6 (l+m) ag)) ds (.inRegion ops rest::k) cs (mk E H (B0++a0))):
  JL J Q b n L ds (.inRegion ops (i::rest)::k) cs (mk E H (B0++blk++B1)):=by
 refine JL.op a8 hw a9 fun ρ a7=>?_;rw [Mp,a7 x _ bb,a7 y _ bd];have b1:N2 (B0++blk++B1) B0.length e V a l c xs:=by
  rcases hg with⟨O,Z,al,a1,am⟩ | ⟨bk,f,O,Z,al,a1,am⟩
  ·exact .inl ⟨O,Z,al,am⟩
  ·refine .inr ⟨bk,f,O,?_,al,a1,am⟩;subst Z;simp
 have hlen:=hg.length;refine AH _ _ (OY (pl:=B0.length) be bi bo ht bv hb bw bU b0 b1 hs bZ bV bY bW ?_ ?_ ?_)
 ·
  intro bk f K ap b7 b8 b2 a2 a3 Y;rcases hg with⟨O,_⟩ | ⟨U,f0,O,Z,al,a1,am⟩
  ·rw [O] at ap;cases ap
  ·subst Z;have b3:U=bk:=by rw [O] at ap;simpa using ap
   subst b3;have b4:(B0++ [(U,Obj.cells f0 e (0,0))]++B1).set B0.length (U,.cells K e (0,0))=B0++ [(U,.cells K e (0,0))]++B1:=by
    rw [List.append_assoc,List.append_assoc];exact HU _ _ _ _
   rw [b4] at Y ⊢;have a4:Nd E H (B0++ [(U,.cells K e (0,0))]):=Nd.left Y;refine JL.drop (B0++ [(U,.cells K e (0,0))]) (fun p a5=>?_) Y (h a c _ (.inr ⟨U,K,O,rfl,a2,b2,a3.symm⟩) a4);exact List.mem_iff_getElem?.1 (List.mem_append_left _ a5)
 ·intro _ hm;omega
 ·
  intro r K ag b5 a2 a3 Y;have a4:Nd E H (B0++ [(r,.cells K e (0,0))]):=Nd.pick Y;refine JL.drop (B0++ [(r,.cells K e (0,0))]) (fun p a5=>?_) Y (h (some ⟨r,0,none⟩) ag _ (.inr ⟨r,K,rfl,rfl,a2,b5,a3.symm⟩) a4);refine List.mem_iff_getElem?.1 ?_;rcases List.mem_append.1 a5 with q | q
  ·simp [q]
  ·exact List.mem_append_right _ q
 where
  Nd.left {E H : LH} {A C : List (Nat × Obj)} (h : Nd E H (A ++ C)) : Nd E H A := by
    induction A with
    | nil => trivial
    | cons p A ih =>
      obtain ⟨c, o⟩ := p
      obtain ⟨h1, h2, h3, h4⟩ := h
      exact ⟨h1, h2, fun q hq => h3 q (List.mem_append_left _ hq), ih h4⟩
  Nd.pick {E H : LH} {A C F : List (Nat × Obj)} {x : Nat × Obj} (h : Nd E H (A ++ C ++ F ++ [x])) : Nd E H (A ++ [x]) := by
    induction A with
    | nil =>
      have : ∀ (D : List (Nat × Obj)), Nd E H (D ++ [x]) → Nd E H [x] := by
        intro D
        induction D with
        | nil => exact fun h => h
        | cons p D ih => obtain ⟨c, o⟩ := p; exact fun h => ih h.2.2.2
      exact this _ h
    | cons p A ih =>
      obtain ⟨c, o⟩ := p
      obtain ⟨h1, h2, h3, h4⟩ := h
      refine ⟨h1, h2, fun q hq => h3 q ?_, ih h4⟩
      rcases List.mem_append.1 hq with hq | hq
      · simp [hq]
      · exact List.mem_append_right _ hq
theorem Vq{K r:Nat}{e:TypeId}{v:Value}{A:List (Nat×Obj)}(O:v.cells.size=K)(U:Nd E H (A++ [(r,.cells v.cells e (0,0))])):
  GK (mk E H (A++ [(r,.cells v.cells e (0,0))])) (.slice (some ⟨r,0,none⟩) 1 1) K v.cells.toList:=by
 refine⟨.inl rfl,by simp [O],Nat.le_refl _,fun j w V=>?_⟩;simp only [Nat.zero_add];refine R5 (i:=A.length) U (c:=v.cells) (e:=e) (f:=(0,0)) (by simp) ?_;simpa using V
theorem UZ{e t t1 t2:TypeId}{K O l c:Nat}{a:Option Addr}{blk:List (Nat×Obj)}{xs:Lv_}{i al:Nat}{rest:List Nat}{d1:Tmp}{d:Option Tmp}{x y:Operand}{ats:Array TypeId}{ty U:TypeId}{p V:String}{af Y:Ae_}{g g':On_}{z v:Value}
  (a3:ops[i]? =some ⟨some d1,.buildSlice t2 1 #[(0,y)],U,V,Y,g'⟩) (hw:Bf L ops ⟨some d1,.buildSlice t2 1 #[(0,y)],U,V,Y,g'⟩=some true) (a4:CS b n ⟨some d1,.buildSlice t2 1 #[(0,y)],U,V,Y,g'⟩=true)
  (a5:ops[al]? =some ⟨d,.call ⟨.builtin .append,#[x,.tmp d1],ats⟩,ty,p,af,g⟩) (a6:∀w,Bf (AI L (some d1) w) ops ⟨d,.call ⟨.builtin .append,#[x,.tmp d1],ats⟩,ty,p,af,g⟩=some true) (a7:CS b n ⟨d,.call ⟨.builtin .append,#[x,.tmp d1],ats⟩,ty,p,af,g⟩=true)
  (a8:∀w,ev (AI L (some d1) w) x=some (.slice a l c)) (a9:ev L y=some v) (bb:ats[0]? =some t) (bd:ats[1]? =some t1) (ht:P.underlying t=some (.slice e)) (be:P.underlying t1=some (.slice e)) (bi:P.underlying t2=some (.slice e)) (am:BD P e=some K) (hb:EE P e=some O) (ap:zeroOf P e=some z) (av:z.cells.size=K)
  (bo:0<O) (bv:O≤64) (Z:v.cells.size=K) (bY:0<K) (bZ:K≤64) (bw:l+1≤2 ^ 40) (bU:∀w∈v.cells.toList,CY w=true) (hg:GS e K a l c blk xs) (bV:Nd E H (B0++blk))
  (h:∀w a0 a1 ag,GS e K a0 (l+1) a1 ag (xs++v.cells.toList)→Nd E H (B0++ag)→JL J Q b n (AI (AI L (some d1) w) d (.slice a0 (l+1) a1)) ds (.inRegion ops rest::k) cs (mk E H (B0++ag))):
  JL J Q b n L ds (.inRegion ops (i::al::rest)::k) cs (mk E H (B0++blk)):=by
 refine JL.op a3 hw a4 fun ρ bW=>?_;rw [Uj,bW y _ a9];refine AH _ _ (Ue (z:=z) (v:=v) bi (by rw [Z];exact am) ap (by rw [Z];exact av) (by omega) (by omega) bV fun r a2=>?_);refine Iu (B1:= [(r,.cells v.cells e (0,0))]) (m:=1) (cx:=1) (ax:=some ⟨r,0,none⟩) (y:= .tmp d1) (x:=x) (ys:=v.cells.toList) (l:=l) (c:=c) (a:=a) (blk:=blk) (xs:=xs) a5 (a6 _) a7 (a8 _) Y1 bb bd ht be am hb ap av bo bv (by omega) bw bU hg a2 ?_ (h _);exact Vq Z a2
theorem Un{e:TypeId}{K l c:Nat}{a:Option Addr}{blk:List (Nat×Obj)}{xs:Lv_}{todo:Li_}(hg:GS e K a l c blk xs)(U:Nd E H (B0++blk))
  (h:∀E',Le E E'→Qj E' K (.slice a l c) l xs→Nd E' H B0→JL J Q b n L ds todo cs (mk E' H B0)):JL J Q b n L ds todo cs (mk E H (B0++blk)):=by
 rcases hg with⟨rfl,rfl,rfl,rfl,rfl⟩ | ⟨bk,f,rfl,rfl,Z,V,rfl⟩
 ·simp only [List.append_nil] at U ⊢;exact h E (Le.refl _) .nil U
 ·have ag:(B0++ [(bk,Obj.cells f e (0,0))])[B0.length]? =some (bk,Obj.cells f e (0,0)):=by simp
  refine JL.freeze B0.length U ag fun E' hle al Y=>?_;have am:(B0++ [(bk,Obj.cells f e (0,0))]).eraseIdx B0.length=B0:=by rw [List.eraseIdx_append_of_length_le (Nat.le_refl _)];simp
  rw [am] at Y ⊢;refine h E' hle ⟨_,c,rfl,V,?_,.inr ⟨bk,0,f,e,(0,0),rfl,al,fun j w O=>?_⟩⟩ Y
  ·have:l*K≤c*K:=Nat.mul_le_mul_right _ V;simp [Z,Nat.min_eq_left this]
  ·rw [List.getElem?_take] at O;split at O
   ·simpa using O
   ·cases O
end
end Pal
namespace Pal
open Go Go.Conc
abbrev EG(s:Nat):Value:= .int .u16 (s:Int)
abbrev iV(n:Int):Value:= .int .i64 n
section
variable {P:Program}{s:St}{ρ:Operand→Value}{d:Option Tmp}{t u ty:TypeId}{x y:Operand}{p:String}{af:Ae_}{g:On_}{a c:Nat}
theorem PI{m:Nat}(h:m<65536):IntKind.u16.wrap (m:Int)=m:=by
 simp only [IntKind.wrap,IntKind.bits,IntKind.signed];simp;omega
theorem Oj{m:Nat}(h:m<65536):(BitVec.ofInt IntKind.u16.bits (m:Int)).toNat=m:=by
 simp [IntKind.bits,BitVec.toNat_ofInt];omega
theorem XT(K:ρ x=EG a)(O:ρ y=iV (c:Int))(U:c≤16):Yl P ⟨d,.binOp .shr t x y u,ty,p,af,g⟩ ρ s (EG (a>>>c)):=by
 have h:=Yl.shr (P:=P) (s:=s) (d:=d) (t:=t) (u:=u) (ty:=ty) (p:=p) (af:=af) (g:=g) K O (by omega);have e:((a:Int).fdiv (2 ^ (min (c:Int).toNat IntKind.u16.bits)))=((a>>>c:Nat):Int):=by
  have:min (c:Int).toNat IntKind.u16.bits=c:=by simp [IntKind.bits];omega
  rw [this,Nat.shiftRight_eq_div_pow,Int.fdiv_eq_ediv_of_nonneg _ (Int.pow_nonneg (by decide))];rw [Int.natCast_ediv]
  rfl
 rw [e] at h;exact h
theorem Yb(O:ρ x=EG a)(U:ρ y=EG c)(K:a<65536)(V:c<65536):Yl P ⟨d,.binOp .and t x y u,ty,p,af,g⟩ ρ s (EG (a&&& c)):=by
 have h:=Yl.and (P:=P) (s:=s) (d:=d) (t:=t) (u:=u) (ty:=ty) (p:=p) (af:=af) (g:=g) O U;rw [BitVec.toNat_and,Oj K,Oj V,PI (Nat.lt_of_le_of_lt Nat.and_le_left K)] at h;exact h
theorem Zf(U:ρ x=EG a)(V:ρ y=EG c)(K:a<65536)(O:c<65536):Yl P ⟨d,.binOp .or t x y u,ty,p,af,g⟩ ρ s (EG (a ||| c)):=by
 have h:=Yl.or (P:=P) (s:=s) (d:=d) (t:=t) (u:=u) (ty:=ty) (p:=p) (af:=af) (g:=g) U V;rw [BitVec.toNat_or,Oj K,Oj O,PI (Nat.or_lt_two_pow (n:=16) K O)] at h;exact h
theorem XM(K:ρ x=EG 1)(O:ρ y=iV (c:Int))(U:c<16):Yl P ⟨d,.binOp .shl t x y u,ty,p,af,g⟩ ρ s (EG (1<<<c)):=by
 have h:=Yl.shl (P:=P) (s:=s) (d:=d) (t:=t) (u:=u) (ty:=ty) (p:=p) (af:=af) (g:=g) K O (by omega);have e:IntKind.u16.wrap (((1:Nat):Int)*2 ^ (min (c:Int).toNat IntKind.u16.bits))=((1<<<c:Nat):Int):=by
  have V:min (c:Int).toNat IntKind.u16.bits=c:=by simp [IntKind.bits];omega
  have Y:(1<<<c)<65536:=by rw [Nat.one_shiftLeft];exact Nat.pow_lt_pow_right (n:=16) (by omega) U
  rw [V,← PI Y,Nat.one_shiftLeft];simp
 rw [e] at h;exact h
end
theorem Pq{P:Program}{t:TypeId}{K:TypeInfo}(h:P.types[t]? =some K):P.info? t=some K:=by
 have:=(Array.getElem?_eq_some_iff.1 h).1;unfold Tables.info?;rw [if_pos this,h]
theorem Bv{P:Program}{t:TypeId}{K:TypeInfo}(h:P.types[t]? =some K):BD P t=some K.size:=by simp [BD,Pq h]
theorem Cy{P:Program}{t:TypeId}{K:TypeInfo}(h:P.types[t]? =some K):EE P t=some K.bytes:=by simp [EE,Pq h]
theorem DG{P:Program}{t:TypeId}{K:TypeInfo}(h:P.types[t]? =some K):zeroOf P t=K.zero:=by simp [zeroOf,Pq h]
def aK:TypeDesc→Bool | .struct _=>true | .array _ _=>true | _=>false
theorem DI{P:Program}{t:TypeId}{d:TypeDesc}(h:P.underlying t=some d):Dk P t=some (aK d):=by
 unfold Dk;rw [h];cases d <;> rfl
theorem AV{P:Program}{f:FuncId}{fn:Func}(h:P.funcs[f]? =some fn)(hb:(!(fn.name== "runtime.NumGoroutine")&&fn.body.isSome)=true):D3 P f=true:=by
 simp only [D3,h];exact hb
theorem XA(a c:Nat):decide (((a>>>c&&& 1:Nat):Int)=((1:Nat):Int))=a.testBit c:=by
 have:a.testBit c=decide ((a>>>c)&&& 1=1):=by
  rw [Nat.testBit,Nat.and_comm];rcases Nat.mod_two_eq_zero_or_one (a>>>c) with h | h <;> simp [Nat.and_one_is_mod,Nat.one_and_eq_mod_two,h]
 rw [this];congr 1;simp only [eq_iff_iff];omega
def S6(a:Nat):Nat→List Nat
 | 0=> []
 | n+1=>S6 a n++(if a.testBit n then [n] else [])
abbrev Oi(a:Nat):List Nat:=S6 a 16
end Pal
namespace Pal
end Pal
namespace Pal
open Go Go.Conc
end Pal
namespace Pal
open Go Go.Conc
def At(E:LH)(bk o:Nat)(ws:Lv_):Prop:=∃f e fr,E bk=some (.cells f e fr)∧∀j w,ws[j]? =some w→f[o+j]? =some w
theorem At.Ai{E E':LH}{bk o:Nat}{ws:Lv_}(h:At E bk o ws)(hle:Le E E'):At E' bk o ws:=let ⟨f,e,fr,K,O⟩:=h;⟨f,e,fr,hle _ _ K,O⟩
theorem At.cell{E H:LH}{B:List (Nat×Obj)}{bk o j:Nat}{ws:Lv_}{w:Value}(h:At E bk o ws)(K:ws[j]? =some w):(mk E H B).cell? ⟨bk,o+j,none⟩=some w:=
 let ⟨_,_,_,O,U⟩:=h;Vv O (U j w K)
theorem At.cells{E H:LH}{B:List (Nat×Obj)}{bk o:Nat}{ws:Lv_}(h:At E bk o ws):∀j v,ws[j]? =some v→(mk E H B).cell? (Addr.add ⟨bk,o,none⟩ j)=some v:=fun j v K=>by
 rw [Dp rfl];exact h.cell K
section
variable {P:Program}{J:Judge P}{Q:Gs_}{b:Frame}{n:Nat}{ds:Ld_}{ops:Ao_}{k:Li_}{cs:Lf_}{L:Env}{s:St}{E E' H:LH}{B B0:List (Nat×Obj)}
variable {d:Option Tmp}{x y:Operand}{t u ty e:TypeId}{p:String}{af:Ae_}{g:On_}{v:Value}{i:Nat}{rest:List Nat}{kd:IntKind}
theorem JL.put(h:look L i=some v)(O:JL J Q b n (AI L (some i) v) ds k cs s):JL J Q b n L ds k cs s:=fun T K=>
 O T ⟨K.size,fun t w e=>by
  simp only [AI,look] at e
  split at e
  ·rename_i U;subst U;cases e;exact K.at_ _ _ h
  ·exact K.at_ _ _ e⟩
theorem Vp{q:Prop} [Decidable q] (h:look L i=some (.bool (decide q)))(O:q→JL J Q b n (AI L (some i) (.bool true)) ds k cs s)(U:¬q→JL J Q b n (AI L (some i) (.bool false)) ds k cs s):JL J Q b n L ds k cs s:=by
 by_cases K:q
 ·refine JL.put (i:=i) (v:= .bool true) ?_ (O K);rw [h,decide_eq_true K]
 ·refine JL.put (i:=i) (v:= .bool false) ?_ (U K);rw [h,decide_eq_false K]
theorem Vw{c:Bool}(h:look L i=some (.bool c))(K:c=true→JL J Q b n (AI L (some i) (.bool true)) ds k cs s)(O:c=false→JL J Q b n (AI L (some i) (.bool false)) ds k cs s):JL J Q b n L ds k cs s:=by
 cases c
 ·exact JL.put h (O rfl)
 ·exact JL.put h (K rfl)
end
end Pal
namespace Pal
open Go Go.Conc
theorem S7{P:Program}{s:St}{ρ:Operand→Value}{d:Option Tmp}{t ty ft:TypeId}{x:Operand}{p:String}{af:Ae_}{g:On_}{a:Addr}{K:Array Field}{i:Nat}{fl:Field}(O off:Nat)(ht:P.underlying t=some (.struct K))(U:BD P ft=some (O+1))(hi:K[i]? =some fl)(V:fl.type=ft)(Y:fl.offset=off)(Z:ρ x= .pointer (some a)):
  Yl P ⟨d,.fieldAddr t x i,ty,p,af,g⟩ ρ s (.pointer (some (a.add off))):=by
 subst V Y;exact Yl.fieldAddr ht hi U Z
end Pal
namespace Pal
open Go Go.Conc
section
variable {P:Program}{J:Judge P}{Q:Gs_}{b:Frame}{n:Nat}{ds:Ld_}{ops:Ao_}{k:Li_}{cs:Lf_}{L:Env}{s:St}{E E' H:LH}{B B0:List (Nat×Obj)}
variable {d:Option Tmp}{x y:Operand}{t u ty e:TypeId}{p:String}{af:Ae_}{g:On_}{v:Value}{i:Nat}{rest:List Nat}{kd:IntKind}
theorem At.PQ{bk o j:Nat}{ws:Lv_}{w:Value}(h:At E bk o ws)(hs:∀x o,E x=some o→s.E x=some o)(K:ws[j]? =some w):s.cell? ⟨bk,o+j,none⟩=some w:=by
 obtain⟨f,e,fr,O,U⟩:=h;unfold St.cell? St.get;rw [hs _ _ O];exact U j w K
theorem At.PE{bk o:Nat}{ws:Lv_}(h:At E bk o ws)(hs:∀x o,E x=some o→s.E x=some o):∀j v,ws[j]? =some v→s.cell? (Addr.add ⟨bk,o,none⟩ j)=some v:=fun j v K=>by
 rw [Dp rfl];exact h.PQ hs K
end
section
variable {P:Program}{J:Judge P}{Q:Gs_}{b:Frame}{n:Nat}{ds:Ld_}{ops:Ao_}{k:Li_}{cs:Lf_}{m fuel:Nat}{listed:Array Bool}{L:Env}{E H:LH}{B:List (Nat×Obj)}
variable {d:Option Tmp}{x y:Operand}{t u ty e:TypeId}{p:String}{af:Ae_}{g:On_}{v:Value}{i:Nat}{kd:IntKind}
end
end Pal
namespace Pal
open Go Go.Conc
section
variable {P:Program}{J:Judge P}{Q:Gs_}{b:Frame}{n:Nat}{ds:Ld_}{ops:Ao_}{k:Li_}{cs:Lf_}{m fuel:Nat}{D:Nat→Bool}{listed:Array Bool}{L:Env}{s:St}{i:Nat}{v:Value}
theorem AY.put(h:look L i=some v)(O:AY J Q b n ds ops k cs m D fuel listed (AI L (some i) v) s):AY J Q b n ds ops k cs m D fuel listed L s:=fun T K=>
 O T ⟨K.size,fun t w e=>by
  simp only [AI,look] at e
  split at e
  ·rename_i U;subst U;cases e;exact K.at_ _ _ h
  ·exact K.at_ _ _ e⟩
theorem EW{q:Prop} [Decidable q] (h:look L i=some (.bool (decide q)))(O:q→AY J Q b n ds ops k cs m D fuel listed (AI L (some i) (.bool true)) s)(U:¬q→AY J Q b n ds ops k cs m D fuel listed (AI L (some i) (.bool false)) s):AY J Q b n ds ops k cs m D fuel listed L s:=by
 by_cases K:q
 ·refine AY.put (i:=i) (v:= .bool true) ?_ (O K);rw [h,decide_eq_true K]
 ·refine AY.put (i:=i) (v:= .bool false) ?_ (U K);rw [h,decide_eq_false K]
theorem OO{c:Bool}(h:look L i=some (.bool c))(K:c=true→AY J Q b n ds ops k cs m D fuel listed (AI L (some i) (.bool true)) s)(O:c=false→AY J Q b n ds ops k cs m D fuel listed (AI L (some i) (.bool false)) s):AY J Q b n ds ops k cs m D fuel listed L s:=by
 cases c
 ·exact AY.put h (O rfl)
 ·exact AY.put h (K rfl)
end
end Pal
namespace Pal
open Go Go.Conc
structure Rp (α:Type) where
 n:Nat
 r:LH→Lv_→α→Prop
 Ai:∀{E E':LH} {ws:Lv_} {x:α},Le E E'→r E ws x→r E' ws x
 len:∀{E:LH} {ws:Lv_} {x:α},r E ws x→ws.length=n
 one:∀{E:LH} {ws:Lv_} {x:α},r E ws x→∀w∈ws,CY w=true
def rK(kd:IntKind):Rp Int:=⟨1,fun _ ws x=>ws= [.int kd x],fun _ h=>h,fun h=>by subst h;rfl,fun h w hw=>by subst h;simp at hw;subst hw;rfl⟩
abbrev rI:Rp Int:=rK .i64
def rN(kd:IntKind):Rp Nat:=⟨1,fun _ ws x=>ws= [.int kd ((x:Nat):Int)],fun _ h=>h,fun h=>by subst h;rfl,fun h w hw=>by subst h;simp at hw;subst hw;rfl⟩
def rB:Rp Bool:=⟨1,fun _ ws x=>ws= [.bool x],fun _ h=>h,fun h=>by subst h;rfl,fun h w hw=>by subst h;simp at hw;subst hw;rfl⟩
def rP{α β:Type}(p:Rp α)(q:Rp β):Rp (α×β):=⟨p.n+q.n,fun E ws x=>∃U V,ws=U++V∧p.r E U x.1∧q.r E V x.2,
 fun hle ⟨a,b,h,K,O⟩=>⟨a,b,h,p.Ai hle K,q.Ai hle O⟩,fun⟨a,b,h,K,O⟩=>by subst h;rw [List.length_append,p.len K,q.len O],
 fun⟨a,b,h,K,O⟩ w hw=>by
  subst h
  rcases List.mem_append.1 hw with hw | hw
  ·exact p.one K w hw
  ·exact q.one O w hw⟩
def Al{α:Type}(p:Rp α)(E:LH)(a:Option Addr)(c:Nat)(xs:List α):Prop:=
 xs.length≤c∧((xs= []∧∀ad:Addr,a=some ad→ad.spot=none∨c=0)∨∃bk off,a=some ⟨bk,off,none⟩∧∀(i:Nat) x,xs[i]? =some x→∃ws,p.r E ws x∧At E bk (off+i*p.n) ws)
theorem Al.Ai{α:Type}{p:Rp α}{E E':LH}{a:Option Addr}{c:Nat}{xs:List α}(h:Al p E a c xs)(hle:Le E E'):Al p E' a c xs:=
 ⟨h.1,h.2.imp id fun⟨bk,off,K,O⟩=>⟨bk,off,K,fun i x U=>let ⟨ws,V,Y⟩:=O i x U;⟨ws,p.Ai hle V,Y.Ai hle⟩⟩⟩
theorem Al.nil{α:Type}{p:Rp α}{E:LH}{c:Nat}:Al p E none c []:=⟨Nat.zero_le _,.inl ⟨rfl,fun _ h=>by cases h⟩⟩
def rL{α:Type}(p:Rp α):Rp (List α):=⟨1,fun E ws xs=>∃a c,ws= [.slice a xs.length c]∧Al p E a c xs,
 fun hle ⟨a,c,h,K⟩=>⟨a,c,h,K.Ai hle⟩,fun⟨a,c,h,K⟩=>by subst h;rfl,fun⟨a,c,h,K⟩ w hw=>by subst h;simp at hw;subst hw;rfl⟩
def rA{α:Type}(k:Nat)(p:Rp α):Rp (List α):=⟨k*p.n,fun E ws xs=>xs.length=k∧∃wss:List (Lv_),ws=wss.flatten∧wss.length=k∧∀(i:Nat) x us,xs[i]? =some x→wss[i]? =some us→p.r E us x,
 fun hle ⟨U,wss,h,K,O⟩=>⟨U,wss,h,K,fun i x us a b=>p.Ai hle (O i x us a b)⟩,
 fun {E ws xs} ⟨U,wss,h,K,O⟩=>by
  subst h
  have:∀(wss:List (Lv_)) (xs:List α),xs.length=wss.length→(∀(i:Nat) x us,xs[i]? =some x→wss[i]? =some us→p.r E us x)→wss.flatten.length=wss.length*p.n:=by
   intro wss
   induction wss with
   | nil=>intro xs _ _;simp
   | cons us wss Y=>
    intro xs V h
    cases xs with
    | nil=>simp at V
    | cons x xs=>
     rw [List.flatten_cons,List.length_append,p.len (h 0 x us rfl rfl),Y xs (by simpa using V) (fun i y u a b=>h (i+1) y u a b),List.length_cons,Nat.succ_mul,Nat.add_comm]
  rw [this wss xs (by omega) O,K],
 fun {E ws xs} ⟨U,wss,h,K,O⟩ w hw=>by
  subst h
  obtain⟨us,Z,hw⟩:=List.mem_flatten.1 hw
  obtain⟨i,hi⟩:=List.mem_iff_getElem?.1 Z
  have ag:i<xs.length:=by rw [U,← K];exact(List.getElem?_eq_some_iff.1 hi).1
  exact p.one (O i _ us (List.getElem?_eq_getElem ag) hi) w hw⟩
def ix{α:Type}(xs:List α)(i:Int):Option α:=if 0≤i then xs[i.toNat]? else none
theorem GG{α:Type}{xs:List α}{i:Int}{x:α}(h:ix xs i=some x):∃m:Nat,i=m∧xs[m]? =some x:=by
 unfold ix at h;split at h
 ·exact⟨i.toNat,by omega,h⟩
 ·cases h
def As(x:Int):Option Int:=if -9223372036854775808≤x∧x≤9223372036854775807 then some x else none
theorem KS{x y:Int}(h:As x=some y):y=x∧ -9223372036854775808≤x∧x≤9223372036854775807:=by
 unfold As at h;split at h
 ·rename_i hb;exact⟨(Option.some.inj h).symm,hb⟩
 ·cases h
theorem bind_some{α β:Type}{o:Option α}{f:α→Option β}{r:β}(h:o.bind f=some r):∃x,o=some x∧f x=some r:=by
 cases o with
 | none=>cases h
 | some x=>exact⟨x,rfl,h⟩
inductive Bd (S A:Type) where
 | more (s:S)
 | done (a:A)
def iter{S A:Type}(body:S→Option (Bd S A)):Nat→S→Option A
 | 0,_=>none
 | f+1,s=>match body s with
  | none=>none
  | some (.done a)=>some a
  | some (.more s')=>iter body f s'
theorem Q1{S A:Type}{body:S→Option (Bd S A)}{f:Nat}{s:S}{a:A}(h:iter body (f+1) s=some a):∃st,body s=some st:=by
 simp only [iter] at h;cases hb:body s with
 | none=>rw [hb] at h;cases h
 | some st=>exact⟨st,rfl⟩
theorem Q7{S A:Type}{body:S→Option (Bd S A)}{f:Nat}{s:S}{a K:A}(h:iter body (f+1) s=some a)(hb:body s=some (.done K)):K=a:=by
 simp only [iter,hb] at h;exact Option.some.inj h
theorem Q6{S A:Type}{body:S→Option (Bd S A)}{f:Nat}{s s':S}{a:A}(h:iter body (f+1) s=some a)(hb:body s=some (.more s')):iter body f s'=some a:=by
 simp only [iter,hb] at h;exact h
abbrev Seg:=List (Nat×Obj)
def An(E H:LH)(S:List Seg):St:=mk E H S.flatten
def Ax(E H:LH)(S:List Seg):Prop:=Nd E H S.flatten
theorem Nd.mem{E H:LH}:∀{B:List (Nat×Obj)} {b:Nat} {o:Obj},Nd E H B→(b,o)∈B→∃i:Nat,B[i]? =some (b,o):=fun _ h=>List.mem_iff_getElem?.1 h
theorem Nd.iff{E H:LH}:∀{B:List (Nat×Obj)},Nd E H B↔(B.map (·.1)).Nodup∧∀p∈B,E p.1=none∧H p.1=none
 | []=>by simp [Nd]
 | (b,o)::B=>by
  simp only [Nd,List.map_cons,List.nodup_cons,List.mem_cons,forall_eq_or_imp,Nd.iff (B:=B),List.mem_map,not_exists,not_and]
  constructor
  ·rintro⟨K,O,U,V,Y⟩;exact⟨⟨U,V⟩,⟨K,O⟩,Y⟩
  ·rintro⟨⟨U,V⟩,⟨K,O⟩,Y⟩;exact⟨K,O,U,V,Y⟩
theorem Nd.perm{E H:LH}{B B':List (Nat×Obj)}(h:Nd E H B)(K:B.Perm B'):Nd E H B':=by
 rw [Nd.iff] at h ⊢;exact⟨(K.map _).nodup_iff.1 h.1,fun p O=>h.2 p (K.mem_iff.2 O)⟩
theorem KF{E H:LH}{B B':List (Nat×Obj)}(h:Nd E H B)(K:B.Perm B'):Bl B H=Bl B' H:=by
 funext x;by_cases O:∃p∈B,p.1=x
 ·obtain⟨⟨b,o⟩,hm,rfl⟩:=O;obtain⟨i,hi⟩:=h.mem hm;obtain⟨j,U⟩:=(h.perm K).mem (K.mem_iff.1 hm);rw [Iz h hi,Iz (h.perm K) U]
 ·have key:∀{C:List (Nat×Obj)},(∀p∈C,p.1≠x)→Bl C H x=H x:=by
   intro C
   induction C with
   | nil=>intro _;rfl
   | cons p C V=>
    intro hC;obtain⟨c,u⟩:=p;have Y:x≠c:=fun e=>hC (c,u) (by simp) e.symm;simp only [Bl,if_neg Y];exact V fun p K=>hC p (List.mem_cons_of_mem _ K)
  rw [key fun p K e=>O ⟨p,K,e⟩,key fun p Z e=>O ⟨p,K.mem_iff.2 Z,e⟩]
theorem FA{E H:LH}{B B':List (Nat×Obj)}(h:Nd E H B)(K:B.Perm B'):mk E H B=mk E H B':=by unfold mk;rw [KF h K]
theorem Ez{S:List Seg}{j:Nat}{seg seg':Seg}(h:S[j]? =some seg):S.flatten.Perm ((S.set j []).flatten++seg)∧(S.set j seg').flatten.Perm ((S.set j []).flatten++seg'):=by
 induction S generalizing j with
 | nil=>simp at h
 | cons x S K=>
  cases j with
  | zero=>
   simp at h;subst h;simp only [List.set_cons_zero,List.flatten_cons,List.nil_append];exact⟨List.perm_append_comm,List.perm_append_comm⟩
  | succ j=>
   simp at h;obtain⟨O,U⟩:=K h;simp only [List.set_cons_succ,List.flatten_cons,List.append_assoc];exact⟨O.append_left x,U.append_left x⟩
theorem Gp{E H:LH}{S:List Seg}{j:Nat}{seg:Seg}(K:Ax E H S)(h:S[j]? =some seg):An E H S=mk E H ((S.set j []).flatten++seg)∧Nd E H ((S.set j []).flatten++seg):=
 ⟨FA K (Ez (seg':=seg) h).1,Nd.perm K (Ez (seg':=seg) h).1⟩
theorem Hv{E H:LH}{S:List Seg}{j:Nat}{seg seg':Seg}(h:S[j]? =some seg)(K:Nd E H ((S.set j []).flatten++seg')):mk E H ((S.set j []).flatten++seg')=An E H (S.set j seg')∧Ax E H (S.set j seg'):=
 ⟨FA K (Ez h).2.symm,Nd.perm K (Ez h).2.symm⟩
theorem G3(S:List Seg)(seg:Seg):(S++ [seg]).flatten=S.flatten++seg:=by simp
theorem Eo{E H:LH}{S:List Seg}{seg:Seg}(K:Nd E H (S.flatten++seg)):mk E H (S.flatten++seg)=An E H (S++ [seg])∧Ax E H (S++ [seg]):=by
 unfold An Ax;rw [G3];exact⟨rfl,K⟩
theorem Fa{E H:LH}{S:List Seg}{j i bk:Nat}{seg:Seg}{o:Obj}(K:Ax E H S)(O:S[j]? =some seg)(hi:seg[i]? =some (bk,o)):(An E H S).get bk=some o:=by
 have hm:(bk,o)∈S.flatten:=List.mem_flatten.2 ⟨seg,List.mem_of_getElem? O,List.mem_of_getElem? hi⟩;obtain⟨V,U⟩:=K.mem hm;exact OQ K U
theorem D1{E H:LH}{S:List Seg}{j bk off:Nat}{c:AD}{e:TypeId}{f:Nat×Nat}{v:Value}{seg:Seg}(K:Ax E H S)(O:S[j]? =some ((bk,.cells c e f)::seg))(U:c[off]? =some v):(An E H S).cell? ⟨bk,off,none⟩=some v:=by
 unfold St.cell?;rw [Fa (i:=0) K O rfl];exact U
theorem UJ{E H:LH}{S:List Seg}{j bk off:Nat}{c:AD}{e:TypeId}{f:Nat×Nat}{vs:Lv_}{seg:Seg}(K:Ax E H S)(O:S[j]? =some ((bk,.cells c e f)::seg))(U:∀i v,vs[i]? =some v→c[off+i]? =some v):∀i v,vs[i]? =some v→(An E H S).cell? (Addr.add ⟨bk,off,none⟩ i)=some v:=fun i v hi=>by
 rw [Dp rfl];exact D1 K O (U i v hi)
def OL{α:Type}(e:TypeId)(p:Rp α)(E:LH)(a:Option Addr)(c:Nat)(seg:Seg)(xs:List α):Prop:=
 ∃wss:List (Lv_),GS e p.n a xs.length c seg wss.flatten∧wss.length=xs.length∧∀(i:Nat) x ws,xs[i]? =some x→wss[i]? =some ws→p.r E ws x
theorem OL.Ai{α:Type}{e:TypeId}{p:Rp α}{E E':LH}{a:Option Addr}{c:Nat}{seg:Seg}{xs:List α}(h:OL e p E a c seg xs)(hle:Le E E'):OL e p E' a c seg xs:=
 let ⟨wss,K,O,U⟩:=h;⟨wss,K,O,fun i x ws V hw=>p.Ai hle (U i x ws V hw)⟩
theorem OL.nil{α:Type}{e:TypeId}{p:Rp α}{E:LH}:OL e p E none 0 [] []:=⟨[],GS.nil,rfl,fun i x ws K=>by simp at K⟩
theorem Iw{α:Type}{p:Rp α}{E:LH}{wss:List (Lv_)}{xs:List α}(K:wss.length=xs.length)(h:∀(i:Nat) x ws,xs[i]? =some x→wss[i]? =some ws→p.r E ws x):∀ws∈wss,ws.length=p.n:=fun ws hw=>by
 obtain⟨i,hi⟩:=List.mem_iff_getElem?.1 hw
 have O:i<xs.length:=by rw [← K];exact(List.getElem?_eq_some_iff.1 hi).1
 exact p.len (h i _ ws (List.getElem?_eq_getElem O) hi)
theorem Jz{α:Type}{n:Nat}:∀{wss:List (List α)},(∀ws∈wss,ws.length=n)→∀{i:Nat} {ws:List α},wss[i]? =some ws→∀j w,ws[j]? =some w→wss.flatten[i*n+j]? =some w
 | [],_,_,_,h,_,_,_=>by simp at h
 | us::wss,O,0,ws,h,j,w,K=>by
  simp at h;subst h
  have:j<us.length:=(List.getElem?_eq_some_iff.1 K).1
  simp only [List.flatten_cons,Nat.zero_mul,Nat.zero_add]
  rw [List.getElem?_append_left this];exact K
 | us::wss,O,i+1,ws,h,j,w,K=>by
  simp at h
  have hu:us.length=n:=O us (by simp)
  simp only [List.flatten_cons]
  rw [List.getElem?_append_right (by rw [hu,Nat.succ_mul];omega)]
  have e:(i+1)*n+j - us.length=i*n+j:=by rw [hu,Nat.succ_mul];omega
  rw [e];exact Jz (fun ws hw=>O ws (List.mem_cons_of_mem _ hw)) h j w K
end Pal
namespace Pal
open Go Go.Conc
section
variable {P:Program}{s:St}{ρ:Operand→Value}{x y z:Operand}{d:Option Tmp}{t u ty e:TypeId}{p:String}{af:Ae_}{g:On_}{v:Value}{kd kd':IntKind}{m m':Int}{a b:Nat}
theorem P9{a:Nat}:IntKind.u64.wrap (a:Int)=((a % 2 ^ 64:Nat):Int):=by
 simp only [IntKind.wrap,IntKind.bits,IntKind.signed];simp
theorem Yp(K:ρ x= .int .u64 (a:Int))(O:ρ y= .int .u64 (b:Int)):Yl P ⟨d,.binOp .add t x y u,ty,p,af,g⟩ ρ s (.int .u64 (((a+b) % 2 ^ 64:Nat):Int)):=by
 have h:=Yl.add (P:=P) (s:=s) (d:=d) (t:=t) (u:=u) (ty:=ty) (p:=p) (af:=af) (g:=g) K O;rw [show((a:Int)+(b:Int))=((a+b:Nat):Int) by omega,P9] at h;exact h
theorem Na(K:ρ x= .int .u64 (a:Int))(O:ρ y= .int .u64 (b:Int)):Yl P ⟨d,.binOp .mul t x y u,ty,p,af,g⟩ ρ s (.int .u64 (((a*b) % 2 ^ 64:Nat):Int)):=by
 have h:=Yl.mul (P:=P) (s:=s) (d:=d) (t:=t) (u:=u) (ty:=ty) (p:=p) (af:=af) (g:=g) K O;rw [show((a:Int)*(b:Int))=((a*b:Nat):Int) by rw [Int.natCast_mul],P9] at h;exact h
theorem Nb(K:ρ x= .int .u64 (a:Int))(O:ρ y= .int .u64 (b:Int)):Yl P ⟨d,.binOp .xor t x y u,ty,p,af,g⟩ ρ s (.int .u64 (((a ^^^ b) % 2 ^ 64:Nat):Int)):=by
 have h:=Yl.xor (P:=P) (s:=s) (d:=d) (t:=t) (u:=u) (ty:=ty) (p:=p) (af:=af) (g:=g) K O;have e:(BitVec.ofInt IntKind.u64.bits (a:Int) ^^^ BitVec.ofInt IntKind.u64.bits (b:Int)).toNat=(a ^^^ b) % 2 ^ 64:=by
  rw [Nat.xor_mod_two_pow];rw [BitVec.ofInt_natCast,BitVec.ofInt_natCast];show(BitVec.ofNat 64 a ^^^ BitVec.ofNat 64 b).toNat=_;rw [BitVec.toNat_xor,BitVec.toNat_ofNat,BitVec.toNat_ofNat]
 rw [e,P9,Nat.mod_mod] at h;exact h
theorem YE(K:ρ x= .int .u64 (a:Int))(O:ρ y= .int .u64 (b:Int))(U:b≠0):Yl P ⟨d,.binOp .rem t x y u,ty,p,af,g⟩ ρ s (.int .u64 ((a % b:Nat):Int)):=by
 have h:=Yl.rem (P:=P) (s:=s) (d:=d) (t:=t) (u:=u) (ty:=ty) (p:=p) (af:=af) (g:=g) K O (by omega);rw [show(a:Int).tmod (b:Int)=((a % b:Nat):Int) from rfl] at h;exact h
theorem J2(c:Nat)(K:ρ x= .int .u64 (a:Int))(O:ρ y= .int .u64 (c:Int))(V:c≤64):Yl P ⟨d,.binOp .shr t x y u,ty,p,af,g⟩ ρ s (.int .u64 ((a>>>c:Nat):Int)):=by
 have h:=Yl.shr (P:=P) (s:=s) (d:=d) (t:=t) (u:=u) (ty:=ty) (p:=p) (af:=af) (g:=g) K O (by omega);have e:min (c:Int).toNat IntKind.u64.bits=c:=by simp [IntKind.bits];omega
 rw [e,Int.fdiv_eq_ediv_of_nonneg _ (Int.pow_nonneg (by decide))] at h;have U:(a:Int) / 2 ^ c=((a>>>c:Nat):Int):=by rw [Nat.shiftRight_eq_div_pow,Int.natCast_ediv];rfl
 rw [U] at h;exact h
def Dl(m:Int):Nat:=(m % 2 ^ 64).toNat
def L2(a:Nat):Int:=IntKind.i64.wrap (a:Int)
theorem Yl.Dl(ht:P.underlying t=some (.int .i64))(hu:P.underlying u=some (.int .u64))(K:ρ x=iV m):Yl P ⟨d,.convert t u x,ty,p,af,g⟩ ρ s (.int .u64 ((Dl m:Nat):Int)):=by
 have h:=EB (P:=P) (s:=s) (d:=d) (ty:=ty) (p:=p) (af:=af) (g:=g) ht hu K
 have e:IntKind.u64.wrap m=((Pal.Dl m:Nat):Int):=by
  unfold Pal.Dl;simp only [IntKind.wrap,IntKind.bits,IntKind.signed];simp;omega
 rw [e] at h;exact h
theorem YU(ht:P.underlying t=some (.int .u64))(hu:P.underlying u=some (.int .i64))(K:ρ x= .int .u64 (a:Int)):Yl P ⟨d,.convert t u x,ty,p,af,g⟩ ρ s (iV (L2 a)):=
 EB (P:=P) (s:=s) (d:=d) (ty:=ty) (p:=p) (af:=af) (g:=g) ht hu K
theorem MT{r:Int}(K:ρ x=iV m)(O:ρ y=iV m')(h:As (m+m')=some r):Yl P ⟨d,.binOp .add t x y u,ty,p,af,g⟩ ρ s (iV r):=by
 obtain⟨rfl,hb⟩:=KS h;exact Yd K O hb
theorem Da{r:Int}(K:ρ x=iV m)(O:ρ y=iV m')(h:As (m - m')=some r):Yl P ⟨d,.binOp .sub t x y u,ty,p,af,g⟩ ρ s (iV r):=by
 obtain⟨rfl,hb⟩:=KS h;exact Xz K O hb
theorem I6{r:Int}(K:ρ x=iV m)(O:ρ y=iV m')(h:As (m*m')=some r):Yl P ⟨d,.binOp .mul t x y u,ty,p,af,g⟩ ρ s (iV r):=by
 obtain⟨rfl,hb⟩:=KS h;exact YK K O hb
theorem I8{q:Prop} [Decidable q] (K:ρ x= .bool (decide q)):Yl P ⟨d,.unOp .not t x,ty,p,af,g⟩ ρ s (.bool (decide (¬q))):=by
 have h:=Yl.not (P:=P) (s:=s) (d:=d) (t:=t) (ty:=ty) (p:=p) (af:=af) (g:=g) K;simpa using h
theorem U7{K:Array (Nat×Operand)}:execOp ρ ⟨d,.build t K,ty,p,af,g⟩=(do pure (Next.value (← Instr.build t (K.map fun(j,x)=>(j,ρ x))))):=by
 simp only [execOp]
theorem Yl.build{z:Value}{O:Array Field}{K:Array (Nat×Operand)}{vs:List (Nat×Value)}{places:Array (Nat×Nat)}{cells:AD}(Y:zeroOf P t=some z)(ht:P.underlying t=some (.struct O))(Z:O.toList.mapM (fun f=>(BD P f.type).map fun n=>(f.offset,n))=some places.toList)
  (ag:K.toList.map (fun(j,x)=>(j,ρ x))=vs) (al:Instr.fill (places[·]?) z.cells vs=some cells):Yl P ⟨d,.build t K,ty,p,af,g⟩ ρ s (.agg cells):=by
 refine Fz U7 ?_;unfold Instr.build;refine AH (x:=zeroValue t) _ (Gk Y ?_);refine AH _ _ (Dm ht ?_);simp only;have key:∀(l:List Field) (acc:List (Nat×Nat)) {Q:List (Nat×Nat)→St→Prop} {X:Halt→St→Prop} (K:List (Nat×Nat)),l.mapM (fun f=>(BD P f.type).map fun n=>(f.offset,n))=some K→Q (acc.reverse++K) s→lp P (List.mapM.loop (m:=Sem) (fun f=>do pure (f.offset,← Go.sizeOf f.type)) l acc) s Q X:=by
  intro l
  induction l with
  | nil=>
   intro acc Q X K h k;simp at h;subst h;simp only [List.append_nil] at k;exact k
  | cons f l am=>
   intro acc Q X K h k;simp only [List.mapM_cons,bind] at h;cases U:BD P f.type with
   | none=>rw [U] at h;simp at h
   | some n=>
    rw [U] at h;simp only [Option.map_some,Option.bind_some] at h;obtain⟨ap,av,V⟩:=bind_some h;simp at V;subst V;have:=am ((f.offset,n)::acc) (Q:=Q) (X:=X) ap av (by simpa using k);simp only [List.mapM.loop];exact AH _ _ (AH (x:=Go.sizeOf f.type) _ (EX U this))
 have e:(K.map fun(j,x)=>(j,ρ x)).toList=vs:=by rw [← ag,Array.toList_map]
 refine AH _ _ ?_;rw [Array.mapM_eq_mapM_toList];refine AH (x:=List.mapM.loop (m:=Sem) (fun f=>do pure (f.offset,← Go.sizeOf f.type)) O.toList []) (f:=fun r=>pure r.toArray) (key O.toList [] places.toList Z ?_)
 simp only [List.reverse_nil,List.nil_append,lp,pure];rw [e,al];exact⟨rfl,rfl⟩
end
end Pal
namespace Pal
open Go Go.Conc
section
variable {P:Program}{J:Judge P}{Q:Gs_}{b:Frame}{n:Nat}{ds:Ld_}{ops:Ao_}{k:Li_}{cs:Lf_}{L:Env}{s:St}{E E' H:LH}{S:List Seg}
variable {d:Option Tmp}{x y:Operand}{t u ty e:TypeId}{p:String}{af:Ae_}{g:On_}{v:Value}{i:Nat}{rest:List Nat}{kd:IntKind}
theorem JS.box(O:ops[i]? =some ⟨d,.box e x,ty,p,af,g⟩)(hw:Bf L ops ⟨d,.box e x,ty,p,af,g⟩=some true)(U:CS b n ⟨d,.box e x,ty,p,af,g⟩=true)(V:Ax E H S)(Y:ev L x=some v)
  (h:∀r,Ax E H (S++ [[(r,.cells v.cells e (0,0))]])→JL J Q b n (AI L d (.pointer (some ⟨r,0,none⟩))) ds (.inRegion ops rest::k) cs (An E H (S++ [[(r,.cells v.cells e (0,0))]]))):
  JL J Q b n L ds (.inRegion ops (i::rest)::k) cs (An E H S):=
 JL.box O hw U V Y fun r K=>by rw [(Eo K).1];exact h r (Eo K).2
theorem JS.alloc{z:Value}(O:ops[i]? =some ⟨d,.alloc e,ty,p,af,g⟩)(hw:Bf L ops ⟨d,.alloc e,ty,p,af,g⟩=some true)(U:CS b n ⟨d,.alloc e,ty,p,af,g⟩=true)(V:Ax E H S)(Y:zeroOf P e=some z)
  (h:∀r,Ax E H (S++ [[(r,.cells z.cells e (0,0))]])→JL J Q b n (AI L d (.pointer (some ⟨r,0,none⟩))) ds (.inRegion ops rest::k) cs (An E H (S++ [[(r,.cells z.cells e (0,0))]]))):
  JL J Q b n L ds (.inRegion ops (i::rest)::k) cs (An E H S):=
 JL.alloc O hw U V Y fun r K=>by rw [(Eo K).1];exact h r (Eo K).2
theorem JS.store{bk off:Nat}{c:AD}(j:Nat)(U:ops[i]? =some ⟨d,.store t x y,ty,p,af,g⟩)(hw:Bf L ops ⟨d,.store t x y,ty,p,af,g⟩=some true)(V:CS b n ⟨d,.store t x y,ty,p,af,g⟩=true)(Y:Ax E H S)
  (Z:ev L x=some (.pointer (some ⟨bk,off,none⟩))) (ag:ev L y=some v) (al:BD P t=some v.cells.size) (am:∀u∈v.cells.toList,CY u=true) (K:S[j]? =some [(bk,.cells c e (0,0))]) (hle:off+v.cells.size≤c.size)
  (h:Ax E H (S.set j [(bk,.cells (A2 c off v.cells.toList) e (0,0))])→JL J Q b n (AI L d undef) ds (.inRegion ops rest::k) cs (An E H (S.set j [(bk,.cells (A2 c off v.cells.toList) e (0,0))]))):
  JL J Q b n L ds (.inRegion ops (i::rest)::k) cs (An E H S):=by
 obtain⟨ap,av⟩:=Gp Y K;rw [ap];refine JL.store (S.set j []).flatten.length U hw V av Z ag al am (c:=c) (e:=e) (by simp) hle fun O=>?_;have a0:((S.set j []).flatten++ [(bk,Obj.cells c e (0,0))]).set (S.set j []).flatten.length (bk,.cells (A2 c off v.cells.toList) e (0,0))=(S.set j []).flatten++ [(bk,.cells (A2 c off v.cells.toList) e (0,0))]:=HU _ _ _ _;rw [a0] at O ⊢;obtain⟨a1,a2⟩:=Hv K O;rw [a1];exact h a2
theorem JS.drop{todo:Li_}{seg:Seg}(j:Nat)(V:Ax E H S)(K:S[j]? =some seg)(h:Ax E H (S.set j [])→JL J Q b n L ds todo cs (An E H (S.set j []))):JL J Q b n L ds todo cs (An E H S):=by
 obtain⟨Y,O⟩:=Gp V K;rw [Y];have Z:Nd E H ((S.set j []).flatten++ []):=by rw [List.append_nil];exact Iu.Nd.left O
 obtain⟨U,ag⟩:=Hv (seg':= []) K Z;refine JL.drop (S.set j []).flatten (fun q al=>List.mem_iff_getElem?.1 (List.mem_append_left _ al)) O ?_;have am:(S.set j []).flatten++ []=(S.set j []).flatten:=List.append_nil _;rw [am] at U;rw [U];exact h ag
theorem C8{todo:Li_}{bk:Nat}{c:AD}{f:Nat×Nat}(j:Nat)(O:Ax E H S)(U:S[j]? =some [(bk,.cells c e f)])
  (h:∀E',Le E E'→At E' bk 0 c.toList→Ax E' H (S.set j [])→JL J Q b n L ds todo cs (An E' H (S.set j []))):JL J Q b n L ds todo cs (An E H S):=by
 obtain⟨V,Y⟩:=Gp O U;rw [V];have Z:((S.set j []).flatten++ [(bk,Obj.cells c e f)])[(S.set j []).flatten.length]? =some (bk,Obj.cells c e f):=by simp
 refine JL.freeze (S.set j []).flatten.length Y Z fun E' hle ag K=>?_;have al:((S.set j []).flatten++ [(bk,Obj.cells c e f)]).eraseIdx (S.set j []).flatten.length=(S.set j []).flatten:=by rw [List.eraseIdx_append_of_length_le (Nat.le_refl _)];simp
 rw [al] at K ⊢;exact h E' hle ⟨_,_,_,ag,fun i w hi=>by simpa using hi⟩ K
theorem BU{α:Type}{pp:Rp α}{todo:Li_}{a:Option Addr}{c:Nat}{seg:Seg}{xs:List α}(j:Nat)(hg:OL e pp E a c seg xs)(al:Ax E H S)(am:S[j]? =some seg)
  (h:∀E',Le E E'→Al pp E' a c xs→Ax E' H (S.set j [])→JL J Q b n L ds todo cs (An E' H (S.set j []))):JL J Q b n L ds todo cs (An E H S):=by
 obtain⟨wss,hg,Y,Z⟩:=hg;have ap:∀ad:Addr,a=some ad→ad.spot=none:=fun ad K=>by
  rcases hg with⟨O,_⟩ | ⟨bk,f,O,_⟩
  ·rw [O] at K;cases K
  ·rw [O] at K;cases K;rfl
 obtain⟨O,av⟩:=Gp al am;rw [O];refine Un hg av fun E' hle a0 a1=>h E' hle ?_ a1;obtain⟨a2,a3,U,a4,a9,V⟩:=a0;obtain⟨rfl,-,rfl⟩:a=a2∧xs.length=xs.length∧c=a3:=by
  simp only [Value.slice.injEq] at U;exact⟨U.1,rfl,U.2.2⟩
 refine⟨a4,?_⟩;rcases V with V | ⟨bk,off,f,a5,fr,a6,g2,a7⟩
 ·exact .inl ⟨List.eq_nil_of_length_eq_zero V,fun ad K=> .inl (ap ad K)⟩
 ·refine .inr ⟨bk,off,a6,fun i x ag=>?_⟩;have a8:i<wss.length:=by rw [Y];exact(List.getElem?_eq_some_iff.1 ag).1
  have hw:=List.getElem?_eq_getElem a8;refine⟨wss[i],pp.Ai hle (Z i x _ ag hw),f,a5,fr,g2,fun m w hm=>?_⟩;rw [Nat.add_assoc];exact a7 _ w (Jz (Iw Y Z) hw m w hm)
theorem Uq{α:Type}{pp:Rp α}{wss:List (Lv_)}{xs:List α}{x:α}{ws:Lv_}(O:wss.length=xs.length)(h:∀(i:Nat) x ws,xs[i]? =some x→wss[i]? =some ws→pp.r E ws x)(U:pp.r E ws x):
  ∀(i:Nat) y us,(xs++ [x])[i]? =some y→(wss++ [ws])[i]? =some us→pp.r E us y:=by
 intro i y us K hu;rcases Nat.lt_or_ge i xs.length with hi | hi
 ·rw [List.getElem?_append_left hi] at K;rw [List.getElem?_append_left (by omega)] at hu;exact h i y us K hu
 ·rw [List.getElem?_append_right hi] at K;rw [List.getElem?_append_right (by omega),O] at hu;cases hm:i - xs.length with
  | zero=>rw [hm] at K hu;simp at K hu;subst K hu;exact U
  | succ m=>rw [hm] at K;simp at K
theorem QE{α:Type}{pp:Rp α}{t1 t2:TypeId}{U c:Nat}{a:Option Addr}{seg:Seg}{xs:List α}{xv:α}{al:Nat}{d1:Tmp}{ats:Array TypeId}{V:TypeId}{Y:String}{Z:Ae_}{g':On_}{z:Value}(j:Nat)
  (av:ops[i]? =some ⟨some d1,.buildSlice t2 1 #[(0,y)],V,Y,Z,g'⟩) (hw:Bf L ops ⟨some d1,.buildSlice t2 1 #[(0,y)],V,Y,Z,g'⟩=some true) (a0:CS b n ⟨some d1,.buildSlice t2 1 #[(0,y)],V,Y,Z,g'⟩=true)
  (a1:ops[al]? =some ⟨d,.call ⟨.builtin .append,#[x,.tmp d1],ats⟩,ty,p,af,g⟩) (a2:∀w,Bf (AI L (some d1) w) ops ⟨d,.call ⟨.builtin .append,#[x,.tmp d1],ats⟩,ty,p,af,g⟩=some true) (a3:CS b n ⟨d,.call ⟨.builtin .append,#[x,.tmp d1],ats⟩,ty,p,af,g⟩=true)
  (a4:∀w,ev (AI L (some d1) w) x=some (.slice a xs.length c)) (a5:ev L y=some v) (a6:ats[0]? =some t) (a7:ats[1]? =some t1) (ht:P.underlying t=some (.slice e)) (a8:P.underlying t1=some (.slice e)) (a9:P.underlying t2=some (.slice e)) (bb:BD P e=some pp.n) (hb:EE P e=some U) (bd:zeroOf P e=some z) (be:z.cells.size=pp.n)
  (bi:0<U) (bo:U≤64) (bv:0<pp.n) (bw:pp.n≤64) (bU:xs.length+1≤2 ^ 40) (hg:OL e pp E a c seg xs) (ag:pp.r E v.cells.toList xv) (bV:Ax E H S) (am:S[j]? =some seg)
  (h:∀w K O seg',OL e pp E K O seg' (xs++ [xv])→Ax E H (S.set j seg')→JL J Q b n (AI (AI L (some d1) w) d (.slice K (xs++ [xv]).length O)) ds (.inRegion ops rest::k) cs (An E H (S.set j seg'))):
  JL J Q b n L ds (.inRegion ops (i::al::rest)::k) cs (An E H S):=by
 obtain⟨wss,hg,ap,bW⟩:=hg;obtain⟨bY,bZ⟩:=Gp bV am;rw [bY];have b0:v.cells.size=pp.n:=by simpa using pp.len ag
 refine UZ av hw a0 a1 a2 a3 a4 a5 a6 a7 ht a8 a9 bb hb bd be bi bo b0 bv bw bU (pp.one ag) hg bZ fun w K O b1 b2 b3=>?_;obtain⟨b4,b5⟩:=Hv am b3;rw [b4];have hlen:(xs++ [xv]).length=xs.length+1:=by simp
 have:=h w K O b1 ⟨wss++ [v.cells.toList],by rw [hlen,List.flatten_append];simpa using b2,by simp [ap],Uq ap bW ag⟩ b5;rw [hlen] at this;exact this
theorem Yh{α:Type}{pp:Rp α}{a:Option Addr}{c:Nat}{xs:List α}{xv:α}{m:Int}(O:Al pp E a c xs)(hm:ix xs m=some xv)
  (U:ops[i]? =some ⟨d,.indexAddr t x y,ty,p,af,g⟩) (hw:Bf L ops ⟨d,.indexAddr t x y,ty,p,af,g⟩=some true) (V:CS b n ⟨d,.indexAddr t x y,ty,p,af,g⟩=true)
  (Y:ev L x=some (.slice a xs.length c)) (Z:ev L y=some (.int kd m)) (ht:P.underlying t=some (.slice e)) (ag:BD P e=some pp.n)
  (h:∀bk o ws,pp.r E ws xv→At E bk o ws→JL J Q b n (AI L d (.pointer (some ⟨bk,o,none⟩))) ds (.inRegion ops rest::k) cs (An E H S)):
  JL J Q b n L ds (.inRegion ops (i::rest)::k) cs (An E H S):=by
 obtain⟨m,rfl,hm⟩:=GG hm;have al:m<xs.length:=(List.getElem?_eq_some_iff.1 hm).1;obtain⟨a0,⟨rfl,_⟩ | ⟨bk,off,rfl,am⟩⟩:=O
 ·simp at al
 obtain⟨ws,ap,av⟩:=am m xv hm;refine Bb (v:= .pointer (some ⟨bk,off+m*pp.n,none⟩)) U hw V (fun ρ K=>?_) (h bk _ ws ap av);have:=MB (P:=P) (s:=An E H S) (d:=d) (ty:=ty) (p:=p) (af:=af) (g:=g) ht ag (K x _ Y) (K y _ Z) ⟨by omega,by omega⟩;rw [Dp rfl] at this;simpa using this
theorem At.Kf{bk o j:Nat}{ws:Lv_}{w:Value}(h:At E bk o ws)(K:ws[j]? =some w):(An E H S).cell? ⟨bk,o+j,none⟩=some w:=h.cell K
theorem At.Y7{bk o:Nat}{ws:Lv_}(h:At E bk o ws):∀j v,ws[j]? =some v→(An E H S).cell? (Addr.add ⟨bk,o,none⟩ j)=some v:=h.cells
theorem Bt{todo:Li_}(I:Env→St→Prop){c:Code}(K:∀L s,I L s→JL J Q b n L ds todo cs s)(h:(∀L s,I L s→JL J Q b n L ds todo cs s)→JL J Q b n L ds (.code c::todo) cs s):JL J Q b n L ds (.code c::todo) cs s:=h K
theorem EY{K:List Nat}{todo:Li_}(l:List Nat)(I:Env→St→Prop)(O:∀L s,I L s→JL J Q b n L ds (.inRegion ops l::todo) cs s)(h:(∀L s,I L s→JL J Q b n L ds (.inRegion ops l::todo) cs s)→JL J Q b n L ds (.inRegion ops K::todo) cs s):JL J Q b n L ds (.inRegion ops K::todo) cs s:=h O
theorem RM{K A:Type}{c:Code}{body:K→Option (Bd K A)}{f:Nat}{O:K}{a:A}(U:iter body f O=some a)(I:Env→St→K→Prop)(Y:I L s O)
  (round:∀L s x,I L s x→(∀V,body x=some (.done V)→V=a)→(∃st,body x=some st)→(∀L' s' x',I L' s' x'→body x=some (.more x')→JL J Q b n L' ds (.inLoop c::k) cs s')→JL J Q b n L ds (.code c:: .inLoop c::k) cs s):
  JL J Q b n L ds (.code (.loop c)::k) cs s:=by
 refine IY ?_
 induction f generalizing L s O with
 | zero=>cases U
 | succ f Z=>
  refine round L s O Y (fun V h=>Q7 U h) (Q1 U) fun L' s' x' ag hb=>JL.again (Z (Q6 U hb) ag)
def AN(J:Judge P)(f:FuncId)(args:Lv_)(E:LH)(B:Seg)(R:Value→LH→Seg→Prop):Prop:=
 ∀H,Nd E H B→Ef J f args.toArray (mk E H B) (fun v s'=>∃E' B',Le E E'∧R v E' B'∧Nd E' H B'∧s'=mk E' H B')
theorem AN.enter{f:FuncId}{fn:Func}{c:Code}{vs:Lv_}{B:Seg}{R:Value→LH→Seg→Prop}(O:P.funcs[f]? =some fn)(hb:fn.body=some c)(U:vs.length≤fn.ntmps)
  (h:∀(Q:Gs_) (K:Frame) (cs:Lf_) (H:LH),Ax E H [B]→(∀v E' S' B',Le E E'→S'.flatten=B'→R v E' B'→Ax E' H S'→J.ok Q (G (K.finish v) cs) (An E' H S'))→JL J Q (base f) fn.ntmps (FR 0 vs) [] [.code c] (K::cs) (An E H [B])):AN J f vs E B R:=fun H V=>
 Ef.enter O hb U fun Q K cs Y=>by
  have Z:mk E H B=An E H [B]:=by unfold An;simp
  rw [Z];exact h Q K cs H (by unfold Ax;simpa using V) fun v E' S' B' hle ag al am=>by
   subst ag;exact Y v _ ⟨E',S'.flatten,hle,al,am,rfl⟩
theorem AN.Ai{f:FuncId}{vs:Lv_}{B:Seg}{R K:Value→LH→Seg→Prop}(h:AN J f vs E B R)(U:∀v E' B',Le E E'→R v E' B'→K v E' B'):AN J f vs E B K:=fun H V=>
 (h H V).Ai fun v s' ⟨E',B',O,Y,Z,ag⟩=>⟨E',B',O,U v E' B' O Y,Z,ag⟩
theorem F3{H:LH}:∀{A B:List (Nat×Obj)},Bl (A++B) H=Bl A (Bl B H)
 | [],_=>rfl
 | (c,o)::A,B=>by
  funext x
  simp only [List.cons_append,Bl]
  split
  ·rfl
  ·rw [F3]
theorem KT{H:LH}{x:Nat}:∀{B:List (Nat×Obj)},(∀p∈B,p.1≠x)→Bl B H x=H x
 | [],_=>rfl
 | (c,u)::B,K=>by
  have O:x≠c:=fun e=>K (c,u) (by simp) e.symm
  simp only [Bl,if_neg O]
  exact KT fun p U=>K p (List.mem_cons_of_mem _ U)
theorem Nd.front{A B:List (Nat×Obj)}(h:Nd E H (A++B)):Nd E (Bl B H) A:=by
 rw [Nd.iff] at h ⊢;obtain⟨K,U⟩:=h;rw [List.map_append,List.nodup_append] at K;refine⟨K.1,fun q O=>⟨(U q (List.mem_append_left _ O)).1,?_⟩⟩;rw [KT fun r V e=>K.2.2 q.1 (List.mem_map_of_mem O) r.1 (List.mem_map_of_mem V) e.symm];exact(U q (List.mem_append_left _ O)).2
theorem Nd.glue{A B:List (Nat×Obj)}(h:Nd E (Bl B H) A)(U:Nd E H B):Nd E H (A++B):=by
 have V:=U;rw [Nd.iff] at h U ⊢;rw [List.map_append,List.nodup_append];have key:∀q∈A,∀r∈B,q.1≠r.1:=fun q K r O e=>by
  have:=(h.2 q K).2;rw [e] at this;obtain⟨i,hi⟩:=V.mem (b:=r.1) (o:=r.2) O;rw [Iz V hi] at this;cases this
 refine⟨⟨h.1,U.1,fun x Y y Z e=>?_⟩,fun q K=>?_⟩
 ·obtain⟨q,K,rfl⟩:=List.mem_map.1 Y;obtain⟨r,O,rfl⟩:=List.mem_map.1 Z;exact key q K r O e
 ·rcases List.mem_append.1 K with K | K
  ·refine⟨(h.2 q K).1,?_⟩;have:=(h.2 q K).2
   rwa [KT fun r O e=>key q K r O e.symm] at this
  ·exact U.2 q K
theorem O7{f:FuncId}{args:Array Operand}{ats:Array TypeId}{vs:Lv_}{seg:Seg}{R:Value→LH→Seg→Prop}(j:Nat)
  (ag:AN J f vs E seg R) (al:ops[i]? =some ⟨d,.call ⟨.value (.func f),args,ats⟩,ty,p,af,g⟩) (hw:Bf L ops ⟨d,.call ⟨.value (.func f),args,ats⟩,ty,p,af,g⟩=some true) (am:((b.kind != .early)&&BE n d)=true) (hb:D3 P f=true)
  (ap:evs L args.toList=some vs) (K:Ax E H S) (O:S[j]? =some seg) (av:∀v E' seg',Le E E'→R v E' seg'→Ax E' H (S.set j seg')→JL J Q b n (AI L d v) ds (.inRegion ops rest::k) cs (An E' H (S.set j seg'))):
  JL J Q b n L ds (.inRegion ops (i::rest)::k) cs (An E H S):=by
 have U:S.flatten.Perm (seg++(S.set j []).flatten):=(Ez (seg':=seg) O).1.trans List.perm_append_comm;have V:Nd E H (seg++(S.set j []).flatten):=Nd.perm K U;have a0:An E H S=mk E (Bl (S.set j []).flatten H) seg:=by
  rw [show An E H S=mk E H S.flatten from rfl,FA K U];unfold mk;rw [F3]
 rw [a0];refine V6 al hw am hb ap (ag _ (Nd.front V)) ?_;rintro v s' ⟨E',B',hle,a1,a2,rfl⟩;have a3:mk E' (Bl (S.set j []).flatten H) B'=mk E' H (B'++(S.set j []).flatten):=by unfold mk;rw [F3]
 have a4:Nd E H (S.set j []).flatten:=by
  have:=V;rw [Nd.iff] at this ⊢;rw [List.map_append,List.nodup_append] at this;exact⟨this.1.2.1,fun q a5=>this.2 q (List.mem_append_right _ a5)⟩
 refine SM rfl fun⟨w,a6⟩=>?_;have a7:Nd E' H (S.set j []).flatten:=a4.grow fun x a8=>by
  have a9:=a6.d x a8;have bb:Bl B' (Bl (S.set j []).flatten H) x=none:=a9;exact(G0 bb).1
 have Y:Nd E' H (B'++(S.set j []).flatten):=Nd.glue a2 a7;rw [a3];have Z:(B'++(S.set j []).flatten).Perm (S.set j B').flatten:=List.perm_append_comm.trans (Ez O).2.symm;rw [FA Y Z];exact av v E' B' hle a1 (Nd.perm Y Z)
theorem JS.call{f:FuncId}{args:Array Operand}{ats:Array TypeId}{vs:Lv_}{R:Value→LH→Seg→Prop}
  (U:AN J f vs E [] R) (V:ops[i]? =some ⟨d,.call ⟨.value (.func f),args,ats⟩,ty,p,af,g⟩) (hw:Bf L ops ⟨d,.call ⟨.value (.func f),args,ats⟩,ty,p,af,g⟩=some true) (Y:((b.kind != .early)&&BE n d)=true) (hb:D3 P f=true)
  (Z:evs L args.toList=some vs) (K:Ax E H S) (ag:∀v E' seg',Le E E'→R v E' seg'→Ax E' H (S++ [seg'])→JL J Q b n (AI L d v) ds (.inRegion ops rest::k) cs (An E' H (S++ [seg']))):
  JL J Q b n L ds (.inRegion ops (i::rest)::k) cs (An E H S):=by
 have al:An E H S=An E H (S++ [[]]):=by unfold An;simp
 rw [al];refine O7 S.length U V hw Y hb Z (by unfold Ax at K ⊢;rw [G3,List.append_nil];exact K) (by simp) fun v E' seg' hle am O=>?_;have ap:(S++ [[]]).set S.length seg'=S++ [seg']:=HU _ _ _ _;rw [ap] at O ⊢;exact ag v E' seg' hle am O
theorem DN{todo:Li_}{S':List Seg}(K:S'.flatten=S.flatten)(O:Ax E H S)(h:Ax E H S'→JL J Q b n L ds todo cs (An E H S')):JL J Q b n L ds todo cs (An E H S):=by
 unfold An Ax at*;rw [K] at h;exact h O
end
end Pal
namespace Pal
open Go Go.Conc
def Ld(P:Program)(t:TypeId)(a:Addr)(s:St)(v:Value):Prop:=lp P (loadVar t a) s (fun u s'=>u=v∧s'=s) (fun _ _=>False)
theorem Ld.many{P:Program}{t:TypeId}{a:Addr}{s:St}{vs:Lv_}(ht:Dk P t=some true)(K:BD P t=some vs.length)(h:∀j v,vs[j]? =some v→s.cell? (a.add j)=some v):Ld P t a s (.agg vs.toArray):=QB ht K h ⟨rfl,rfl⟩
def RV(P:Program)(L:Env)(s:St):List ResultVar→Lv_→Prop
 | [],[]=>True
 | .tmp t::rs,v::vs=>look L t=some v∧RV P L s rs vs
 | .cell a t::rs,v::vs=>(∃ad,look L a=some (.pointer (some ad))∧Ld P t ad s v)∧RV P L s rs vs
 | _,_=>False
def MS:Lv_→Value
 | [v]=>v
 | vs=> .tuple vs.toArray
theorem UM(vs:Lv_):(if h:vs.toArray.size=1 then vs.toArray[0] else Value.tuple vs.toArray)=MS vs:=by
 match vs with
 | []=>rfl
 | [v]=>rfl
 | a::b::c=>simp [MS]
theorem Cm.list{P:Program}{f:FuncId}{fn:Func}{n:Nat}{L:Env}{s:St}{rs:List ResultVar}{vs:Lv_}(Y:P.funcs[f]? =some fn)(Z:fn.results.toList=rs)(h:RV P L s rs vs):Cm P f L n s (MS vs):=by
 refine⟨fn,Y,fun T U=>?_⟩;unfold results;rw [Array.mapM_eq_mapM_toList,Z];have key:∀(rs:List ResultVar) (acc vs:Lv_) {Q:Lv_→St→Prop} {X:Halt→St→Prop},RV P L s rs vs→Q (acc.reverse++vs) s→lp P (List.mapM.loop (m:=Sem) (fun r=>match r with
   | .tmp t=>pure (T.getD t undef)
   | .cell a t=>do loadVar t (← asAddr (T.getD a undef))) rs acc) s Q X:=by
  intro rs
  induction rs with
  | nil=>
   intro acc vs Q X h k;cases vs with
   | nil=>simp only [List.append_nil] at k;exact k
   | cons v vs=>cases h
  | cons r rs V=>
   intro acc vs Q X h k;cases vs with
   | nil=>cases r <;> cases h
   | cons v vs=>
    cases r with
    | tmp t=>
     obtain⟨K,O⟩:=h;have:=U.at_ t v K;simp only [List.mapM.loop];rw [this];exact V (v::acc) vs O (by simpa using k)
    | cell a t=>
     obtain⟨⟨ad,K,ag⟩,O⟩:=h;have:=U.at_ a _ K;simp only [List.mapM.loop];rw [this];refine AH _ _ (Dz _ (show lp P (loadVar t ad) s _ _ from ag) ?_ (fun _ _ h=>h.elim));rintro u s' ⟨rfl,rfl⟩;exact V (u::acc) vs O (by simpa using k)
 refine AH _ _ (AH (x:=List.mapM.loop (m:=Sem) _ rs []) (f:=fun r=>pure r.toArray) ?_);refine key rs [] vs h ?_;simp only [List.reverse_nil,List.nil_append,lp,pure];exact⟨UM vs,trivial⟩
section
variable {P:Program}{J:Judge P}{Q:Gs_}{g:Goroutine}{E H:LH}{S:List Seg}
theorem IA{seg:Seg}(j:Nat)(Y:Ax E H S)(U:S[j]? =some seg)(h:Ax E H (S.set j [])→J.ok Q g (An E H (S.set j []))):J.ok Q g (An E H S):=by
 obtain⟨Z,K⟩:=Gp Y U;have ag:Nd E H ((S.set j []).flatten++ []):=by rw [List.append_nil];exact Iu.Nd.left K
 obtain⟨av,al⟩:=Hv (seg':= []) U ag;refine J.ghost (s₀:=An E H (S.set j [])) ⟨fun _ _ h=>h,fun x o am=>?_,fun _ _ h=> .inl h,rfl⟩ (h al);have V:Bl (S.set j []).flatten H x=some o:=am;show(An E H S).H x=some o;rw [Z];show Bl ((S.set j []).flatten++seg) H x=some o;rw [show Bl ((S.set j []).flatten++seg) H=Bl (seg++(S.set j []).flatten) H from KF K List.perm_append_comm,F3];by_cases hm:∃p∈seg,p.1=x
 ·exfalso;obtain⟨p,O,e⟩:=hm;have ap:=Nd.front (Nd.perm K List.perm_append_comm);have:=((Nd.iff.1 ap).2 p O).2;rw [e,V] at this;cases this
 ·rw [KT fun p O e=>hm ⟨p,O,e⟩];exact V
end
section
variable {P:Program}{J:Judge P}{Q:Gs_}{b:Frame}{n:Nat}{ds:Ld_}{ops:Ao_}{k:Li_}{cs:Lf_}{L:Env}{s:St}{E E' H:LH}{S:List Seg}
variable {d:Option Tmp}{x y:Operand}{t u ty e:TypeId}{p:String}{af:Ae_}{g:On_}{v:Value}{i:Nat}{rest:List Nat}{kd:IntKind}
theorem OU{ρ:Operand→Value}{len:Nat}{K:Array (Nat×Operand)}:execOp ρ ⟨d,.buildSlice t len K,ty,p,af,g⟩=(do pure (Next.value (← Instr.buildSlice t len (K.map fun(j,x)=>(j,ρ x))))):=by
 simp only [execOp]
theorem US(v:AD)(off:Nat)(c:AD):v.zipIdx.foldl (fun cs (x,j)=>cs.setIfInBounds (off+j) x) c=A2 c off v.toList:=by
 rw [← Array.foldl_toList,Array.toList_zipIdx];have key:∀(l:Lv_) (st:Nat) (c:AD),List.foldl (fun cs (p:Value×Nat)=>cs.setIfInBounds (off+p.2) p.1) c (l.zipIdx st)=A2 c (off+st) l:=by
  intro l
  induction l with
  | nil=>intro st c;rfl
  | cons x l K=>intro st c;simp only [List.zipIdx_cons,List.foldl_cons,A2];rw [K];rfl
 exact key v.toList 0 c
def Kh(place:Nat→Option (Nat×Nat))(cells:AD):List (Nat×Value)→Option (AD)
 | []=>some cells
 | (i,v)::rest=>match place i with
  | none=>none
  | some (off,size)=>if v.cells.size=size∧off+v.cells.size≤cells.size then Kh place (A2 cells off v.cells.toList) rest else none
theorem fill_eq{place:Nat→Option (Nat×Nat)}:∀{vs:List (Nat×Value)} {cells:AD},Instr.fill place cells vs=Kh place cells vs
 | [],_=>rfl
 | (i,v)::rest,cells=>by
  simp only [Instr.fill,Kh]
  cases place i with
  | none=>rfl
  | some q=>
   obtain⟨off,size⟩:=q
   simp only
   by_cases h:v.cells.size=size∧off+v.cells.size≤cells.size
   ·rw [if_pos h,if_neg (by simp only [Bool.or_eq_true,decide_eq_true_eq,ne_eq];omega),fill_eq,US]
   ·rw [if_neg h,if_pos (by simp only [Bool.or_eq_true,decide_eq_true_eq,ne_eq];omega)]
theorem Rl{n:Nat}:∀(vs:Lv_) (st:Nat) (cells:AD),(∀v∈vs,v.cells.size=n)→cells.size=(st+vs.length)*n→
  ∃O,Kh (fun i=>some (i*n,n)) cells ((vs.zipIdx st).map fun q=>(q.2,q.1))=some O∧O.toList=cells.toList.take (st*n)++(vs.map (·.cells.toList)).flatten
 | [],st,cells,_,hs=>⟨cells,rfl,by simp only [List.length_nil,Nat.add_zero] at hs;simp [← hs,List.take_of_length_le]⟩
 | v::vs,st,cells,U,hs=>by
  have K:=U v (by simp)
  have hle:st*n+n≤cells.size:=by
   rw [hs,List.length_cons];have:(st+1)*n≤(st+(vs.length+1))*n:=Nat.mul_le_mul_right _ (by omega);rw [Nat.succ_mul] at this;exact this
  obtain⟨V,Y,Z⟩:=Rl vs (st+1) (A2 cells (st*n) v.cells.toList) (fun u hu=>U u (List.mem_cons_of_mem _ hu)) (by rw [Mt,hs,List.length_cons];congr 1;omega);refine⟨V,?_,?_⟩
  ·simp only [List.zipIdx_cons,List.map_cons,Kh];rw [if_pos ⟨K,by omega⟩];exact Y
  ·rw [Z,Nat.succ_mul];have:=Qu cells (st*n) v.cells.toList (by simp [K];omega);rw [show v.cells.toList.length=n by simp [K]] at this;rw [this];simp
def IL{α:Type}(pp:Rp α)(E:LH):List α→Lv_→Prop
 | [],[]=>True
 | x::xs,v::vs=>pp.r E v.cells.toList x∧IL pp E xs vs
 | _,_=>False
theorem IL.at{E:LH}{α:Type}{pp:Rp α}:∀{xs:List α} {vs:Lv_},IL pp E xs vs→∀(i:Nat) x v,xs[i]? =some x→vs[i]? =some v→pp.r E v.cells.toList x
 | [],_,_,_,_,_,h,_=>by simp at h
 | _::_,[],h,_,_,_,_,_=>h.elim
 | x::xs,v::vs,h,0,y,u,K,hu=>by simp at K hu;subst K hu;exact h.1
 | x::xs,v::vs,h,i+1,y,u,K,hu=>IL.at h.2 i y u (by simpa using K) (by simpa using hu)
theorem PC{E0:LH}{ρ:Operand→Value}{K:Next→St→Prop}(a2:EL L ρ){α:Type}{pp:Rp α}{len:Nat}{Y:Array (Nat×Operand)}(vs:Lv_){z:Value}(xs:List α)
  (ht:P.underlying t=some (.slice e)) (a3:BD P e=some pp.n) (a4:zeroOf P e=some z) (a5:decide (0<len*pp.n∧len*pp.n≤2 ^ 24)=true)
  (a6:Y.toList.mapM (fun q=>(ev L q.2).map fun v=>(q.1,v))=some ((vs.zipIdx 0).map fun q=>(q.2,q.1)))
  (U:vs.length=len) (V:xs.length=len) (a7:IL pp E0 xs vs) (a8:Ax E H S)
  (h:∀r seg,OL e pp E0 (some ⟨r,0,none⟩) len seg xs→Ax E H (S++ [seg])→K (.value (.slice (some ⟨r,0,none⟩) xs.length len)) (An E H (S++ [seg]))):
  lp P (execOp ρ ⟨d,.buildSlice t len Y,ty,p,af,g⟩) (An E H S) K (fun _ _=>False):=by
 have am:=a7.at;have a9:(Y.map fun(j,x)=>(j,ρ x)).toList=(vs.zipIdx 0).map fun q=>(q.2,q.1):=by
  have key:∀(l:List (Nat×Operand)) (vs:List (Nat×Value)),l.mapM (fun q=>(ev L q.2).map fun v=>(q.1,v))=some vs→l.map (fun(j,x)=>(j,ρ x))=vs:=by
   intro l
   induction l with
   | nil=>intro vs h;simp at h;subst h;rfl
   | cons q l Z=>
    intro vs h;simp only [List.mapM_cons,bind] at h;cases ag:ev L q.2 with
    | none=>rw [ag] at h;simp at h
    | some w=>
     rw [ag] at h;simp only [Option.map_some,Option.bind_some] at h;obtain⟨bb,bd,ap⟩:=bind_some h;simp at ap;subst ap;simp [Z bb bd,a2 _ _ ag]
  rw [Array.toList_map];exact key _ _ a6
 have av:∀v∈vs,v.cells.size=pp.n:=fun v O=>by
  obtain⟨i,hi⟩:=List.mem_iff_getElem?.1 O;have be:i<xs.length:=by rw [V,← U];exact(List.getElem?_eq_some_iff.1 hi).1
  simpa using pp.len (am i _ v (List.getElem?_eq_getElem be) hi)
 rw [OU];refine AH _ _ ?_;unfold Instr.buildSlice;refine AH _ _ (Dm ht ?_);refine AH _ _ (EX a3 ?_);have bv:=of_decide_eq_true a5;rw [if_neg (by omega),if_neg (by omega)];refine AH (x:=zeroValue e) _ (Gk a4 ?_);rw [Hn,a9];obtain⟨cells,bi,al⟩:=Rl vs 0 ((Array.range (len*pp.n)).map (z.cells[· % z.cells.size]!)) av (by simp [U]);simp only [fill_eq,bi];simp only [Nat.zero_mul,List.take_zero,List.nil_append] at al;refine AH _ _ (G1 a8 fun r a0=>?_);rw [(Eo a0).1];have a1:cells.size=len*pp.n:=by
  have:cells.toList.length=len*pp.n:=by
   rw [al];have:∀(vs:Lv_),(∀v∈vs,v.cells.size=pp.n)→(vs.map (·.cells.toList)).flatten.length=vs.length*pp.n:=by
    intro vs
    induction vs with
    | nil=>intro _;simp
    | cons v vs Z=>intro h;rw [List.map_cons,List.flatten_cons,List.length_append,Z fun w hw=>h w (List.mem_cons_of_mem _ hw),List.length_cons,Nat.succ_mul,Nat.add_comm];simp [h v (by simp)]
   rw [this vs av,U]
  simpa using this
 have:=h r [(r,.cells cells e (0,0))] ⟨vs.map (·.cells.toList),.inr ⟨r,cells,rfl,rfl,a1,by omega,by rw [← al,List.take_of_length_le (by simp [a1,V])]⟩,by simp [U,V],fun i x ws bo hw=>by
  rw [List.getElem?_map] at hw
  cases O:vs[i]? with
  | none=>rw [O] at hw;cases hw
  | some v=>rw [O] at hw;cases hw;exact am i x v bo O⟩ (Eo a0).2
 rw [V] at this;exact this
theorem DK{α:Type}{pp:Rp α}{len:Nat}{K:Array (Nat×Operand)}(vs:Lv_){z:Value}(xs:List α)
  (O:ops[i]? =some ⟨d,.buildSlice t len K,ty,p,af,g⟩) (hw:Bf L ops ⟨d,.buildSlice t len K,ty,p,af,g⟩=some true) (U:CS b n ⟨d,.buildSlice t len K,ty,p,af,g⟩=true)
  (ht:P.underlying t=some (.slice e)) (V:BD P e=some pp.n) (Y:zeroOf P e=some z) (Z:decide (0<len*pp.n∧len*pp.n≤2 ^ 24)=true)
  (ag:K.toList.mapM (fun q=>(ev L q.2).map fun v=>(q.1,v))=some ((vs.zipIdx 0).map fun q=>(q.2,q.1)))
  (al:vs.length=len) (am:xs.length=len) (ap:IL pp E xs vs) (av:Ax E H S)
  (h:∀r seg,OL e pp E (some ⟨r,0,none⟩) len seg xs→Ax E H (S++ [seg])→JL J Q b n (AI L d (.slice (some ⟨r,0,none⟩) xs.length len)) ds (.inRegion ops rest::k) cs (An E H (S++ [seg]))):
  JL J Q b n L ds (.inRegion ops (i::rest)::k) cs (An E H S):=by
 exact JL.op O hw U fun ρ a0=>PC a0 vs xs ht V Y Z ag al am ap av h
theorem OL.get{α:Type}{pp:Rp α}{a:Option Addr}{c:Nat}{seg:Seg}{xs:List α}{m:Nat}{x:α}(hg:OL e pp E a c seg xs)(hm:xs[m]? =some x):
  ∃bk f ws,a=some ⟨bk,0,none⟩∧seg= [(bk,.cells f e (0,0))]∧pp.r E ws x∧(∀j w,ws[j]? =some w→f[m*pp.n+j]? =some w)∧(m+1)*pp.n≤f.size∧
   ∀(x':α) (ws':Lv_),pp.r E ws' x'→OL e pp E a c [(bk,.cells (A2 f (m*pp.n) ws') e (0,0))] (xs.set m x'):=by
 obtain⟨wss,hg,am,Y⟩:=hg;have ap:m<xs.length:=(List.getElem?_eq_some_iff.1 hm).1;rcases hg with⟨Z,av,_⟩ | ⟨bk,f,Z,av,a6,a0,a1⟩
 ·omega
 have hw:wss[m]? =some wss[m]:=List.getElem?_eq_getElem (by omega);have a2:=Iw am Y;have hle:(m+1)*pp.n≤xs.length*pp.n:=Nat.mul_le_mul_right _ ap;have a9:xs.length*pp.n≤c*pp.n:=Nat.mul_le_mul_right _ a0;refine⟨bk,f,wss[m],Z,av,Y m x _ hm hw,fun j w K=>?_,by omega,fun x' ws' a3=>?_⟩
 ·have:=Jz a2 hw j w K;rw [a1,List.getElem?_take] at this;split at this
  ·simpa using this
  ·cases this
 ·have a4:ws'.length=pp.n:=pp.len a3;refine⟨wss.set m ws',.inr ⟨bk,_,Z,rfl,by rw [Mt];exact a6,by simpa using a0,?_⟩,by simpa using am,fun i y us V hu=>?_⟩
  ·simp only [List.length_set];have key:∀(wss:List (Lv_)) (m:Nat) (hm:m<wss.length),(∀ws∈wss,ws.length=pp.n)→∀j,(wss.set m ws').flatten[j]? =if m*pp.n≤j∧j<(m+1)*pp.n then ws'[j - m*pp.n]? else wss.flatten[j]? :=by
    intro wss
    induction wss with
    | nil=>intro m hm;simp at hm
    | cons us wss ag=>
     intro m hm a5 j;have hu:us.length=pp.n:=a5 us (by simp);cases m with
     | zero=>
      simp only [List.set_cons_zero,List.flatten_cons,Nat.zero_mul,Nat.zero_le,true_and,Nat.zero_add,Nat.one_mul,Nat.sub_zero];split
      ·rename_i K;rw [List.getElem?_append_left (by omega)]
      ·rename_i K;rw [List.getElem?_append_right (by omega),List.getElem?_append_right (by omega),a4,hu]
     | succ m=>
      simp only [List.set_cons_succ,List.flatten_cons];have O:(m+1)*pp.n=m*pp.n+pp.n:=Nat.succ_mul _ _;have al:(m+1+1)*pp.n=(m+1)*pp.n+pp.n:=Nat.succ_mul _ _;rcases Nat.lt_or_ge j us.length with K | K
      ·rw [List.getElem?_append_left K,List.getElem?_append_left K,if_neg (by omega)]
      ·rw [List.getElem?_append_right K,List.getElem?_append_right K,ag m (by simpa using hm) (fun ws a7=>a5 ws (List.mem_cons_of_mem _ a7))];by_cases U:m*pp.n≤j - us.length∧j - us.length<(m+1)*pp.n
       ·rw [if_pos U,if_pos (by omega)];congr 1;omega
       ·rw [if_neg U,if_neg (by omega)]
   have a8:∀(vs:Lv_) (c:AD) (off:Nat),off+vs.length≤c.size→∀j,(A2 c off vs)[j]? =if off≤j∧j<off+vs.length then vs[j - off]? else c[j]? :=by
    intro vs
    induction vs with
    | nil=>intro c off _ j;simp [A2];omega
    | cons w vs ag=>
     intro c off U j;simp only [A2,List.length_cons] at*;rw [ag _ _ (by simp;omega)];by_cases O:j=off
     ·subst O;rw [if_neg (by omega),if_pos (by omega),Nat.sub_self,List.getElem?_cons_zero,Array.getElem?_setIfInBounds_self_of_lt (by omega)]
     ·by_cases al:off+1≤j∧j<off+1+vs.length
      ·rw [if_pos al,if_pos (by omega)];have:j - off=(j - (off+1))+1:=by omega
       rw [this];simp
      ·rw [if_neg al,if_neg (by omega),Array.getElem?_setIfInBounds_ne (by omega)]
   apply List.ext_getElem?;intro j;have O:(m+1)*pp.n=m*pp.n+pp.n:=Nat.succ_mul _ _;have t1:(A2 f (m*pp.n) ws').toList[j]? =(A2 f (m*pp.n) ws')[j]? :=Array.getElem?_toList;have t2:f.toList[j]? =f[j]? :=Array.getElem?_toList;rw [key wss m (by omega) a2,List.getElem?_take,t1,a8 ws' f (m*pp.n) (by omega),a1,List.getElem?_take,t2,a4];by_cases U:m*pp.n≤j∧j<(m+1)*pp.n
   ·rw [if_pos U,if_pos (by omega),if_pos (by omega)]
   ·rw [if_neg U,if_neg (show ¬(m*pp.n≤j∧j<m*pp.n+pp.n) by omega)]
  ·rw [List.getElem?_set] at V hu;by_cases O:m=i
   ·subst O;rw [if_pos rfl,if_pos ap] at V;rw [if_pos rfl,if_pos (by omega)] at hu;cases V;cases hu;exact a3
   ·rw [if_neg O] at hu V;exact Y i y us V hu
theorem I7{α:Type}{pp:Rp α}{a:Option Addr}{c:Nat}{seg:Seg}{xs:List α}{xv:α}{m:Int}(j:Nat)(hg:OL e pp E a c seg xs)(hm:ix xs m=some xv)(O:S[j]? =some seg)
  (U:ops[i]? =some ⟨d,.indexAddr t x y,ty,p,af,g⟩) (hw:Bf L ops ⟨d,.indexAddr t x y,ty,p,af,g⟩=some true) (V:CS b n ⟨d,.indexAddr t x y,ty,p,af,g⟩=true)
  (Y:ev L x=some (.slice a xs.length c)) (Z:ev L y=some (.int kd m)) (ht:P.underlying t=some (.slice e)) (ag:BD P e=some pp.n)
  (h:∀bk o f ws,S[j]? =some [(bk,.cells f e (0,0))]→pp.r E ws xv→(∀j w,ws[j]? =some w→f[o+j]? =some w)→o+pp.n≤f.size→(∀(x':α) (ws':Lv_),pp.r E ws' x'→OL e pp E a c [(bk,.cells (A2 f o ws') e (0,0))] (xs.set m.toNat x'))→o=m.toNat*pp.n→a=some ⟨bk,0,none⟩→
   JL J Q b n (AI L d (.pointer (some ⟨bk,o,none⟩))) ds (.inRegion ops rest::k) cs (An E H S)):
  JL J Q b n L ds (.inRegion ops (i::rest)::k) cs (An E H S):=by
 obtain⟨m,rfl,hm⟩:=GG hm;have a2:m<xs.length:=(List.getElem?_eq_some_iff.1 hm).1;obtain⟨bk,f,ws,rfl,rfl,al,am,ap,av⟩:=OL.get hg hm;have a0:(m+1)*pp.n=m*pp.n+pp.n:=Nat.succ_mul _ _;have a1:m*pp.n+pp.n≤f.size:=by rw [← a0];exact ap
 refine Bb (v:= .pointer (some ⟨bk,m*pp.n,none⟩)) U hw V (fun ρ K=>?_) (h bk (m*pp.n) f ws O al am a1 (by simpa using av) (by simp) rfl);have:=MB (P:=P) (s:=An E H S) (d:=d) (ty:=ty) (p:=p) (af:=af) (g:=g) ht ag (K x _ Y) (K y _ Z) ⟨by omega,by omega⟩;rw [Dp rfl] at this;simpa using this
end
end Pal
namespace Pal
open Go Go.Conc
section
variable {P:Program}{J:Judge P}{Q:Gs_}{b:Frame}{n:Nat}{ds:Ld_}{ops:Ao_}{k:Li_}{cs:Lf_}{L:Env}{s:St}{E E' H:LH}{S:List Seg}
variable {d:Option Tmp}{x y:Operand}{t u ty e:TypeId}{p:String}{af:Ae_}{g:On_}{v:Value}{i:Nat}{rest:List Nat}{kd:IntKind}
theorem JS.perm{todo:Li_}{S':List Seg}(K:S.flatten.Perm S'.flatten)(O:Ax E H S)(h:Ax E H S'→JL J Q b n L ds todo cs (An E H S')):JL J Q b n L ds todo cs (An E H S):=by
 have U:Ax E H S':=Nd.perm O K;rw [show An E H S=An E H S' from FA O K];exact h U
theorem Ep{todo:Li_}{A B:Seg}(j:Nat)(K:S[j]? =some (A++B))(O:Ax E H S)(h:Ax E H (S.set j A++ [B])→JL J Q b n L ds todo cs (An E H (S.set j A++ [B]))):JL J Q b n L ds todo cs (An E H S):=by
 refine JS.perm ?_ O h;have U:=(Ez (seg':=A) K).1;have V:=(Ez (seg':=A) K).2;rw [G3];refine U.trans ?_;have Y:=V.symm.append_right B
 rwa [List.append_assoc] at Y
theorem JS.swap{todo:Li_}{A B:Seg}(j l:Nat)(O:S[j]? =some A)(U:S[l]? =some B)(Y:(j==l)=false)(Z:Ax E H S)(h:Ax E H ((S.set j B).set l A)→JL J Q b n L ds todo cs (An E H ((S.set j B).set l A))):JL J Q b n L ds todo cs (An E H S):=by
 have K:j≠l:=by simpa using Y
 refine JS.perm ?_ Z h;have ag:=(Ez (seg':=B) O).1;have al:(S.set j [])[l]? =some B:=by rw [List.getElem?_set_ne K];exact U
 have am:=(Ez (seg':=A) al).1;have ap:((S.set j B).set l A)[l]? =some A:=by
  have:l<(S.set j B).length:=by rw [List.length_set];exact(List.getElem?_eq_some_iff.1 U).1
  rw [List.getElem?_set,if_pos rfl,if_pos this]
 have V:=(Ez (seg':=A) ap).1;rw [List.set_set] at V;have av:((S.set j B).set l [])[j]? =some B:=by
  have:j<S.length:=(List.getElem?_eq_some_iff.1 O).1;rw [List.getElem?_set_ne (Ne.symm K)];simp [this]
 have c2:=(Ez (seg':=B) av).1;have a0:(((S.set j B).set l []).set j [])=((S.set j []).set l []):=by
  rw [List.set_comm _ _ K,List.set_set,List.set_comm _ _ K.symm]
 rw [a0] at c2;exact ag.trans ((am.append_right A).trans ((c2.symm.append_right A).trans V.symm))
theorem F2{bk off:Nat}{c:AD}{f:Nat×Nat}{vs:Lv_}{seg:Seg}(j:Nat)(K:Ax E H S)(O:S[j]? =some ((bk,.cells c e f)::seg))(U:(c.toList.drop off).take vs.length=vs):∀i v,vs[i]? =some v→(An E H S).cell? (Addr.add ⟨bk,off,none⟩ i)=some v:=
 UJ K O fun i v hi=>by
  have V:i<vs.length:=(List.getElem?_eq_some_iff.1 hi).1
  rw [← U,List.getElem?_take_of_lt V,List.getElem?_drop,Array.getElem?_toList] at hi
  exact hi
theorem My(vs:Lv_):∀(c:AD) (off:Nat),off+vs.length≤c.size→∀j,(A2 c off vs)[j]? =if off≤j∧j<off+vs.length then vs[j - off]? else c[j]? :=by
 induction vs with
 | nil=>intro c off _ j;simp [A2];omega
 | cons w vs O=>
  intro c off V j;simp only [A2,List.length_cons] at*;rw [O _ _ (by simp;omega)];by_cases U:j=off
  ·subst U;rw [if_neg (by omega),if_pos (by omega),Nat.sub_self,List.getElem?_cons_zero,Array.getElem?_setIfInBounds_self_of_lt (by omega)]
  ·by_cases K:off+1≤j∧j<off+1+vs.length
   ·rw [if_pos K,if_pos (by omega)];have:j - off=(j - (off+1))+1:=by omega
    rw [this];simp
   ·rw [if_neg K,if_neg (by omega),Array.getElem?_setIfInBounds_ne (by omega)]
theorem UE{f:AD}{o m:Nat}{ws us vs:Lv_}(hle:o+ws.length≤f.size)(Y:∀j w,ws[j]? =some w→f[o+j]? =some w)(K:vs=ws.take m++us++ws.drop (m+us.length))(hm:m+us.length≤ws.length):A2 f (o+m) us=A2 f o vs:=by
 have Z:vs.length=ws.length:=by subst K;simp;omega
 apply Array.ext_getElem?;intro j;rw [My us f (o+m) (by omega),My vs f o (by omega),Z];by_cases O:o+m≤j∧j<o+m+us.length
 ·rw [if_pos O,if_pos (by omega)];subst K;rw [List.getElem?_append_left (by simp;omega),List.getElem?_append_right (by simp;omega)];congr 1;simp;omega
 ·rw [if_neg O];by_cases U:o≤j∧j<o+ws.length
  ·rw [if_pos U];have hw:ws[j - o]? =some ws[j - o]:=List.getElem?_eq_getElem (by omega);have:=Y _ _ hw;rw [show o+(j - o)=j by omega] at this;rw [this,← hw];subst K;rcases Nat.lt_or_ge (j - o) m with V | V
   ·rw [List.getElem?_append_left (by simp;omega),List.getElem?_append_left (by simp;omega),List.getElem?_take_of_lt V]
   ·rw [List.getElem?_append_right (by simp;omega),List.getElem?_drop];congr 1;simp;omega
  ·rw [if_neg U]
end
end Pal
namespace Pal
open Go Go.Conc
theorem elim_inl{α β K:Type}{f:α→Option K}{g:β→Option K}{x:α}{r:K}(h:Sum.elim f g (.inl x)=some r):f x=some r:=h
theorem elim_inr{α β K:Type}{f:α→Option K}{g:β→Option K}{x:β}{r:K}(h:Sum.elim f g (.inr x)=some r):g x=some r:=h
def room{α:Type}(xs:List α)(x:α):Option (List α):=if xs.length+1≤2 ^ 40 then some (xs++ [x]) else none
theorem VO{α:Type}{xs ys:List α}{x:α}(h:room xs x=some ys):xs.length+1≤2 ^ 40∧ys=xs++ [x]:=by
 unfold room at h;split at h
 ·rename_i hb;exact⟨hb,(Option.some.inj h).symm⟩
 ·cases h
def N9(a b:Nat):Option Nat:=if b=0 then none else some (a % b)
def Jv(a b:Nat):Option Nat:=if a<65536∧b<65536 then some (a ||| b) else none
def Kk(a b:Nat):Option Nat:=if a<65536∧b<65536 then some (a&&& b) else none
section
variable {P:Program}{s:St}{ρ:Operand→Value}{x y z:Operand}{d:Option Tmp}{t u ty e:TypeId}{p:String}{af:Ae_}{g:On_}{v:Value}{kd kd':IntKind}{m m':Int}{a b:Nat}
theorem WO{r:Nat}(K:ρ x= .int .u64 (a:Int))(O:ρ y= .int .u64 (b:Int))(h:N9 a b=some r):Yl P ⟨d,.binOp .rem t x y u,ty,p,af,g⟩ ρ s (.int .u64 (r:Int)):=by
 unfold N9 at h;split at h
 ·cases h
 ·rename_i U;cases h;exact YE K O U
theorem KX{r:Nat}(O:ρ x=EG a)(U:ρ y=EG b)(h:Jv a b=some r):Yl P ⟨d,.binOp .or t x y u,ty,p,af,g⟩ ρ s (EG r):=by
 unfold Jv at h;split at h
 ·rename_i K;cases h;exact Zf O U K.1 K.2
 ·cases h
theorem OT{r:Nat}(O:ρ x=EG a)(U:ρ y=EG b)(h:Kk a b=some r):Yl P ⟨d,.binOp .and t x y u,ty,p,af,g⟩ ρ s (EG r):=by
 unfold Kk at h;split at h
 ·rename_i K;cases h;exact Yb O U K.1 K.2
 ·cases h
theorem Yl.min2{ats:Array TypeId}(K:ρ x=iV m)(O:ρ y=iV m'):Yl P ⟨d,.call ⟨.builtin .min,#[x,y],ats⟩,ty,p,af,g⟩ ρ s (iV (min m m')):=by
 have e:(if m'<m then m' else m)=min m m':=by split <;> omega
 simp [Yl,execOp,lp,pure,bind,Sem.bind,K,O,resolve,invoke,builtin,Builtin.min_,Builtin.min2,e]
theorem Yl.max2{ats:Array TypeId}(K:ρ x=iV m)(O:ρ y=iV m'):Yl P ⟨d,.call ⟨.builtin .max,#[x,y],ats⟩,ty,p,af,g⟩ ρ s (iV (max m m')):=by
 have e:(if m<m' then m' else m)=max m m':=by split <;> omega
 simp [Yl,execOp,lp,pure,bind,Sem.bind,K,O,resolve,invoke,builtin,Builtin.max_,Builtin.max2,e]
end
def LQ(P:Program):List Field→List (Nat×Nat)→Prop
 | f::K,(o,n)::O=>f.offset=o∧BD P f.type=some n∧LQ P K O
 | [],[]=>True
 | _,_=>False
theorem LQ.mapM{P:Program}:∀{K:List Field} {O:List (Nat×Nat)},LQ P K O→K.mapM (fun f=>(BD P f.type).map fun n=>(f.offset,n))=some O
 | [],[],_=>rfl
 | [],_::_,h=>h.elim
 | _::_,[],h=>h.elim
 | f::K,(o,n)::O,h=>by
  obtain⟨U,V,Y⟩:=h
  simp only [List.mapM_cons,bind,V,Option.map_some,Option.bind_some,LQ.mapM Y,U];rfl
theorem Rc{L:Env}{ρ:Operand→Value}(h:EL L ρ):∀{l:List (Nat×Operand)} {vs:List (Nat×Value)},l.mapM (fun q=>(ev L q.2).map fun v=>(q.1,v))=some vs→l.map (fun(j,x)=>(j,ρ x))=vs
 | [],vs,e=>by simp at e;subst e;rfl
 | q::l,vs,e=>by
  simp only [List.mapM_cons,bind] at e
  cases K:ev L q.2 with
  | none=>rw [K] at e;simp at e
  | some w=>
   rw [K] at e
   simp only [Option.map_some,Option.bind_some] at e
   obtain⟨V,U,O⟩:=bind_some e
   simp at O;subst O
   simp [Rc h U,h _ _ K]
theorem Di{P:Program}{s:St}{ρ:Operand→Value}{L:Env}{d:Option Tmp}{t ty:TypeId}{p:String}{af:Ae_}{g:On_}{z:Value}{K:Array Field}{O:Array (Nat×Operand)}{vs:List (Nat×Value)}{cells:AD}(places:List (Nat×Nat))(h:EL L ρ)(U:zeroOf P t=some z)(ht:P.underlying t=some (.struct K))(V:LQ P K.toList places)
  (Y:O.toList.mapM (fun q=>(ev L q.2).map fun v=>(q.1,v))=some vs) (Z:Kh (places.toArray[·]?) z.cells vs=some cells):Yl P ⟨d,.build t O,ty,p,af,g⟩ ρ s (.agg cells):=
 Yl.build (places:=places.toArray) U ht (by simpa using V.mapM) (Rc h Y) (by rw [fill_eq];exact Z)
theorem OL.again{α:Type}{e:TypeId}{pp:Rp α}{E:LH}{a:Option Addr}{bk c o:Nat}{f:AD}{xs:List α}{m:Int}{x:α}(hg:OL e pp E a c [(bk,.cells f e (0,0))] xs)(hm:ix xs m=some x)(O:o=m.toNat*pp.n):
  ∃ws,pp.r E ws x∧(∀j w,ws[j]? =some w→f[o+j]? =some w)∧o+pp.n≤f.size∧∀(x':α) (ws':Lv_),pp.r E ws' x'→OL e pp E a c [(bk,.cells (A2 f o ws') e (0,0))] (xs.set m.toNat x'):=by
 obtain⟨m,rfl,hm⟩:=GG hm;obtain⟨am,ap,ws,av,K,U,V,Y,Z⟩:=OL.get hg hm;simp only [List.cons.injEq,Prod.mk.injEq,Obj.cells.injEq,and_true] at K;obtain⟨rfl,rfl⟩:=K;have ag:(m+1)*pp.n=m*pp.n+pp.n:=Nat.succ_mul _ _;have al:o=m*pp.n:=by simpa using O
 subst al;exact⟨ws,U,V,by rw [← ag];exact Y,by simpa using Z⟩
section
variable {P:Program}{J:Judge P}{Q:Gs_}{b:Frame}{n:Nat}{ds:Ld_}{ops:Ao_}{k:Li_}{cs:Lf_}{L:Env}{s:St}{E E' H:LH}{S:List Seg}
variable {d:Option Tmp}{x y:Operand}{t u ty e:TypeId}{p:String}{af:Ae_}{g:On_}{v:Value}{i:Nat}{rest:List Nat}{kd:IntKind}
theorem JS.app{α:Type}{pp:Rp α}{t1 t2:TypeId}{K c:Nat}{a:Option Addr}{seg:Seg}{xs ys:List α}{xv:α}{Y:Nat}{d1:Tmp}{ats:Array TypeId}{O:TypeId}{U:String}{V:Ae_}{g':On_}{z:Value}(j:Nat)(al:room xs xv=some ys)
  (am:ops[i]? =some ⟨some d1,.buildSlice t2 1 #[(0,y)],O,U,V,g'⟩) (hw:Bf L ops ⟨some d1,.buildSlice t2 1 #[(0,y)],O,U,V,g'⟩=some true) (ap:CS b n ⟨some d1,.buildSlice t2 1 #[(0,y)],O,U,V,g'⟩=true)
  (av:ops[Y]? =some ⟨d,.call ⟨.builtin .append,#[x,.tmp d1],ats⟩,ty,p,af,g⟩) (a0:∀w,Bf (AI L (some d1) w) ops ⟨d,.call ⟨.builtin .append,#[x,.tmp d1],ats⟩,ty,p,af,g⟩=some true) (a1:CS b n ⟨d,.call ⟨.builtin .append,#[x,.tmp d1],ats⟩,ty,p,af,g⟩=true)
  (a2:∀w,ev (AI L (some d1) w) x=some (.slice a xs.length c)) (a3:ev L y=some v) (a4:ats[0]? =some t) (a5:ats[1]? =some t1) (ht:P.underlying t=some (.slice e)) (a6:P.underlying t1=some (.slice e)) (a7:P.underlying t2=some (.slice e)) (a8:BD P e=some pp.n) (hb:EE P e=some K) (a9:zeroOf P e=some z) (bb:z.cells.size=pp.n)
  (bd:0<K) (be:K≤64) (bi:0<pp.n) (bo:pp.n≤64) (hg:OL e pp E a c seg xs) (bv:pp.r E v.cells.toList xv) (bw:Ax E H S) (bU:S[j]? =some seg)
  (h:∀w Z ag seg',OL e pp E Z ag seg' ys→Ax E H (S.set j seg')→JL J Q b n (AI (AI L (some d1) w) d (.slice Z ys.length ag)) ds (.inRegion ops rest::k) cs (An E H (S.set j seg'))):
  JL J Q b n L ds (.inRegion ops (i::Y::rest)::k) cs (An E H S):=by
 obtain⟨bV,rfl⟩:=VO al;exact QE j am hw ap av a0 a1 a2 a3 a4 a5 ht a6 a7 a8 hb a9 bb bd be bi bo bV hg bv bw bU h
theorem Cw{todo:Li_}{S':List Seg}(K:S=S')(O:Ax E H S)(h:Ax E H S'→JL J Q b n L ds todo cs (An E H S')):JL J Q b n L ds todo cs (An E H S):=by
 subst K;exact h O
end
end Pal
namespace Pal
open Go Go.Conc
theorem Ef.Kp{P:Program}{J:Judge P}{f:FuncId}{args:AD}{s:St}{R:Value→St→Prop}(h:Ef J f args s R)(U:∀v s',R v s'→s'.q=false):Ef J f args s (fun v s'=>R v s'∧∃w,Fits s' w):=fun Q c cs V=>
 h Q c cs fun v s' K=>by
  by_cases O:∃w,Fits s' w
  ·exact V v s' ⟨K,O⟩
  ·exact J.step ⟨rfl,fun w f=>absurd ⟨w,f⟩ O,fun e=>by have:=U v s' K;subst e;cases this⟩
def A7(l:List Nat):Nat→Bool:=fun x=>l.contains x
section
variable {P:Program}{J:Judge P}{Q:Gs_}{b:Frame}{n:Nat}{ds:Ld_}{ops:Ao_}{k:Li_}{cs:Lf_}{m fuel:Nat}{D:Nat→Bool}{listed:Array Bool}{L:Env}{s:St}{E E' H:LH}{S:List Seg}
variable {d:Option Tmp}{x y:Operand}{t u ty e:TypeId}{p:String}{af:Ae_}{g:On_}{v:Value}{i:Nat}{kd:IntKind}
def FD(ops:Ao_)(listed:Array Bool)(m i:Nat):Bool:=match ops[i]? with
 | some oi=>decide (i<m)&&Region.noSelect ops&& !Du oi.op&&HZ ops listed i oi&&G9 ops listed&&listed.size==ops.size&&(Region.ready .any ops listed).contains i
 | none=>false
theorem Ws(m:Nat){id:Nat}(hm:P.follows .mixedOrders=true)(K:(b.kind != .early)=true)
  (ht:DR ops m=true) (h:DR ops m=true→AY J Q b n ds ops k cs m Ee ops.size (Array.replicate ops.size false) L (An E H S)):JL J Q b n L ds (.code (.region id ops true)::k) cs (An E H S):=
 Rj m Ee rfl hm K (h ht)
theorem Re{oi:Oper}{i:Nat}(hi:ops[i]? =some oi)(K:FD ops listed m i=true):decide (i<m)=true∧Region.noSelect ops=true∧(!Du oi.op)=true∧HZ ops listed i oi=true∧G9 ops listed=true∧(listed.size==ops.size)=true∧(Region.ready .any ops listed).contains i=true:=by
 simp only [FD,hi,Bool.and_eq_true] at K;obtain⟨⟨⟨⟨⟨⟨O,U⟩,V⟩,Y⟩,Z⟩,ag⟩,al⟩:=K;exact⟨O,U,V,Y,Z,ag,al⟩
theorem Np{oi:Oper}(i:Nat)(hi:ops[i]? =some oi)(K:DR ops m=true)(O:FD ops listed m i=true)(U:s.q=false)
  (hw:Bf L ops oi=some true) (V:BE n oi.dst=true) (Y:∀ρ,EL L ρ→∀s':St,(∀x o,(BK D s).E x=some o→s'.E x=some o)→Yl P oi ρ s' v)
  (h:AY J Q b n ds ops k cs m D fuel (Bi listed i) (AI L oi.dst v) s):AY J Q b n ds ops k cs m D (fuel+1) listed L s:=
 let ⟨Z,ag,al,am,ap,av,a0⟩:=Re hi O
 U9 hi Z K ag al am ap av a0 U hw V (fun ρ a1 s' _ hs=>Y ρ a1 s' hs) h
theorem bH{oi:Oper}(i:Nat)(hi:ops[i]? =some oi)(K:DR ops m=true)(O:FD ops listed m i=true)(U:s.q=false)
  (hw:Bf L ops oi=some false) (V:BE n oi.dst=true)
  (h:AY J Q b n ds ops k cs m D fuel (Bi listed i) (AI L oi.dst undef) s):AY J Q b n ds ops k cs m D (fuel+1) listed L s:=
 let ⟨Y,Z,ag,al,am,ap,av⟩:=Re hi O
 Vf hi Y K Z ag al am ap av U hw V h
theorem YV{α:Type}{pp:Rp α}{a:Option Addr}{c:Nat}{xs:List α}{xv:α}{K:Int}(i:Nat)(V:Al pp E a c xs)(O:ix xs K=some xv)
  (Y:ops[i]? =some ⟨d,.indexAddr t x y,ty,p,af,g⟩) (Z:DR ops m=true) (ag:FD ops listed m i=true) (al:s.q=false)
  (hw:Bf L ops ⟨d,.indexAddr t x y,ty,p,af,g⟩=some true) (am:BE n d=true)
  (ap:ev L x=some (.slice a xs.length c)) (av:ev L y=some (.int kd K)) (ht:P.underlying t=some (.slice e)) (a0:BD P e=some pp.n)
  (h:∀bk o ws,pp.r E ws xv→At E bk o ws→AY J Q b n ds ops k cs m D fuel (Bi listed i) (AI L d (.pointer (some ⟨bk,o,none⟩))) s):
  AY J Q b n ds ops k cs m D (fuel+1) listed L s:=by
 obtain⟨K,rfl,O⟩:=GG O;have a1:K<xs.length:=(List.getElem?_eq_some_iff.1 O).1;obtain⟨a5,⟨rfl,_⟩ | ⟨bk,off,rfl,a2⟩⟩:=V
 ·simp at a1
 obtain⟨ws,a3,a4⟩:=a2 K xv O;refine Np (v:= .pointer (some ⟨bk,off+K*pp.n,none⟩)) i Y Z ag al hw am (fun ρ U s' _=>?_) (h bk _ ws a3 a4);have:=MB (P:=P) (s:=s') (d:=d) (ty:=ty) (p:=p) (af:=af) (g:=g) ht a0 (U x _ ap) (U y _ av) ⟨by omega,by omega⟩;rw [Dp rfl] at this;simpa using this
theorem JG.call{f:FuncId}{args:Array Operand}{ats:Array TypeId}{vs:Lv_}{R:Value→LH→Seg→Prop}(V:AN J f vs E [] R)(Y:Region.ready .any ops listed= [i])
  (Z:ops[i]? =some ⟨d,.call ⟨.value (.func f),args,ats⟩,ty,p,af,g⟩) (ag:BE n d=true) (hw:Bf L ops ⟨d,.call ⟨.value (.func f),args,ats⟩,ty,p,af,g⟩=some true) (hb:D3 P f=true) (al:evs L args.toList=some vs) (am:Ax E H S)
  (ap:∀v E' seg',Le E E'→R v E' seg'→Ax E' H (S++ [seg'])→AY J Q b n ds ops k cs m Ee fuel (Bi listed i) (AI L d v) (An E' H (S++ [seg']))):
  AY J Q b n ds ops k cs m Ee (fuel+1) listed L (An E H S):=by
 have av:=Ef.Kp (V (Bl S.flatten H) trivial) (by rintro v s' ⟨E',B',_,_,_,rfl⟩;rfl);refine AY.call rfl Y Z ag hw hb al av ?_;rintro v a7 ⟨⟨E',B',hle,a0,a1,rfl⟩,w,a2⟩;have a3:mk E' (Bl S.flatten H) B'=mk E' H (B'++S.flatten):=by unfold mk;rw [F3]
 have a4:Nd E' H S.flatten:=Nd.grow am fun x K=>by
  have a5:=a2.d x K;have a6:Bl B' (Bl S.flatten H) x=none:=a5;exact(G0 a6).1
 have O:Nd E' H (B'++S.flatten):=Nd.glue a1 a4;have U:(B'++S.flatten).Perm (S++ [B']).flatten:=by rw [G3];exact List.perm_append_comm
 rw [a3,FA O U];exact⟨rfl,fun x o K=>hle x o K,ap v E' B' hle a0 (Nd.perm O U)⟩
end
end Pal
namespace Pal
open Go Go.Conc
theorem Ns{E H:LH}{S:List Seg}{j bk:Nat}{o:Obj}{seg:Seg}(K:Ax E H S)(O:S[j]? =some ((bk,o)::seg)):E bk=none:=by
 have hm:(bk,o)∈S.flatten:=List.mem_flatten.2 ⟨_,List.mem_of_getElem? O,by simp⟩;exact((Nd.iff.1 K).2 _ hm).1
end Pal
namespace Pal
open Go Go.Conc
def LO(a:Nat)(n:Int):Option Nat:=if 0≤n∧n≤16 then some (a>>>n.toNat) else none
def LF(n:Int):Option Nat:=if 0≤n∧n<16 then some (1<<<n.toNat) else none
def F9{α:Type}(n:Int)(z:α):Option (List α):=if 0≤n∧n≤2 ^ 20 then some (List.replicate n.toNat z) else none
def CQ{α:Type}(xs ys:List α):Option (List α):=if xs.length+ys.length≤2 ^ 40 then some (xs++ys) else none
def IM{α:Type}(xs:List α)(lo hi:Int):Option (List α):=if 0≤lo∧lo≤hi∧hi≤xs.length then some ((xs.take hi.toNat).drop lo.toNat) else none
section
variable {P:Program}{s:St}{ρ:Operand→Value}{x y z:Operand}{d:Option Tmp}{t u ty e:TypeId}{p:String}{af:Ae_}{g:On_}{v:Value}{kd kd':IntKind}{m m':Int}{a b:Nat}
theorem XW{r:Nat}(K:ρ x=EG a)(O:ρ y=iV m)(h:LO a m=some r):Yl P ⟨d,.binOp .shr t x y u,ty,p,af,g⟩ ρ s (EG r):=by
 unfold LO at h;split at h
 ·rename_i U;cases h;refine XT K (c:=m.toNat) ?_ (by omega);rw [O];congr 1;omega
 ·cases h
theorem Xy{r:Nat}(K:ρ x=EG 1)(O:ρ y=iV m)(h:LF m=some r):Yl P ⟨d,.binOp .shl t x y u,ty,p,af,g⟩ ρ s (EG r):=by
 unfold LF at h;split at h
 ·rename_i U;cases h;refine XM K (c:=m.toNat) ?_ (by omega);rw [O];congr 1;omega
 ·cases h
end
section
variable {P:Program}{J:Judge P}{Q:Gs_}{b:Frame}{n:Nat}{ds:Ld_}{ops:Ao_}{k:Li_}{cs:Lf_}{L L':Env}{s:St}{E E' H:LH}{S:List Seg}
variable {d:Option Tmp}{x y:Operand}{t u ty e:TypeId}{p:String}{af:Ae_}{g:On_}{v:Value}{i:Nat}{rest:List Nat}{kd:IntKind}
theorem Vh{ρ:Operand→Value}:execOp ρ ⟨d,.makeSlice t x y,ty,p,af,g⟩=(do pure (Next.value (← Instr.makeSlice t (ρ x) (ρ y)))):=by
 simp only [execOp]
theorem OJ{α:Type}(w:List α):∀m:Nat,((List.replicate m w).flatten).length=m*w.length
 | 0=>by simp
 | m+1=>by rw [List.replicate_succ,List.flatten_cons,List.length_append,OJ w m,Nat.succ_mul,Nat.add_comm]
theorem Wk(z:AD)(O:0<z.size):∀m:Nat,((Array.range (m*z.size)).map (z[· % z.size]!)).toList=(List.replicate m z.toList).flatten:=by
 intro m;apply List.ext_getElem?;intro j;simp only [Array.toList_map,Array.toList_range,List.getElem?_map];by_cases K:j<m*z.size
 ·rw [List.getElem?_range K];have V:j / z.size<m:=(Nat.div_lt_iff_lt_mul O).2 K;have U:j % z.size<z.size:=Nat.mod_lt _ O;have hw:(List.replicate m z.toList)[j / z.size]? =some z.toList:=by simp [V]
  have:=Jz (n:=z.size) (wss:=List.replicate m z.toList) (fun ws Y=>by rw [List.eq_of_mem_replicate Y];simp) hw (j % z.size) z[j % z.size] (by simp [U]);rw [show j / z.size*z.size+j % z.size=j from by rw [Nat.mul_comm];exact Nat.div_add_mod _ _] at this;rw [this];simp [U]
 ·have hlen:((List.replicate m z.toList).flatten).length=m*z.size:=by rw [OJ];simp
  rw [List.getElem?_eq_none (by simpa using K),List.getElem?_eq_none (by rw [hlen];omega)];rfl
theorem JS.make{α:Type}{pp:Rp α}{z:Value}{Y:α}{m:Int}{xs:List α}(U:F9 m Y=some xs)
  (a0:ops[i]? =some ⟨d,.makeSlice t x y,ty,p,af,g⟩) (hw:Bf L ops ⟨d,.makeSlice t x y,ty,p,af,g⟩=some true) (a1:CS b n ⟨d,.makeSlice t x y,ty,p,af,g⟩=true)
  (a2:ev L x=some (iV m)) (V:ev L y=some (iV m)) (ht:P.underlying t=some (.slice e)) (a3:BD P e=some pp.n) {O:Nat} (hb:EE P e=some O) (bo:O≤64) (a4:zeroOf P e=some z) (bv:0<pp.n) (Z:pp.r E z.cells.toList Y) (a5:Ax E H S)
  (h:∀r seg,OL e pp E (some ⟨r,0,none⟩) xs.length seg xs→Ax E H (S++ [seg])→JL J Q b n (AI L d (.slice (some ⟨r,0,none⟩) xs.length xs.length)) ds (.inRegion ops rest::k) cs (An E H (S++ [seg]))):
  JL J Q b n L ds (.inRegion ops (i::rest)::k) cs (An E H S):=by
 unfold F9 at U;split at U
 rotate_left
 ·cases U
 rename_i hm;cases U;refine JL.op a0 hw a1 fun ρ ag=>?_;rw [Vh,ag x _ a2,ag y _ V];refine AH _ _ ?_;unfold Instr.makeSlice;refine AH _ _ (Dm ht ?_);simp only [asInt,Hn];obtain⟨inf,a6,a7⟩:=MA hb;refine AH (x:=typeInfo e) _ (Ir a6 ?_);simp only [a7,I0 (show -9223372036854775808≤m∧m≤9223372036854775807 by omega)];have bw:(O:Int)*m≤64*2 ^ 20:=by
  have al:(O:Int)*m≤64*m:=Int.mul_le_mul_of_nonneg_right (by omega) hm.1;omega
 have a8:((decide (m<0) || decide ((O:Int)*m>2 ^ 48)) || decide (m<0) || decide (m>m))=false:=by
  simp only [Bool.or_eq_false_iff,decide_eq_false_iff_not];omega
 rw [a8];simp only [Bool.false_eq_true,if_false];refine AH (x:=askRoom _) _ ?_;have a9:∀{Q:Unit→St→Prop} {X:Halt→St→Prop} (w:Nat),Q () (An E H S)→lp P (askRoom w) (An E H S) Q X:=by
  intro Q X w am;unfold askRoom;split
  ·exact⟨.inl ⟨rfl,rfl⟩,am⟩
  ·exact am
 refine a9 _ (AH (x:=Go.sizeOf e) _ (EX a3 ?_));have ap:z.cells.size=pp.n:=by simpa using pp.len Z
 have fin:∀K:AD,((Array.range (m.toNat*pp.n)).map (K[· % K.size]!)).toList=(List.replicate m.toNat z.cells.toList).flatten→lp P (do let a ← newRow e ((Array.range (m.toNat*pp.n)).map (K[· % K.size]!));pure (Value.slice (some a) m.toNat m.toNat)) (An E H S) (fun a s'=>lp P (pure (Next.value a)) s' (fun nx s'=>match nx with
   | .value v=>JL J Q b n (AI L d v) ds (.inRegion ops rest::k) cs s'
   | .skip=>JL J Q b n (AI L d undef) ds (.inRegion ops rest::k) cs s'
   | _=>False) (fun _ _=>False)) (fun _ _=>False):=by
  intro K bb;refine AH _ _ (G1 a5 fun r av=>?_);rw [(Eo av).1];have bU:((Array.range (m.toNat*pp.n)).map (K[· % K.size]!)).size=m.toNat*pp.n:=by simp
  have:=h r _ ⟨List.replicate m.toNat z.cells.toList,.inr ⟨r,_,rfl,rfl,by simp,by simp,by
   rw [bb,List.take_of_length_le (by rw [OJ];simp [ap])]⟩,by simp,fun i y us V hu=>by
    have:=List.mem_of_getElem? V;have bd:=List.eq_of_mem_replicate this
    have:=List.mem_of_getElem? hu;have be:=List.eq_of_mem_replicate this
    subst bd be;exact Z⟩ (Eo av).2
  simp only [List.length_replicate] at this;exact this
 split
 ·rename_i bi;have al:m.toNat=0:=by rcases Nat.mul_eq_zero.1 bi with h | h <;> omega
  exact fin #[] (by simp [al])
 ·refine AH (x:=zeroValue e) _ (Gk a4 ?_);refine fin z.cells ?_;rw [← ap];exact Wk z.cells (by omega) _
theorem Lj{α:Type}{pp:Rp α}(O:ops[i]? =some ⟨d,.buildSlice t 0 #[],ty,p,af,g⟩)(hw:Bf L ops ⟨d,.buildSlice t 0 #[],ty,p,af,g⟩=some true)(U:CS b n ⟨d,.buildSlice t 0 #[],ty,p,af,g⟩=true)
  (ht:P.underlying t=some (.slice e)) (V:BD P e=some pp.n) (Y:Ax E H S)
  (h:∀r seg,OL e pp E (some ⟨r,0,none⟩) 0 seg []→Ax E H (S++ [seg])→JL J Q b n (AI L d (.slice (some ⟨r,0,none⟩) 0 0)) ds (.inRegion ops rest::k) cs (An E H (S++ [seg]))):
  JL J Q b n L ds (.inRegion ops (i::rest)::k) cs (An E H S):=by
 refine JL.op O hw U fun ρ ag=>?_;rw [OU];refine AH _ _ ?_;unfold Instr.buildSlice;refine AH _ _ (Dm ht ?_);refine AH _ _ (EX V ?_);rw [if_neg (by omega),if_pos (by omega)];refine AH (x:=pure #[]) _ ?_;simp only [lp,pure,List.map_toArray,List.map_nil,Instr.fill];refine AH _ _ (G1 Y fun r K=>?_);rw [(Eo K).1];exact h r _ ⟨[],.inr ⟨r,_,rfl,rfl,by simp,Nat.le_refl _,by simp⟩,rfl,fun i x ws Z=>by simp at Z⟩ (Eo K).2
theorem Al.rows{α:Type}{pp:Rp α}{a:Option Addr}{c:Nat}{xs:List α}(U:Al pp E a c xs):∃wss:List (Lv_),wss.length=xs.length∧(∀(i:Nat) x ws,xs[i]? =some x→wss[i]? =some ws→pp.r E ws x)∧
  ((xs= []∧∀ad:Addr,a=some ad→ad.spot=none∨c=0)∨∃bk off,a=some ⟨bk,off,none⟩∧∀(i:Nat) ws,wss[i]? =some ws→At E bk (off+i*pp.n) ws):=by
 obtain⟨ag,U⟩:=U;rcases U with⟨rfl,Y⟩ | ⟨bk,off,rfl,Z⟩
 ·exact⟨[],rfl,fun i x ws O=>by simp at O,.inl ⟨rfl,Y⟩⟩
 ·have V:∀i:Fin xs.length,∃ws,pp.r E ws xs[i]∧At E bk (off+i*pp.n) ws:=fun i=>Z i xs[i] (List.getElem?_eq_getElem i.2);refine⟨List.ofFn fun i=>Classical.choose (V i),by simp,fun i x ws O hw=>?_,.inr ⟨bk,off,rfl,fun i ws hw=>?_⟩⟩
  ·have K:i<xs.length:=(List.getElem?_eq_some_iff.1 O).1;simp [K] at hw;subst hw;rw [List.getElem?_eq_getElem K] at O;cases O;exact(Classical.choose_spec (V ⟨i,K⟩)).1
  ·have K:i<xs.length:=by have:=(List.getElem?_eq_some_iff.1 hw).1;simpa using this
   simp [K] at hw;subst hw;exact(Classical.choose_spec (V ⟨i,K⟩)).2
theorem Ms{n:Nat}:∀{wss:List (Lv_)},(∀ws∈wss,ws.length=n)→wss.flatten.length=wss.length*n
 | [],_=>by simp
 | ws::wss,h=>by rw [List.flatten_cons,List.length_append,h ws (by simp),Ms fun w hw=>h w (List.mem_cons_of_mem _ hw),List.length_cons,Nat.succ_mul,Nat.add_comm]
theorem OI{n:Nat}:∀{wss:List (Lv_)},(∀ws∈wss,ws.length=n)→∀{j:Nat} {w:Value},wss.flatten[j]? =some w→∃(i m:Nat) (ws:Lv_),wss[i]? =some ws∧ws[m]? =some w∧j=i*n+m
 | [],_,_,_,h=>by simp at h
 | us::wss,O,j,w,h=>by
  have hu:=O us (by simp)
  rw [List.flatten_cons] at h
  rcases Nat.lt_or_ge j us.length with K | K
  ·rw [List.getElem?_append_left K] at h
   exact⟨0,j,us,rfl,h,by simp⟩
  ·rw [List.getElem?_append_right K] at h;obtain⟨i,m,ws,U,V,Y⟩:=OI (fun ws hw=>O ws (List.mem_cons_of_mem _ hw)) h;exact⟨i+1,m,ws,by simpa using U,V,by rw [Nat.succ_mul];omega⟩
theorem OP{α:Type}{pp:Rp α}{wss O:List (Lv_)}{xs ys:List α}(U:wss.length=xs.length)(h:∀(i:Nat) x ws,xs[i]? =some x→wss[i]? =some ws→pp.r E ws x)(V:∀(i:Nat) x ws,ys[i]? =some x→O[i]? =some ws→pp.r E ws x):
  ∀(i:Nat) y us,(xs++ys)[i]? =some y→(wss++O)[i]? =some us→pp.r E us y:=by
 intro i y us K hu;rcases Nat.lt_or_ge i xs.length with hi | hi
 ·rw [List.getElem?_append_left hi] at K;rw [List.getElem?_append_left (by omega)] at hu;exact h i y us K hu
 ·rw [List.getElem?_append_right hi] at K;rw [List.getElem?_append_right (by omega),U] at hu;exact V _ y us K hu
variable {B0:List (Nat×Obj)}
theorem U2{e t t1:TypeId}{Y a2 l c m:Nat}{a:Option Addr}{blk:List (Nat×Obj)}{xs ys:Lv_}{i:Nat}{rest:List Nat}{d:Option Tmp}{x y:Operand}{ats:Array TypeId}{ty:TypeId}{p:String}{af:Ae_}{g:On_}{z:Value}{ax:Option Addr}{cx:Nat}{B1:List (Nat×Obj)}
  (bb:ops[i]? =some ⟨d,.call ⟨.builtin .append,#[x,y],ats⟩,ty,p,af,g⟩) (hw:Bf L ops ⟨d,.call ⟨.builtin .append,#[x,y],ats⟩,ty,p,af,g⟩=some true) (bd:CS b n ⟨d,.call ⟨.builtin .append,#[x,y],ats⟩,ty,p,af,g⟩=true)
  (be:ev L x=some (.slice a l c)) (bi:ev L y=some (.slice ax m cx)) (bo:ats[0]? =some t) (bv:ats[1]? =some t1) (ht:P.underlying t=some (.slice e)) (bw:P.underlying t1=some (.slice e)) (bU:BD P e=some Y) (hb:EE P e=some a2) (bV:zeroOf P e=some z) (bW:z.cells.size=Y)
  (bY:0<a2) (bZ:a2≤64) (b0:l+m≤2 ^ 40) (b1:∀w∈ys,CY w=true) (hg:GS e Y a l c blk xs) (a3:Nd E H (B0++blk++B1)) (hs:GK (mk E H (B0++blk++B1)) (.slice ax m cx) Y ys)
  (h:∀a7 a0 a4,GS e Y a7 (l+m) a0 a4 (xs++ys)→Nd E H (B0++a4)→JL J Q b n (AI L d (.slice a7 (l+m) a0)) ds (.inRegion ops rest::k) cs (mk E H (B0++a4))):
  JL J Q b n L ds (.inRegion ops (i::rest)::k) cs (mk E H (B0++blk++B1)):=by
 refine JL.op bb hw bd fun ρ a8=>?_;rw [Mp,a8 x _ be,a8 y _ bi];have b2:N2 (B0++blk++B1) B0.length e Y a l c xs:=by
  rcases hg with⟨K,V,al,am,Z⟩ | ⟨bk,f,K,V,al,am,Z⟩
  ·exact .inl ⟨K,V,al,Z⟩
  ·refine .inr ⟨bk,f,K,?_,al,am,Z⟩;subst V;simp
 have hlen:=hg.length;refine AH _ _ (OY (pl:=B0.length) bo bv bw ht bU hb bV bW a3 b2 hs b1 bY b0 bZ ?_ ?_ ?_)
 ·
  intro bk f O a1 b8 b9 b3 a5 a6 ag;rcases hg with⟨K,_⟩ | ⟨U,f0,K,V,al,am,Z⟩
  ·rw [K] at a1;cases a1
  ·subst V;have b4:U=bk:=by rw [K] at a1;simpa using a1
   subst b4;have b5:(B0++ [(U,Obj.cells f0 e (0,0))]++B1).set B0.length (U,.cells O e (0,0))=B0++ [(U,.cells O e (0,0))]++B1:=by
    rw [List.append_assoc,List.append_assoc];exact HU _ _ _ _
   rw [b5] at ag ⊢;have ap:Nd E H (B0++ [(U,.cells O e (0,0))]):=Iu.Nd.left ag;refine JL.drop (B0++ [(U,.cells O e (0,0))]) (fun p av=>?_) ag (h a c _ (.inr ⟨U,O,K,rfl,a5,b3,a6.symm⟩) ap);exact List.mem_iff_getElem?.1 (List.mem_append_left _ av)
 ·intro a9 hm;rcases hg with⟨K,V,al,am,Z⟩ | ⟨U,f0,K,_⟩
  ·subst hm;have b6:ys= []:=by
    cases ax with
    | none=>exact hs.2
    | some ad=>have:=hs.2.1;simp at this;exact this
   subst V am Z b6;have ap:Nd E H (B0++ []):=Iu.Nd.left a3;exact JL.drop (B0++ []) (fun p av=>List.mem_iff_getElem?.1 (List.mem_append_left _ av)) a3 (h none 0 [] (by simpa using GS.nil) ap)
  ·rw [K] at a9;cases a9
 ·
  intro r O a0 b7 a5 a6 ag;have ap:Nd E H (B0++ [(r,.cells O e (0,0))]):=Iu.Nd.pick ag;refine JL.drop (B0++ [(r,.cells O e (0,0))]) (fun p av=>?_) ag (h (some ⟨r,0,none⟩) a0 _ (.inr ⟨r,O,rfl,rfl,a5,b7,a6.symm⟩) ap);refine List.mem_iff_getElem?.1 ?_;rcases List.mem_append.1 av with q | q
  ·simp [q]
  ·exact List.mem_append_right _ q
theorem G6{α:Type}{pp:Rp α}{t1:TypeId}{al c cx:Nat}{a ax:Option Addr}{seg:Seg}{xs ys am:List α}{ats:Array TypeId}{z:Value}(j:Nat)(V:CQ xs ys=some am)
  (a5:ops[i]? =some ⟨d,.call ⟨.builtin .append,#[x,y],ats⟩,ty,p,af,g⟩) (hw:Bf L ops ⟨d,.call ⟨.builtin .append,#[x,y],ats⟩,ty,p,af,g⟩=some true) (a6:CS b n ⟨d,.call ⟨.builtin .append,#[x,y],ats⟩,ty,p,af,g⟩=true)
  (a7:ev L x=some (.slice a xs.length c)) (a8:ev L y=some (.slice ax ys.length cx)) (a9:ats[0]? =some t) (bb:ats[1]? =some t1) (ht:P.underlying t=some (.slice e)) (bd:P.underlying t1=some (.slice e)) (be:BD P e=some pp.n) (hb:EE P e=some al) (bi:zeroOf P e=some z) (bo:z.cells.size=pp.n)
  (bv:0<al) (bw:al≤64) (hg:OL e pp E a c seg xs) (av:Al pp E ax cx ys) (bU:Ax E H S) (a0:S[j]? =some seg)
  (h:∀Y Z seg',OL e pp E Y Z seg' am→Ax E H (S.set j seg')→JL J Q b n (AI L d (.slice Y am.length Z)) ds (.inRegion ops rest::k) cs (An E H (S.set j seg'))):
  JL J Q b n L ds (.inRegion ops (i::rest)::k) cs (An E H S):=by
 unfold CQ at V;split at V
 rotate_left
 ·cases V
 rename_i bV;cases V;obtain⟨wss,hg,a1,bW⟩:=hg;obtain⟨bY,a2⟩:=Gp bU a0;obtain⟨ag,O,ap,U⟩:=av.rows;have a3:=Iw O ap;rw [bY];have bZ:∀w∈ag.flatten,CY w=true:=fun w hw=>by
  obtain⟨us,b0,hw⟩:=List.mem_flatten.1 hw;obtain⟨q,K⟩:=List.mem_iff_getElem?.1 b0;have b1:q<ys.length:=by rw [← O];exact(List.getElem?_eq_some_iff.1 K).1
  exact pp.one (ap q _ us (List.getElem?_eq_getElem b1) K) w hw
 have hlen:(xs++ys).length=xs.length+ys.length:=by simp
 have a4:GK (mk E H ((S.set j []).flatten++seg)) (.slice ax ys.length cx) pp.n ag.flatten:=by
  rcases U with⟨U,cb⟩ | ⟨bk,off,rfl,U⟩
  ·subst U;have:ag= []:=List.eq_nil_of_length_eq_zero O;subst this;cases ax with
   | none=>exact⟨rfl,rfl⟩
   | some ad=>exact⟨.inr rfl,by simp,Nat.zero_le _,fun q w K=>by simp at K⟩
  ·refine⟨.inl rfl,by rw [Ms a3,O],av.1,fun q w K=>?_⟩;obtain⟨q1,m,ws,b2,b3,b4⟩:=OI a3 K;have:=(U q1 ws b2).cell (H:=H) (B:=(S.set j []).flatten++seg) b3;subst b4;rw [← Nat.add_assoc];exact this
 have b5:(S.set j []).flatten++seg=(S.set j []).flatten++seg++ []:=(List.append_nil _).symm;rw [b5] at a2 a4 ⊢;refine U2 a5 hw a6 a7 a8 a9 bb ht bd be hb bi bo bv bw bV bZ hg a2 a4 fun Y Z b6 b7 b8=>?_;obtain⟨b9,ca⟩:=Hv a0 b8;rw [b9];have:=h Y Z b6 ⟨wss++ag,by rw [hlen,List.flatten_append];exact b7,by simp [a1,O],OP a1 bW ap⟩ ca;rw [hlen] at this;exact this
end
end Pal
namespace Pal
open Go Go.Conc
section
variable {P:Program}{J:Judge P}{Q:Gs_}{b:Frame}{n:Nat}{ds:Ld_}{ops:Ao_}{k:Li_}{cs:Lf_}{m fuel:Nat}{D:Nat→Bool}{listed:Array Bool}{L L':Env}{s:St}{E E' H:LH}{S:List Seg}
variable {d:Option Tmp}{x y:Operand}{t u ty e:TypeId}{p:String}{af:Ae_}{g:On_}{v:Value}{i:Nat}{rest:List Nat}{kd:IntKind}
theorem CH(h:Sub L' L)(k':AY J Q b n ds ops k cs m D fuel listed L' s):AY J Q b n ds ops k cs m D fuel listed L s:=fun T K=>k' T (K.sub h)
theorem Eg{K:Nat}{O:Array Bool}(fuel:Nat)(listed:Array Bool)(I:Env→St→Prop)(U:∀L s,I L s→AY J Q b n ds ops k cs m D fuel listed L s)(h:(∀L s,I L s→AY J Q b n ds ops k cs m D fuel listed L s)→AY J Q b n ds ops k cs m D K O L s):AY J Q b n ds ops k cs m D K O L s:=h U
theorem JS.cut{α:Type}{pp:Rp α}{a:Option Addr}{c:Nat}{xs ys:List α}{lo hi:Int}{olo ohi:Option Operand}(V:Al pp E a c xs)(hC:IM xs lo hi=some ys)
  (av:ops[i]? =some ⟨d,.slice t x olo ohi none,ty,p,af,g⟩) (hw:Bf L ops ⟨d,.slice t x olo ohi none,ty,p,af,g⟩=some true) (a0:CS b n ⟨d,.slice t x olo ohi none,ty,p,af,g⟩=true)
  (a1:ev L x=some (.slice a xs.length c)) (O:match ohi with | some w=>ev L w=some (iV hi) | none=>hi=xs.length) (Z:match olo with | some w=>ev L w=some (iV lo) | none=>lo=0) (ht:P.underlying t=some (.slice e)) (a2:BD P e=some pp.n)
  (h:∀ag al,Al pp E ag al ys→JL J Q b n (AI L d (.slice ag ys.length al)) ds (.inRegion ops rest::k) cs (An E H S)):
  JL J Q b n L ds (.inRegion ops (i::rest)::k) cs (An E H S):=by
 unfold IM at hC;split at hC
 rotate_left
 ·cases hC
 rename_i hb;obtain⟨a8,a9,a3⟩:=hb;cases hC;obtain⟨lo,rfl⟩:∃l:Nat,lo=l:=⟨lo.toNat,by omega⟩;obtain⟨hi,rfl⟩:∃l:Nat,hi=l:=⟨hi.toNat,by omega⟩;simp only [Int.toNat_natCast] at*;have bb:=V.1;have hlen:((xs.take hi).drop lo).length=hi - lo:=by simp;omega
 have am:∀ad:Addr,a=some ad→ad.spot=none∨c=0:=fun ad K=>by
  rcases V.2 with⟨_,h⟩ | ⟨bk,off,h,_⟩
  ·exact h ad K
  ·rw [h] at K;cases K;exact .inl rfl
 have a4:Al pp E (if c=lo then a else a.map (·.add (lo*pp.n))) (c - lo) ((xs.take hi).drop lo):=by
  refine⟨by rw [hlen];omega,?_⟩;by_cases a5:hi - lo=0
  ·left;refine⟨List.eq_nil_of_length_eq_zero (by rw [hlen];exact a5),fun ad K=>?_⟩;split at K
   ·exact(am ad K).imp id fun h=>by omega
   ·cases a with
    | none=>cases K
    | some a6=>
     simp only [Option.map_some,Option.some.injEq] at K;subst K;exact .inl (by rw [Dp ((am a6 rfl).resolve_right (by omega))])
  ·right;rcases V.2 with⟨h,_⟩ | ⟨bk,off,rfl,O⟩
   ·subst h;simp at a3;omega
   ·refine⟨bk,off+lo*pp.n,?_,fun q z U=>?_⟩
    ·rw [if_neg (by omega),Option.map_some,Dp rfl]
    ·rw [List.getElem?_drop,List.getElem?_take] at U;split at U
     ·obtain⟨ws,a7,ap⟩:=O _ z U;refine⟨ws,a7,?_⟩;rw [Nat.add_mul] at ap;rw [Nat.add_assoc];exact ap
     ·cases U
 have:=h _ _ a4;rw [hlen] at this;refine Bb av hw a0 (fun ρ Y=>?_) this;refine Yl.slice (mx:=c) (hi:=hi) (lo:=lo) ht a2 (Y x _ a1) rfl ?_ ?_ (Nat.le_refl _) (by omega) (by omega)
 ·cases ohi with
  | none=>exact⟨by simp only at O;omega,rfl⟩
  | some w=>exact Y w _ O
 ·cases olo with
  | none=>simp only at Z;show lo=0;omega
  | some w=>exact Y w _ Z
end
def Ig(t:TypeId)(v:Value):Option (Int×Int)→Prop
 | none=>v= .nilIface
 | some (c,a)=>v= .iface t (.agg #[iV c,iV a])
def Kt{α:Type}(p:Rp α)(E:LH)(v:Value):Option α→Prop
 | none=>v= .pointer none
 | some x=>∃bk o us,v= .pointer (some ⟨bk,o,none⟩)∧At E bk o us∧p.r E us x
theorem Kt.Ai{α:Type}{p:Rp α}{E E':LH}{v:Value}{d:Option α}(h:Kt p E v d)(hle:Le E E'):Kt p E' v d:=by
 cases d with
 | none=>exact h
 | some x=>obtain⟨bk,o,us,K,O,U⟩:=h;exact⟨bk,o,us,K,O.Ai hle,p.Ai hle U⟩
theorem At.tail{E:LH}{bk o:Nat}{l ws:Lv_}(h:At E bk o (l++ws)):At E bk (o+l.length) ws:=by
 obtain⟨f,e,fr,K,O⟩:=h;refine⟨f,e,fr,K,fun j w U=>?_⟩;rw [Nat.add_assoc];refine O _ _ ?_;rw [List.getElem?_append_right (by omega)];rw [show l.length+j - l.length=j by omega];exact U
theorem TH{α:Type}{kk:Nat}{pp:Rp α}{E:LH}{bk o:Nat}{ws:Lv_}{xs:List α}{m:Int}{x:α}(O:(rA kk pp).r E ws xs)(h:At E bk o ws)(hm:ix xs m=some x):∃us,pp.r E us x∧At E bk (o+m.toNat*pp.n) us∧0≤m∧m<kk:=by
 obtain⟨U,wss,rfl,V,K⟩:=O;obtain⟨m,rfl,hm⟩:=GG hm;have ag:m<xs.length:=(List.getElem?_eq_some_iff.1 hm).1;have hw:wss[m]? =some wss[m]:=List.getElem?_eq_getElem (by omega);refine⟨wss[m],K m x _ hm hw,?_,by omega,by omega⟩;obtain⟨f,e,fr,Y,g2⟩:=h;refine⟨f,e,fr,Y,fun j w Z=>?_⟩;rw [Nat.add_assoc];exact g2 _ _ (Jz (Iw (V.trans U.symm) K) hw j w Z)
section
variable {P:Program}{s:St}{ρ:Operand→Value}{x y z:Operand}{d:Option Tmp}{t u ty e:TypeId}{p:String}{af:Ae_}{g:On_}{v v':Value}
theorem Q0{ms:Array (String×TypeId)}{K:TypeId}{o:Option (Int×Int)}{n:Nat}(O:P.underlying t=some (.interface ms))(he:Ig K v o){Q:Bool→St→Prop}{X:Halt→St→Prop}(k:Q o.isNone s):lp P (Op.equalIn (n+1) t v .nilIface) s Q X:=by
 unfold Op.equalIn;refine AH _ _ (Dm O ?_);cases o with
 | none=>obtain rfl:v= .nilIface:=he;exact k
 | some q=>obtain⟨c,a⟩:=q;obtain rfl:v= .iface K (.agg #[iV c,iV a]):=he;exact k
theorem O2{ms:Array (String×TypeId)}{K:TypeId}{o:Option (Int×Int)}(O:P.underlying t=some (.interface ms))(he:Ig K v o)(U:ρ x=v)(V:ρ (.const .nilIface)= .nilIface):Yl P ⟨d,.binOp .neq t x (.const .nilIface) u,ty,p,af,g⟩ ρ s (.bool o.isSome):=by
 refine Fz (sm:=do eqGuard .neq t x (.const .nilIface) (ρ x) (ρ (.const .nilIface));binOp .neq t (ρ x) (ρ (.const .nilIface))) rfl ?_
 rw [U,V];have hg:lp P (eqGuard .neq t x (.const .nilIface) v .nilIface) s (fun _ s'=>s'=s) (fun _ _=>False):=by
  cases o with
  | none=>obtain rfl:v= .nilIface:=he;simp [eqGuard,lp,pure]
  | some q=>obtain⟨c,a⟩:=q;obtain rfl:v= .iface K (.agg #[iV c,iV a]):=he;simp [eqGuard,lp,pure]
 refine AH _ _ (Dz _ hg ?_ (fun _ _ h=>h));rintro _ _ rfl;have hb:binOp .neq t v .nilIface=(do pure (.bool (!(← Op.equal t v .nilIface)))):=by
  cases o with
  | none=>obtain rfl:v= .nilIface:=he;rfl
  | some q=>obtain⟨c,a⟩:=q;obtain rfl:v= .iface K (.agg #[iV c,iV a]):=he;rfl
 rw [hb];refine AH (x:=Op.equal t v .nilIface) _ ?_;unfold Op.equal Op.maxDepth;refine Q0 O he ?_;refine⟨?_,rfl⟩;cases o <;> rfl
theorem RO{ms:Array (String×TypeId)}{K:TypeId}{o:Option (Int×Int)}(O:P.underlying t=some (.interface ms))(he:Ig K v o)(U:ρ x=v)(V:ρ (.const .nilIface)= .nilIface):Yl P ⟨d,.binOp .eql t x (.const .nilIface) u,ty,p,af,g⟩ ρ s (.bool o.isNone):=by
 refine Fz (sm:=do eqGuard .eql t x (.const .nilIface) (ρ x) (ρ (.const .nilIface));binOp .eql t (ρ x) (ρ (.const .nilIface))) rfl ?_
 rw [U,V];have hg:lp P (eqGuard .eql t x (.const .nilIface) v .nilIface) s (fun _ s'=>s'=s) (fun _ _=>False):=by
  cases o with
  | none=>obtain rfl:v= .nilIface:=he;simp [eqGuard,lp,pure]
  | some q=>obtain⟨c,a⟩:=q;obtain rfl:v= .iface K (.agg #[iV c,iV a]):=he;simp [eqGuard,lp,pure]
 refine AH _ _ (Dz _ hg ?_ (fun _ _ h=>h));rintro _ _ rfl;have hb:binOp .eql t v .nilIface=(do pure (.bool (← Op.equal t v .nilIface))):=by
  cases o with
  | none=>obtain rfl:v= .nilIface:=he;rfl
  | some q=>obtain⟨c,a⟩:=q;obtain rfl:v= .iface K (.agg #[iV c,iV a]):=he;rfl
 rw [hb];refine AH (x:=Op.equal t v .nilIface) _ ?_;unfold Op.equal Op.maxDepth;refine Q0 O he ?_;refine⟨?_,rfl⟩
 rfl
end
end Pal
namespace Pal
open Go Go.Conc
section
variable {P:Program}{J:Judge P}{Q:Gs_}{b:Frame}{n:Nat}{ds:Ld_}{ops:Ao_}{k:Li_}{cs:Lf_}{L:Env}{E H:LH}{S:List Seg}
variable {d:Option Tmp}{x y:Operand}{t u ty e:TypeId}{p:String}{af:Ae_}{g:On_}{i:Nat}{rest:List Nat}{kd:IntKind}
theorem Pk{α:Type}{pp:Rp α}{kk bk o:Nat}{l ws:Lv_}{xs:List α}{xv:α}{m:Int}(O:At E bk o (l++ws))(U:(rA kk pp).r E ws xs)(hm:ix xs m=some xv)
  (V:ops[i]? =some ⟨d,.indexAddr t x y,ty,p,af,g⟩) (hw:Bf L ops ⟨d,.indexAddr t x y,ty,p,af,g⟩=some true) (Y:CS b n ⟨d,.indexAddr t x y,ty,p,af,g⟩=true)
  (Z:ev L x=some (.pointer (some ⟨bk,o+l.length,none⟩))) (ag:ev L y=some (.int kd m)) (ht:P.underlying t=some (.array kk e)) (al:BD P e=some pp.n)
  (h:∀o' us,pp.r E us xv→At E bk o' us→JL J Q b n (AI L d (.pointer (some ⟨bk,o',none⟩))) ds (.inRegion ops rest::k) cs (An E H S)):
  JL J Q b n L ds (.inRegion ops (i::rest)::k) cs (An E H S):=by
 obtain⟨us,am,ap,av,a0⟩:=TH U O.tail hm;refine Bb (v:= .pointer (some ⟨bk,o+l.length+m.toNat*pp.n,none⟩)) V hw Y (fun ρ K=>?_) (h _ us am ap);have:=QV (P:=P) (s:=An E H S) (d:=d) (ty:=ty) (p:=p) (af:=af) (g:=g) ht al (K x _ Z) (K y _ ag) ⟨av,a0⟩;rw [Dp rfl] at this;exact this
end
end Pal
namespace Pal
open Go Go.Conc
section
variable {P:Program}{s:St}{ρ:Operand→Value}{x y z:Operand}{d:Option Tmp}{t u ty e:TypeId}{p:String}{af:Ae_}{g:On_}{v v':Value}
theorem JX{t:TypeId}{cells:AD}{off:Nat}{v:Value}(ht:Dk P t=some false)(K:cells[off]? =some v){Q:Value→St→Prop}{X:Halt→St→Prop}(k:Q v s):lp P (part t cells off) s Q X:=by
 unfold part;refine AH _ _ (KV ht ?_);simp only [Bool.false_eq_true,if_false,K];exact k
theorem Rh{n:Nat}{t:TypeId}{a b:Int}(ht:P.underlying t=some (.int .i64)){Q:Bool→St→Prop}{X:Halt→St→Prop}(k:Q (a==b) s):lp P (Op.equalIn (n+1) t (iV a) (iV b)) s Q X:=by
 unfold Op.equalIn;refine AH _ _ (Dm ht ?_);simp only [if_true];exact k
theorem XV{n:Nat}{f1 f2:Field}{a b O U:Int}(ht:P.underlying t=some (.struct #[f1,f2]))(hs:P.stoodInHeld t=false)(n1:f1.name≠ "_")(n2:f2.name≠ "_")(u1:P.underlying f1.type=some (.int .i64))(u2:P.underlying f2.type=some (.int .i64))(o1:f1.offset=0)(o2:f2.offset=1)
  {Q:Bool→St→Prop} {X:Halt→St→Prop} (k:Q (decide (a=O∧b=U)) s):lp P (Op.equalIn (n+2) t (.agg #[iV a,iV b]) (.agg #[iV O,iV U])) s Q X:=by
 unfold Op.equalIn;refine AH _ _ (Dm ht ?_);refine AH (x:=program) _ ?_;show lp P (if P.stoodInHeld t=true then _ else _) s _ _
 rw [if_neg (by rw [hs];exact Bool.false_ne_true)];have Z:Dk P f1.type=some false:=by unfold Dk;rw [u1]
 have ag:Dk P f2.type=some false:=by unfold Dk;rw [u2]
 let al:Field→Option Bool×Unit→Sem (ForInStep (Option Bool×Unit)):=fun f _=>if f.name≠ "_" then do
   if !(← Op.equalIn (n+1) f.type (← part f.type #[iV a,iV b] f.offset) (← part f.type #[iV O,iV U] f.offset)) then pure (ForInStep.done (some false,())) else pure (ForInStep.yield (none,()))
  else pure (ForInStep.yield (none,()))
 have am:∀{K:ForInStep (Option Bool×Unit)→St→Prop} (o:Option Bool×Unit),K (if a=O then .yield (none,()) else .done (some false,())) s→lp P (al f1 o) s K X:=by
  intro K o V;show lp P (if f1.name≠ "_" then _ else _) s K X
  rw [if_pos n1,o1];refine AH _ _ (JX (v:=iV a) Z rfl ?_);refine AH _ _ (JX (v:=iV O) Z rfl ?_);refine AH _ _ (Rh u1 ?_);by_cases h:a=O
  ·subst h;simpa [lp,pure] using V
  ·rw [if_neg h] at V;simpa [lp,pure,h] using V
 have ap:∀{K:ForInStep (Option Bool×Unit)→St→Prop} (o:Option Bool×Unit),K (if b=U then .yield (none,()) else .done (some false,())) s→lp P (al f2 o) s K X:=by
  intro K o V;show lp P (if f2.name≠ "_" then _ else _) s K X
  rw [if_pos n2,o2];refine AH _ _ (JX (v:=iV b) ag rfl ?_);refine AH _ _ (JX (v:=iV U) ag rfl ?_);refine AH _ _ (Rh u2 ?_);by_cases h:b=U
  ·subst h;simpa [lp,pure] using V
  ·rw [if_neg h] at V;simpa [lp,pure,h] using V
 dsimp only;rw [← Array.forIn_toList];simp only [List.forIn_cons,List.forIn_nil];refine AH _ _ (AH _ _ (am (none,()) ?_));by_cases h:a=O
 ·rw [if_pos h];refine AH _ _ (ap (none,()) ?_);by_cases Y:b=U
  ·rw [if_pos Y];simpa [lp,pure,h,Y] using k
  ·rw [if_neg Y];simpa [lp,pure,h,Y] using k
 ·rw [if_neg h];simpa [lp,pure,h] using k
structure br (P:Program) (t:TypeId) (f1 f2:Field):Prop where
 ht:P.underlying t=some (.struct #[f1,f2])
 hs:P.stoodInHeld t=false
 hg:P.eqGuardType P.depth t=false
 n1:f1.name≠ "_"
 n2:f2.name≠ "_"
 u1:P.underlying f1.type=some (.int .i64)
 u2:P.underlying f2.type=some (.int .i64)
 o1:f1.offset=0
 o2:f2.offset=1
def TY(P:Program)(t:TypeId):Prop:=∃f1 f2,br P t f1 f2
theorem Q5{o:BinOp}{c K:AD}(O:o= .eql∨o= .neq)(hg:P.eqGuardType P.depth t=false){Q:Unit→St→Prop}{X:Halt→St→Prop}(k:Q () s):lp P (eqGuard o t x y (.agg c) (.agg K)) s Q X:=by
 rcases O with rfl | rfl <;> (simp [eqGuard,lp,bind,Sem.bind,program,pure,hg];exact k)
theorem V3{a b K O:Int}(U:TY P t)(V:ρ x= .agg #[iV a,iV b])(Y:ρ y= .agg #[iV K,iV O]):Yl P ⟨d,.binOp .neq t x y u,ty,p,af,g⟩ ρ s (.bool (decide (¬(a=K∧b=O)))):=by
 obtain⟨f1,f2,h⟩:=U;refine Fz (sm:=do eqGuard .neq t x y (ρ x) (ρ y);binOp .neq t (ρ x) (ρ y)) rfl ?_
 rw [V,Y];refine AH _ _ (Q5 (.inr rfl) h.hg ?_);have hb:binOp .neq t (.agg #[iV a,iV b]) (.agg #[iV K,iV O])=(do pure (.bool (!(← Op.equal t (.agg #[iV a,iV b]) (.agg #[iV K,iV O]))))):=rfl
 rw [hb];refine AH (x:=Op.equal t _ _) _ ?_;unfold Op.equal Op.maxDepth;exact XV h.ht h.hs h.n1 h.n2 h.u1 h.u2 h.o1 h.o2 ⟨by simp,rfl⟩
end
end Pal
namespace Pal
open Go Go.Conc
section
variable {P:Program}(J:Judge P)(Q:Gs_)(b:Frame)(n:Nat)(ds:Ld_)(ops:Ao_)(k:Li_)(cs:Lf_)(m:Nat)(D:Nat→Bool)
def Take(fuel:Nat)(listed:Array Bool)(L:Env)(s:St)(i:Nat):Prop:=
 ∃o,ops[i]? =some o∧(!Du o.op)=true∧BE n o.dst=true∧Bf L ops o=some true∧∀ρ,EL L ρ→lp P (execOp ρ o) (BK D s) (fun nx s'=>match nx with
  | .value v=>AY J Q b n ds ops k cs m D fuel (Bi listed i) (AI L o.dst v) (CP D s s')
  | .skip=>AY J Q b n ds ops k cs m D fuel (Bi listed i) (AI L o.dst undef) (CP D s s')
  | .enter f args=>∃R,Ef J f args (CP D s s') R∧∀v K,R v K→K.q=false∧(∀x o,(BK D s).E x=some o→(BK D K).E x=some o)∧AY J Q b n ds ops k cs m D fuel (Bi listed i) (AI L o.dst v) K
  | _=>False) (fun _ _=>False)
end
section
variable {P:Program}{J:Judge P}{Q:Gs_}{b:Frame}{n:Nat}{ds:Ld_}{ops:Ao_}{k:Li_}{cs:Lf_}{m fuel:Nat}{D:Nat→Bool}{listed:Array Bool}{L:Env}{s:St}{E E' H:LH}{S:List Seg}
variable {d:Option Tmp}{x y:Operand}{t u ty e:TypeId}{p:String}{af:Ae_}{g:On_}{v:Value}{i:Nat}{kd:IntKind}
theorem QM(U:s.q=false){l:List Nat}(K:Region.ready .any ops listed=l)(V:l≠ [])(h:∀i∈l,Take J Q b n ds ops k cs m D fuel listed L s i):AY J Q b n ds ops k cs m D (fuel+1) listed L s:=
 R6 U (by rw [K];exact V) fun i hi o O=>by
  rw [K] at hi
  obtain⟨o',Y,Z,ag,al,am⟩:=h i hi
  obtain rfl:o'=o:=by rw [Y] at O;exact Option.some.inj O
  exact⟨Z,ag,true,al,fun e=>(by cases e),fun _=>am⟩
theorem JG.one(K:s.q=false)(O:Region.ready .any ops listed= [i])(h:Take J Q b n ds ops k cs m D fuel listed L s i):AY J Q b n ds ops k cs m D (fuel+1) listed L s:=
 QM K O (by simp) (by simpa using h)
theorem HX{i j:Nat}(K:s.q=false)(O:Region.ready .any ops listed= [i,j])(hi:Take J Q b n ds ops k cs m D fuel listed L s i)(U:Take J Q b n ds ops k cs m D fuel listed L s j):AY J Q b n ds ops k cs m D (fuel+1) listed L s:=
 QM K O (by simp) (by intro q K;simp at K;rcases K with rfl | rfl <;> assumption)
def plus(E:LH)(bk:Nat)(o:Obj):LH:=fun x=>if x=bk then Option.some o else E x
theorem X6{jp bk:Nat}{o:Obj}(Z:Ax E H S)(ag:S[jp]? =Option.some [(bk,o)]):BK (A7 [bk]) (An E H S)=An (plus E bk o) H (S.set jp [])∧Ax (plus E bk o) H (S.set jp []):=by
 obtain⟨am,V⟩:=Gp Z ag;have Y:=Nd.iff.1 V;have a3:E bk=Option.none:=(Y.2 (bk,o) (by simp)).1;have ap:H bk=Option.none:=(Y.2 (bk,o) (by simp)).2;have al:∀q∈(S.set jp []).flatten,q.1≠bk:=fun q O e=>by
  have:=Y.1;rw [List.map_append,List.nodup_append] at this;exact this.2.2 q.1 (List.mem_map_of_mem O) bk (by simp) e
 have av:(An E H S).get bk=Option.some o:=Fa (i:=0) Z ag rfl;have a0:∀x,x≠bk→Bl ((S.set jp []).flatten++ [(bk,o)]) H x=Bl (S.set jp []).flatten H x:=fun x K=>by
  rw [show Bl ((S.set jp []).flatten++ [(bk,o)]) H=Bl ([(bk,o)]++(S.set jp []).flatten) H from KF V List.perm_append_comm];simp [Bl,K]
 refine⟨?_,?_⟩
 ·unfold BK;have a1:(fun x=>if A7 [bk] x=true then(An E H S).get x else(An E H S).E x)=plus E bk o:=by
   funext x;unfold plus;by_cases K:x=bk
   ·subst K;simp [A7,av]
   ·simp [A7,K];rfl
  have a2:(fun x=>if A7 [bk] x=true then Option.none else(An E H S).H x)=Bl (S.set jp []).flatten H:=by
   funext x;by_cases K:x=bk
   ·subst K;simp [A7];rw [KT al,ap]
   ·simp only [A7,List.contains_cons,List.contains_nil,Bool.or_false,beq_iff_eq,if_neg K];rw [am];exact a0 x K
  rw [a1,a2];rfl
 ·have U:Nd E H (S.set jp []).flatten:=Iu.Nd.left V;show Nd _ H (S.set jp []).flatten;rw [Nd.iff] at U ⊢;exact⟨U.1,fun q O=>⟨by unfold plus;rw [if_neg (al q O)];exact(U.2 q O).1,(U.2 q O).2⟩⟩
theorem Vx{jp bk:Nat}{o:Obj}{S':List Seg}(av:Ax E H S)(a0:S[jp]? =Option.some [(bk,o)])(a1:Ax (plus E bk o) H S')(V:S'[jp]? =Option.some []):CP (A7 [bk]) (An E H S) (An (plus E bk o) H S')=An E H (S'.set jp [(bk,o)])∧Ax E H (S'.set jp [(bk,o)]):=by
 obtain⟨a2,ag⟩:=Gp av a0;have al:=Nd.iff.1 ag;have a3:E bk=Option.none:=(al.2 (bk,o) (by simp)).1;have a4:H bk=Option.none:=(al.2 (bk,o) (by simp)).2;have Y:(S'.set jp []).flatten=S'.flatten:=by
  have:S'.set jp []=S':=by
   apply List.ext_getElem?;intro q;rw [List.getElem?_set];split
   ·rename_i e;subst e;rw [V,if_pos (List.getElem?_eq_some_iff.1 V).1]
   ·rfl
  rw [this]
 have U:=Nd.iff.1 (show Nd _ H S'.flatten from a1);have am:∀q∈S'.flatten,q.1≠bk:=fun q K e=>by
  have:=(U.2 q K).1;unfold plus at this;rw [if_pos e] at this;cases this
 have Z:Nd E H ((S'.set jp []).flatten++ [(bk,o)]):=by
  rw [Y,Nd.iff,List.map_append,List.nodup_append];refine⟨⟨U.1,by simp,fun x O y ap e=>?_⟩,fun q K=>?_⟩
  ·obtain⟨q,K,rfl⟩:=List.mem_map.1 O;simp at ap;subst ap;exact am q K e
  ·rcases List.mem_append.1 K with K | K
   ·refine⟨?_,(U.2 q K).2⟩;have:=(U.2 q K).1;unfold plus at this
    rwa [if_neg (am q K)] at this
   ·simp at K;subst K;exact⟨a3,a4⟩
 obtain⟨a5,a6⟩:=Hv (seg':= [(bk,o)]) V Z;refine⟨?_,a6⟩;rw [← a5,Y];unfold CP An mk;congr 1
 ·funext x;show(if A7 [bk] x=true then E x else plus E bk o x)=E x
  by_cases O:x=bk
  ·subst O;simp [A7]
  ·simp [A7,O,plus]
 ·funext x;show(if A7 [bk] x=true then(An E H S).H x else Bl S'.flatten H x)=Bl (S'.flatten++ [(bk,o)]) H x
  have a7:Bl (S'.flatten++ [(bk,o)]) H=Bl ([(bk,o)]++S'.flatten) H:=KF (by rw [Y] at Z;exact Z) List.perm_append_comm;rw [a7];by_cases O:x=bk
  ·subst O;simp only [A7,List.contains_cons,beq_self_eq_true,Bool.true_or,if_true,List.cons_append,List.nil_append,Bl];rw [a2];show Bl ((S.set jp []).flatten++ [(x,o)]) H x=_;rw [show Bl ((S.set jp []).flatten++ [(x,o)]) H=Bl ([(x,o)]++(S.set jp []).flatten) H from KF ag List.perm_append_comm];simp [Bl]
  ·simp [A7,O,Bl]
end
end Pal
namespace Pal
open Go Go.Conc
theorem OL.bG{α:Type}{e:TypeId}{pp:Rp α}{E0 E H:LH}{S:List Seg}{a:Option Addr}{c j:Nat}{seg:Seg}{xs:List α}(hg:OL e pp E0 a c seg xs)(Y:Ax E H S)(Z:S[j]? =some seg):∃wss:List (Lv_),GK (An E H S) (.slice a xs.length c) pp.n wss.flatten∧wss.length=xs.length∧∀(i:Nat) x ws,xs[i]? =some x→wss[i]? =some ws→pp.r E0 ws x:=by
 obtain⟨wss,hg,ag,al⟩:=hg;refine⟨wss,?_,ag,al⟩;rcases hg with⟨rfl,am,V,U,K⟩ | ⟨bk,f,rfl,rfl,V,U,K⟩
 ·exact⟨am,K⟩
 ·have hle:xs.length*pp.n≤f.size:=by rw [V];exact Nat.mul_le_mul_right _ U
  refine⟨.inl rfl,by rw [K];simp [hle],U,fun q w O=>?_⟩;rw [K,List.getElem?_take] at O;split at O
  ·refine D1 Y Z ?_;simpa using O
  ·cases O
section
variable {P:Program}{E H:LH}{S:List Seg}{d:Option Tmp}{x y:Operand}{t ty e:TypeId}{p:String}{af:Ae_}{g:On_}
theorem SC{E0:LH}{ρ:Operand→Value}{K:Next→St→Prop}{α:Type}{pp:Rp α}{t1:TypeId}{a2 c cx:Nat}{a ax:Option Addr}{seg:Seg}{xs ys a3:List α}{ats:Array TypeId}{z:Value}(j:Nat)(av:CQ xs ys=some a3)
  (bo:ρ x= .slice a xs.length c) (bv:ρ y= .slice ax ys.length cx) (bw:ats[0]? =some t) (bU:ats[1]? =some t1) (ht:P.underlying t=some (.slice e)) (bV:P.underlying t1=some (.slice e)) (bW:BD P e=some pp.n) (hb:EE P e=some a2) (bY:zeroOf P e=some z) (bZ:z.cells.size=pp.n)
  (b0:0<a2) (b1:a2≤64) (hg:OL e pp E0 a c seg xs) (b2:∃V:List (Lv_),GK (An E H S) (.slice ax ys.length cx) pp.n V.flatten∧V.length=ys.length∧∀(i:Nat) x ws,ys[i]? =some x→V[i]? =some ws→pp.r E0 ws x) (b3:Ax E H S) (a9:S[j]? =some seg)
  (h:∀U O g seg',OL e pp E0 U O seg' a3→Ax E H (S.set j (g++seg'))→K (.value (.slice U a3.length O)) (An E H (S.set j (g++seg')))):
  lp P (execOp ρ ⟨d,.call ⟨.builtin .append,#[x,y],ats⟩,ty,p,af,g⟩) (An E H S) K (fun _ _=>False):=by
 unfold CQ at av;split at av
 rotate_left
 ·cases av
 rename_i b4;cases av;obtain⟨V,bb,a0,a4⟩:=b2;obtain⟨wss,hg,bd,b5⟩:=hg;obtain⟨b6,a5⟩:=Gp b3 a9;have b7:=Iw a0 a4;have b8:∀w∈V.flatten,CY w=true:=fun w hw=>by
  obtain⟨us,b9,hw⟩:=List.mem_flatten.1 hw;obtain⟨q,be⟩:=List.mem_iff_getElem?.1 b9;have ca:q<ys.length:=by rw [← a0];exact(List.getElem?_eq_some_iff.1 be).1
  exact pp.one (a4 q _ us (List.getElem?_eq_getElem ca) be) w hw
 have hlen:(xs++ys).length=xs.length+ys.length:=by simp
 rw [b6] at bb ⊢;rw [Mp,bo,bv];have a6:∀{U O seg'},GS e pp.n U (xs.length+ys.length) O seg' (wss.flatten++V.flatten)→OL e pp E0 U O seg' (xs++ys):=fun cb=>
  ⟨wss++V,by rw [hlen,List.flatten_append];exact cb,by simp [bd,a0],OP bd b5 a4⟩
 have fin:∀U O g seg',OL e pp E0 U O seg' (xs++ys)→Nd E H ((S.set j []).flatten++(g++seg'))→K (.value (.slice U (xs.length+ys.length) O)) (mk E H ((S.set j []).flatten++(g++seg'))):=fun U O g seg' cc Y=>by
  obtain⟨cd,ce⟩:=Hv a9 Y;rw [cd];have:=h U O g seg' cc ce;rw [hlen] at this;exact this
 have cf:N2 ((S.set j []).flatten++seg) (S.set j []).flatten.length e pp.n a xs.length c wss.flatten:=by
  rcases hg with⟨q1,q2,ap,ag,al⟩ | ⟨bk,f,q1,q2,ap,ag,al⟩
  ·exact .inl ⟨q1,q2,ap,al⟩
  ·refine .inr ⟨bk,f,q1,?_,ap,ag,al⟩;subst q2;simp
 refine AH _ _ (OY (pl:=(S.set j []).flatten.length) bw bU bV ht bW hb bY bZ a5 cf bb b8 b0 b4 b1 ?_ ?_ ?_)
 ·intro bk f Z a1 cp cq cg a7 a8 Y;rcases hg with⟨q1,_⟩ | ⟨am,f0,q1,q2,ap,ag,al⟩
  ·rw [q1] at a1;cases a1
  ·subst q2;have ci:am=bk:=by rw [q1] at a1;simpa using a1
   subst ci;have ck:((S.set j []).flatten++ [(am,Obj.cells f0 e (0,0))]).set (S.set j []).flatten.length (am,.cells Z e (0,0))=(S.set j []).flatten++ [(am,.cells Z e (0,0))]:=HU _ _ _ _;rw [ck] at Y ⊢;exact fin a c [] _ (a6 (.inr ⟨am,Z,q1,rfl,a7,cg,a8.symm⟩)) Y
 ·intro bi hm;rcases hg with⟨q1,q2,ap,ag,al⟩ | ⟨am,f0,q1,_⟩
  ·have cm:V.flatten= []:=List.eq_nil_of_length_eq_zero (by rw [Ms b7,a0,hm];simp);have:=fin none 0 [] [] (a6 (by rw [q2,hm,al,cm];exact GS.nil)) (by rw [ag] at a5;simpa using a5);rw [q2,hm] at this;rw [ag];simp only [List.append_nil] at this ⊢;exact this
  ·rw [q1] at bi;cases bi
 ·intro r Z O cn a7 a8 Y;have co:(S.set j []).flatten++seg++ [(r,Obj.cells Z e (0,0))]=(S.set j []).flatten++(seg++ [(r,.cells Z e (0,0))]):=List.append_assoc _ _ _;rw [co] at Y ⊢;exact fin (some ⟨r,0,none⟩) O seg _ (a6 (.inr ⟨r,Z,rfl,rfl,a7,cn,a8.symm⟩)) Y
theorem Sj{E0:LH}{ρ:Operand→Value}{K:Next→St→Prop}{α:Type}{pp:Rp α}{t1:TypeId}{O c cx:Nat}{a ax:Option Addr}{seg V:Seg}{xs ys U:List α}{ats:Array TypeId}{z:Value}(j al:Nat)(am:CQ xs ys=some U)
  (ap:ρ x= .slice a xs.length c) (av:ρ y= .slice ax ys.length cx) (a0:ats[0]? =some t) (a1:ats[1]? =some t1) (ht:P.underlying t=some (.slice e)) (a2:P.underlying t1=some (.slice e)) (a3:BD P e=some pp.n) (hb:EE P e=some O) (a4:zeroOf P e=some z) (a5:z.cells.size=pp.n)
  (a6:0<O) (a7:O≤64) (hg:OL e pp E0 a c seg xs) (a8:OL e pp E0 ax cx V ys) (Y:Ax E H S) (a9:S[j]? =some seg) (bb:S[al]? =some V)
  (h:∀Z ag g seg',OL e pp E0 Z ag seg' U→Ax E H (S.set j (g++seg'))→K (.value (.slice Z U.length ag)) (An E H (S.set j (g++seg')))):
  lp P (execOp ρ ⟨d,.call ⟨.builtin .append,#[x,y],ats⟩,ty,p,af,g⟩) (An E H S) K (fun _ _=>False):=
 SC j am ap av a0 a1 ht a2 a3 hb a4 a5 a6 a7 hg (a8.bG Y bb) Y a9 h
end
section
variable {P:Program}{J:Judge P}{Q:Gs_}{b:Frame}{n:Nat}{ds:Ld_}{ops:Ao_}{k:Li_}{cs:Lf_}{m fuel:Nat}{D:Nat→Bool}{listed:Array Bool}{L:Env}{s:St}{E E' H:LH}{S:List Seg}
variable {d:Option Tmp}{x y:Operand}{t u ty e:TypeId}{p:String}{af:Ae_}{g:On_}{v:Value}{i:Nat}{kd:IntKind}
theorem Take.BK{jp bk:Nat}{o:Obj}{oi:Oper}(O:Ax E H S)(U:S[jp]? =some [(bk,o)])(hi:ops[i]? =some oi)(K:(!Du oi.op&&BE n oi.dst)=true)(hw:Bf L ops oi=some true)
  (h:∀ρ,EL L ρ→Ax (plus E bk o) H (S.set jp [])→lp P (execOp ρ oi) (An (plus E bk o) H (S.set jp [])) (fun nx s'=>∃v S',nx= .value v∧s'=An (plus E bk o) H S'∧Ax (plus E bk o) H S'∧S'[jp]? =some []∧
   (Ax E H (S'.set jp [(bk,o)])→AY J Q b n ds ops k cs m (A7 [bk]) fuel (Bi listed i) (AI L oi.dst v) (An E H (S'.set jp [(bk,o)])))) (fun _ _=>False)):
  Take J Q b n ds ops k cs m (A7 [bk]) fuel listed L (An E H S) i:=by
 simp only [Bool.and_eq_true] at K;refine⟨oi,hi,K.1,K.2,hw,fun ρ V=>?_⟩;obtain⟨Y,Z⟩:=X6 O U;rw [Y];refine Dz _ (h ρ V Z) ?_ (fun _ _ h=>h);rintro nx s' ⟨v,S',rfl,rfl,ag,al,am⟩;obtain⟨ap,av⟩:=Vx O U ag al;show AY J Q b n ds ops k cs m (A7 [bk]) fuel (Bi listed i) (AI L oi.dst v) (CP (A7 [bk]) (An E H S) (An (plus E bk o) H S'));rw [ap];exact am av
theorem Take.lit{jp bk:Nat}{o:Obj}{α:Type}{pp:Rp α}{len:Nat}{K:Array (Nat×Operand)}(vs:Lv_){z:Value}(xs:List α)(Y:Ax E H S)(O:S[jp]? =some [(bk,o)])
  (Z:ops[i]? =some ⟨d,.buildSlice t len K,ty,p,af,g⟩) (hw:Bf L ops ⟨d,.buildSlice t len K,ty,p,af,g⟩=some true) (ag:BE n d=true)
  (ht:P.underlying t=some (.slice e)) (al:BD P e=some pp.n) (am:zeroOf P e=some z) (ap:decide (0<len*pp.n∧len*pp.n≤2 ^ 24)=true)
  (av:K.toList.mapM (fun q=>(ev L q.2).map fun v=>(q.1,v))=some ((vs.zipIdx 0).map fun q=>(q.2,q.1)))
  (a0:vs.length=len) (a1:xs.length=len) (a2:IL pp E xs vs)
  (h:∀r seg,OL e pp E (some ⟨r,0,none⟩) len seg xs→Ax E H (S++ [seg])→AY J Q b n ds ops k cs m (A7 [bk]) fuel (Bi listed i) (AI L d (.slice (some ⟨r,0,none⟩) xs.length len)) (An E H (S++ [seg]))):
  Take J Q b n ds ops k cs m (A7 [bk]) fuel listed L (An E H S) i:=by
 have U:jp<S.length:=(List.getElem?_eq_some_iff.1 O).1;refine Take.BK Y O Z (by simp [Du,ag]) hw fun ρ a3 a4=>PC a3 vs xs ht al am ap av a0 a1 a2 a4 fun r seg a5 a6=>⟨_,S.set jp []++ [seg],rfl,rfl,a6,by rw [List.getElem?_append_left (by simpa using U)];simp [U],fun V=>?_⟩;have a7:(S.set jp []++ [seg]).set jp [(bk,o)]=S++ [seg]:=by
  rw [List.set_append_left _ _ (by simpa using U),List.set_set];congr 1;apply List.ext_getElem?;intro q;rw [List.getElem?_set];split
  ·rename_i e;subst e;rw [O]
  ·rfl
 rw [a7] at V ⊢;exact h r seg a5 V
theorem Take.app{jp bk:Nat}{o:Obj}{α:Type}{pp:Rp α}{t1:TypeId}{Y c cx:Nat}{a ax:Option Addr}{seg am:Seg}{xs ys Z:List α}{ats:Array TypeId}{z:Value}(j K:Nat)(a0:Ax E H S)(ag:S[jp]? =some [(bk,o)])(a1:CQ xs ys=some Z)
  (a2:ops[i]? =some ⟨d,.call ⟨.builtin .append,#[x,y],ats⟩,ty,p,af,g⟩) (hw:Bf L ops ⟨d,.call ⟨.builtin .append,#[x,y],ats⟩,ty,p,af,g⟩=some true) (a3:BE n d=true)
  (a4:ev L x=some (.slice a xs.length c)) (a5:ev L y=some (.slice ax ys.length cx)) (a6:ats[0]? =some t) (a7:ats[1]? =some t1) (ht:P.underlying t=some (.slice e)) (a8:P.underlying t1=some (.slice e)) (a9:BD P e=some pp.n) (hb:EE P e=some Y) (bb:zeroOf P e=some z) (bd:z.cells.size=pp.n)
  (be:0<Y) (bi:Y≤64) (hg:OL e pp E a c seg xs) (bo:OL e pp E ax cx am ys) (bv:S[j]? =some seg) (bw:S[K]? =some am) (bU:(j==jp)=false) (bV:(K==jp)=false)
  (h:∀O U g seg',OL e pp E O U seg' Z→Ax E H (S.set j (g++seg'))→AY J Q b n ds ops k cs m (A7 [bk]) fuel (Bi listed i) (AI L d (.slice O Z.length U)) (An E H (S.set j (g++seg')))):
  Take J Q b n ds ops k cs m (A7 [bk]) fuel listed L (An E H S) i:=by
 have bW:jp<S.length:=(List.getElem?_eq_some_iff.1 ag).1;have al:j≠jp:=by simpa using bU
 have bY:K≠jp:=by simpa using bV
 refine Take.BK a0 ag a2 (by simp [Du,a3]) hw fun ρ ap bZ=>Sj j K a1 (ap _ _ a4) (ap _ _ a5) a6 a7 ht a8 a9 hb bb bd be bi hg bo bZ (by rw [List.getElem?_set_ne (Ne.symm al)];exact bv) (by rw [List.getElem?_set_ne (Ne.symm bY)];exact bw) fun O U V seg' b0 b1=>⟨_,(S.set jp []).set j (V++seg'),rfl,rfl,b1,by rw [List.getElem?_set_ne al];simp [bW],fun av=>?_⟩;have b2:((S.set jp []).set j (V++seg')).set jp [(bk,o)]=S.set j (V++seg'):=by
  rw [List.set_comm _ _ al,List.set_set];congr 1;apply List.ext_getElem?;intro q;rw [List.getElem?_set];split
  ·rename_i e;subst e;rw [ag]
  ·rfl
 rw [b2] at av ⊢;exact h O U V seg' b0 av
end
end Pal
namespace Pal
open Go Go.Conc
section
variable {P:Program}{J:Judge P}{Q:Gs_}{b:Frame}{n:Nat}{ds:Ld_}{ops:Ao_}{k:Li_}{cs:Lf_}{m fuel:Nat}{D:Nat→Bool}{listed:Array Bool}{L:Env}{s:St}{E E' H:LH}{S:List Seg}
variable {d:Option Tmp}{x y:Operand}{t u ty e:TypeId}{p:String}{af:Ae_}{g:On_}{v:Value}{i:Nat}{kd:IntKind}
theorem Take.Kr{oi:Oper}(hi:ops[i]? =some oi)(K:(!Du oi.op&&BE n oi.dst)=true)(hw:Bf L ops oi=some true)
  (h:∀ρ,EL L ρ→lp P (execOp ρ oi) s (fun nx s'=>match nx with
   | .value v=>AY J Q b n ds ops k cs m Ee fuel (Bi listed i) (AI L oi.dst v) s'
   | .skip=>AY J Q b n ds ops k cs m Ee fuel (Bi listed i) (AI L oi.dst undef) s'
   | _=>False) (fun _ _=>False)):Take J Q b n ds ops k cs m Ee fuel listed L s i:=by
 simp only [Bool.and_eq_true] at K
 refine⟨oi,hi,K.1,K.2,hw,fun ρ U=>Dz _ (h ρ U) ?_ (fun _ _ h=>h)⟩
 intro nx s' O
 cases nx with
 | value v=>exact O
 | skip=>exact O
 | _=>exact O.elim
theorem Take.Js{α:Type}{pp:Rp α}{len:Nat}{K:Array (Nat×Operand)}(vs:Lv_){z:Value}(xs:List α)(O:Ax E H S)
  (U:ops[i]? =some ⟨d,.buildSlice t len K,ty,p,af,g⟩) (hw:Bf L ops ⟨d,.buildSlice t len K,ty,p,af,g⟩=some true) (V:BE n d=true)
  (ht:P.underlying t=some (.slice e)) (Y:BD P e=some pp.n) (Z:zeroOf P e=some z) (ag:decide (0<len*pp.n∧len*pp.n≤2 ^ 24)=true)
  (al:K.toList.mapM (fun q=>(ev L q.2).map fun v=>(q.1,v))=some ((vs.zipIdx 0).map fun q=>(q.2,q.1)))
  (am:vs.length=len) (ap:xs.length=len) (av:IL pp E xs vs)
  (h:∀r seg,OL e pp E (some ⟨r,0,none⟩) len seg xs→Ax E H (S++ [seg])→AY J Q b n ds ops k cs m Ee fuel (Bi listed i) (AI L d (.slice (some ⟨r,0,none⟩) xs.length len)) (An E H (S++ [seg]))):
  Take J Q b n ds ops k cs m Ee fuel listed L (An E H S) i:=
 Take.Kr U (by simp [Du,V]) hw fun ρ a0=>PC a0 vs xs ht Y Z ag al am ap av O fun r seg a1 a2=>h r seg a1 a2
theorem Take.app0{α:Type}{pp:Rp α}{t1:TypeId}{U c cx:Nat}{a ax:Option Addr}{seg Y:Seg}{xs ys V:List α}{ats:Array TypeId}{z:Value}(j Z:Nat)(al:Ax E H S)(am:CQ xs ys=some V)
  (ap:ops[i]? =some ⟨d,.call ⟨.builtin .append,#[x,y],ats⟩,ty,p,af,g⟩) (hw:Bf L ops ⟨d,.call ⟨.builtin .append,#[x,y],ats⟩,ty,p,af,g⟩=some true) (av:BE n d=true)
  (a0:ev L x=some (.slice a xs.length c)) (a1:ev L y=some (.slice ax ys.length cx)) (a2:ats[0]? =some t) (a3:ats[1]? =some t1) (ht:P.underlying t=some (.slice e)) (a4:P.underlying t1=some (.slice e)) (a5:BD P e=some pp.n) (hb:EE P e=some U) (a6:zeroOf P e=some z) (a7:z.cells.size=pp.n)
  (a8:0<U) (a9:U≤64) (hg:OL e pp E a c seg xs) (bb:OL e pp E ax cx Y ys) (bd:S[j]? =some seg) (be:S[Z]? =some Y)
  (h:∀K O g seg',OL e pp E K O seg' V→Ax E H (S.set j (g++seg'))→AY J Q b n ds ops k cs m Ee fuel (Bi listed i) (AI L d (.slice K V.length O)) (An E H (S.set j (g++seg')))):
  Take J Q b n ds ops k cs m Ee fuel listed L (An E H S) i:=
 Take.Kr ap (by simp [Du,av]) hw fun ρ ag=>Sj j Z am (ag _ _ a0) (ag _ _ a1) a2 a3 ht a4 a5 hb a6 a7 a8 a9 hg bb al bd be fun K O bi seg' bo bv=>h K O bi seg' bo bv
theorem Take.Lo{z:Value}(O:Ax E H S)(U:ops[i]? =some ⟨d,.alloc e,ty,p,af,g⟩)(hw:Bf L ops ⟨d,.alloc e,ty,p,af,g⟩=some true)(V:BE n d=true)(Y:zeroOf P e=some z)
  (h:∀r,Ax E H (S++ [[(r,.cells z.cells e (0,0))]])→AY J Q b n ds ops k cs m Ee fuel (Bi listed i) (AI L d (.pointer (some ⟨r,0,none⟩))) (An E H (S++ [[(r,.cells z.cells e (0,0))]]))):
  Take J Q b n ds ops k cs m Ee fuel listed L (An E H S) i:=
 Take.Kr U (by simp [Du,V]) hw fun ρ _=>by
  show lp P (do pure (Next.value (← Instr.alloc e true (.tuple #[])))) _ _ _
  refine AH _ _ ?_
  unfold Instr.alloc
  refine AH _ _ (Gk Y ?_)
  refine AH _ _ (G1 O fun r K=>?_)
  rw [(Eo K).1]
  exact h r (Eo K).2
end
end Pal
namespace Pal
open Go Go.Conc
theorem Gq{α:Type}{kk:Nat}{pp:Rp α}{E:LH}{ws:Lv_}{xs:List α}(K:(rA kk pp).r E ws xs):ws.length=kk*pp.n:=(rA kk pp).len K
theorem Iy{α:Type}{kk:Nat}{pp:Rp α}{E:LH}{ws:Lv_}{xs:List α}{m:Int}{x:α}(O:(rA kk pp).r E ws xs)(hm:ix xs m=some x):∃us,pp.r E us x∧0≤m∧m<kk∧(∀j w,us[j]? =some w→ws[m.toNat*pp.n+j]? =some w):=by
 obtain⟨U,wss,rfl,V,K⟩:=O;obtain⟨m,rfl,hm⟩:=GG hm;have Z:m<xs.length:=(List.getElem?_eq_some_iff.1 hm).1;have hw:wss[m]? =some wss[m]:=List.getElem?_eq_getElem (by omega);exact⟨wss[m],K m x _ hm hw,by omega,by omega,fun j w Y=>Jz (Iw (V.trans U.symm) K) hw j w Y⟩
section
variable {P:Program}{J:Judge P}{Q:Gs_}{b:Frame}{n:Nat}{ds:Ld_}{ops:Ao_}{k:Li_}{cs:Lf_}{L:Env}{E H:LH}{S:List Seg}
variable {d:Option Tmp}{x y:Operand}{t u ty e:TypeId}{p:String}{af:Ae_}{g:On_}{i:Nat}{rest:List Nat}{kd:IntKind}{s:St}{ρ:Operand→Value}
theorem K7{α:Type}{kk:Nat}{pp:Rp α}{a:Addr}{ws:Lv_}{xs:List α}(K:(rA kk pp).r E ws xs)(ht:Dk P t=some true)(O:BD P t=some (kk*pp.n))(U:ρ x= .pointer (some a))(h:∀j v,ws[j]? =some v→s.cell? (a.add j)=some v):Yl P ⟨d,.load t x,ty,p,af,g⟩ ρ s (.agg ws.toArray):=
 F5 ht (by rw [Gq K];exact O) U h
theorem aO{α:Type}{pp:Rp α}{kk:Nat}{ws:Lv_}{xs:List α}{xv:α}{m:Int}{O:Bool}(V:(rA kk pp).r E ws xs)(hm:ix xs m=some xv)
  (av:ops[i]? =some ⟨d,.index t x y,ty,p,af,g⟩) (hw:Bf L ops ⟨d,.index t x y,ty,p,af,g⟩=some true) (a0:CS b n ⟨d,.index t x y,ty,p,af,g⟩=true)
  (a1:ev L x=some (.agg ws.toArray)) (a2:ev L y=some (.int kd m)) (ht:P.underlying t=some (.array kk e)) (Y:BD P e=some pp.n) (a3:Dk P e=some O)
  (h:∀us,pp.r E us xv→JL J Q b n (AI L d (if O then .agg us.toArray else us.headD undef)) ds (.inRegion ops rest::k) cs s) (a4:O=false→pp.n=1):
  JL J Q b n L ds (.inRegion ops (i::rest)::k) cs s:=by
 obtain⟨us,Z,a5,a6,ag⟩:=Iy V hm;have hlen:=pp.len Z;have a7:=Gq V;refine Bb av hw a0 (fun ρ al=>?_) (h us Z);refine Fz (sm:=Instr.index t (ρ x) (ρ y)) rfl ?_;rw [al _ _ a1,al _ _ a2];unfold Instr.index;simp only [asIntOf,Hn];refine AH (x:=underlying t) _ (Dm ht ?_);simp only [a5,a6,and_self,if_true];refine AH (x:=Go.sizeOf e) _ (EX Y ?_);unfold Go.part;refine AH (x:=isAgg e) _ (KV a3 ?_);have a9:m.toNat*pp.n+pp.n≤ws.length:=by
  rw [a7];have:(m.toNat+1)*pp.n≤kk*pp.n:=Nat.mul_le_mul_right _ (by omega);rw [Nat.succ_mul] at this;exact this
 cases O with
 | true=>
  simp only [if_true];refine AH (x:=Go.sizeOf e) _ (EX Y ?_);have a8:ws.toArray.extract (m.toNat*pp.n) (m.toNat*pp.n+pp.n)=us.toArray:=by
   apply Array.ext_getElem?;intro j;by_cases am:j<us.length
   ·have U:=ag j us[j] (List.getElem?_eq_getElem am);simp only [Array.getElem?_extract,List.size_toArray,List.getElem?_toArray];rw [if_pos (by omega),U];simp [am]
   ·rw [Array.getElem?_eq_none (by simp;omega),Array.getElem?_eq_none (by simp;omega)]
  rw [a8];exact⟨rfl,rfl⟩
 | false=>
  have ap:=a4 rfl;obtain⟨w,rfl⟩:∃w,us= [w]:=by
   match us,hlen with
   | [w],_=>exact⟨w,rfl⟩
   | [],K=>rw [ap] at K;cases K
   | _::_::_,K=>rw [ap] at K;simp at K
  have U:=ag 0 w rfl;simp only [Bool.false_eq_true,if_false,List.getElem?_toArray];rw [Nat.add_zero] at U;rw [U];exact⟨rfl,rfl⟩
end
end Pal
namespace Pal
open Go Go.Conc
theorem OL.TZ{α:Type}{e:TypeId}{pp:Rp α}{E:LH}{a:Option Addr}{c:Nat}{seg:Seg}{xs:List α}{m:Int}{x:α}(hg:OL e pp E a c seg xs)(hm:ix xs m=some x):
  ∃bk f ws,a=some ⟨bk,0,none⟩∧seg= [(bk,.cells f e (0,0))]∧pp.r E ws x∧(∀j w,ws[j]? =some w→f[m.toNat*pp.n+j]? =some w):=by
 obtain⟨m,rfl,hm⟩:=GG hm;obtain⟨bk,f,ws,K,O,U,V,_⟩:=OL.get hg hm;exact⟨bk,f,ws,K,O,U,V⟩
def Gt(S:List Seg):List Nat→Prop
 | []=>True
 | bk::bks=>(∃(j:Nat) (o:Obj),S[j]? =some [(bk,o)])∧Gt S bks
theorem Gt.mem{S:List Seg}:∀{bks:List Nat},Gt S bks→∀bk∈bks,∃(j:Nat) (o:Obj),S[j]? =some [(bk,o)]
 | [],_,_,h=>by cases h
 | b::bks,h,bk,hb=>by
  rcases List.mem_cons.1 hb with rfl | hb
  ·exact h.1
  ·exact h.2.mem bk hb
theorem Gt.free{E H:LH}{S:List Seg}{bks:List Nat}(h:Gt S bks)(K:Ax E H S):∀x,A7 bks x=true→E x=none:=fun x O=>by
 obtain⟨j,o,U⟩:=h.mem x (by simpa [A7] using O)
 exact Ns K U
section
variable {P:Program}{J:Judge P}{Q:Gs_}{b:Frame}{n:Nat}{ds:Ld_}{ops:Ao_}{k:Li_}{cs:Lf_}{m fuel:Nat}{D:Nat→Bool}{listed:Array Bool}{L:Env}{s:St}{E E' H:LH}{S:List Seg}
variable {d:Option Tmp}{x y:Operand}{t u ty e:TypeId}{p:String}{af:Ae_}{g:On_}{v:Value}{i:Nat}{kd:IntKind}
theorem Rs{bks:List Nat}{f:FuncId}{args:Array Operand}{ats:Array TypeId}{vs:Lv_}{R:Value→LH→Seg→Prop}(ap:Gt S bks)(av:AN J f vs E [] R)(a0:Region.ready .any ops listed= [i])
  (a1:ops[i]? =some ⟨d,.call ⟨.value (.func f),args,ats⟩,ty,p,af,g⟩) (a2:BE n d=true) (hw:Bf L ops ⟨d,.call ⟨.value (.func f),args,ats⟩,ty,p,af,g⟩=some true) (hb:D3 P f=true) (a3:evs L args.toList=some vs) (Z:Ax E H S)
  (a4:∀v E' seg',Le E E'→R v E' seg'→Ax E' H (S++ [seg'])→AY J Q b n ds ops k cs m (A7 bks) fuel (Bi listed i) (AI L d v) (An E' H (S++ [seg']))):
  AY J Q b n ds ops k cs m (A7 bks) (fuel+1) listed L (An E H S):=by
 have a5:=Ef.Kp (av (Bl S.flatten H) trivial) (by rintro v s' ⟨E',B',_,_,_,rfl⟩;rfl);refine AY.call rfl a0 a1 a2 hw hb a3 a5 ?_;rintro v bo ⟨⟨E',B',hle,a6,a7,rfl⟩,w,a8⟩;have a9:mk E' (Bl S.flatten H) B'=mk E' H (B'++S.flatten):=by unfold mk;rw [F3]
 have bb:Nd E' H S.flatten:=Nd.grow Z fun x O=>by
  have bd:=a8.d x O;have U:Bl B' (Bl S.flatten H) x=none:=bd;exact(G0 U).1
 have ag:Nd E' H (B'++S.flatten):=Nd.glue a7 bb;have al:(B'++S.flatten).Perm (S++ [B']).flatten:=by rw [G3];exact List.perm_append_comm
 have am:Ax E' H (S++ [B']):=Nd.perm ag al;rw [a9,FA ag al];refine⟨rfl,fun x o O=>?_,a4 v E' B' hle a6 am⟩;by_cases V:A7 bks x=true
 ·obtain⟨j,o',Y⟩:=ap.mem x (by simpa [A7] using V);have U:(An E H S).get x=some o':=Fa (i:=0) Z Y rfl;have be:j<S.length:=(List.getElem?_eq_some_iff.1 Y).1;have bi:(An E' H (S++ [B'])).get x=some o':=Fa (i:=0) am (by rw [List.getElem?_append_left be];exact Y) rfl;have K:(if A7 bks x then(An E H S).get x else E x)=some o:=O
  show(if A7 bks x then(An E' H (S++ [B'])).get x else E' x)=some o
  rw [if_pos V] at K ⊢;rw [bi,← U];exact K
 ·have K:(if A7 bks x then(An E H S).get x else E x)=some o:=O
  show(if A7 bks x then(An E' H (S++ [B'])).get x else E' x)=some o
  rw [if_neg V] at K ⊢;exact hle _ _ K
theorem V7(m:Nat)(bks:List Nat){id:Nat}(O:Gt S bks)(U:Ax E H S)(hm:P.follows .mixedOrders=true)(K:(b.kind != .early)=true)(ht:DR ops m=true)
  (h:DR ops m=true→AY J Q b n ds ops k cs m (A7 bks) ops.size (Array.replicate ops.size false) L (An E H S)):JL J Q b n L ds (.code (.region id ops true)::k) cs (An E H S):=
 Rj m (A7 bks) rfl hm K (h ht)
theorem Iv{bks:List Nat}{bk o:Nat}{c:AD}{f:Nat×Nat}{w:Value}{s':St}(j:Nat)(K:Ax E H S)(O:S[j]? =some [(bk,.cells c e f)])(U:A7 bks bk=true)(hs:∀x o,(BK (A7 bks) (An E H S)).E x=some o→s'.E x=some o)(hw:c[o]? =some w):s'.cell? ⟨bk,o,none⟩=some w:=by
 have V:(BK (A7 bks) (An E H S)).E bk=some (.cells c e f):=by
  show(if A7 bks bk then(An E H S).get bk else E bk)=_
  rw [if_pos U];exact Fa (i:=0) K O rfl
 have Y:=hs _ _ V;unfold St.cell? St.get;rw [Y];exact hw
theorem Vn{bks:List Nat}{bk o:Nat}{c:AD}{f:Nat×Nat}{ws:Lv_}{s':St}(j:Nat)(O:Ax E H S)(U:S[j]? =some [(bk,.cells c e f)])(V:A7 bks bk=true)(hs:∀x o,(BK (A7 bks) (An E H S)).E x=some o→s'.E x=some o)(hw:(c.toList.drop o).take ws.length=ws):∀q w,ws[q]? =some w→s'.cell? (Addr.add ⟨bk,o,none⟩ q)=some w:=fun q w K=>by
 rw [Dp rfl]
 refine Iv j O U V hs ?_
 have Y:q<ws.length:=(List.getElem?_eq_some_iff.1 K).1
 rw [← hw,List.getElem?_take_of_lt Y,List.getElem?_drop,Array.getElem?_toList] at K
 exact K
theorem PM{bks:List Nat}{s':St}(O:Ax E H S)(hs:∀x o,(BK (A7 bks) (An E H S)).E x=some o→s'.E x=some o)(U:Gt S bks):∀x o,E x=some o→s'.E x=some o:=fun x o K=>hs x o (by
 show(if A7 bks x then(An E H S).get x else E x)=some o
 rw [if_neg (fun V=>by rw [U.free O x V] at K;cases K)];exact K)
end
end Pal
namespace Pal
open Go Go.Conc
theorem JM{P:Program}{s:St}{ρ:Operand→Value}{x y:Operand}{d:Option Tmp}{t ty e:TypeId}{p:String}{af:Ae_}{g:On_}{kd:IntKind}{α:Type}{xs:List α}{xv:α}{m:Int}{bk c K:Nat}(hm:ix xs m=some xv)(ht:P.underlying t=some (.slice e))(O:BD P e=some K)(U:ρ x= .slice (some ⟨bk,0,none⟩) xs.length c)(V:ρ y= .int kd m):
  Yl P ⟨d,.indexAddr t x y,ty,p,af,g⟩ ρ s (.pointer (some ⟨bk,m.toNat*K,none⟩)):=by
 obtain⟨m,rfl,hm⟩:=GG hm;have Y:m<xs.length:=(List.getElem?_eq_some_iff.1 hm).1;have:=MB (P:=P) (s:=s) (d:=d) (ty:=ty) (p:=p) (af:=af) (g:=g) ht O U V ⟨by omega,by omega⟩;rw [Dp rfl] at this;simpa using this
end Pal
namespace Pal
open Go Go.Conc
def HD(ws:Lv_)(q:Nat)(us:Lv_):Lv_:=(A2 ws.toArray q us).toList
theorem MF{ws us:Lv_}{q:Nat}(h:q+us.length≤ws.length)(j:Nat):(HD ws q us)[j]? =if q≤j∧j<q+us.length then us[j - q]? else ws[j]? :=by
 unfold HD;rw [Array.getElem?_toList,My us _ q (by simpa using h)];simp
theorem UQ{l ws us:Lv_}{q:Nat}(h:q+us.length≤ws.length):A2 (l++ws).toArray (l.length+q) us=(l++HD ws q us).toArray:=by
 apply Array.ext_getElem?;intro j;rw [My us _ _ (by simp;omega)];simp only [List.getElem?_toArray];by_cases O:l.length+q≤j∧j<l.length+q+us.length
 ·rw [if_pos O,List.getElem?_append_right (by omega),MF h,if_pos (by omega)];congr 1;omega
 ·rw [if_neg O];rcases Nat.lt_or_ge j l.length with K | K
  ·rw [List.getElem?_append_left K,List.getElem?_append_left K]
  ·rw [List.getElem?_append_right K,List.getElem?_append_right K,MF h,if_neg (by omega)]
theorem Ro{ws us:Lv_}(h:us.length=ws.length):HD ws 0 us=us:=by
 apply List.ext_getElem?;intro j;rw [MF (by omega)];split
 ·simp
 ·rename_i K;rw [List.getElem?_eq_none (by omega),List.getElem?_eq_none (by omega)]
theorem MI{E H:LH}{S:List Seg}{bk:Nat}{l ws:Lv_}{e:TypeId}{f:Nat×Nat}(j:Nat)(K:Ax E H S)(O:S[j]? =some [(bk,.cells (l++ws).toArray e f)]):∀q v,ws[q]? =some v→(An E H S).cell? (Addr.add ⟨bk,l.length,none⟩ q)=some v:=fun q v U=>by
 rw [Dp rfl]
 refine D1 K O ?_
 simp only [List.getElem?_toArray]
 rw [List.getElem?_append_right (by omega)]
 rw [show l.length+q - l.length=q by omega];exact U
theorem Vy{E H:LH}{S:List Seg}{bk o:Nat}{l ws:Lv_}{e:TypeId}{f:Nat×Nat}{w:Value}(j:Nat)(K:Ax E H S)(O:S[j]? =some [(bk,.cells (l++ws).toArray e f)])(U:ws[o]? =some w):(An E H S).cell? ⟨bk,l.length+o,none⟩=some w:=by
 have:=MI j K O o w U
 rwa [Dp rfl] at this
theorem Ps{α:Type}{kk:Nat}{pp:Rp α}{E:LH}{ws us:Lv_}{xs:List α}{m:Int}{x y:α}(Y:(rA kk pp).r E ws xs)(hm:ix xs m=some x)(hu:pp.r E us y):(rA kk pp).r E (HD ws (m.toNat*pp.n) us) (xs.set m.toNat y)∧m.toNat*pp.n+us.length≤ws.length:=by
 have a1:=Gq Y;obtain⟨Z,wss,rfl,ag,al⟩:=Y;obtain⟨m,rfl,hm⟩:=GG hm;have a2:m<xs.length:=(List.getElem?_eq_some_iff.1 hm).1;have am:=pp.len hu;have a3:=Iw (ag.trans Z.symm) al;have ap:m*pp.n+us.length≤wss.flatten.length:=by
  rw [a1,am];have:(m+1)*pp.n≤kk*pp.n:=Nat.mul_le_mul_right _ (by omega);rw [Nat.succ_mul] at this;exact this
 simp only [Int.toNat_natCast];refine⟨⟨by simpa using Z,wss.set m us,?_,by simpa using ag,fun i a4 a5 O U=>?_⟩,ap⟩
 ·apply List.ext_getElem?;intro j;rw [MF ap];have key:∀(wss:List (Lv_)) (m:Nat) (hm:m<wss.length),(∀ws∈wss,ws.length=pp.n)→∀j,(wss.set m us).flatten[j]? =if m*pp.n≤j∧j<m*pp.n+us.length then us[j - m*pp.n]? else wss.flatten[j]? :=by
   intro wss
   induction wss with
   | nil=>intro m hm;simp at hm
   | cons vs wss a6=>
    intro m hm av j;have a7:vs.length=pp.n:=av vs (by simp);cases m with
    | zero=>
     simp only [List.set_cons_zero,List.flatten_cons,Nat.zero_mul,Nat.zero_le,true_and,Nat.zero_add,Nat.sub_zero];split
     ·rename_i K;rw [List.getElem?_append_left K]
     ·rename_i K;rw [List.getElem?_append_right (by omega),List.getElem?_append_right (by omega),am,a7]
    | succ m=>
     simp only [List.set_cons_succ,List.flatten_cons];have V:(m+1)*pp.n=m*pp.n+pp.n:=Nat.succ_mul _ _;rcases Nat.lt_or_ge j vs.length with K | K
     ·rw [List.getElem?_append_left K,List.getElem?_append_left K,if_neg (by omega)]
     ·rw [List.getElem?_append_right K,List.getElem?_append_right K,a6 m (by simpa using hm) (fun ws a8=>av ws (List.mem_cons_of_mem _ a8))];by_cases a0:m*pp.n≤j - vs.length∧j - vs.length<m*pp.n+us.length
      ·rw [if_pos a0,if_pos (by omega)];congr 1;omega
      ·rw [if_neg a0,if_neg (by omega)]
  exact(key wss m (by omega) a3 j).symm
 ·rw [List.getElem?_set] at O U;by_cases V:m=i
  ·subst V;rw [if_pos rfl,if_pos a2] at O;rw [if_pos rfl,if_pos (by omega)] at U;cases O;cases U;exact hu
  ·rw [if_neg V] at O U;exact al i a4 a5 O U
theorem J9{α:Type}{kk:Nat}{pp:Rp α}{E:LH}{w:Value}{x:α}(h:pp.r E [w] x):(rA kk pp).r E (List.replicate kk w) (List.replicate kk x):=by
 refine⟨by simp,List.replicate kk [w],?_,by simp,fun i y us K hu=>?_⟩
 ·induction kk with
  | zero=>rfl
  | succ k O=>rw [List.replicate_succ,List.replicate_succ,List.flatten_cons,← O];rfl
 ·have U:=List.eq_of_mem_replicate (List.mem_of_getElem? K);have V:=List.eq_of_mem_replicate (List.mem_of_getElem? hu);subst U V;exact h
section
variable {P:Program}{J:Judge P}{Q:Gs_}{b:Frame}{n:Nat}{ds:Ld_}{ops:Ao_}{k:Li_}{cs:Lf_}{L:Env}{E H:LH}{S:List Seg}
variable {d:Option Tmp}{x y:Operand}{t u ty e:TypeId}{p:String}{af:Ae_}{g:On_}{i:Nat}{rest:List Nat}{kd:IntKind}{s:St}{ρ:Operand→Value}
theorem JI{α:Type}{kk:Nat}{pp:Rp α}{ws:Lv_}{xs:List α}{xv:α}{m:Int}{bk o:Nat}(K:(rA kk pp).r E ws xs)(hm:ix xs m=some xv)(ht:P.underlying t=some (.array kk e))(O:BD P e=some pp.n)(U:ρ x= .pointer (some ⟨bk,o,none⟩))(V:ρ y= .int kd m):
  Yl P ⟨d,.indexAddr t x y,ty,p,af,g⟩ ρ s (.pointer (some ⟨bk,o+m.toNat*pp.n,none⟩)):=by
 obtain⟨us,ag,Y,Z,al⟩:=Iy K hm;have:=QV (P:=P) (s:=s) (d:=d) (ty:=ty) (p:=p) (af:=af) (g:=g) ht O U V ⟨Y,Z⟩;rw [Dp rfl] at this;exact this
theorem KN{bk o:Nat}{l ws us:Lv_}{v:Value}(j:Nat)(U:ops[i]? =some ⟨d,.store t x y,ty,p,af,g⟩)(hw:Bf L ops ⟨d,.store t x y,ty,p,af,g⟩=some true)(V:CS b n ⟨d,.store t x y,ty,p,af,g⟩=true)(Y:Ax E H S)
  (Z:ev L x=some (.pointer (some ⟨bk,l.length+o,none⟩))) (ag:ev L y=some v) (K:v.cells.toList=us) (al:BD P t=some us.length) (am:∀u∈us,CY u=true) (ap:S[j]? =some [(bk,.cells (l++ws).toArray e (0,0))]) (hle:o+us.length≤ws.length)
  (h:Ax E H (S.set j [(bk,.cells (l++HD ws o us).toArray e (0,0))])→JL J Q b n (AI L d undef) ds (.inRegion ops rest::k) cs (An E H (S.set j [(bk,.cells (l++HD ws o us).toArray e (0,0))]))):
  JL J Q b n L ds (.inRegion ops (i::rest)::k) cs (An E H S):=by
 have av:v.cells.size=us.length:=by rw [← K];simp
 refine JS.store (v:=v) (off:=l.length+o) j U hw V Y Z ag (by rw [av];exact al) (by rw [K];exact am) ap (by simp;omega) fun O=>?_;rw [K,UQ hle] at O ⊢;exact h O
theorem V2{todo:Li_}{K A:Type}{body:K→Option (Bd K A)}{f:Nat}{O:K}{a:A}(U:iter body f O=some a)(I:Env→St→K→Prop)(Y:I L s O)
  (round:∀L s x,I L s x→(∀V,body x=some (.done V)→V=a)→(∃st,body x=some st)→(∀L' s' x',I L' s' x'→body x=some (.more x')→JL J Q b n L' ds todo cs s')→JL J Q b n L ds todo cs s):
  JL J Q b n L ds todo cs s:=by
 induction f generalizing L s O with
 | zero=>cases U
 | succ f Z=>
  exact round L s O Y (fun V h=>Q7 U h) (Q1 U) fun L' s' x' ag hb=>Z (Q6 U hb) ag
end
end Pal
namespace Pal
open Go Go.Conc
section
variable {P:Program}{s:St}{ρ:Operand→Value}{x y z:Operand}{d:Option Tmp}{t u ty e:TypeId}{p:String}{af:Ae_}{g:On_}{v v':Value}{E:LH}
structure Qb (P:Program) (e:TypeId) (kd:IntKind) (f:Field):Prop where
 ht:P.underlying e=some (.struct #[f])
 hs:P.stoodInHeld e=false
 n1:f.name≠ "_"
 u1:P.underlying f.type=some (.int kd)
 o1:f.offset=0
theorem Zp{n:Nat}{kd:IntKind}{a b:Int}(ht:P.underlying t=some (.int kd)){Q:Bool→St→Prop}{X:Halt→St→Prop}(k:Q (a==b) s):lp P (Op.equalIn (n+1) t (.int kd a) (.int kd b)) s Q X:=by
 unfold Op.equalIn;refine AH _ _ (Dm ht ?_);simp only [if_true];exact k
theorem WB{n:Nat}{kd:IntKind}{f:Field}{a b:Int}(h:Qb P e kd f){Q:Bool→St→Prop}{X:Halt→St→Prop}(k:Q (decide (a=b)) s):lp P (Op.equalIn (n+2) e (.agg #[.int kd a]) (.agg #[.int kd b])) s Q X:=by
 unfold Op.equalIn;refine AH _ _ (Dm h.ht ?_);refine AH (x:=program) _ ?_;show lp P (if P.stoodInHeld e=true then _ else _) s _ _
 rw [if_neg (by rw [h.hs];exact Bool.false_ne_true)];have K:Dk P f.type=some false:=by unfold Dk;rw [h.u1]
 dsimp only;rw [← Array.forIn_toList];simp only [List.forIn_cons,List.forIn_nil];refine AH _ _ (AH _ _ ?_);rw [if_pos h.n1,h.o1];refine AH _ _ (JX (v:= .int kd a) K rfl ?_);refine AH _ _ (JX (v:= .int kd b) K rfl ?_);refine AH _ _ (Zp h.u1 ?_);by_cases h:a=b
 ·subst h;simpa [lp,pure] using k
 ·simpa [lp,pure,h] using k
theorem Rn{c:AD}{off:Nat}{w:Value}(ht:Dk P e=some true)(K:BD P e=some 1)(hw:c[off]? =some w){Q:Value→St→Prop}{X:Halt→St→Prop}(k:Q (.agg #[w]) s):lp P (part e c off) s Q X:=by
 unfold Go.part;refine AH (x:=isAgg e) _ (KV ht ?_);simp only [if_true];refine AH (x:=Go.sizeOf e) _ (EX K ?_);have O:c.extract off (off+1)= #[w]:=by
  have U:off<c.size:=(Array.getElem?_eq_some_iff.1 hw).1;apply Array.ext_getElem?;intro j;simp only [Array.getElem?_extract];cases j with
  | zero=>rw [if_pos (by omega)];simpa using hw
  | succ j=>rw [if_neg (by omega)];simp
 show Q (.agg (c.extract off (off+1))) s;rw [O];exact k
theorem Wd{n kk:Nat}{kd:IntKind}{f:Field}{ws ws':Lv_}{xs O:List Nat}(ht:P.underlying t=some (.array kk e))(h:Qb P e kd f)(Z:BD P e=some 1)(Y:(rA kk (rN kd)).r E ws xs)(ap:(rA kk (rN kd)).r E ws' O)
  {Q:Bool→St→Prop} {X:Halt→St→Prop} (k:Q (decide (xs=O)) s):lp P (Op.equalIn (n+3) t (.agg ws.toArray) (.agg ws'.toArray)) s Q X:=by
 have av:Dk P e=some true:=by unfold Dk;rw [h.ht]
 have bi:=Y.1;have bo:=ap.1;have at_:∀{ws:Lv_} {xs:List Nat},(rA kk (rN kd)).r E ws xs→∀i,i<kk→∃a,xs[i]? =some a∧ws[i]? =some (.int kd ((a:Nat):Int)):=by
  intro ws xs Y i hi;obtain⟨a,a0⟩:∃a,xs[i]? =some a:=⟨_,List.getElem?_eq_getElem (by rw [Y.1];exact hi)⟩;obtain⟨us,a3,_,_,a4⟩:=Iy (m:=(i:Int)) Y (by unfold ix;simp;exact a0);have a5:us= [.int kd ((a:Nat):Int)]:=a3;subst a5;have:=a4 0 _ rfl;simp [rN] at this;exact⟨_,a0,this⟩
 unfold Op.equalIn;refine AH _ _ (Dm ht ?_);refine AH (x:=Go.sizeOf e) _ (EX Z ?_)
 dsimp only;simp only [Std.Legacy.Range.forIn_eq_forIn_range',Std.Legacy.Range.size,Nat.sub_zero,Nat.add_one_sub_one,Nat.div_one];let a6:Nat→Option Bool×Unit→Sem (ForInStep (Option Bool×Unit)):=fun i _=>do
  if !(← Op.equalIn (n+2) e (← Go.part e ws.toArray (i*1)) (← Go.part e ws'.toArray (i*1))) then pure (ForInStep.done (some false,())) else pure (ForInStep.yield (none,()))
 have key:∀(m st:Nat),st+m=kk→(∀i,i<st→xs[i]? =O[i]?)→∀{K:Option Bool×Unit→St→Prop},K (if xs=O then(none,()) else(some false,())) s→lp P (forIn (List.range' st m) (none,()) a6:Sem _) s K X:=by
  intro m
  induction m with
  | zero=>
   intro st a7 ag K U;have V:xs=O:=by
    apply List.ext_getElem?;intro i;rcases Nat.lt_or_ge i st with hi | hi
    ·exact ag i hi
    ·rw [List.getElem?_eq_none (by omega),List.getElem?_eq_none (by omega)]
   rw [if_pos V] at U;simp only [List.range'_zero,List.forIn_nil];exact U
  | succ m a8=>
   intro st a7 ag K U;simp only [List.range'_succ,List.forIn_cons];obtain⟨a,al,a9⟩:=at_ Y st (by omega);obtain⟨c,am,bb⟩:=at_ ap st (by omega);refine AH _ _ (AH _ _ (Rn av Z (by rw [Nat.mul_one];simpa using a9) ?_));refine AH _ _ (Rn av Z (by rw [Nat.mul_one];simpa using bb) ?_);refine AH _ _ (WB h ?_);by_cases a1:a=c
   ·subst a1;simp only [decide_true,Bool.not_true,Bool.false_eq_true,if_false,lp,pure];exact a8 (st+1) (by omega) (fun i hi=>by
     rcases Nat.lt_or_ge i st with a2 | a2
     ·exact ag i a2
     ·obtain rfl:i=st:=by omega
      rw [al,am]) U
   ·have bd:¬xs=O:=fun q=>a1 (by rw [q] at al;rw [al] at am;exact Option.some.inj am);rw [if_neg bd] at U;have be:¬((a:Nat):Int)=((c:Nat):Int):=by omega
    simp only [be,decide_false,Bool.not_false,if_true,lp,pure];exact U
 refine AH _ _ (key kk 0 (by omega) (fun i hi=>by omega) ?_);by_cases V:xs=O
 ·rw [if_pos V];simpa [lp,pure,V] using k
 ·rw [if_neg V];simpa [lp,pure,V] using k
def T1(P:Program)(e:TypeId)(kd:IntKind):Prop:=∃f,Qb P e kd f
theorem W9{kk:Nat}{kd:IntKind}{ws ws':Lv_}{xs K:List Nat}(ht:P.underlying t=some (.array kk e))(hg:P.eqGuardType P.depth t=false)(O:T1 P e kd)(U:BD P e=some 1)(V:(rA kk (rN kd)).r E ws xs)(Y:(rA kk (rN kd)).r E ws' K)
  (Z:ρ x= .agg ws.toArray) (ag:ρ y= .agg ws'.toArray):Yl P ⟨d,.binOp .neq t x y u,ty,p,af,g⟩ ρ s (.bool (decide (xs≠K))):=by
 obtain⟨f,h⟩:=O;refine Fz (sm:=do eqGuard .neq t x y (ρ x) (ρ y);binOp .neq t (ρ x) (ρ y)) rfl ?_
 rw [Z,ag];refine AH _ _ (Q5 (.inr rfl) hg ?_);have hb:binOp .neq t (.agg ws.toArray) (.agg ws'.toArray)=(do pure (.bool (!(← Op.equal t (.agg ws.toArray) (.agg ws'.toArray))))):=rfl
 rw [hb];refine AH (x:=Op.equal t _ _) _ ?_;unfold Op.equal Op.maxDepth;exact Wd ht h U V Y ⟨by simp,rfl⟩
end
theorem WV{E H:LH}{S:List Seg}{bk o:Nat}{l ws:Lv_}{e:TypeId}{f:Nat×Nat}{w:Value}(j:Nat)(O:Ax E H S)(U:S[j]? =some [(bk,.cells (l++ws).toArray e f)])(K:l[o]? =some w):(An E H S).cell? ⟨bk,o,none⟩=some w:=by
 refine D1 O U ?_;simp only [List.getElem?_toArray];rw [List.getElem?_append_left (List.getElem?_eq_some_iff.1 K).1];exact K
theorem O6{E H:LH}{S:List Seg}{bks:List Nat}{bk:Nat}{l ws:Lv_}{e:TypeId}{f:Nat×Nat}{s':St}(j:Nat)(K:Ax E H S)(O:S[j]? =some [(bk,.cells (l++ws).toArray e f)])(U:A7 bks bk=true)(hs:∀x o,(BK (A7 bks) (An E H S)).E x=some o→s'.E x=some o):∀q v,ws[q]? =some v→s'.cell? (Addr.add ⟨bk,l.length,none⟩ q)=some v:=fun q v V=>by
 rw [Dp rfl]
 refine Iv j K O U hs ?_
 simp only [List.getElem?_toArray]
 rw [List.getElem?_append_right (by omega)]
 rw [show l.length+q - l.length=q by omega];exact V
end Pal
namespace Pal
open Go Go.Conc
def Qh(t1 t2:TypeId)(v:Value):Option (Int×Option Int)→Prop
 | none=>v= .nilIface
 | some (m,none)=>v= .iface t1 (.agg #[iV m])
 | some (m,some a)=>v= .iface t2 (.agg #[iV m,iV a])
def Qf:Option (Int×Option Int)→Value
 | some (m,none)=> .agg #[iV m]
 | _=> .agg #[iV 0]
def Qk:Option (Int×Option Int)→Value
 | some (m,some a)=> .agg #[iV m,iV a]
 | _=> .agg #[iV 0,iV 0]
def Kj:Option (Int×Option Int)→Bool
 | some (_,none)=>true
 | _=>false
def LJ:Option (Int×Option Int)→Bool
 | some (_,some _)=>true
 | _=>false
section
variable {P:Program}{s:St}{ρ:Operand→Value}{x y z:Operand}{d:Option Tmp}{t u ty e xt t1 t2:TypeId}{p:String}{af:Ae_}{g:On_}{v v':Value}{o:Option (Int×Option Int)}
theorem U0{f1:Array Field}(O:P.underlying t1=some (.struct f1))(K:zeroOf P t1=some (.agg #[iV 0]))(U:t2≠t1)(he:Qh t1 t2 v o)(V:ρ x=v):Yl P ⟨d,.typeAssert x xt t1 true,ty,p,af,g⟩ ρ s (.tuple #[Qf o,.bool (Kj o)]):=by
 refine Fz (sm:=Instr.typeAssert (ρ x) xt t1 true) rfl ?_;rw [V];unfold Instr.typeAssert;refine AH _ _ (Dm O ?_)
 match o,he with
 | none,he=>obtain rfl:v= .nilIface:=he;exact AH (x:=zeroValue t1) _ (Gk K ⟨rfl,rfl⟩)
 | some (m,none),he=>obtain rfl:v= .iface t1 (.agg #[iV m]):=he;simp [lp,pure,Qf,Kj]
 | some (m,some a),he=>
  obtain rfl:v= .iface t2 (.agg #[iV m,iV a]):=he;simp only [if_neg U];exact AH (x:=zeroValue t1) _ (Gk K ⟨rfl,rfl⟩)
theorem UB{f1:Array Field}(O:P.underlying t2=some (.struct f1))(K:zeroOf P t2=some (.agg #[iV 0,iV 0]))(U:t1≠t2)(he:Qh t1 t2 v o)(V:ρ x=v):Yl P ⟨d,.typeAssert x xt t2 true,ty,p,af,g⟩ ρ s (.tuple #[Qk o,.bool (LJ o)]):=by
 refine Fz (sm:=Instr.typeAssert (ρ x) xt t2 true) rfl ?_;rw [V];unfold Instr.typeAssert;refine AH _ _ (Dm O ?_)
 match o,he with
 | none,he=>obtain rfl:v= .nilIface:=he;exact AH (x:=zeroValue t2) _ (Gk K ⟨rfl,rfl⟩)
 | some (m,none),he=>
  obtain rfl:v= .iface t1 (.agg #[iV m]):=he;simp only [if_neg U];exact AH (x:=zeroValue t2) _ (Gk K ⟨rfl,rfl⟩)
 | some (m,some a),he=>obtain rfl:v= .iface t2 (.agg #[iV m,iV a]):=he;simp [lp,pure,Qk,LJ]
end
def T5{P:Program}(J:Judge P)(v:Value)(args:AD)(s:St)(R:Value→St→Prop):Prop:=
 ∀(Q:Gs_) (c:Frame) (cs:Lf_),(∀w s',R w s'→J.ok Q (G (c.finish w) cs) s')→
  lp P (do let d ← Deferred.ofValue v args;invoke d.target d.args) s (fun nx s'=>match nx with
   | .enter f a=>J.ok Q (G (Frame.enter P f a .normal) (c::cs)) s'
   | .round l f K as O=>J.ok Q (G (Frame.round l f K as O .normal) (c::cs)) s'
   | _=>False) (fun _ _=>False)
def Fb{P:Program}(J:Judge P)(v:Value)(args:Lv_)(E:LH)(B:Seg)(R:Value→LH→Seg→Prop):Prop:=
 ∀H,Nd E H B→T5 J v args.toArray (mk E H B) (fun v s'=>∃E' B',Le E E'∧R v E' B'∧Nd E' H B'∧s'=mk E' H B')
section
variable {P:Program}{J:Judge P}{Q:Gs_}{b:Frame}{n:Nat}{L:Env}{ds:Ld_}{k:Li_}{cs:Lf_}{E:LH}{H:LH}{S:List Seg}{i:Nat}{rest:List Nat}{d:Option Tmp}{ty e t:TypeId}{p:String}{af:Ae_}{g:On_}{ops:Ao_}
theorem Fb.ofFn{f:FuncId}{caps vs:Lv_}{B:Seg}{R:Value→LH→Seg→Prop}(hb:D3 P f=true)(h:AN J f (vs++caps) E B R):Fb J (.func (.func f) #[] caps.toArray) vs E B R:=fun H K Q c cs O=>by
 simp only [Deferred.ofValue,bind,Sem.bind,pure,invoke]
 have e: #[]++vs.toArray++caps.toArray=(vs++caps).toArray:=by simp
 rw [e];exact Jy hb (h H K Q c cs O)
theorem VC{x:Operand}{O:Value}{args:Array Operand}{ats:Array TypeId}{s:St}{vs:Lv_}{R:Value→St→Prop}
  (V:ops[i]? =some ⟨d,.call ⟨.value x,args,ats⟩,ty,p,af,g⟩) (hw:Bf L ops ⟨d,.call ⟨.value x,args,ats⟩,ty,p,af,g⟩=some true) (U:((b.kind != .early)&&BE n d)=true)
  (Y:ev L x=some O) (Z:evs L args.toList=some vs) (ag:T5 J O vs.toArray s R) (al:∀v s',R v s'→JL J Q b n (AI L d v) ds (.inRegion ops rest::k) cs s'):
  JL J Q b n L ds (.inRegion ops (i::rest)::k) cs s:=fun T K=>by
 simp only [Bool.and_eq_true] at U
 have am:args.map (BO T)=vs.toArray:=by
  rw [← F4 K.Gr Z];apply Array.ext';simp
 refine Judge.oper V (Dh K hw) (by simpa using U.1) (.inr fun c ap=>by cases ap) ?_;have av:lp P (execOp (BO T) ⟨d,.call ⟨.value x,args,ats⟩,ty,p,af,g⟩) s (upon J Q b T ds ops i rest k cs d) (N8 J Q b T ds ops i rest k cs):=by
  have a0:execOp (BO T) ⟨d,.call ⟨.value x,args,ats⟩,ty,p,af,g⟩=(do let d ← Deferred.ofValue O vs.toArray;invoke d.target d.args):=by
   simp only [execOp,resolve,am,K.Gr _ _ Y]
  rw [a0];refine Dz _ (ag Q (fr b T ds (.inRegion ops (i::rest)::k)) cs fun v s' a1=>?_) (fun nx s' h=>?_) (fun _ _ h=>h.elim)
  ·rw [Gl (o:=⟨d,.call ⟨.value x,args,ats⟩,ty,p,af,g⟩) _ _ _ _ _ V];exact al v s' a1 _ (K.put U.2 v)
  ·cases nx <;> first | exact h | exact h.elim
 exact av
theorem JH{x:Operand}{O:Value}{args:Array Operand}{ats:Array TypeId}{vs:Lv_}{seg:Seg}{R:Value→LH→Seg→Prop}(j:Nat)
  (am:Fb J O vs E seg R) (ap:ops[i]? =some ⟨d,.call ⟨.value x,args,ats⟩,ty,p,af,g⟩) (hw:Bf L ops ⟨d,.call ⟨.value x,args,ats⟩,ty,p,af,g⟩=some true) (av:((b.kind != .early)&&BE n d)=true)
  (K:ev L x=some O) (a0:evs L args.toList=some vs) (U:Ax E H S) (V:S[j]? =some seg) (a1:∀v E' seg',Le E E'→R v E' seg'→Ax E' H (S.set j seg')→JL J Q b n (AI L d v) ds (.inRegion ops rest::k) cs (An E' H (S.set j seg'))):
  JL J Q b n L ds (.inRegion ops (i::rest)::k) cs (An E H S):=by
 have Y:S.flatten.Perm (seg++(S.set j []).flatten):=(Ez (seg':=seg) V).1.trans List.perm_append_comm;have Z:Nd E H (seg++(S.set j []).flatten):=Nd.perm U Y;have a2:An E H S=mk E (Bl (S.set j []).flatten H) seg:=by
  rw [show An E H S=mk E H S.flatten from rfl,FA U Y];unfold mk;rw [F3]
 rw [a2];refine VC ap hw av K a0 (am _ (Nd.front Z)) ?_;rintro v s' ⟨E',B',hle,a3,a4,rfl⟩;have a5:mk E' (Bl (S.set j []).flatten H) B'=mk E' H (B'++(S.set j []).flatten):=by unfold mk;rw [F3]
 have a6:Nd E H (S.set j []).flatten:=by
  have:=Z;rw [Nd.iff] at this ⊢;rw [List.map_append,List.nodup_append] at this;exact⟨this.1.2.1,fun q a7=>this.2 q (List.mem_append_right _ a7)⟩
 refine SM rfl fun⟨w,a8⟩=>?_;have a9:Nd E' H (S.set j []).flatten:=a6.grow fun x K=>by
  have bb:=a8.d x K;have bd:Bl B' (Bl (S.set j []).flatten H) x=none:=bb;exact(G0 bd).1
 have ag:Nd E' H (B'++(S.set j []).flatten):=Nd.glue a4 a9;rw [a5];have al:(B'++(S.set j []).flatten).Perm (S.set j B').flatten:=List.perm_append_comm.trans (Ez V).2.symm;rw [FA ag al];exact a1 v E' B' hle a3 (Nd.perm ag al)
theorem Rb{bks:List Nat}{m fuel:Nat}{listed:Array Bool}{f:FuncId}{args:Array Operand}{ats:Array TypeId}{vs:Lv_}{seg:Seg}{R:Value→LH→Seg→Prop}(j:Nat)(a1:Gt S bks)(a2:AN J f vs E seg R)(a3:∀v E' B',R v E' B'→B'=seg)(a4:Region.ready .any ops listed= [i])
  (a5:ops[i]? =some ⟨d,.call ⟨.value (.func f),args,ats⟩,ty,p,af,g⟩) (a6:BE n d=true) (hw:Bf L ops ⟨d,.call ⟨.value (.func f),args,ats⟩,ty,p,af,g⟩=some true) (hb:D3 P f=true) (a7:evs L args.toList=some vs) (V:Ax E H S) (a8:S[j]? =some seg)
  (a9:∀v E',Le E E'→R v E' seg→Ax E' H S→AY J Q b n ds ops k cs m (A7 bks) fuel (Bi listed i) (AI L d v) (An E' H S)):
  AY J Q b n ds ops k cs m (A7 bks) (fuel+1) listed L (An E H S):=by
 have O:S.flatten.Perm (seg++(S.set j []).flatten):=(Ez (seg':=seg) a8).1.trans List.perm_append_comm;have ag:Nd E H (seg++(S.set j []).flatten):=Nd.perm V O;have bb:An E H S=mk E (Bl (S.set j []).flatten H) seg:=by
  rw [show An E H S=mk E H S.flatten from rfl,FA V O];unfold mk;rw [F3]
 have al:=Ef.Kp (a2 (Bl (S.set j []).flatten H) (Nd.front ag)) (by rintro v s' ⟨E',B',_,_,_,rfl⟩;rfl);rw [← bb] at al;refine AY.call rfl a4 a5 a6 hw hb a7 al ?_;rintro v bW ⟨⟨E',B',hle,am,bd,rfl⟩,w,be⟩;obtain rfl:=a3 _ _ _ am;have bi:mk E' (Bl (S.set j []).flatten H) B'=mk E' H (B'++(S.set j []).flatten):=by unfold mk;rw [F3]
 have bo:Nd E H (S.set j []).flatten:=by
  have:=ag;rw [Nd.iff] at this ⊢;rw [List.map_append,List.nodup_append] at this;exact⟨this.1.2.1,fun q bv=>this.2 q (List.mem_append_right _ bv)⟩
 have bw:Nd E' H (S.set j []).flatten:=bo.grow fun x U=>by
  have bU:=be.d x U;have Y:Bl B' (Bl (S.set j []).flatten H) x=none:=bU;exact(G0 Y).1
 have ap:Nd E' H (B'++(S.set j []).flatten):=Nd.glue bd bw;have av:Ax E' H S:=Nd.perm ap O.symm;rw [bi,FA ap O.symm];refine⟨rfl,fun x o U=>?_,a9 v E' hle am av⟩;by_cases Z:A7 bks x=true
 ·obtain⟨bY,o',a0⟩:=a1.mem x (by simpa [A7] using Z);have Y:(An E H S).get x=some o':=Fa (i:=0) V a0 rfl;have bV:(An E' H S).get x=some o':=Fa (i:=0) av a0 rfl;have K:(if A7 bks x then(An E H S).get x else E x)=some o:=U
  show(if A7 bks x then(An E' H S).get x else E' x)=some o
  rw [if_pos Z] at K ⊢;rw [bV,← Y];exact K
 ·have K:(if A7 bks x then(An E H S).get x else E x)=some o:=U
  show(if A7 bks x then(An E' H S).get x else E' x)=some o
  rw [if_neg Z] at K ⊢;exact hle _ _ K
theorem Take.bn{bks:List Nat}{m fuel:Nat}{listed:Array Bool}{f:FuncId}{args:Array Operand}{ats:Array TypeId}{vs:Lv_}{R:Value→LH→Seg→Prop}(av:Gt S bks)(Z:Ax E H S)(a0:AN J f vs E [] R)
  (a1:ops[i]? =some ⟨d,.call ⟨.value (.func f),args,ats⟩,ty,p,af,g⟩) (hw:Bf L ops ⟨d,.call ⟨.value (.func f),args,ats⟩,ty,p,af,g⟩=some true) (a2:BE n d=true) (hb:D3 P f=true) (a3:evs L args.toList=some vs)
  (a4:∀v E' seg',Le E E'→R v E' seg'→Ax E' H (S++ [seg'])→AY J Q b n ds ops k cs m (A7 bks) fuel (Bi listed i) (AI L d v) (An E' H (S++ [seg']))):
  Take J Q b n ds ops k cs m (A7 bks) fuel listed L (An E H S) i:=by
 have a5:=Ef.Kp (a0 (Bl S.flatten H) trivial) (by rintro v s' ⟨E',B',_,_,_,rfl⟩;rfl);refine⟨_,a1,by simp [Du],a2,hw,fun ρ ag=>?_⟩;have a6:args.map ρ=vs.toArray:=by
  rw [← F4 ag a3];apply Array.ext';simp
 have a7:ρ (.func f)= .func (.func f) #[] #[]:=ag _ _ rfl;simp only [execOp,resolve,bind,Sem.bind,Deferred.ofValue,a7,pure,invoke];have e: #[]++args.map ρ++ #[]=vs.toArray:=by rw [a6];simp
 rw [e];refine Jy hb ?_;rw [KH];refine⟨_,a5,?_⟩;rintro v bw ⟨⟨E',B',hle,a8,a9,rfl⟩,w,bb⟩;have bd:mk E' (Bl S.flatten H) B'=mk E' H (B'++S.flatten):=by unfold mk;rw [F3]
 have be:Nd E' H S.flatten:=Nd.grow Z fun x O=>by
  have bi:=bb.d x O;have U:Bl B' (Bl S.flatten H) x=none:=bi;exact(G0 U).1
 have al:Nd E' H (B'++S.flatten):=Nd.glue a9 be;have am:(B'++S.flatten).Perm (S++ [B']).flatten:=by rw [G3];exact List.perm_append_comm
 have ap:Ax E' H (S++ [B']):=Nd.perm al am;rw [bd,FA al am];refine⟨rfl,fun x o O=>?_,a4 v E' B' hle a8 ap⟩;by_cases V:A7 bks x=true
 ·obtain⟨j,o',Y⟩:=av.mem x (by simpa [A7] using V);have U:(An E H S).get x=some o':=Fa (i:=0) Z Y rfl;have bo:j<S.length:=(List.getElem?_eq_some_iff.1 Y).1;have bv:(An E' H (S++ [B'])).get x=some o':=Fa (i:=0) ap (by rw [List.getElem?_append_left bo];exact Y) rfl;have K:(if A7 bks x then(An E H S).get x else E x)=some o:=O
  show(if A7 bks x then(An E' H (S++ [B'])).get x else E' x)=some o
  rw [if_pos V] at K ⊢;rw [bv,← U];exact K
 ·have K:(if A7 bks x then(An E H S).get x else E x)=some o:=O
  show(if A7 bks x then(An E' H (S++ [B'])).get x else E' x)=some o
  rw [if_neg V] at K ⊢;exact hle _ _ K
theorem Take.H0{m fuel:Nat}{listed:Array Bool}{f:FuncId}{args:Array Operand}{ats:Array TypeId}{vs:Lv_}{R:Value→LH→Seg→Prop}(O:Ax E H S)(U:AN J f vs E [] R)
  (V:ops[i]? =some ⟨d,.call ⟨.value (.func f),args,ats⟩,ty,p,af,g⟩) (hw:Bf L ops ⟨d,.call ⟨.value (.func f),args,ats⟩,ty,p,af,g⟩=some true) (Y:BE n d=true) (hb:D3 P f=true) (Z:evs L args.toList=some vs)
  (K:∀v E' seg',Le E E'→R v E' seg'→Ax E' H (S++ [seg'])→AY J Q b n ds ops k cs m Ee fuel (Bi listed i) (AI L d v) (An E' H (S++ [seg']))):
  Take J Q b n ds ops k cs m Ee fuel listed L (An E H S) i:=by
 have e:A7 []=Ee:=by funext x;rfl
 rw [← e] at K ⊢;exact Take.bn (bks:= []) trivial O U V hw Y hb Z K
end
end Pal
