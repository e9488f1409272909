/- ToothCheats Part 1 of 8. -/
import Derived.Conc.Own5
import Derived.Conc.Listed
import Derived.Conc.DeferLaws
import Derived.Orders
set_option linter.all false
set_option maxRecDepth 100000
namespace Pal
open Go Go.Conc
abbrev LH:=Nat→Option Obj
structure St where
 E:LH
 H:LH
 q:Bool
def St.get(s:St)(b:Nat):Option Obj:=match s.E b with | some o=>some o | none=>s.H b
structure Fits (s:St) (w:World):Prop where
 e:∀b o,s.E b=some o→w.heap[b]? =some o
 h:∀b o,s.H b=some o→w.heap[b]? =some o
 d:∀b,s.E b≠none→s.H b=none
theorem Fits.get{s:St}{w:World}(f:Fits s w){b:Nat}{o:Obj}(h:s.get b=some o):w.heap[b]? =some o:=by
 unfold St.get at h;split at h
 ·rename_i o' A;cases h;exact f.e _ _ A
 ·exact f.h _ _ h
theorem Fits.OU{s:St}{w:World}(f:Fits s w){b:Nat}{o:Obj}(h:s.H b=some o):b<w.heap.size:=by
 have:=f.h _ _ h;rcases Nat.lt_or_ge b w.heap.size with A | A
 ·exact A
 ·simp [Array.getElem?_eq_none A] at this
theorem Fits.lt{s:St}{w:World}(f:Fits s w){b:Nat}{o:Obj}(h:s.get b=some o):b<w.heap.size:=by
 have:=f.get h;rcases Nat.lt_or_ge b w.heap.size with A | A
 ·exact A
 ·simp [Array.getElem?_eq_none A] at this
def cellAt(o:Obj)(a:Addr):Option Value:=match o with | .cells c _ _=>if a.spot.isSome then none else c[a.off]? | _=>none
def frozenAt(o:Obj)(a:Addr):Bool:=match o with | .cells _ _ (lo,hi)=>lo≤a.off&&a.off<hi | _=>false
def shapeOf(o:Obj):Option (TypeId×Nat):=match o with | .cells c e _=>some (e,c.size) | _=>none
def BB:Value→Bool | .agg _ | .tuple _=>false | _=>true
def Gn(o:Obj)(a:Addr)(v:Value):Obj:=match o with | .cells c e f=> .cells (if a.spot.isSome then c else c.setIfInBounds a.off v) e f | o=>o
def FX(o:Obj):Bool:=match o with | .cells ..=>false | .chan ..=>false | .pending ..=>false | .view ..=>false | .number ..=>false | _=>true
def St.cell? (s:St)(a:Addr):Option Value:=(s.get a.block).bind (cellAt · a)
def St.upd(s:St)(b:Nat)(o:Obj):St:={s with H:=fun x=>if x=b then some o else s.H x}
theorem LK{w:World}{a:Addr}{o:Obj}(h:w.heap[a.block]? =some o):w.cell? a=cellAt o a:=by
 unfold World.cell? cellAt;rw [h];cases o <;> rfl
theorem Lx{w:World}{a:Addr}{o:Obj}(h:w.heap[a.block]? =some o):w.frozen? a=frozenAt o a:=by
 unfold World.frozen? frozenAt;rw [h];cases o <;> rfl
theorem Pk{w:World}{b:Nat}{o:Obj}(h:w.heap[b]? =some o):w.shape? b=shapeOf o:=by
 unfold World.shape? shapeOf;rw [h];cases o <;> rfl
def lp(P:Program){α:Type}:Sem α→St→(α→St→Prop)→(Halt→St→Prop)→Prop
 | .pure a,s,Q,_=>Q a s
 | .load m a k,s,Q,X=>m= .plain∧∃v,s.cell? a=some v∧lp P (k v) s Q X
 | .store m a v k,s,Q,X=>m= .plain∧BB v=true∧∃o,s.H a.block=some o∧(cellAt o a).isSome=true∧frozenAt o a=false∧lp P k (s.upd a.block (Gn o a v)) Q X
 | .new o k,s,Q,X=>s.q=false∧∀r,s.E r=none→s.H r=none→lp P (k r) (s.upd r o) Q X
 | .shape r k,s,Q,X=>∃o,s.get r=some o∧lp P (k (shapeOf o)) s Q X
 | .freeze _ _ _,_,_,_=>False
 | .frozen a k,s,Q,X=>∃o,s.get a.block=some o∧lp P (k (frozenAt o a)) s Q X
 | .getObj r k,s,Q,X=>∃o,s.get r=some o∧FX o=true∧lp P (k o) s Q X
 | .setObj r o k,s,Q,X=>(∃o₀,s.H r=some o₀∧FX o₀=true)∧FX o=true∧lp P k (s.upd r o) Q X
 | .choose q k,s,Q,X=>if q.forced then lp P (k 0) s Q X else s.q=false∧∀t,lp P (k (q.cut t)) s Q X
 | .sys _ _,_,_,_=>False
 | .program k,s,Q,X=>lp P (k P) s Q X
 | .mark m k,s,Q,X=>((s.q=false∧m= .noRoom)∨∃f,m= .extern f)∧lp P k s Q X
 | .halt h,s,_,X=>X h s
theorem B8{P:Program}{α:Type}(x:Sem α):∀{s:St} {Q U:α→St→Prop} {X Z:Halt→St→Prop},lp P x s Q X→(∀a s,Q a s→U a s)→(∀h s,X h s→Z h s)→lp P x s U Z:=by
 induction x with
 | pure a=>intro s Q U X Z h A K;exact A _ _ h
 | load m a k O=>intro s Q U X Z h A K;obtain⟨aa,v,ab,ac⟩:=h;exact⟨aa,v,ab,O _ ac A K⟩
 | store m a v k O=>intro s Q U X Z h A K;obtain⟨aa,ab,o,ac,ag,ah,ai⟩:=h;exact⟨aa,ab,o,ac,ag,ah,O ai A K⟩
 | new o k O=>intro s Q U X Z h A K;exact⟨h.1,fun r aa ab=>O _ (h.2 r aa ab) A K⟩
 | shape r k O=>intro s Q U X Z h A K;obtain⟨o,aa,ab⟩:=h;exact⟨o,aa,O _ ab A K⟩
 | freeze a n k O=>intro s Q U X Z h A K;exact h
 | frozen a k O=>intro s Q U X Z h A K;obtain⟨o,aa,ab⟩:=h;exact⟨o,aa,O _ ab A K⟩
 | getObj r k O=>intro s Q U X Z h A K;obtain⟨o,aa,ab,ac⟩:=h;exact⟨o,aa,ab,O _ ac A K⟩
 | setObj r o k O=>intro s Q U X Z h A K;obtain⟨aa,ab,ac⟩:=h;exact⟨aa,ab,O ac A K⟩
 | choose q k O=>
  intro s Q U X Z h A K;simp only [lp] at h ⊢;split
  ·rename_i ae;rw [if_pos ae] at h;exact O _ h A K
  ·rename_i ae;rw [if_neg ae] at h;exact⟨h.1,fun t=>O _ (h.2 t) A K⟩
 | sys c k O=>intro s Q U X Z h A K;exact h
 | program k O=>intro s Q U X Z h A K;exact O _ h A K
 | mark m k O=>intro s Q U X Z h A K;exact⟨h.1,O h.2 A K⟩
 | halt h=>intro s Q U X Z h A K;exact K _ _ h
theorem AB{P:Program}{α β:Type}(x:Sem α)(f:α→Sem β):∀{s:St} {Q:β→St→Prop} {X:Halt→St→Prop},lp P x s (fun a s'=>lp P (f a) s' Q X) X→lp P (x>>=f) s Q X:=by
 show ∀{s:St} {Q:β→St→Prop} {X:Halt→St→Prop},lp P x s (fun a s'=>lp P (f a) s' Q X) X→lp P (Sem.bind x f) s Q X
 induction x with
 | pure a=>intro s Q X h;exact h
 | load m a k A=>intro s Q X h;obtain⟨K,v,O,U⟩:=h;exact⟨K,v,O,A _ U⟩
 | store m a v k A=>intro s Q X h;obtain⟨K,O,o,U,aa,ab,ac⟩:=h;exact⟨K,O,o,U,aa,ab,A ac⟩
 | new o k A=>intro s Q X h;exact⟨h.1,fun r K O=>A _ (h.2 r K O)⟩
 | shape r k A=>intro s Q X h;obtain⟨o,K,O⟩:=h;exact⟨o,K,A _ O⟩
 | freeze a n k A=>intro s Q X h;exact h
 | frozen a k A=>intro s Q X h;obtain⟨o,K,O⟩:=h;exact⟨o,K,A _ O⟩
 | getObj r k A=>intro s Q X h;obtain⟨o,K,O,U⟩:=h;exact⟨o,K,O,A _ U⟩
 | setObj r o k A=>intro s Q X h;obtain⟨K,O,U⟩:=h;exact⟨K,O,A U⟩
 | choose q k A=>
  intro s Q X h;simp only [lp,Sem.bind] at h ⊢;split
  ·rename_i Z;rw [if_pos Z] at h;exact A _ h
  ·rename_i Z;rw [if_neg Z] at h;exact⟨h.1,fun t=>A _ (h.2 t)⟩
 | sys c k A=>intro s Q X h;exact h
 | program k A=>intro s Q X h;exact A _ h
 | mark m k A=>intro s Q X h;exact⟨h.1,A h.2⟩
 | halt h=>intro s Q X h;exact h
structure Fr (s:St) (w:World) (s':St) (w':World):Prop where
 size:w.heap.size≤w'.heap.size
 keep:∀b,b<w.heap.size→s.H b=none→w'.heap[b]? =w.heap[b]?
 own:∀b,s'.H b≠none→s.H b≠none∨w.heap.size≤b
 ext:∀b o,s.E b=some o→s'.E b=some o
 CP:∀b,s'.E b≠none→s.E b≠none∨s.H b≠none∨w.heap.size≤b
 tape:w'.tape=w.tape
 os:w'.os=w.os
 output:w'.output=w.output
theorem Fr.refl(s:St)(w:World):Fr s w s w:=
 ⟨Nat.le_refl _,fun _ _ _=>rfl,fun _ h=> .inl h,fun _ _ h=>h,fun _ h=> .inl h,rfl,rfl,rfl⟩
theorem Fr.trans{s A K:St}{w O U:World}(h:Fr s w A O)(k:Fr A O K U):Fr s w K U where
 size:=Nat.le_trans h.size k.size
 keep b hb Z:=by
  rw [k.keep b (Nat.lt_of_lt_of_le hb h.size) ?_,h.keep b hb Z];by_cases aa:A.H b=none
  ·exact aa
  ·rcases h.own b aa with x | x
   ·exact absurd Z x
   ·omega
 own b hb:=by
  rcases k.own b hb with x | x
  ·exact h.own b x
  ·exact .inr (Nat.le_trans h.size x)
 ext b o ab:=k.ext b o (h.ext b o ab)
 CP b hb:=by
  rcases k.CP b hb with x | x | x
  ·exact h.CP b x
  ·rcases h.own b x with y | y
   ·exact .inr (.inl y)
   ·exact .inr (.inr y)
  ·exact .inr (.inr (Nat.le_trans h.size x))
 tape:=k.tape.trans h.tape
 os:=k.os.trans h.os
 output:=k.output.trans h.output
def DX(s:St)(w w':World)(b:Nat)(write:Bool):Prop:=
 b<w'.heap.size∧(s.H b≠none∨w.heap.size≤b∨(s.E b≠none∧write=false))
def Ev(s:St)(w w':World)(e:Event):Prop:=
 match e.loc with
 | .cell a=>e.sync=false∧DX s w w' a.block e.write
 | .obj r=>e.sync=false∧DX s w w' r e.write
 | .mark (.extern _)=>True
 | .mark .noRoom=>True
 | _=>False
theorem DX.mono{s A:St}{w K w' O:World}{b:Nat}{wr:Bool}(h:Fr s w A K)(hs:w'.heap.size≤O.heap.size)(t:DX A K w' b wr):DX s w O b wr:=by
 refine⟨Nat.lt_of_lt_of_le t.1 hs,?_⟩;rcases t.2 with x | x | ⟨x,y⟩
 ·rcases h.own b x with z | z
  ·exact .inl z
  ·exact .inr (.inl z)
 ·exact .inr (.inl (Nat.le_trans h.size x))
 ·rcases h.CP b x with z | z | z
  ·exact .inr (.inr ⟨z,y⟩)
  ·exact .inl z
  ·exact .inr (.inl z)
theorem Ev.mono{s A:St}{w K w' O:World}{e:Event}(h:Fr s w A K)(hs:w'.heap.size≤O.heap.size)(t:Ev A K w' e):Ev s w O e:=by
 unfold Ev at t ⊢;split <;> rename_i he <;> simp only [he] at t
 ·exact⟨t.1,t.2.mono h hs⟩
 ·exact⟨t.1,t.2.mono h hs⟩
 ·trivial
 ·trivial
def Gu{α:Type}:Result α→World | .ok _ w=>w | .halt _ w=>w
def SC{α:Type}(Q:α→St→Prop)(X:Halt→St→Prop)(s:St):Result α→Prop | .ok a _=>Q a s | .halt h _=>X h s
theorem Ms{s:St}{b:Nat}{o:Obj}(h:s.get b=some o)(A:s.H b=none):s.E b≠none:=by
 intro e;unfold St.get at h;rw [e] at h;simp only at h;rw [A] at h;cases h
theorem J2{s:St}{w w':World}{b:Nat}{o:Obj}(f:Fits s w)(O:s.E b=none)(hb:w'.heap[b]? =some o)(U:∀c,c≠b→∀x,w.heap[c]? =some x→w'.heap[c]? =some x):Fits (s.upd b o) w' where
 e c x A:=by
  have K:c≠b:=fun e=>by subst e;simp [St.upd] at A;rw [O] at A;cases A
  exact U c K x (f.e c x A)
 h c x A:=by
  simp only [St.upd] at A;split at A
  ·rename_i e;subst e;cases A;exact hb
  ·rename_i K;exact U c K x (f.h c x A)
 d c A:=by
  have K:c≠b:=fun e=>by subst e;exact A O
  simp only [St.upd,if_neg K];exact f.d c A
theorem Ij{P:Program}{α:Type}(x:Sem α):∀{s:St} {w:World} {Q:α→St→Prop} {X:Halt→St→Prop},lp P x s Q X→Fits s w→
  ∃s',Fits s' (Gu (x.run P w))∧Fr s w s' (Gu (x.run P w))∧(∀e∈x.events P w #[],Ev s w (Gu (x.run P w)) e)∧SC Q X s' (x.run P w):=by
 induction x with
 | pure a=>intro s w Q X h f;exact⟨s,f,.refl _ _,by simp [Sem.events_pure'],h⟩
 | load m a k K=>
  intro s w Q X h f;obtain⟨rfl,v,aq,h⟩:=h;obtain⟨o,A,aD⟩:=Option.bind_eq_some_iff.1 aq;have hw:=f.get A;have ar:w.cell? a=some v:=by rw [LK hw,aD]
  have O:(Sem.load Mode.plain a k).run P w=(k v).run P w:=by simp [Sem.run,ar]
  have U:(Sem.load Mode.plain a k).events P w #[]= #[⟨.cell a,false,false⟩]++(k v).events P w #[]:=by
   rw [← Sem.events_acc];simp only [Sem.events,Sem.runT,ar];rfl
  rw [O,U];obtain⟨s',aa,Z,ab,ac⟩:=K v h f;refine⟨s',aa,Z,fun e he=>?_,ac⟩;rcases Array.mem_append.1 he with he | he
  ·simp at he;subst he;refine⟨rfl,Nat.lt_of_lt_of_le (f.lt A) Z.size,?_⟩;by_cases al:s.H a.block=none
   ·refine .inr (.inr ⟨?_,rfl⟩);exact Ms A al
   ·exact .inl al
  ·exact ab e he
 | store m a v k K=>
  intro s w Q X h f;obtain⟨rfl,aq,o,A,ar,aE,h⟩:=h;have hw:=f.h _ _ A;obtain⟨u,hu⟩:=Option.isSome_iff_exists.1 ar;have az:w.cell? a=some u:=by rw [LK hw,hu]
  have aA:w.frozen? a=false:=by rw [Lx hw,aE]
  have au:=f.OU A;obtain⟨aw,ay,f0,rfl⟩:∃c e f,o= .cells c e f:=by cases o <;> simp [cellAt] at hu;exact⟨_,_,_,rfl⟩
  have aF:(w.setCell a v).heap[a.block]? =some (Gn (.cells aw ay f0) a v):=by
   simp [World.setCell,Gn,Array.getElem?_modify,hw]
  have am:∀c,c≠a.block→(w.setCell a v).heap[c]? =w.heap[c]? :=by
   intro c ah;simp [World.setCell,Array.getElem?_modify,Ne.symm ah]
  have ag:s.E a.block=none:=by
   cases ag:s.E a.block with
   | none=>rfl
   | some x=>have:=f.d a.block (by rw [ag];simp);rw [A] at this;cases this
  have an:Fits (s.upd a.block (Gn (.cells aw ay f0) a v)) (w.setCell a v):=J2 f ag aF (fun c ah x ai=>by rw [am c ah];exact ai);have O:(Sem.store Mode.plain a v k).run P w=k.run P (w.setCell a v):=by
   cases v <;> first | (simp [BB] at aq;done) | simp [Sem.run,az,aA]
  have U:(Sem.store Mode.plain a v k).events P w #[]= #[⟨.cell a,true,false⟩]++k.events P (w.setCell a v) #[]:=by
   rw [← Sem.events_acc];cases v <;> first | (simp [BB] at aq;done) | (simp only [Sem.events,Sem.runT,az,aA];rfl)
  have ae:Fr s w (s.upd a.block (Gn (.cells aw ay f0) a v)) (w.setCell a v):=by
   refine⟨by simp [World.setCell],fun b hb aj=>am b (fun e=>by subst e;rw [A] at aj;cases aj),fun b hb=>?_,fun _ _ h=>h,fun _ h=> .inl h,rfl,rfl,rfl⟩;simp only [St.upd] at hb;split at hb
   ·rename_i e;subst e;exact .inl (by rw [A];simp)
   ·exact .inl hb
  rw [O,U];obtain⟨s',aa,Z,ab,ac⟩:=K h an;refine⟨s',aa,ae.trans Z,fun e he=>?_,ac⟩;rcases Array.mem_append.1 he with he | he
  ·simp at he;subst he;exact⟨rfl,Nat.lt_of_lt_of_le au (ae.trans Z).size,.inl (by rw [A];simp)⟩
  ·exact(ab e he).mono ae (Nat.le_refl _)
 | new o k K=>
  intro s w Q X h f;have aB:s.E w.heap.size=none:=by
   cases ag:s.E w.heap.size with
   | none=>rfl
   | some x=>have:=f.e _ _ ag;simp at this
  have aG:s.H w.heap.size=none:=by
   cases ag:s.H w.heap.size with
   | none=>rfl
   | some x=>have:=f.h _ _ ag;simp at this
  have O:(Sem.new o k).run P w=(k w.heap.size).run P {w with heap:=w.heap.push o}:=by simp [Sem.run]
  have U:(Sem.new o k).events P w #[]=(k w.heap.size).events P {w with heap:=w.heap.push o} #[]:=by simp only [Sem.events,Sem.runT]
  rw [O,U];have an:Fits (s.upd w.heap.size o) {w with heap:=w.heap.push o}:=J2 f aB (by simp) (fun c ah x ai=>by
   have:c<w.heap.size:=by
    rcases Nat.lt_or_ge c w.heap.size with ao | ao
    ·exact ao
    ·simp [Array.getElem?_eq_none ao] at ai
   simp [Array.getElem?_push,Nat.ne_of_lt this,ai])
  have ae:Fr s w (s.upd w.heap.size o) {w with heap:=w.heap.push o}:=by
   refine⟨by simp,fun b hb aj=>by simp [Array.getElem?_push,Nat.ne_of_lt hb],fun b hb=>?_,fun _ _ h=>h,fun _ h=> .inl h,rfl,rfl,rfl⟩;simp only [St.upd] at hb;split at hb
   ·rename_i e;subst e;exact .inr (Nat.le_refl _)
   ·exact .inl hb
  obtain⟨s',aa,Z,ab,ac⟩:=K _ (h.2 _ aB aG) an;exact⟨s',aa,ae.trans Z,fun e he=>(ab e he).mono ae (Nat.le_refl _),ac⟩
 | shape r k K=>
  intro s w Q X h f;obtain⟨o,A,h⟩:=h;have ap:=Pk (f.get A);have O:(Sem.shape r k).run P w=(k (shapeOf o)).run P w:=by simp [Sem.run,ap]
  have U:(Sem.shape r k).events P w #[]=(k (shapeOf o)).events P w #[]:=by simp only [Sem.events,Sem.runT,ap]
  rw [O,U];exact K _ h f
 | freeze a n k K=>intro s w Q X h f;exact h.elim
 | frozen a k K=>
  intro s w Q X h f;obtain⟨o,A,h⟩:=h;have ap:=Lx (a:=a) (f.get A);have O:(Sem.frozen a k).run P w=(k (frozenAt o a)).run P w:=by simp [Sem.run,ap]
  have U:(Sem.frozen a k).events P w #[]=(k (frozenAt o a)).events P w #[]:=by simp only [Sem.events,Sem.runT,ap]
  rw [O,U];exact K _ h f
 | getObj r k K=>
  intro s w Q X h f;obtain⟨o,A,av,h⟩:=h;have hw:=f.get A;have O:(Sem.getObj r k).run P w=(k o).run P w:=by cases o <;> simp [FX] at av <;> simp [Sem.run,hw]
  have U:(Sem.getObj r k).events P w #[]= #[⟨.obj r,false,false⟩]++(k o).events P w #[]:=by
   rw [← Sem.events_acc];cases o <;> simp [FX] at av <;> (simp only [Sem.events,Sem.runT,hw,Obj.isChan];rfl)
  rw [O,U];obtain⟨s',aa,Z,ab,ac⟩:=K o h f;refine⟨s',aa,Z,fun e he=>?_,ac⟩;rcases Array.mem_append.1 he with he | he
  ·simp at he;subst he;refine⟨rfl,Nat.lt_of_lt_of_le (f.lt A) Z.size,?_⟩;by_cases al:s.H r=none
   ·refine .inr (.inr ⟨?_,rfl⟩);exact Ms A al
   ·exact .inl al
  ·exact ab e he
 | setObj r o k K=>
  intro s w Q X h f;obtain⟨⟨o₀,A,aC⟩,av,h⟩:=h;have hw:=f.h _ _ A;have au:=f.OU A;have ag:s.E r=none:=by
   cases ag:s.E r with
   | none=>rfl
   | some x=>have:=f.d r (by rw [ag];simp);rw [A] at this;cases this
  have O:(Sem.setObj r o k).run P w=k.run P {w with heap:=w.heap.setIfInBounds r o}:=by
   cases o₀ <;> simp [FX] at aC <;> simp [Sem.run,hw]
  have U:(Sem.setObj r o k).events P w #[]= #[⟨.obj r,true,false⟩]++k.events P {w with heap:=w.heap.setIfInBounds r o} #[]:=by
   rw [← Sem.events_acc];cases o₀ <;> simp [FX] at aC <;> cases o <;> simp [FX] at av <;> (simp only [Sem.events,Sem.runT,hw,Obj.isChan];rfl)
  have am:∀c,c≠r→(w.heap.setIfInBounds r o)[c]? =w.heap[c]? :=fun c ah=>by simp [Ne.symm ah]
  have an:Fits (s.upd r o) {w with heap:=w.heap.setIfInBounds r o}:=J2 f ag (by simp [au]) (fun c ah x ai=>by show(w.heap.setIfInBounds r o)[c]? =_;rw [am c ah];exact ai);have ae:Fr s w (s.upd r o) {w with heap:=w.heap.setIfInBounds r o}:=by
   refine⟨by simp,fun b hb aj=>am b (fun e=>by subst e;rw [A] at aj;cases aj),fun b hb=>?_,fun _ _ h=>h,fun _ h=> .inl h,rfl,rfl,rfl⟩;simp only [St.upd] at hb;split at hb
   ·rename_i e;subst e;exact .inl (by rw [A];simp)
   ·exact .inl hb
  rw [O,U];obtain⟨s',aa,Z,ab,ac⟩:=K h an;refine⟨s',aa,ae.trans Z,fun e he=>?_,ac⟩;rcases Array.mem_append.1 he with he | he
  ·simp at he;subst he;exact⟨rfl,Nat.lt_of_lt_of_le au (ae.trans Z).size,.inl (by rw [A];simp)⟩
  ·exact(ab e he).mono ae (Nat.le_refl _)
 | choose q k K=>
  intro s w Q X h f;simp only [lp] at h;by_cases ak:q.forced
  ·rw [if_pos ak] at h;have O:(Sem.choose q k).run P w=(k 0).run P w:=by simp [Sem.run,ak]
   have U:(Sem.choose q k).events P w #[]=(k 0).events P w #[]:=by simp only [Sem.events,Sem.runT];rw [if_pos ak]
   rw [O,U];exact K _ h f
  ·rw [if_neg ak] at h;have O:(Sem.choose q k).run P w=(k (q.cut (w.tape w.drawn q))).run P {w with drawn:=w.drawn+1}:=by simp [Sem.run,ak]
   have U:(Sem.choose q k).events P w #[]=(k (q.cut (w.tape w.drawn q))).events P {w with drawn:=w.drawn+1} #[]:=by simp only [Sem.events,Sem.runT];rw [if_neg ak]
   rw [O,U];have ae:Fr s w s {w with drawn:=w.drawn+1}:=⟨Nat.le_refl _,fun _ _ _=>rfl,fun _ h=> .inl h,fun _ _ h=>h,fun _ h=> .inl h,rfl,rfl,rfl⟩;obtain⟨s',aa,Z,ab,ac⟩:=K _ (h.2 (w.tape w.drawn q)) (⟨f.e,f.h,f.d⟩:Fits s {w with drawn:=w.drawn+1});exact⟨s',aa,ae.trans Z,fun e he=>(ab e he).mono ae (Nat.le_refl _),ac⟩
 | sys c k K=>intro s w Q X h f;exact h.elim
 | program k K=>
  intro s w Q X h f;have O:(Sem.program k).run P w=(k P).run P w:=by simp [Sem.run]
  have U:(Sem.program k).events P w #[]=(k P).events P w #[]:=by simp only [Sem.events,Sem.runT]
  rw [O,U];exact K _ h f
 | mark m k K=>
  intro s w Q X h f;have O:(Sem.mark m k).run P w=k.run P w:=by simp [Sem.run]
  have U:(Sem.mark m k).events P w #[]= #[⟨.mark m,false,true⟩]++k.events P w #[]:=by
   rw [← Sem.events_acc];simp only [Sem.events,Sem.runT];rfl
  rw [O,U];obtain⟨hm,h⟩:=h;obtain⟨s',aa,Z,ab,ac⟩:=K h f;refine⟨s',aa,Z,fun e he=>?_,ac⟩;rcases Array.mem_append.1 he with he | he
  ·simp at he;subst he;rcases hm with⟨_,rfl⟩ | ⟨g,rfl⟩ <;> trivial
  ·exact ab e he
 | halt h=>intro s w Q X ao f;exact⟨s,f,.refl _ _,by simp [Sem.events_halt],ao⟩
theorem JH{P:Program}{fn:FuncId}{es:Array Event}(h:∀e∈es,∃f,e.loc= .mark (.extern f)):seen P fn es= #[]:=by
 rw [seen_def];have:∀(l:List Event) (q:Bool),(∀e∈l,∃f,e.loc= .mark (.extern f))→(l.foldl (seenStep fun f=>(P.funcs[f]?).any (·.norace)) (q,#[])).2= #[]:=by
  intro l
  induction l with
  | nil=>intro q _;rfl
  | cons e l A=>
   intro q h;obtain⟨f,K⟩:=h e (by simp);rw [List.foldl_cons];have:seenStep (fun f=>(P.funcs[f]?).any (·.norace)) (q,#[]) e=((P.funcs[f]?).any (·.norace),#[]):=by simp [seenStep,K]
   rw [this];exact A _ fun x O=>h x (by simp [O])
 exact this es.toList _ fun e he=>h e (Array.mem_toList_iff.1 he)
def St.quiet:St:=⟨fun _=>none,fun _=>none,true⟩
theorem J4{P:Program}{α:Type}(x:Sem α):∀{Q:α→St→Prop} {X:Halt→St→Prop},lp P x .quiet Q X→
  ∃es,(∀w,x.events P w #[]=es)∧(∀e∈es,∃f,e.loc= .mark (.extern f))∧((∃a,Q a .quiet∧(∀w,x.run P w= .ok a w))∨(∃a,X a .quiet∧(∀w,x.run P w= .halt a w))):=by
 induction x with
 | pure a=>intro Q X h;exact⟨#[],fun w=>by simp [Sem.events_pure'],by simp,.inl ⟨a,h,fun w=>rfl⟩⟩
 | load m a k A=>intro Q X h;obtain⟨_,v,aa,_⟩:=h;simp [St.cell?,St.get,St.quiet] at aa
 | store m a v k A=>intro Q X h;obtain⟨_,_,o,ab,_⟩:=h;cases ab
 | new o k A=>intro Q X h;cases h.1
 | shape r k A=>intro Q X h;obtain⟨o,K,_⟩:=h;simp [St.get,St.quiet] at K
 | freeze a n k A=>intro Q X h;exact h.elim
 | frozen a k A=>intro Q X h;obtain⟨o,K,_⟩:=h;simp [St.get,St.quiet] at K
 | getObj r k A=>intro Q X h;obtain⟨o,K,_⟩:=h;simp [St.get,St.quiet] at K
 | setObj r o k A=>intro Q X h;obtain⟨⟨o,K,_⟩,_⟩:=h;cases K
 | choose q k A=>
  intro Q X h;simp only [lp] at h;by_cases O:q.forced
  ·rw [if_pos O] at h;have U:∀w,(Sem.choose q k).run P w=(k 0).run P w:=fun w=>by simp [Sem.run,O]
   have Z:∀w,(Sem.choose q k).events P w #[]=(k 0).events P w #[]:=fun w=>by simp only [Sem.events,Sem.runT];rw [if_pos O]
   simpa only [U,Z] using A _ h
  ·rw [if_neg O] at h;cases h.1
 | sys c k A=>intro Q X h;exact h.elim
 | program k A=>
  intro Q X h;have U:∀w,(Sem.program k).run P w=(k P).run P w:=fun w=>by simp [Sem.run]
  have Z:∀w,(Sem.program k).events P w #[]=(k P).events P w #[]:=fun w=>by simp only [Sem.events,Sem.runT]
  simpa only [U,Z] using A _ h
 | mark m k A=>
  intro Q X h;obtain⟨hm,h⟩:=h;obtain⟨es,K,aa,ab⟩:=A h;have U:∀w,(Sem.mark m k).run P w=k.run P w:=fun w=>by simp [Sem.run]
  have Z:∀w,(Sem.mark m k).events P w #[]= #[⟨.mark m,false,true⟩]++k.events P w #[]:=fun w=>by rw [← Sem.events_acc];simp only [Sem.events,Sem.runT];rfl
  refine⟨#[⟨.mark m,false,true⟩]++es,fun w=>by rw [Z,K],fun e he=>?_,by simpa only [U] using ab⟩;rcases Array.mem_append.1 he with he | he
  ·simp at he;subst he;rcases hm with⟨O,_⟩ | hm
   ·cases O
   ·obtain⟨f,rfl⟩:=hm;exact⟨f,rfl⟩
  ·exact aa e he
 | halt h=>intro Q X ac;exact⟨#[],fun w=>by simp [Sem.events_halt],by simp,.inr ⟨h,ac,fun w=>rfl⟩⟩
end Pal
namespace Pal
open Go Go.Conc
def Of(P:Program)(main:Bool)(g:Goroutine)(s:St)(K:Goroutine→St→Prop):Prop:=
 g.status= .running∧(∀w,Fits s w→
  ∃g' s' w' es,stepG P main g w= .go g' w' es∧K g' s'∧Fits s' w'∧Fr s w s' w'∧(∀e∈es,Ev s w w' e))∧
  (s= .quiet→∃g',(∀w,stepG P main g w= .go g' w #[])∧K g' .quiet)
structure B5 (s s₀:St):Prop where
 ext:∀b o,s.E b=some o→s₀.E b=some o
 own:∀b o,s₀.H b=some o→s.H b=some o
 CP:∀b o,s₀.E b=some o→s.E b=some o∨(s.H b=some o∧s₀.H b=none)
 q:s₀.q=s.q
theorem B5.refl(s:St):B5 s s:=⟨fun _ _ h=>h,fun _ _ h=>h,fun _ _ h=> .inl h,rfl⟩
theorem B5.fits{s s₀:St}(g:B5 s s₀){w:World}(f:Fits s w):Fits s₀ w where
 e b o h:=by
  rcases g.CP b o h with x | x
  ·exact f.e _ _ x
  ·exact f.h _ _ x.1
 h b o h:=f.h _ _ (g.own _ _ h)
 d b h:=by
  cases A:s₀.E b with
  | none=>exact absurd A h
  | some o=>
   rcases g.CP b o A with x | x
   ·cases K:s₀.H b with
    | none=>rfl
    | some y=>have:=g.own _ _ K;rw [f.d b (by rw [x];simp)] at this;cases this
   ·exact x.2
theorem EW{α:Type}{x:Option α}(h:x≠none):∃a,x=some a:=by cases x <;> simp at h;exact⟨_,rfl⟩
theorem B5.fr{s s₀ s':St}{w w':World}(g:B5 s s₀)(f:Fr s₀ w s' w'):Fr s w s' w' where
 size:=f.size
 keep b hb K:=f.keep b hb (by
  cases h:s₀.H b with
  | none=>rfl
  | some o=>rw [g.own _ _ h] at K;cases K)
 own b hb:=(f.own b hb).imp (fun h=>by obtain⟨o,A⟩:=EW h;rw [g.own _ _ A];simp) id
 ext b o h:=f.ext _ _ (g.ext _ _ h)
 CP b hb:=by
  rcases f.CP b hb with h | h | h
  ·obtain⟨o,A⟩:=EW h;rcases g.CP _ _ A with x | x
   ·exact .inl (by rw [x];simp)
   ·exact .inr (.inl (by rw [x.1];simp))
  ·obtain⟨o,A⟩:=EW h;exact .inr (.inl (by rw [g.own _ _ A];simp))
  ·exact .inr (.inr h)
 tape:=f.tape
 os:=f.os
 output:=f.output
theorem B5.DX{s s₀:St}{w w':World}{b:Nat}{wr:Bool}(g:B5 s s₀)(t:DX s₀ w w' b wr):DX s w w' b wr:=by
 refine⟨t.1,?_⟩;rcases t.2 with h | h | ⟨h,hw⟩
 ·obtain⟨o,A⟩:=EW h;exact .inl (by rw [g.own _ _ A];simp)
 ·exact .inr (.inl h)
 ·obtain⟨o,A⟩:=EW h;rcases g.CP _ _ A with x | x
  ·exact .inr (.inr ⟨by rw [x];simp,hw⟩)
  ·exact .inl (by rw [x.1];simp)
theorem B5.ev{s s₀:St}{w w':World}{e:Event}(g:B5 s s₀)(t:Ev s₀ w w' e):Ev s w w' e:=by
 unfold Ev at t ⊢;split <;> rename_i he <;> simp only [he] at t
 ·exact⟨t.1,g.DX t.2⟩
 ·exact⟨t.1,g.DX t.2⟩
 ·trivial
 ·trivial
theorem B5.quiet{s₀:St}(g:B5 .quiet s₀):s₀= .quiet:=by
 obtain⟨E,H,q⟩:=s₀;have A:E=fun _=>none:=by
  funext b;cases h:E b with
  | none=>rfl
  | some o=>rcases g.CP b o h with x | ⟨x,_⟩ <;> cases x
 have K:H=fun _=>none:=by
  funext b;cases h:H b with
  | none=>rfl
  | some o=>cases g.own b o h
 have O:q=true:=g.q;subst A K O;rfl
inductive Rk:Type where
 | leaf:Rk
 | node (f:World→Rk):Rk
def Rk.sub(a b:Rk):Prop:=∃f w,b= .node f∧a=f w
theorem Rk.wf:WellFounded Rk.sub:=⟨fun r=>by
 induction r with
 | leaf=>exact⟨_,fun a ⟨f,w,h,_⟩=>by cases h⟩
 | node f A=>exact⟨_,fun a ⟨g,w,h,e⟩=>by cases h;subst e;exact A w⟩⟩
def Jr(P:Program)(main:Bool)(Q:Goroutine→St→Prop):Rk→Goroutine→St→Prop
 | .leaf,g,s=>Q g s
 | .node f,g,s=>Q g s∨(g.status= .running∧∀w,Fits s w→
  ∃g' s' w' es,stepG P main g w= .go g' w' es∧Jr P main Q (f w) g' s'∧Fits s' w'∧Fr s w s' w'∧(∀e∈es,Ev s w w' e)∧(s= .quiet→s'= .quiet∧w'=w∧es= #[]))
structure Judge (P:Program) where
 main:Bool
 ok:(Goroutine→St→Prop)→Goroutine→St→Prop
 stop:∀{Q g s},Q g s→ok Q g s
 step:∀{Q g s},Of P main g s (ok Q)→ok Q g s
 trans:∀{Q R g s},ok Q g s→(∀g' s',Q g' s'→ok R g' s')→ok R g s
 ghost:∀{Q g s s₀},B5 s s₀→ok Q g s₀→ok Q g s
def JQ(Q:Goroutine→St→Prop)(g:Goroutine)(s:St):Prop:=∃s₀,B5 s s₀∧Q g s₀
theorem B5.trans{a b c:St}(h:B5 a b)(k:B5 b c):B5 a c where
 ext x o y:=k.ext _ _ (h.ext _ _ y)
 own x o y:=h.own _ _ (k.own _ _ y)
 CP x o y:=by
  rcases k.CP x o y with z | z
  ·rcases h.CP x o z with u | u
   ·exact .inl u
   ·refine .inr ⟨u.1,?_⟩;cases A:c.H x with
    | none=>rfl
    | some v=>have:=k.own _ _ A;rw [u.2] at this;cases this
  ·exact .inr ⟨h.own _ _ z.1,z.2⟩
 q:=k.q.trans h.q
def A8(P:Program)(main:Bool):Judge P where
 main:=main
 ok Q g s:=∃r,Jr P main (JQ Q) r g s
 stop h:=⟨.leaf,_,.refl _,h⟩
 step {Q g s} h:=by
  obtain⟨O,h,hu⟩:=h;have ac:∀w,∃r:Rk,Fits s w→∃g' s' w' es,stepG P main g w= .go g' w' es∧Jr P main (JQ Q) r g' s'∧Fits s' w'∧Fr s w s' w'∧(∀e∈es,Ev s w w' e)∧(s= .quiet→s'= .quiet∧w'=w∧es= #[]):=by
   intro w;by_cases f:Fits s w
   ·by_cases e:s= .quiet
    ·obtain⟨g',A,r,K⟩:=hu e;exact⟨r,fun _=>⟨g',.quiet,w,#[],A w,K,e▸f,e▸ .refl _ _,by simp,fun _=>⟨rfl,rfl,rfl⟩⟩⟩
    ·obtain⟨g',s',w',es,A,⟨r,K⟩,aa,ae,ag⟩:=h w f;exact⟨r,fun _=>⟨g',s',w',es,A,K,aa,ae,ag,fun x=>absurd x e⟩⟩
   ·exact⟨.leaf,fun x=>absurd x f⟩
  exact⟨.node fun w=>Classical.choose (ac w),.inr ⟨O,fun w f=>Classical.choose_spec (ac w) f⟩⟩
 trans {Q R g s} h k:=by
  obtain⟨r,h⟩:=h;have ai:∀(r:Rk) {g:Goroutine} {s s₀:St},B5 s s₀→Jr P main (JQ R) r g s₀→Jr P main (JQ R) r g s:=by
   intro r g s s₀ U Z;cases r with
   | leaf=>obtain⟨ab,A,K⟩:=Z;exact⟨ab,U.trans A,K⟩
   | node f=>
    rcases Z with⟨ab,A,K⟩ | ⟨O,Z⟩
    ·exact .inl ⟨ab,U.trans A,K⟩
    ·exact .inr ⟨O,fun w f=>let ⟨g',s',w',es,A,K,aa,ae,ag,ah⟩:=Z w (U.fits f);⟨g',s',w',es,A,K,aa,U.fr ae,fun e he=>U.ev (ag e he),fun e=>ah (by subst e;exact U.quiet)⟩⟩
  induction r generalizing g s with
  | leaf=>
   obtain⟨s₀,A,K⟩:=h;obtain⟨r,O⟩:=k _ _ K;exact⟨r,ai r A O⟩
  | node f ak=>
   rcases h with⟨s₀,A,K⟩ | ⟨O,h⟩
   ·obtain⟨r,O⟩:=k _ _ K;exact⟨r,ai r A O⟩
   ·have ac:∀w,∃r:Rk,Fits s w→∃g' s' w' es,stepG P main g w= .go g' w' es∧Jr P main (JQ R) r g' s'∧Fits s' w'∧Fr s w s' w'∧(∀e∈es,Ev s w w' e)∧(s= .quiet→s'= .quiet∧w'=w∧es= #[]):=by
     intro w;by_cases aj:Fits s w
     ·obtain⟨g',s',w',es,A,K,aa⟩:=h w aj;obtain⟨r,O⟩:=ak w K;exact⟨r,fun _=>⟨g',s',w',es,A,O,aa⟩⟩
     ·exact⟨.leaf,fun x=>absurd x aj⟩
    exact⟨.node fun w=>Classical.choose (ac w),.inr ⟨O,fun w f=>Classical.choose_spec (ac w) f⟩⟩
 ghost {Q g s s₀} U h:=by
  obtain⟨r,Z⟩:=h;refine⟨r,?_⟩;cases r with
  | leaf=>obtain⟨ab,A,K⟩:=Z;exact⟨ab,U.trans A,K⟩
  | node f=>
   rcases Z with⟨ab,A,K⟩ | ⟨O,Z⟩
   ·exact .inl ⟨ab,U.trans A,K⟩
   ·exact .inr ⟨O,fun w f=>let ⟨g',s',w',es,A,K,aa,ae,ag,ah⟩:=Z w (U.fits f);⟨g',s',w',es,A,K,aa,U.fr ae,fun e he=>U.ev (ag e he),fun e=>ah (by subst e;exact U.quiet)⟩⟩
def Lv(P:Program)(Q:Goroutine→St→Prop):Nat→Goroutine→Prop
 | 0,g=>Q g .quiet
 | n+1,g=>Q g .quiet∨(g.status= .running∧∃g',(∀w,stepG P false g w= .go g' w #[])∧Lv P Q n g')
def En(P:Program):Judge P where
 main:=false
 ok Q g s:=s= .quiet→∃n,Lv P Q n g
 stop h e:=⟨0,by subst e;exact h⟩
 step {Q g s} h e:=by
  obtain⟨g',A,K⟩:=h.2.2 e;obtain⟨n,O⟩:=K rfl;exact⟨n+1,.inr ⟨h.1,g',A,O⟩⟩
 trans {Q R g s} h k e:=by
  obtain⟨n,O⟩:=h e;have:∀n g,Lv P Q n g→∃m,Lv P R m g:=by
   intro n
   induction n with
   | zero=>intro g h;exact k _ _ h rfl
   | succ n U=>
    intro g h;rcases h with h | ⟨Z,g',A,K⟩
    ·exact k _ _ h rfl
    ·obtain⟨m,hm⟩:=U g' K;exact⟨m+1,.inr ⟨Z,g',A,hm⟩⟩
  exact this n g O
 ghost {Q g s s₀} aa h e:=by subst e;exact h aa.quiet
end Pal
namespace Pal
open Go Go.Conc
def fr(b:Frame)(T:Array Value)(ds:List Deferred)(todo:List Item):Frame:={b with tmps:=T,todo:=todo,defers:=ds,mode:= .run}
def CN(b:Frame)(T:Array Value)(ds:List Deferred)(todo:List Item):Frame:={b with tmps:=T,todo:=todo,defers:=ds,mode:= .returning}
def Bm(T:Array Value):Operand→Value
 | .tmp t=>T.getD t undef
 | .const v=>v
 | .global g=> .pointer (some ⟨g,0,none⟩)
 | .func f=> .func (.func f) #[] #[]
abbrev Env:=List (Nat×Value)
def look:Env→Nat→Option Value
 | [],_=>none
 | (t,v)::L,u=>if t=u then some v else look L u
def ev(L:Env):Operand→Option Value
 | .tmp t=>look L t
 | .const v=>some v
 | .global g=>some (.pointer (some ⟨g,0,none⟩))
 | .func f=>some (.func (.func f) #[] #[])
structure Has (n:Nat) (L:Env) (T:Array Value):Prop where
 size:T.size=n
 at_:∀t v,look L t=some v→T.getD t undef=v
theorem Has.ev{n:Nat}{L:Env}{T:Array Value}(h:Has n L T){x:Operand}{v:Value}(e:ev L x=some v):Bm T x=v:=by
 cases x with
 | tmp t=>exact h.at_ t v e
 | const u=>cases e;rfl
 | global g=>cases e;rfl
 | func f=>cases e;rfl
def BQ(T:Array Value):Option Tmp→Value→Array Value
 | some d,v=>T.setIfInBounds d v
 | none,_=>T
def AJ(L:Env):Option Tmp→Value→Env
 | some d,v=>(d,v)::L
 | none,_=>L
def Bd(n:Nat):Option Tmp→Bool
 | some d=>d<n
 | none=>true
theorem QK(T:Array Value)(d:Nat)(v:Value)(h:d<T.size)(t:Nat):(T.setIfInBounds d v).getD t undef=if d=t then v else T.getD t undef:=by
 by_cases e:d=t
 ·subst e;simp [Array.getD_eq_getD_getElem?,h]
 ·simp [Array.getD_eq_getD_getElem?,e]
theorem Has.put{n:Nat}{L:Env}{T:Array Value}(h:Has n L T){d:Option Tmp}(A:Bd n d=true)(v:Value):Has n (AJ L d v) (BQ T d v):=by
 cases d with
 | none=>exact h
 | some d=>
  have K:d<T.size:=by rw [h.size];simpa [Bd] using A
  refine⟨by simp [BQ,h.size],fun t u hu=>?_⟩;simp only [BQ,QK T d v K];simp only [AJ,look] at hu;split at hu
  ·rename_i e;rw [if_pos e];exact Option.some.inj hu
  ·rename_i e;rw [if_neg e];exact h.at_ t u hu
def Sub:Env→Env→Prop
 | [],_=>True
 | (t,v)::L',L=>look L t=some v∧Sub L' L
theorem Sub.look{L:Env}:∀{L':Env},Sub L' L→∀t v,look L' t=some v→Pal.look L t=some v
 | [],_,t,v,e=>by simp [Pal.look] at e
 | (u,w)::L',h,t,v,e=>by
  simp only [Pal.look] at e
  split at e
  ·rename_i A;subst A;cases e;exact h.1
  ·exact Sub.look h.2 t v e
theorem Has.sub{n:Nat}{L L':Env}{T:Array Value}(h:Has n L T)(s:Sub L' L):Has n L' T:=⟨h.size,fun t v e=>h.at_ t v (s.look t v e)⟩
section
variable {P:Program}(J:Judge P)(Q:Goroutine→St→Prop)
def JL(b:Frame)(n:Nat)(L:Env)(ds:List Deferred)(todo:List Item)(cs:List Frame)(s:St):Prop:=
 ∀T,Has n L T→J.ok Q (G (fr b T ds todo) cs) s
end
section
variable {P:Program}{J:Judge P}{Q:Goroutine→St→Prop}{b:Frame}{n:Nat}{L L':Env}{ds:List Deferred}{k:List Item}{cs:List Frame}{s s':St}
theorem Judge.B9{g g':Goroutine}(A:g.status= .running)(h:∀w,stepG P J.main g w= .go g' w)(k:J.ok Q g' s):J.ok Q g s:=
 J.step ⟨A,fun w f=>⟨g',s,w,#[],h w,k,f,.refl _ _,by simp⟩,fun e=>⟨g',h,e▸k⟩⟩
theorem JL.BU(h:Sub L' L)(k':JL J Q b n L' ds k cs s):JL J Q b n L ds k cs s:=fun T A=>k' T (A.sub h)
theorem JL.ghost(h:B5 s s')(k':JL J Q b n L ds k cs s'):JL J Q b n L ds k cs s:=fun T A=>J.ghost h (k' T A)
theorem JL.skip(h:JL J Q b n L ds k cs s):JL J Q b n L ds (.code .skip::k) cs s:=fun T A=>Judge.B9 rfl (fun w=>by simp [G,stepG,stepG.exec,fr]) (h T A)
theorem JL.label{l:Nat}(h:JL J Q b n L ds k cs s):JL J Q b n L ds (.code (.label l)::k) cs s:=fun T A=>Judge.B9 rfl (fun w=>by simp [G,stepG,stepG.exec,fr]) (h T A)
theorem JL.outBlock{i:Nat}(h:JL J Q b n L ds k cs s):JL J Q b n L ds (.inBlock i::k) cs s:=fun T A=>Judge.B9 rfl (fun w=>by simp [G,stepG,stepG.exec,fr]) (h T A)
theorem JL.Qw{c:Code}(h:JL J Q b n L ds k cs s):JL J Q b n L ds (.inScope c::k) cs s:=fun T A=>Judge.B9 rfl (fun w=>by simp [G,stepG,stepG.exec,fr]) (h T A)
theorem JL.seq{x y:Code}(h:JL J Q b n L ds (.code x:: .code y::k) cs s):JL J Q b n L ds (.code (.seq x y)::k) cs s:=fun T A=>Judge.B9 rfl (fun w=>by simp [G,stepG,stepG.exec,fr]) (h T A)
theorem JL.block{i:Nat}{c:Code}(h:JL J Q b n L ds (.code c:: .inBlock i::k) cs s):JL J Q b n L ds (.code (.block i c)::k) cs s:=fun T A=>Judge.B9 rfl (fun w=>by simp [G,stepG,stepG.exec,fr]) (h T A)
theorem JL.scope{c:Code}(h:JL J Q b n L ds (.code c:: .inScope c::k) cs s):JL J Q b n L ds (.code (.scope c)::k) cs s:=fun T A=>Judge.B9 rfl (fun w=>by simp [G,stepG,stepG.exec,fr]) (h T A)
theorem JL.Gl{c:Code}(h:JL J Q b n L ds (.code c:: .inLoop c::k) cs s):JL J Q b n L ds (.code (.loop c)::k) cs s:=fun T A=>Judge.B9 rfl (fun w=>by simp [G,stepG,stepG.exec,fr]) (h T A)
theorem JL.again{c:Code}(h:JL J Q b n L ds (.code c:: .inLoop c::k) cs s):JL J Q b n L ds (.inLoop c::k) cs s:=fun T A=>Judge.B9 rfl (fun w=>by simp [G,stepG,stepG.exec,fr]) (h T A)
theorem JL.exit{i:Nat}{k':List Item}(A:exitTo i k=some k')(h:JL J Q b n L ds k' cs s):JL J Q b n L ds (.code (.exit i)::k) cs s:=fun T K=>Judge.B9 rfl (fun w=>by simp [G,stepG,stepG.exec,fr,A]) (h T K)
theorem JL.goto{l:Nat}{k':List Item}(A:gotoIn l k=some k')(h:JL J Q b n L ds k' cs s):JL J Q b n L ds (.code (.goto l)::k) cs s:=fun T K=>Judge.B9 rfl (fun w=>by simp [G,stepG,stepG.exec,fr,A]) (h T K)
theorem MM(T:Array Value)(todo:List Item)(x:Operand):(fr b T ds todo).eval x=Bm T x:=by cases x <;> rfl
theorem MI(T:Array Value)(todo:List Item):(fr b T ds todo).eval=Bm T:=funext (MM T todo)
theorem JL.cond{c:Operand}{x y:Code}{t:Bool}(O:ev L c=some (.bool t))(h:JL J Q b n L ds (.code (if t then x else y)::k) cs s):JL J Q b n L ds (.code (.cond c x y)::k) cs s:=fun T K=>
 Judge.B9 rfl (fun w=>by
  have A:=MM (b:=b) (ds:=ds) T (.code (.cond c x y)::k) c
  rw [K.ev O] at A
  simp only [fr] at A
  simp [G,stepG,stepG.exec,fr,A]) (h T K)
theorem JL.Td{c:Operand}{x y:Code}(A:ev L c=some (.bool true))(h:JL J Q b n L ds (.code x::k) cs s):JL J Q b n L ds (.code (.cond c x y)::k) cs s:=JL.cond A h
theorem JL.Tb{c:Operand}{x y:Code}(A:ev L c=some (.bool false))(h:JL J Q b n L ds (.code y::k) cs s):JL J Q b n L ds (.code (.cond c x y)::k) cs s:=JL.cond A h
theorem JL.split{c:Operand}{x y:Code}{t:Bool}(A:ev L c=some (.bool t))(K:t=true→JL J Q b n L ds (.code x::k) cs s)(O:t=false→JL J Q b n L ds (.code y::k) cs s):JL J Q b n L ds (.code (.cond c x y)::k) cs s:=by
 cases t
 ·exact JL.cond A (O rfl)
 ·exact JL.cond A (K rfl)
theorem JL.ifs{c:Operand}{x y:Code}{p:Prop} [Decidable p] (A:ev L c=some (.bool (decide p)))(K:p→JL J Q b n L ds (.code x::k) cs s)(O:¬p→JL J Q b n L ds (.code y::k) cs s):JL J Q b n L ds (.code (.cond c x y)::k) cs s:=
 JL.split A (fun h=>K (of_decide_eq_true h)) (fun h=>O (of_decide_eq_false h))
theorem JL.region{id:Nat}{ops:Array Oper}(h:JL J Q b n L ds (.inRegion ops (List.range ops.size)::k) cs s):JL J Q b n L ds (.code (.region id ops false)::k) cs s:=fun T A=>Judge.B9 rfl (fun w=>by simp [G,stepG,stepG.exec,fr]) (h T A)
theorem JL.done{ops:Array Oper}(h:JL J Q b n L ds k cs s):JL J Q b n L ds (.inRegion ops []::k) cs s:=fun T A=>Judge.B9 rfl (fun w=>by simp [G,stepG,stepG.exec,fr]) (h T A)
theorem JL.draw{id:Nat}{ops:Array Oper}(A:s.q=false)(hm:P.follows .mixedOrders=true)(h:∀t,JL J Q b n L ds (.inRegion ops (Region.linearise .any ops t)::k) cs s):JL J Q b n L ds (.code (.region id ops true)::k) cs s:=fun T K=>by
 refine J.step ⟨rfl,fun w f=>⟨_,s,{w with drawn:=w.drawn+1},#[],?_,h (w.tape w.drawn (.order b.fn id)) T K,⟨f.e,f.h,f.d⟩,⟨Nat.le_refl _,fun _ _ _=>rfl,fun _ h=> .inl h,fun _ _ h=>h,fun _ h=> .inl h,rfl,rfl,rfl⟩,by simp⟩,fun e=>by subst e;cases A⟩
 simp [G,stepG,stepG.exec,fr,choose,Sem.run,Question.forced,Question.cut,Region.schedule,hm]
theorem D9(T:Array Value)(ops:Array Oper)(i:Nat)(rest:List Nat)(v:Value)(o:Oper)(A:ops[i]? =some o):
  (fr b T ds (.inRegion ops (i::rest)::k)).finish v=fr b (BQ T o.dst v) ds (.inRegion ops rest::k):=by
 cases K:o.dst <;> simp [Frame.finish,fr,A,K,BQ]
theorem stepG_op{main:Bool}{T:Array Value}{ops:Array Oper}{i:Nat}{rest:List Nat}{o:Oper}{w:World}(A:ops[i]? =some o)(hw:Region.wanted o (yielded ops T)=true):
  stepG P main (G (fr b T ds (.inRegion ops (i::rest)::k)) cs) w=
   match b.roundOf,o.op with
   | some l,.defer c=>stepG.apply P true (fr b T ds (.inRegion ops (i::rest)::k)) cs none (do Instr.deferInRound l (← resolve (Bm T) c o.type);pure .skip) w
   | _,_=>stepG.apply P true (fr b T ds (.inRegion ops (i::rest)::k)) cs none (execOp (Bm T) o) w:=by
 have he:=MI (b:=b) (ds:=ds) T (.inRegion ops (i::rest)::k);simp only [fr] at he;simp only [G,stepG,stepG.exec,fr,A,Option.map_some,Option.getD_some,hw,if_true,stepG.oper,Frame.oper?,he]
 rfl
theorem Dk(T:Array Value)(todo:List Item):(fr b T ds todo).fn=b.fn:=rfl
theorem ED(T:Array Value)(todo:List Item):(fr b T ds todo).todo=todo:=rfl
def upon(J:Judge P)(Q:Goroutine→St→Prop)(b:Frame)(T:Array Value)(ds:List Deferred)(ops:Array Oper)(i:Nat)(rest:List Nat)(k:List Item)(cs:List Frame)(dst:Option Tmp):Next→St→Prop
 | .value v,s=>J.ok Q (G (fr b (BQ T dst v) ds (.inRegion ops rest::k)) cs) s
 | .skip,s=>J.ok Q (G (fr b (BQ T dst undef) ds (.inRegion ops rest::k)) cs) s
 | .defer d,s=>J.ok Q (G (fr b (BQ T dst undef) (d::ds) (.inRegion ops rest::k)) cs) s
 | .enter f args,s=>J.ok Q (G (Frame.enter P f args .normal) (fr b T ds (.inRegion ops (i::rest)::k)::cs)) s
 | .round l f tmps assign body,s=>J.ok Q (G (Frame.round l f tmps assign body .normal) (fr b T ds (.inRegion ops (i::rest)::k)::cs)) s
 | _,_=>False
def Ja(J:Judge P)(Q:Goroutine→St→Prop)(b:Frame)(T:Array Value)(ds:List Deferred)(ops:Array Oper)(i:Nat)(rest:List Nat)(k:List Item)(cs:List Frame):Halt→St→Prop
 | .panic v,s=>J.ok Q (G ((fr b T ds (.inRegion ops (i::rest)::k)).raise [{v,recovered:=false}]) cs) s
 | _,_=>False
theorem Ke{s:St}{w w':World}{fn:FuncId}{es:Array Event}(h:∀e∈es,Ev s w w' e):∀e∈seen P fn es,Ev s w w' e:=fun e he=>h e (mem_seen he)
theorem Judge.oper{T:Array Value}{ops:Array Oper}{i:Nat}{rest:List Nat}{o:Oper}(ac:ops[i]? =some o)(hw:Region.wanted o (yielded ops T)=true)(ak:b.kind≠ .early)
  (ae:b.roundOf=none∨∀c,o.op≠ .defer c)
  (h:lp P (execOp (Bm T) o) s (upon J Q b T ds ops i rest k cs o.dst) (Ja J Q b T ds ops i rest k cs)):
  J.ok Q (G (fr b T ds (.inRegion ops (i::rest)::k)) cs) s:=by
 have O:((fr b T ds (.inRegion ops (i::rest)::k)).kind==CallKind.early)=false:=by simpa [fr] using ak
 have ai:∀w,stepG P J.main (G (fr b T ds (.inRegion ops (i::rest)::k)) cs) w=stepG.apply P true (fr b T ds (.inRegion ops (i::rest)::k)) cs none (execOp (Bm T) o) w:=by
  intro w;rw [stepG_op ac hw];split
  ·rename_i l c aj al;rcases ae with ae | ae
   ·rw [ae] at aj;cases aj
   ·exact absurd al (ae c)
  ·rfl
 refine J.step ⟨rfl,fun w f=>?_,fun e=>?_⟩
 rotate_left
 ·subst e;simp only [ai];have ag:=fun v=>D9 (b:=b) (ds:=ds) (k:=k) T ops i rest v o ac;obtain⟨es,he,U,h⟩:=J4 _ h;have ab:seen P b.fn es= #[]:=JH U;rcases h with⟨nx,A,K⟩ | ⟨x,A,K⟩
  ·cases nx with
   | value v=>exact⟨_,fun w=>by simp [stepG.apply,K,O,GStep.after,G,ag,Dk,he,ab],A⟩
   | skip=>exact⟨_,fun w=>by simp [stepG.apply,K,O,GStep.after,G,ag,Dk,he,ab],A⟩
   | enter g args=>exact⟨_,fun w=>by simp [stepG.apply,K,O,GStep.after,G,Dk,ED,he,ab],A⟩
   | round l g am as an=>exact⟨_,fun w=>by simp [stepG.apply,K,O,GStep.after,G,Dk,ED,he,ab],A⟩
   | defer d=>
    have ah:=D9 (b:=b) (ds:=d::ds) (k:=k) T ops i rest undef o ac;exact⟨_,fun w=>by rw [← ah];simp [stepG.apply,K,O,GStep.after,G,Dk,ED,he,ab];rfl,A⟩
   | _=>exact A.elim
  ·cases x with
   | panic v=>exact⟨_,fun w=>by simp [stepG.apply,K,O,GStep.after,G,Dk,ED,he,ab],A⟩
   | _=>exact A.elim
 obtain⟨s',Z,aa,ao,A⟩:=Ij _ h f;rw [ai];have U:=Ke (P:=P) (fn:=b.fn) ao;have ag:=fun v=>D9 (b:=b) (ds:=ds) (k:=k) T ops i rest v o ac;cases K:(execOp (Bm T) o).run P w with
 | ok nx w'=>
  rw [K] at Z aa A U;simp only [Gu] at Z aa U;cases nx with
  | value v=>exact⟨_,s',w',seen P b.fn ((execOp (Bm T) o).events P w #[])++ #[],by simp [stepG.apply,K,O,GStep.after,G,ag,Dk],A,Z,aa,by simpa using U⟩
  | skip=>exact⟨_,s',w',seen P b.fn ((execOp (Bm T) o).events P w #[])++ #[],by simp [stepG.apply,K,O,GStep.after,G,ag,Dk],A,Z,aa,by simpa using U⟩
  | enter g args=>exact⟨_,s',w',seen P b.fn ((execOp (Bm T) o).events P w #[])++ #[],by simp [stepG.apply,K,O,GStep.after,G,Dk,ED],A,Z,aa,by simpa using U⟩
  | round l g am as an=>exact⟨_,s',w',seen P b.fn ((execOp (Bm T) o).events P w #[])++ #[],by simp [stepG.apply,K,O,GStep.after,G,Dk,ED],A,Z,aa,by simpa using U⟩
  | defer d=>
   have ah:=D9 (b:=b) (ds:=d::ds) (k:=k) T ops i rest undef o ac;exact⟨_,s',w',seen P b.fn ((execOp (Bm T) o).events P w #[])++ #[],by
    rw [← ah];simp [stepG.apply,K,O,GStep.after,G,Dk,ED];rfl,A,Z,aa,by simpa using U⟩
  | _=>exact A.elim
 | halt x w'=>
  rw [K] at Z aa A U;simp only [Gu] at Z aa U;cases x with
  | panic v=>exact⟨_,s',w',seen P b.fn ((execOp (Bm T) o).events P w #[])++ #[],by simp [stepG.apply,K,O,GStep.after,G,Dk,ED],A,Z,aa,by simpa using U⟩
  | _=>exact A.elim
theorem Judge.unwanted{T:Array Value}{ops:Array Oper}{i:Nat}{rest:List Nat}{o:Oper}(A:ops[i]? =some o)(hw:Region.wanted o (yielded ops T)=false)
  (h:J.ok Q (G (fr b (BQ T o.dst undef) ds (.inRegion ops rest::k)) cs) s):J.ok Q (G (fr b T ds (.inRegion ops (i::rest)::k)) cs) s:=by
 refine Judge.B9 rfl (fun w=>?_) h;have K:=D9 (b:=b) (ds:=ds) (k:=k) T ops i rest undef o A;rw [← K];simp [G,stepG,stepG.exec,fr,A,hw]
end
end Pal
namespace Pal
open Go Go.Conc
def Yl(P:Program)(o:Oper)(ρ:Operand→Value)(s:St)(v:Value):Prop:=lp P (execOp ρ o) s (fun nx s'=>nx= .value v∧s'=s) (fun _ _=>False)
def CU(L:Env)(ρ:Operand→Value):Prop:=∀x v,ev L x=some v→ρ x=v
def AT(L:Env)(ops:Array Oper)(o:Oper):Option Bool:=
 match o.guard with
 | none=>some true
 | some (j,A)=>match(ops[j]?).bind (·.dst) with
  | some d=>match look L d with
   | some (.bool b)=>some (b==A)
   | some (.tuple _)=>some false
   | _=>none
  | none=>none
section
variable {P:Program}{J:Judge P}{Q:Goroutine→St→Prop}{b:Frame}{n:Nat}{L L':Env}{ds:List Deferred}{k:List Item}{cs:List Frame}{s s':St}
theorem Has.Eh{T:Array Value}(h:Has n L T):CU L (Bm T):=fun _ _ e=>h.ev e
theorem getD_some{T:Array Value}{d:Nat}{c:Bool}(h:T.getD d undef= .bool c):T[d]? =some (.bool c):=by
 rw [Array.getD_eq_getD_getElem?] at h;cases A:T[d]? with
 | none=>rw [A] at h;simp [undef] at h
 | some v=>rw [A] at h;simp at h;rw [h]
theorem B4{T:Array Value}{ops:Array Oper}{o:Oper}{c:Bool}(h:Has n L T)(hw:AT L ops o=some c):Region.wanted o (yielded ops T)=c:=by
 unfold AT at hw;unfold Region.wanted;cases A:o.guard with
 | none=>rw [A] at hw;simpa using hw
 | some p=>
  obtain⟨j,Z⟩:=p;rw [A] at hw;simp only at hw ⊢;cases K:(ops[j]?).bind (·.dst) with
  | none=>rw [K] at hw;simp at hw
  | some d=>
   rw [K] at hw;simp only at hw;cases O:look L d with
   | none=>rw [O] at hw;simp at hw
   | some v=>
    rw [O] at hw;cases v with
    | bool x=>
     simp only [Option.some.injEq] at hw;have:=getD_some (h.at_ d _ O);simp only [yielded,K,Option.bind_some,this];simp [← hw]
    | tuple c=>
     simp only [Option.some.injEq] at hw;have A:=h.at_ d _ O;simp only [yielded,K,Option.bind_some];cases U:T[d]? with
     | none=>simp [← hw]
     | some u=>
      have:u= .tuple c:=by rw [Array.getD_eq_getD_getElem?,U] at A;exact A
      subst this;simp [← hw]
    | _=>simp at hw
def Ci:Op→Bool | .defer _=>true | _=>false
def BR(b:Frame)(n:Nat)(o:Oper):Bool:=(b.kind != .early)&&(Bd n o.dst&& !Ci o.op)
theorem Yl.out{P:Program}{o:Oper}{ρ:Operand→Value}{s:St}{v:Value}(h:Yl P o ρ s v):Pal.lp P (execOp ρ o) s (fun nx s'=>nx= .value v∧s'=s) (fun _ _=>False):=by unfold Yl at h;exact h
theorem JL.y{ops:Array Oper}{i:Nat}{rest:List Nat}{o:Oper}{v:Value}(U:ops[i]? =some o)(hw:AT L ops o=some true)(A:BR b n o=true)
  (h:∀ρ,CU L ρ→Yl P o ρ s v) (Z:JL J Q b n (AJ L o.dst v) ds (.inRegion ops rest::k) cs s):
  JL J Q b n L ds (.inRegion ops (i::rest)::k) cs s:=fun T K=>by
 simp only [BR,Bool.and_eq_true] at A
 obtain⟨A,aa,O⟩:=A
 refine Judge.oper U (B4 K hw) (by simpa using A) (.inr fun c ab=>by rw [ab] at O;simp [Ci] at O) (B8 _ (h _ K.Eh).out ?_ ?_)
 ·rintro nx s' ⟨rfl,rfl⟩
  exact Z _ (K.put aa v)
 ·intro _ _ ac;exact ac.elim
theorem JL.no{ops:Array Oper}{i:Nat}{rest:List Nat}{o:Oper}(K:ops[i]? =some o)(hw:AT L ops o=some false)(O:Bd n o.dst=true)
  (U:JL J Q b n (AJ L o.dst undef) ds (.inRegion ops rest::k) cs s):
  JL J Q b n L ds (.inRegion ops (i::rest)::k) cs s:=fun _ A=>
 Judge.unwanted K (B4 A hw) (U _ (A.put O undef))
theorem JL.op{ops:Array Oper}{i:Nat}{rest:List Nat}{o:Oper}(aa:ops[i]? =some o)(hw:AT L ops o=some true)(A:BR b n o=true)
  (h:∀ρ,CU L ρ→lp P (execOp ρ o) s (fun nx s'=>match nx with
   | .value v=>JL J Q b n (AJ L o.dst v) ds (.inRegion ops rest::k) cs s'
   | .skip=>JL J Q b n (AJ L o.dst undef) ds (.inRegion ops rest::k) cs s'
   | _=>False) (fun _ _=>False)):
  JL J Q b n L ds (.inRegion ops (i::rest)::k) cs s:=fun T K=>by
 simp only [BR,Bool.and_eq_true] at A
 obtain⟨A,U,Z⟩:=A
 refine Judge.oper aa (B4 K hw) (by simpa using A) (.inr fun c ab=>by rw [ab] at Z;simp [Ci] at Z) (B8 _ (h _ K.Eh) ?_ ?_)
 ·intro nx s' O
  cases nx with
  | value v=>exact O _ (K.put U v)
  | skip=>exact O _ (K.put U undef)
  | _=>exact O.elim
 ·intro _ _ ac;exact ac.elim
end
section
variable {P:Program}{ρ:Operand→Value}{s:St}{x y z:Operand}{d:Option Tmp}{t u ty:TypeId}{p:String}{af:Array Edge}{g:Option (Nat×Bool)}{v:Value}{kd kd':IntKind}{m m':Int}
theorem Yl.move(A:ρ x=v):Yl P ⟨d,.move x,ty,p,af,g⟩ ρ s v:=by simp [Yl,execOp,lp,pure,A]
theorem Yl.assign(A:ρ x=v):Yl P ⟨d,.assign x,ty,p,af,g⟩ ρ s v:=by simp [Yl,execOp,lp,pure,A]
theorem Yl.SL(A:ρ z= .bool true)(K:ρ x=v):Yl P ⟨d,.pick z x y,ty,p,af,g⟩ ρ s v:=by simp [Yl,execOp,lp,pure,bind,Sem.bind,asBool,A,K]
theorem Yl.TF(A:ρ z= .bool false)(K:ρ y=v):Yl P ⟨d,.pick z x y,ty,p,af,g⟩ ρ s v:=by simp [Yl,execOp,lp,pure,bind,Sem.bind,asBool,A,K]
theorem Yl.lss(A:ρ x= .int kd m)(K:ρ y= .int kd m'):Yl P ⟨d,.binOp .lss t x y u,ty,p,af,g⟩ ρ s (.bool (decide (m<m'))):=by
 simp [Yl,execOp,lp,pure,bind,Sem.bind,A,K,eqGuard,Go.binOp,Op.intCmp]
theorem Yl.leq(A:ρ x= .int kd m)(K:ρ y= .int kd m'):Yl P ⟨d,.binOp .leq t x y u,ty,p,af,g⟩ ρ s (.bool (decide (m≤m'))):=by
 simp [Yl,execOp,lp,pure,bind,Sem.bind,A,K,eqGuard,Go.binOp,Op.intCmp]
theorem Yl.gtr(A:ρ x= .int kd m)(K:ρ y= .int kd m'):Yl P ⟨d,.binOp .gtr t x y u,ty,p,af,g⟩ ρ s (.bool (decide (m'<m))):=by
 simp [Yl,execOp,lp,pure,bind,Sem.bind,A,K,eqGuard,Go.binOp,Op.intCmp]
theorem Yl.geq(A:ρ x= .int kd m)(K:ρ y= .int kd m'):Yl P ⟨d,.binOp .geq t x y u,ty,p,af,g⟩ ρ s (.bool (decide (m'≤m))):=by
 simp [Yl,execOp,lp,pure,bind,Sem.bind,A,K,eqGuard,Go.binOp,Op.intCmp]
theorem Yl.eql(A:ρ x= .int kd m)(K:ρ y= .int kd m'):Yl P ⟨d,.binOp .eql t x y u,ty,p,af,g⟩ ρ s (.bool (decide (m=m'))):=by
 simp [Yl,execOp,lp,pure,bind,Sem.bind,A,K,eqGuard,Go.binOp,Op.intCmp];rfl
theorem Yl.neq(A:ρ x= .int kd m)(K:ρ y= .int kd m'):Yl P ⟨d,.binOp .neq t x y u,ty,p,af,g⟩ ρ s (.bool (!decide (m=m'))):=by
 simp [Yl,execOp,lp,pure,bind,Sem.bind,A,K,eqGuard,Go.binOp,Op.intCmp];rfl
theorem Yl.add(A:ρ x= .int kd m)(K:ρ y= .int kd m'):Yl P ⟨d,.binOp .add t x y u,ty,p,af,g⟩ ρ s (.int kd (kd.wrap (m+m'))):=by
 simp [Yl,execOp,lp,pure,bind,Sem.bind,A,K,eqGuard,Go.binOp,Op.intArith]
theorem Yl.sub(A:ρ x= .int kd m)(K:ρ y= .int kd m'):Yl P ⟨d,.binOp .sub t x y u,ty,p,af,g⟩ ρ s (.int kd (kd.wrap (m - m'))):=by
 simp [Yl,execOp,lp,pure,bind,Sem.bind,A,K,eqGuard,Go.binOp,Op.intArith]
theorem Yl.mul(A:ρ x= .int kd m)(K:ρ y= .int kd m'):Yl P ⟨d,.binOp .mul t x y u,ty,p,af,g⟩ ρ s (.int kd (kd.wrap (m*m'))):=by
 simp [Yl,execOp,lp,pure,bind,Sem.bind,A,K,eqGuard,Go.binOp,Op.intArith]
theorem Gc{a:Int}(h: -9223372036854775808≤a∧a≤9223372036854775807):IntKind.i64.wrap a=a:=by
 simp only [IntKind.wrap,IntKind.bits,IntKind.signed];simp;split <;> omega
theorem Yl.Ui(A:ρ x= .int .i64 m)(K:ρ y= .int .i64 m')(hb: -9223372036854775808≤m+m'∧m+m'≤9223372036854775807):Yl P ⟨d,.binOp .add t x y u,ty,p,af,g⟩ ρ s (.int .i64 (m+m')):=by
 have:=Yl.add (P:=P) (s:=s) (d:=d) (t:=t) (u:=u) (ty:=ty) (p:=p) (af:=af) (g:=g) A K;rwa [Gc hb] at this
theorem Yl.Up(A:ρ x= .int .i64 m)(K:ρ y= .int .i64 m')(hb: -9223372036854775808≤m - m'∧m - m'≤9223372036854775807):Yl P ⟨d,.binOp .sub t x y u,ty,p,af,g⟩ ρ s (.int .i64 (m - m')):=by
 have:=Yl.sub (P:=P) (s:=s) (d:=d) (t:=t) (u:=u) (ty:=ty) (p:=p) (af:=af) (g:=g) A K;rwa [Gc hb] at this
theorem Yl.Uo(A:ρ x= .int .i64 m)(K:ρ y= .int .i64 m')(hb: -9223372036854775808≤m*m'∧m*m'≤9223372036854775807):Yl P ⟨d,.binOp .mul t x y u,ty,p,af,g⟩ ρ s (.int .i64 (m*m')):=by
 have:=Yl.mul (P:=P) (s:=s) (d:=d) (t:=t) (u:=u) (ty:=ty) (p:=p) (af:=af) (g:=g) A K;rwa [Gc hb] at this
theorem Yl.rem(A:ρ x= .int kd m)(K:ρ y= .int kd m')(O:m'≠0):Yl P ⟨d,.binOp .rem t x y u,ty,p,af,g⟩ ρ s (.int kd (m.tmod m')):=by
 simp [Yl,execOp,lp,pure,bind,Sem.bind,A,K,eqGuard,Go.binOp,Op.intDiv,O]
theorem Yl.quo(A:ρ x= .int kd m)(K:ρ y= .int kd m')(O:m'≠0):Yl P ⟨d,.binOp .quo t x y u,ty,p,af,g⟩ ρ s (.int kd (kd.wrap (m.tdiv m'))):=by
 simp [Yl,execOp,lp,pure,bind,Sem.bind,A,K,eqGuard,Go.binOp,Op.intDiv,O]
theorem Yl.and(A:ρ x= .int kd m)(K:ρ y= .int kd m'):Yl P ⟨d,.binOp .and t x y u,ty,p,af,g⟩ ρ s (.int kd (kd.wrap (BitVec.ofInt kd.bits m&&& BitVec.ofInt kd.bits m').toNat)):=by
 simp [Yl,execOp,lp,pure,bind,Sem.bind,A,K,eqGuard,Go.binOp,Op.intBits]
theorem Yl.or(A:ρ x= .int kd m)(K:ρ y= .int kd m'):Yl P ⟨d,.binOp .or t x y u,ty,p,af,g⟩ ρ s (.int kd (kd.wrap (BitVec.ofInt kd.bits m ||| BitVec.ofInt kd.bits m').toNat)):=by
 simp [Yl,execOp,lp,pure,bind,Sem.bind,A,K,eqGuard,Go.binOp,Op.intBits]
theorem Yl.xor(A:ρ x= .int kd m)(K:ρ y= .int kd m'):Yl P ⟨d,.binOp .xor t x y u,ty,p,af,g⟩ ρ s (.int kd (kd.wrap (BitVec.ofInt kd.bits m ^^^ BitVec.ofInt kd.bits m').toNat)):=by
 simp [Yl,execOp,lp,pure,bind,Sem.bind,A,K,eqGuard,Go.binOp,Op.intBits]
theorem Yl.shl(A:ρ x= .int kd m)(K:ρ y= .int kd' m')(O:0≤m'):Yl P ⟨d,.binOp .shl t x y u,ty,p,af,g⟩ ρ s (.int kd (kd.wrap (m*2 ^ (min m'.toNat kd.bits)))):=by
 have:¬m'<0:=by omega
 simp [Yl,execOp,lp,pure,bind,Sem.bind,A,K,eqGuard,Go.binOp,Op.shift,this]
theorem Yl.shr(A:ρ x= .int kd m)(K:ρ y= .int kd' m')(O:0≤m'):Yl P ⟨d,.binOp .shr t x y u,ty,p,af,g⟩ ρ s (.int kd (m.fdiv (2 ^ (min m'.toNat kd.bits)))):=by
 have:¬m'<0:=by omega
 simp [Yl,execOp,lp,pure,bind,Sem.bind,A,K,eqGuard,Go.binOp,Op.shift,this]
theorem Yl.not{c:Bool}(A:ρ x= .bool c):Yl P ⟨d,.unOp .not t x,ty,p,af,g⟩ ρ s (.bool (!c)):=by
 simp [Yl,execOp,lp,pure,bind,Sem.bind,A,Op.unary]
theorem Yl.conv(ht:P.underlying t=some (.int kd'))(hu:P.underlying u=some (.int kd))(A:ρ x= .int kd' m):Yl P ⟨d,.convert t u x,ty,p,af,g⟩ ρ s (.int kd (kd.wrap m)):=by
 simp [Yl,execOp,lp,pure,bind,Sem.bind,A,Go.convert,underlying,program,ht,hu,Conv.intToInt]
theorem Yl.extract{vs:Array Value}{i:Nat}(A:ρ x= .tuple vs)(hi:vs[i]? =some v):Yl P ⟨d,.extract x i,ty,p,af,g⟩ ρ s v:=by
 simp [Yl,execOp,lp,pure,bind,Sem.bind,A,Instr.extract,hi]
theorem Yl.nilCheck{a:Addr}(A:ρ x= .pointer (some a)):Yl P ⟨d,.nilCheck x,ty,p,af,g⟩ ρ s (.pointer (some a)):=by
 simp [Yl,execOp,lp,pure,A]
theorem Yl.len{a:Option Addr}{e:TypeId}{l c:Nat}{ats:Array TypeId}(A:ats[0]? =some t)(ht:P.underlying t=some (.slice e))(K:ρ x= .slice a l c):
  Yl P ⟨d,.call ⟨.builtin .len,#[x],ats⟩,ty,p,af,g⟩ ρ s (.int .i64 l):=by
 simp [Yl,execOp,lp,pure,bind,Sem.bind,K,resolve,invoke,builtin,Builtin.len_,A,underlying,program,ht,goInt]
theorem Yl.Di{A:TypeDesc}(ht:P.underlying t=some A)(K:∀ms,A≠ .interface ms)(O:ρ x=v):Yl P ⟨d,.makeInterface t x,ty,p,af,g⟩ ρ s (.iface t v):=by
 have:lp P (Instr.makeInterface t v) s (fun r s'=>r= .iface t v∧s'=s) (fun _ _=>False):=by
  unfold Instr.makeInterface;simp only [lp,bind,Sem.bind,underlying,program,ht];cases A <;> first | exact⟨rfl,rfl⟩ | exact absurd rfl (K _)
 simp only [Yl,execOp,O];exact AB _ _ (B8 _ this (fun r s' ⟨U,Z⟩=>⟨by rw [U],Z⟩) (fun _ _ h=>h))
theorem Yl.Gm{fn:Fn}{a c:Array Operand}{A K:Array Value}(O:a.map ρ=A)(U:c.map ρ=K):Yl P ⟨d,.makeFunc fn a c,ty,p,af,g⟩ ρ s (.func fn A K):=by
 simp [Yl,execOp,lp,pure,bind,Sem.bind,Instr.makeFunc,O,U]
end
attribute [irreducible] Yl
end Pal
namespace Pal
open Go Go.Conc
def Le(E E':LH):Prop:=∀b o,E b=some o→E' b=some o
theorem Le.refl(E:LH):Le E E:=fun _ _ h=>h
theorem Le.trans{E E' A:LH}(h:Le E E')(k:Le E' A):Le E A:=fun b o x=>k b o (h b o x)
def AU:List (Nat×Obj)→LH→LH
 | [],H=>H
 | (b,o)::B,H=>fun x=>if x=b then some o else AU B H x
def mk(E H:LH)(B:List (Nat×Obj)):St:=⟨E,AU B H,false⟩
def Nd(E H:LH):List (Nat×Obj)→Prop
 | []=>True
 | (b,_)::B=>E b=none∧H b=none∧(∀p∈B,p.1≠b)∧Nd E H B
theorem LJ{H:LH}{b:Nat}:∀{B:List (Nat×Obj)},H b=none→(∀p∈B,p.1≠b)→AU B H b=none
 | [],h,_=>h
 | (c,o)::B,h,hb=>by
  have A:b≠c:=fun e=>hb (c,o) (by simp) e.symm
  simp only [AU,if_neg A]
  exact LJ h fun p K=>hb p (List.mem_cons_of_mem _ K)
theorem EA{H:LH}{b:Nat}:∀{B:List (Nat×Obj)},AU B H b=none→H b=none∧∀p∈B,p.1≠b
 | [],h=>⟨h,by simp⟩
 | (c,o)::B,h=>by
  simp only [AU] at h
  split at h
  ·cases h
  ·rename_i K;obtain⟨O,U⟩:=EA h;refine⟨O,fun p A=>?_⟩;rcases List.mem_cons.1 A with rfl | A
   ·exact fun e=>K e.symm
   ·exact U p A
theorem LA{H:LH}{x:Nat}{o:Obj}{r:Nat}:∀{B:List (Nat×Obj)},(∀p∈B,p.1≠r)→AU (B++ [(r,o)]) H x=if x=r then some o else AU B H x
 | [],_=>rfl
 | (c,u)::B,h=>by
  simp only [List.cons_append,AU]
  by_cases e:x=c
  ·subst e
   have:x≠r:=fun e=>h (x,u) (by simp) e;simp [this]
  ·simp only [if_neg e];exact LA fun p A=>h p (List.mem_cons_of_mem _ A)
theorem Nd.append{E H:LH}{r:Nat}{o:Obj}(K:E r=none)(O:H r=none):∀{B:List (Nat×Obj)},(∀p∈B,p.1≠r)→Nd E H B→Nd E H (B++ [(r,o)])
 | [],_,_=>⟨K,O,by simp,trivial⟩
 | (c,u)::B,h,U=>by
  obtain⟨Z,aa,ab,ac⟩:=U
  refine⟨Z,aa,fun p A=>?_,Nd.append K O (fun p A=>h p (List.mem_cons_of_mem _ A)) ac⟩
  rcases List.mem_append.1 A with A | A
  ·exact ab p A
  ·simp at A;subst A;exact fun e=>h (c,u) (by simp) e.symm
theorem FY{E H:LH}{b:Nat}{o:Obj}:∀{B:List (Nat×Obj)} {i:Nat},Nd E H B→B[i]? =some (b,o)→AU B H b=some o
 | [],_,_,h=>by simp at h
 | (c,u)::B,0,_,h=>by simp at h;obtain⟨rfl,rfl⟩:=h;simp [AU]
 | (c,u)::B,i+1,A,h=>by
  simp at h
  have K:b≠c:=A.2.2.1 (b,o) (List.mem_of_getElem? h)
  simp only [AU,if_neg K]
  exact FY A.2.2.2 h
theorem L5{E H:LH}{b:Nat}{o o':Obj}:∀{B:List (Nat×Obj)} {i:Nat},Nd E H B→B[i]? =some (b,o)→AU (B.set i (b,o')) H=fun x=>if x=b then some o' else AU B H x
 | [],_,_,h=>by simp at h
 | (c,u)::B,0,_,h=>by
  simp at h;obtain⟨rfl,rfl⟩:=h
  funext x
  simp only [List.set_cons_zero,AU]
  split <;> rfl
 | (c,u)::B,i+1,A,h=>by
  simp at h
  have K:b≠c:=A.2.2.1 (b,o) (List.mem_of_getElem? h)
  funext x
  simp only [List.set_cons_succ,AU]
  rw [L5 A.2.2.2 h]
  by_cases e:x=c
  ·subst e;simp [Ne.symm K]
  ·simp [e]
theorem Nd.set{E H:LH}{b:Nat}{o o':Obj}:∀{B:List (Nat×Obj)} {i:Nat},Nd E H B→B[i]? =some (b,o)→Nd E H (B.set i (b,o'))
 | [],_,_,h=>by simp at h
 | (c,u)::B,0,A,h=>by simp at h;obtain⟨rfl,rfl⟩:=h;exact A
 | (c,u)::B,i+1,A,h=>by
  simp at h
  refine⟨A.1,A.2.1,fun p K=>?_,A.2.2.2.set h⟩
  have hm:=List.mem_or_eq_of_mem_set K
  rcases hm with hm | rfl
  ·exact A.2.2.1 p hm
  ·exact A.2.2.1 (b,o) (List.mem_of_getElem? h)
theorem Nd.M7{E H:LH}{b:Nat}{o:Obj}:∀{B:List (Nat×Obj)} {i:Nat},Nd E H B→B[i]? =some (b,o)→E b=none
 | [],_,_,h=>by simp at h
 | (c,u)::B,0,A,h=>by simp at h;obtain⟨rfl,rfl⟩:=h;exact A.1
 | (c,u)::B,i+1,A,h=>by simp at h;exact Nd.M7 A.2.2.2 h
theorem JU{E H:LH}{B:List (Nat×Obj)}{i b:Nat}{o:Obj}(A:Nd E H B)(h:B[i]? =some (b,o)):(mk E H B).get b=some o:=by
 unfold St.get mk;simp only [A.M7 h,FY A h]
theorem Pf{E H:LH}{B:List (Nat×Obj)}{b:Nat}{o:Obj}(h:E b=some o):(mk E H B).get b=some o:=by
 unfold St.get mk;simp only [h]
theorem Mo{E H:LH}{B:List (Nat×Obj)}{i b off:Nat}{c:Array Value}{e:TypeId}{f:Nat×Nat}{v:Value}(A:Nd E H B)(h:B[i]? =some (b,.cells c e f))(K:c[off]? =some v):(mk E H B).cell? ⟨b,off,none⟩=some v:=by
 unfold St.cell?;rw [JU A h];exact K
theorem P3{E H:LH}{B:List (Nat×Obj)}{b off:Nat}{c:Array Value}{e:TypeId}{f:Nat×Nat}{v:Value}(h:E b=some (.cells c e f))(A:c[off]? =some v):(mk E H B).cell? ⟨b,off,none⟩=some v:=by
 unfold St.cell?;rw [Pf h];exact A
section
variable {P:Program}{J:Judge P}{Q:Goroutine→St→Prop}{b:Frame}{n:Nat}{L L':Env}{ds:List Deferred}{k:List Item}{cs:List Frame}{E H:LH}{B B':List (Nat×Obj)}
theorem Gf{r:Nat}(K:(mk E H B).E r=none)(O:(mk E H B).H r=none)(o:Obj)(U:Nd E H B):Nd E H (B++ [(r,o)])∧(mk E H B).upd r o=mk E H (B++ [(r,o)]):=by
 obtain⟨Z,A⟩:=EA O;refine⟨Nd.append K Z A U,?_⟩;unfold St.upd mk;congr 1;funext x;exact(LA A).symm
theorem Tl{i A:Nat}{o o':Obj}(K:Nd E H B)(h:B[i]? =some (A,o)):(mk E H B).upd A o'=mk E H (B.set i (A,o')):=by
 unfold St.upd mk;congr 1;exact(L5 K h).symm
theorem JL.drop(B':List (Nat×Obj))(h:∀p∈B',∃i:Nat,B[i]? =some p)(O:Nd E H B)(k':JL J Q b n L ds k cs (mk E H B')):JL J Q b n L ds k cs (mk E H B):=
 JL.ghost (s':=mk E H B') ⟨fun _ _ h=>h,fun x o K=>by
  show AU B H x=some o
  have key:∀{B':List (Nat×Obj)},(∀p∈B',∃i:Nat,B[i]? =some p)→AU B' H x=some o→AU B H x=some o:=by
   intro B'
   induction B' with
   | nil=>
    intro _ K
    have ac:∀p∈B,p.1≠x:=by
     intro p A e
     have:∀{B:List (Nat×Obj)},Nd E H B→p∈B→H p.1=none:=by
      intro B O A
      induction B with
      | nil=>simp at A
      | cons q B U=>
       rcases List.mem_cons.1 A with rfl | A
       ·exact O.2.1
       ·exact U O.2.2.2 A
     have aa:=this O A
     rw [e] at aa
     have ab:H x=some o:=K
     rw [aa] at ab;cases ab
    have:∀{B:List (Nat×Obj)},(∀p∈B,p.1≠x)→AU B H x=H x:=by
     intro B Z
     induction B with
     | nil=>rfl
     | cons q B U=>
      have ae:x≠q.1:=fun e=>Z q (by simp) e.symm
      obtain⟨c,u⟩:=q
      simp only [AU,if_neg ae]
      exact U fun p A=>Z p (List.mem_cons_of_mem _ A)
    rw [this ac];exact K
   | cons q B' U=>
    intro Z K
    obtain⟨c,u⟩:=q
    simp only [AU] at K
    split at K
    ·rename_i e;subst e;cases K
     obtain⟨i,hi⟩:=Z (x,o) (by simp)
     exact FY O hi
    ·exact U (fun p A=>Z p (List.mem_cons_of_mem _ A)) K
  exact key h K,fun _ _ h=> .inl h,rfl⟩ k'
theorem JI{x:Nat}:∀{B:List (Nat×Obj)} {i:Nat} {K:Nat} {o u:Obj},Nd E H B→B[i]? =some (K,o)→AU (B.eraseIdx i) H x=some u→x≠K∧AU B H x=some u
 | [],_,_,_,_,_,h,_=>by simp at h
 | (c,v)::B,0,K,o,u,O,h,A=>by
  simp at h;obtain⟨rfl,rfl⟩:=h
  simp only [List.eraseIdx_cons_zero] at A
  have U:x≠c:=by
   intro e;subst e;rw [LJ O.2.1 O.2.2.1] at A;cases A
  exact⟨U,by simp only [AU,if_neg U];exact A⟩
 | (c,v)::B,i+1,K,o,u,O,h,A=>by
  simp at h;simp only [List.eraseIdx_cons_succ,AU] at A ⊢;split at A
  ·rename_i e;subst e;rw [if_pos rfl];exact⟨fun e=>O.2.2.1 (K,o) (List.mem_of_getElem? h) e.symm,A⟩
  ·rename_i e;rw [if_neg e];exact JI O.2.2.2 h A
theorem JL.freeze(i:Nat){K:Nat}{o:Obj}(A:Nd E H B)(h:B[i]? =some (K,o))
  (k':∀E',Le E E'→E' K=some o→Nd E' H (B.eraseIdx i)→JL J Q b n L ds k cs (mk E' H (B.eraseIdx i))):JL J Q b n L ds k cs (mk E H B):=by
 have ah:=List.mem_of_getElem? h;have ai:E K=none∧H K=none:=by
  have:∀{B:List (Nat×Obj)},Nd E H B→(K,o)∈B→E K=none∧H K=none:=by
   intro B A O
   induction B with
   | nil=>simp at O
   | cons q B Z=>
    rcases List.mem_cons.1 O with rfl | O
    ·exact⟨A.1,A.2.1⟩
    ·exact Z A.2.2.2 O
  exact this A ah
 let E':LH:=fun x=>if x=K then some o else E x
 have ac:E' K=some o:=by simp [E']
 have hle:Le E E':=fun x u U=>by
  have:x≠K:=fun e=>by subst e;rw [ai.1] at U;cases U
  simp [E',this,U]
 have aj:Nd E' H (B.eraseIdx i):=by
  have:∀{B:List (Nat×Obj)} {i:Nat},Nd E H B→B[i]? =some (K,o)→Nd E' H (B.eraseIdx i)∧∀p∈B.eraseIdx i,p.1≠K:=by
   intro B
   induction B with
   | nil=>intro i _ h;simp at h
   | cons q B Z=>
    obtain⟨c,v⟩:=q;intro i A h;have up:∀{B:List (Nat×Obj)},Nd E H B→(∀p∈B,p.1≠K)→Nd E' H B:=by
     intro B A ae
     induction B with
     | nil=>trivial
     | cons q B ak=>exact⟨by simpa [E',ae q (by simp)] using A.1,A.2.1,A.2.2.1,ak A.2.2.2 fun p O=>ae p (List.mem_cons_of_mem _ O)⟩
    cases i with
    | zero=>
     simp at h;obtain⟨rfl,rfl⟩:=h;exact⟨up A.2.2.2 A.2.2.1,A.2.2.1⟩
    | succ i=>
     simp at h;obtain⟨aa,ab⟩:=Z A.2.2.2 h;have ag:c≠K:=fun e=>A.2.2.1 (K,o) (List.mem_of_getElem? h) e.symm;refine⟨⟨by simpa [E',ag] using A.1,A.2.1,fun p O=>A.2.2.1 p (List.mem_of_mem_eraseIdx O),aa⟩,fun p O=>?_⟩;rcases List.mem_cons.1 O with rfl | O
     ·exact ag
     ·exact ab p O
  exact(this A h).1
 refine JL.ghost (s':=mk E' H (B.eraseIdx i)) ⟨fun x u U=>hle x u U,fun x u U=>(JI A h U).2,fun x u U=>?_,rfl⟩ (k' E' hle ac aj);by_cases e:x=K
 ·subst e;right;have:u=o:=by have:E' x=some u:=U;rw [ac] at this;exact(Option.some.inj this).symm
  subst this;refine⟨FY A h,?_⟩;cases al:(mk E' H (B.eraseIdx i)).H x with
  | none=>rfl
  | some y=>exact absurd rfl (JI A h al).1
 ·left;have aa:E' x=some u:=U;have ab:E' x=E x:=by simp [E',e]
  show E x=some u;rw [← ab];exact aa
def Fn(P:Program)(f:FuncId)(args:Array Value)(s:St)(R:Value→St→Prop):Prop:=
 ∀(J:Judge P) (Q:Goroutine→St→Prop) (c:Frame) (cs:List Frame),(∀v s',R v s'→J.ok Q (G (c.finish v) cs) s')→J.ok Q (G (Frame.enter P f args .normal) (c::cs)) s
def Cx(P:Program)(f:FuncId):Bool:=match P.funcs[f]? with | some fn=> !(fn.name== "runtime.NumGoroutine")&&fn.body.isSome | none=>false
def evs(L:Env):List Operand→Option (List Value)
 | []=>some []
 | x::xs=>match ev L x,evs L xs with | some v,some vs=>some (v::vs) | _,_=>none
theorem DW{L:Env}{ρ:Operand→Value}(h:CU L ρ):∀{xs:List Operand} {vs:List Value},evs L xs=some vs→xs.map ρ=vs
 | [],vs,e=>by simp [evs] at e;subst e;rfl
 | x::xs,vs,e=>by
  simp only [evs] at e
  split at e
  ·rename_i v ws A K
   cases e;rw [List.map_cons,h x v A,DW h K]
  ·cases e
theorem GC{f:FuncId}{args:Array Value}{s:St}{Q:Next→St→Prop}{X:Halt→St→Prop}(A:Cx P f=true)(h:Q (.enter f args) s):lp P (callFunc f args) s Q X:=by
 unfold Cx at A;unfold callFunc;simp only [bind,Sem.bind,program,lp];cases K:P.funcs[f]? with
 | none=>rw [K] at A;cases A
 | some fn=>
  rw [K] at A;simp only [Bool.and_eq_true,Bool.not_eq_true'] at A;have hb:fn.body.isNone=false:=by cases O:fn.body <;> simp_all
  simp only [A.1,hb,Bool.false_eq_true,if_false];exact h
def Bx(P:Program)(f:FuncId)(L:Env)(n:Nat)(s:St)(v:Value):Prop:=∃fn,P.funcs[f]? =some fn∧∀T,Has n L T→lp P (results fn T) s (fun u s'=>u=v∧s'=s) (fun _ _=>False)
theorem Judge.leave{T:Array Value}{todo:List Item}{c:Frame}{s:St}{v:Value}{fn:Func}(U:b.kind= .normal)(Z:P.funcs[b.fn]? =some fn)(O:lp P (results fn T) s (fun u s'=>u=v∧s'=s) (fun _ _=>False))
  (h:J.ok Q (G (c.finish v) cs) s):J.ok Q (G (CN b T [] todo) (c::cs)) s:=by
 refine J.step ⟨rfl,fun w f=>?_,fun e=>?_⟩
 rotate_left
 ·subst e;obtain⟨es,he,ae,O⟩:=J4 _ O;have ag:seen P b.fn es= #[]:=JH ae;rcases O with⟨u,⟨rfl,_⟩,K⟩ | ⟨x,A,_⟩
  ·exact⟨_,fun w=>by simp [G,stepG,unwind,CN,Z,K,doReturn,U,GStep.after,he,ag],h⟩
  ·exact A.elim
 obtain⟨s',aa,ab,ac,A⟩:=Ij _ O f;cases K:(results fn T).run P w with
 | halt x w'=>rw [K] at A;exact A.elim
 | ok u w'=>
  rw [K] at aa ab ac A;obtain⟨rfl,rfl⟩:=A;exact⟨_,s',w',seen P b.fn ((results fn T).events P w #[])++ #[],by simp [G,stepG,unwind,CN,Z,K,doReturn,U,GStep.after],h,aa,ab,by simp only [Array.append_empty];exact Ke ac⟩
theorem JL.ret{s:St}{c:Frame}{v:Value}(K:b.kind= .normal)(O:b.roundOf=none)(A:Bx P b.fn L n s v)(h:J.ok Q (G (c.finish v) cs) s):JL J Q b n L [] (.code .ret::k) (c::cs) s:=fun T U=>by
 obtain⟨fn,Z,A⟩:=A
 refine Judge.B9 (g':=G (CN b T [] (.code .ret::k)) (c::cs)) rfl (fun w=>by simp [G,stepG,stepG.exec,fr,CN,O]) ?_
 exact Judge.leave K Z (A T U) h
theorem JL.fin{s:St}{c:Frame}{v:Value}(K:b.kind= .normal)(O:b.roundOf=none)(A:Bx P b.fn L n s v)(h:J.ok Q (G (c.finish v) cs) s):JL J Q b n L [] [] (c::cs) s:=fun T U=>by
 obtain⟨fn,Z,A⟩:=A
 refine Judge.B9 (g':=G (CN b T [] []) (c::cs)) rfl (fun w=>by simp [G,stepG,stepG.exec,fr,CN,O]) ?_
 exact Judge.leave K Z (A T U) h
theorem Bx.one{f:FuncId}{fn:Func}{s:St}{t:Tmp}{v:Value}(A:P.funcs[f]? =some fn)(K:fn.results= #[.tmp t])(h:look L t=some v):Bx P f L n s v:=
 ⟨fn,A,fun T O=>by
  have e:results fn T=Sem.pure v:=by
   have:=O.at_ t v h
   simp only [results,K,Array.mapM_eq_mapM_toList]
   show Sem.pure (T.getD t undef)=_
   rw [this]
  rw [e];exact⟨rfl,rfl⟩⟩
theorem Bx.none{f:FuncId}{fn:Func}{s:St}(A:P.funcs[f]? =some fn)(K:fn.results= #[]):Bx P f L n s (.tuple #[]):=
 ⟨fn,A,fun T O=>by
  have e:results fn T=Sem.pure (.tuple #[]):=by
   simp only [results,K,Array.mapM_eq_mapM_toList]
   rfl
  rw [e];exact⟨rfl,rfl⟩⟩
def DZ:Nat→List Value→Env
 | _,[]=> []
 | i,v::vs=>(i,v)::DZ (i+1) vs
theorem GF{i:Nat}{vs:List Value}{t:Nat}{v:Value}(h:look (DZ i vs) t=some v):i≤t∧vs[t - i]? =some v:=by
 induction vs generalizing i with
 | nil=>simp [DZ,look] at h
 | cons u vs A=>
  simp only [DZ,look] at h;split at h
  ·rename_i e;subst e;cases h;simp
  ·rename_i O;obtain⟨U,K⟩:=A h;refine⟨by omega,?_⟩;have:t - i=(t - (i+1))+1:=by omega
   rw [this];simpa using K
end
end Pal
namespace Pal
open Go Go.Conc
def Bq(P:Program)(t:TypeId):Option Nat:=(P.info? t).map (·.size)
def CH(P:Program)(t:TypeId):Option Bool:=match P.underlying t with | some (.struct _)=>some true | some (.array _ _)=>some true | some _=>some false | none=>none
def zeroOf(P:Program)(t:TypeId):Option Value:=(P.info? t).bind (·.zero)
section
variable {P:Program}{s:St}{t:TypeId}
theorem Dg{A:Nat}{Q:Nat→St→Prop}{X:Halt→St→Prop}(h:Bq P t=some A)(k:Q A s):lp P (Go.sizeOf t) s Q X:=by
 unfold Bq at h;simp only [Go.sizeOf,typeInfo,bind,Sem.bind,program,lp];cases hi:P.info? t with
 | none=>rw [hi] at h;cases h
 | some i=>rw [hi] at h;simp at h;subst h;exact k
theorem D7{z:Value}{Q:Value→St→Prop}{X:Halt→St→Prop}(h:zeroOf P t=some z)(k:Q z s):lp P (zeroValue t) s Q X:=by
 unfold zeroOf at h;simp only [zeroValue,typeInfo,bind,Sem.bind,program,lp];cases hi:P.info? t with
 | none=>rw [hi] at h;cases h
 | some i=>
  rw [hi] at h;simp at h;show lp P (match i.zero with | some v=>pure v | none=>unsupported _) s Q X
  rw [h];exact k
theorem Hq{c:Bool}{Q:Bool→St→Prop}{X:Halt→St→Prop}(h:CH P t=some c)(k:Q c s):lp P (isAgg t) s Q X:=by
 unfold CH at h;simp only [isAgg,underlying,bind,Sem.bind,program,lp];cases hu:P.underlying t with
 | none=>rw [hu] at h;cases h
 | some u=>
  rw [hu] at h;cases u <;> simp at h <;> subst h <;> exact k
theorem Cd{u:TypeDesc}{Q:TypeDesc→St→Prop}{X:Halt→St→Prop}(h:P.underlying t=some u)(k:Q u s):lp P (underlying t) s Q X:=by
 simp only [underlying,bind,Sem.bind,program,lp,h];exact k
theorem MZ{a:Addr}{v:Value}{Q:Value→St→Prop}{X:Halt→St→Prop}(h:s.cell? a=some v)(k:Q v s):lp P (load a) s Q X:=⟨rfl,v,h,k⟩
theorem Ls{a:Addr}{Q:Array Value→St→Prop}{X:Halt→St→Prop}:∀(vs:List Value) (i:Nat) (acc:Array Value),(∀j v,vs[j]? =some v→s.cell? (a.add (i+j))=some v)→Q (acc++vs.toArray) s→lp P (loadCellsFrom a i vs.length acc) s Q X
 | [],i,acc,_,k=>by simpa [loadCellsFrom,lp,pure] using k
 | v::vs,i,acc,h,k=>by
  simp only [List.length_cons,loadCellsFrom]
  refine AB _ _ (MZ (h 0 v rfl) ?_)
  refine Ls vs (i+1) (acc.push v) (fun j u A=>?_) (by simpa using k)
  have:=h (j+1) u (by simpa using A)
  rwa [show i+1+j=i+(j+1) from by omega]
theorem Lw{a:Addr}{vs:List Value}{m:Nat}{Q:Array Value→St→Prop}{X:Halt→St→Prop}(hm:m=vs.length)(h:∀j v,vs[j]? =some v→s.cell? (a.add j)=some v)(k:Q vs.toArray s):lp P (loadCells a m) s Q X:=by
 subst hm;exact Ls vs 0 #[] (fun j v A=>by simpa using h j v A) (by simpa using k)
theorem Po{a:Addr}{v:Value}{Q:Value→St→Prop}{X:Halt→St→Prop}(ht:CH P t=some false)(h:s.cell? a=some v)(k:Q v s):lp P (loadVar t a) s Q X:=by
 unfold loadVar;refine AB _ _ (Hq ht ?_);exact MZ h k
theorem LD{a:Addr}{vs:List Value}{Q:Value→St→Prop}{X:Halt→St→Prop}(ht:CH P t=some true)(A:Bq P t=some vs.length)(h:∀j v,vs[j]? =some v→s.cell? (a.add j)=some v)(k:Q (.agg vs.toArray) s):lp P (loadVar t a) s Q X:=by
 unfold loadVar;refine AB _ _ (Hq ht ?_);show lp P (do let r ← loadCells a (← Go.sizeOf t);pure (Value.agg r)) s Q X
 refine AB (x:=Go.sizeOf t) _ (Dg A ?_);refine AB _ _ (Lw rfl h ?_);exact k
end
section
variable {P:Program}{ρ:Operand→Value}{s:St}{x y z:Operand}{d:Option Tmp}{t u ty e:TypeId}{p:String}{af:Array Edge}{g:Option (Nat×Bool)}{v:Value}{kd kd':IntKind}{m m':Int}
theorem Yl.Ds{o:Oper}{sm:Sem Value}(A:execOp ρ o=(do pure (Next.value (← sm))))(h:lp P sm s (fun r s'=>r=v∧s'=s) (fun _ _=>False)):Yl P o ρ s v:=by
 unfold Yl;rw [A];exact AB _ _ (B8 _ h (fun r s' ⟨K,O⟩=>⟨by rw [K],O⟩) (fun _ _ h=>h))
theorem Yl.load{a:Addr}(ht:CH P t=some false)(A:ρ x= .pointer (some a))(h:s.cell? a=some v):Yl P ⟨d,.load t x,ty,p,af,g⟩ ρ s v:=
 Yl.Ds (sm:=Instr.loadAt t (ρ x)) rfl (by rw [A];exact Po ht h ⟨rfl,rfl⟩)
theorem Yl.Bs{a:Addr}{vs:List Value}(ht:CH P t=some true)(A:Bq P t=some vs.length)(K:ρ x= .pointer (some a))(h:∀j v,vs[j]? =some v→s.cell? (a.add j)=some v):Yl P ⟨d,.load t x,ty,p,af,g⟩ ρ s (.agg vs.toArray):=
 Yl.Ds (sm:=Instr.loadAt t (ρ x)) rfl (by rw [K];exact LD ht A h ⟨rfl,rfl⟩)
theorem Yl.fieldAddr{a:Addr}{A:Array Field}{i:Nat}{fl:Field}{K:Nat}(ht:P.underlying t=some (.struct A))(hi:A[i]? =some fl)(O:Bq P fl.type=some (K+1))(U:ρ x= .pointer (some a)):
  Yl P ⟨d,.fieldAddr t x i,ty,p,af,g⟩ ρ s (.pointer (some (a.add fl.offset))):=
 Yl.Ds (sm:=Instr.fieldAt t (ρ x) i) rfl (by
  rw [U];unfold Instr.fieldAt
  refine AB _ _ (Cd ht ?_)
  simp only [hi,Instr.sureAddr,bind,Sem.bind,pure]
  refine AB (x:=fieldPlace a fl) _ ?_
  unfold fieldPlace
  refine AB _ _ (Dg O ?_)
  simp only [Nat.add_eq_zero_iff,Nat.succ_ne_self,and_false,if_false,lp,pure]
  exact⟨trivial,trivial⟩)
theorem Yl.IZ{a:Addr}{l c A:Nat}(ht:P.underlying t=some (.slice e))(K:Bq P e=some A)(O:ρ x= .slice (some a) l c)(U:ρ y= .int kd m)(h:0≤m∧m<l):
  Yl P ⟨d,.indexAddr t x y,ty,p,af,g⟩ ρ s (.pointer (some (a.add (m.toNat*A)))):=
 Yl.Ds (sm:=Instr.indexAt t (ρ x) (ρ y)) rfl (by
  rw [O,U];unfold Instr.indexAt
  simp only [asIntOf,bind,Sem.bind,pure]
  refine AB (x:=underlying t) _ (Cd ht ?_)
  simp only [Sem.bind]
  refine AB (x:=underlying t) _ (Cd ht ?_)
  simp only [Sem.bind,h,and_self,if_true]
  refine AB (x:=Go.sizeOf e) _ (Dg K ?_)
  exact⟨rfl,rfl⟩)
theorem Yl.NA{a:Addr}{l A:Nat}(ht:P.underlying t=some (.array l e))(K:Bq P e=some A)(O:ρ x= .pointer (some a))(U:ρ y= .int kd m)(h:0≤m∧m<l):
  Yl P ⟨d,.indexAddr t x y,ty,p,af,g⟩ ρ s (.pointer (some (a.add (m.toNat*A)))):=
 Yl.Ds (sm:=Instr.indexAt t (ρ x) (ρ y)) rfl (by
  rw [O,U];unfold Instr.indexAt
  simp only [asIntOf,bind,Sem.bind,pure]
  refine AB (x:=underlying t) _ (Cd ht ?_)
  simp only [Sem.bind,Instr.sureAddr,pure]
  refine AB (x:=underlying t) _ (Cd ht ?_)
  simp only [Sem.bind,h,and_self,if_true]
  refine AB (x:=Go.sizeOf e) _ (Dg K ?_)
  exact⟨rfl,rfl⟩)
end
section
variable {P:Program}{J:Judge P}{Q:Goroutine→St→Prop}{b:Frame}{n:Nat}{L L':Env}{ds:List Deferred}{k:List Item}{cs:List Frame}{E H:LH}{B B':List (Nat×Obj)}
variable {ops:Array Oper}{i:Nat}{rest:List Nat}{d:Option Tmp}{x y:Operand}{t u ty e:TypeId}{p:String}{af:Array Edge}{g:Option (Nat×Bool)}{v:Value}
theorem EX{cells:Array Value}{Q:Addr→St→Prop}{X:Halt→St→Prop}(A:Nd E H B)(k:∀r,Nd E H (B++ [(r,.cells cells e (0,0))])→Q ⟨r,0,none⟩ (mk E H (B++ [(r,.cells cells e (0,0))]))):lp P (newRow e cells) (mk E H B) Q X:=by
 simp only [newRow,newObj,bind,Sem.bind,lp,pure];refine⟨rfl,fun r K O=>?_⟩;obtain⟨U,Z⟩:=Gf K O (.cells cells e (0,0)) A;rw [Z];exact k r U
theorem JL.alloc{z:Value}(A:ops[i]? =some ⟨d,.alloc e,ty,p,af,g⟩)(hw:AT L ops ⟨d,.alloc e,ty,p,af,g⟩=some true)(K:BR b n ⟨d,.alloc e,ty,p,af,g⟩=true)(O:Nd E H B)(U:zeroOf P e=some z)
  (h:∀r,Nd E H (B++ [(r,.cells z.cells e (0,0))])→JL J Q b n (AJ L d (.pointer (some ⟨r,0,none⟩))) ds (.inRegion ops rest::k) cs (mk E H (B++ [(r,.cells z.cells e (0,0))]))):
  JL J Q b n L ds (.inRegion ops (i::rest)::k) cs (mk E H B):=
 JL.op A hw K fun ρ _=>by
  show lp P (do pure (Next.value (← Instr.alloc e true (.tuple #[])))) _ _ _
  refine AB _ _ ?_
  unfold Instr.alloc
  refine AB _ _ (D7 U ?_)
  refine AB _ _ (EX O fun r Z=>?_)
  exact h r Z
theorem JL.box(A:ops[i]? =some ⟨d,.box e x,ty,p,af,g⟩)(hw:AT L ops ⟨d,.box e x,ty,p,af,g⟩=some true)(K:BR b n ⟨d,.box e x,ty,p,af,g⟩=true)(O:Nd E H B)(U:ev L x=some v)
  (h:∀r,Nd E H (B++ [(r,.cells v.cells e (0,0))])→JL J Q b n (AJ L d (.pointer (some ⟨r,0,none⟩))) ds (.inRegion ops rest::k) cs (mk E H (B++ [(r,.cells v.cells e (0,0))]))):
  JL J Q b n L ds (.inRegion ops (i::rest)::k) cs (mk E H B):=
 JL.op A hw K fun ρ Z=>by
  show lp P (do pure (Next.value (← Instr.box e (ρ x)))) _ _ _
  rw [Z x v U]
  refine AB _ _ ?_
  unfold Instr.box
  refine AB _ _ (EX O fun r aa=>?_)
  exact h r aa
def A5(c:Array Value)(off:Nat):List Value→Array Value
 | []=>c
 | v::vs=>A5 (c.setIfInBounds off v) (off+1) vs
theorem JX(c:Array Value)(off:Nat)(vs:List Value):(A5 c off vs).size=c.size:=by
 induction vs generalizing c off with
 | nil=>rfl
 | cons v vs A=>simp [A5,A]
theorem JE{A:Nat}{Q:Unit→St→Prop}{X:Halt→St→Prop}{pl off:Nat}{sp:Option Nat}:∀(vs:List Value) (j:Nat) (c:Array Value) (B:List (Nat×Obj)),(∀v∈vs,BB v=true)→Nd E H B→B[pl]? =some (A,.cells c e (0,0))→off+j+vs.length≤c.size→(sp=none∨0<j)→
  (∀B',B'=B.set pl (A,.cells (A5 c (off+j) vs) e (0,0))→Nd E H B'→Q () (mk E H B'))→lp P (storeCells ⟨A,off,sp⟩ vs j) (mk E H B) Q X
 | [],j,c,B,_,O,K,_,_,k=>by
  simp only [storeCells,lp,pure]
  refine k B ?_ O
  simp only [A5]
  exact(List.ext_getElem? fun i=>by
   by_cases hi:pl=i
   ·subst hi
    obtain⟨aa,ab⟩:=List.getElem?_eq_some_iff.1 K
    simp [aa,ab]
   ·simp [hi])
 | v::vs,j,c,B,U,O,K,hle,Z,k=>by
  simp only [storeCells,List.length_cons] at*
  have ac:off+j<c.size:=by omega
  have ae:(Addr.add ⟨A,off,sp⟩ j)=⟨A,off+j,none⟩:=by
   unfold Addr.add;split
   ·rename_i ag;subst ag;rcases Z with rfl | Z
    ·rfl
    ·omega
   ·rfl
  have ah:(cellAt (.cells c e (0,0)) ⟨A,off+j,none⟩).isSome=true:=by simp [cellAt,ac]
  refine AB (x:=store (Addr.add ⟨A,off,sp⟩ j) v) _ ?_;rw [ae];refine⟨rfl,U v (by simp),_,FY O K,ah,by simp [frozenAt],?_⟩;simp only [lp];have ai:Gn (.cells c e (0,0)) ⟨A,off+j,none⟩ v= .cells (c.setIfInBounds (off+j) v) e (0,0):=by simp [Gn]
  rw [ai,Tl O K];have aj:(B.set pl (A,.cells (c.setIfInBounds (off+j) v) e (0,0)))[pl]? =some (A,.cells (c.setIfInBounds (off+j) v) e (0,0)):=by
   have:pl<B.length:=(List.getElem?_eq_some_iff.1 K).1;simp [this]
  refine JE vs (j+1) _ _ (fun u hu=>U u (List.mem_cons_of_mem _ hu)) (O.set K) aj (by simp;omega) (.inr (by omega)) fun ak al am=>k ak ?_ am;rw [al,List.set_set];simp only [A5]
  rfl
theorem JM{A off pl:Nat}{c:Array Value}{Q:Unit→St→Prop}{X:Halt→St→Prop}(K:Bq P t=some v.cells.size)(O:∀u∈v.cells.toList,BB u=true)(U:Nd E H B)(Z:B[pl]? =some (A,.cells c e (0,0)))(hle:off+v.cells.size≤c.size)
  (k:Nd E H (B.set pl (A,.cells (A5 c off v.cells.toList) e (0,0)))→Q () (mk E H (B.set pl (A,.cells (A5 c off v.cells.toList) e (0,0))))):lp P (storeVar t ⟨A,off,none⟩ v) (mk E H B) Q X:=by
 unfold storeVar;refine AB _ _ (Dg K ?_);simp only [ne_eq,not_true_eq_false,if_false];refine JE v.cells.toList 0 c B O U Z (by simpa using hle) (.inl rfl) fun B' e aa=>?_;subst e;exact k aa
theorem JL.store{A off:Nat}{c:Array Value}(pl:Nat)(O:ops[i]? =some ⟨d,.store t x y,ty,p,af,g⟩)(hw:AT L ops ⟨d,.store t x y,ty,p,af,g⟩=some true)(U:BR b n ⟨d,.store t x y,ty,p,af,g⟩=true)(Z:Nd E H B)
  (aa:ev L x=some (.pointer (some ⟨A,off,none⟩))) (ab:ev L y=some v) (ac:Bq P t=some v.cells.size) (ae:∀u∈v.cells.toList,BB u=true) (ag:B[pl]? =some (A,.cells c e (0,0))) (hle:off+v.cells.size≤c.size)
  (h:Nd E H (B.set pl (A,.cells (A5 c off v.cells.toList) e (0,0)))→JL J Q b n (AJ L d undef) ds (.inRegion ops rest::k) cs (mk E H (B.set pl (A,.cells (A5 c off v.cells.toList) e (0,0))))):
  JL J Q b n L ds (.inRegion ops (i::rest)::k) cs (mk E H B):=
 JL.op O hw U fun ρ K=>by
  show lp P (do Instr.storeAt t (ρ x) (ρ y);pure Next.skip) _ _ _
  rw [K x _ aa,K y _ ab]
  refine AB _ _ ?_
  unfold Instr.storeAt
  simp only [Instr.sureAddr,bind,Sem.bind,pure]
  exact JM ac ae Z ag hle fun ah=>h ah
end
end Pal
namespace Pal
open Go Go.Conc
def C9(P:Program)(t:TypeId):Option Nat:=(P.info? t).map (·.bytes)
section
variable {P:Program}{J:Judge P}{Q:Goroutine→St→Prop}{b:Frame}{n:Nat}{L L':Env}{ds:List Deferred}{k:List Item}{cs:List Frame}{E H:LH}{B B':List (Nat×Obj)}{s:St}
variable {ops:Array Oper}{i:Nat}{rest:List Nat}{d:Option Tmp}{x y:Operand}{t u ty e:TypeId}{p:String}{af:Array Edge}{g:Option (Nat×Bool)}{v:Value}
theorem FT{inf:TypeInfo}{Q:TypeInfo→St→Prop}{X:Halt→St→Prop}(h:P.info? t=some inf)(k:Q inf s):lp P (typeInfo t) s Q X:=by
 simp only [typeInfo,bind,Sem.bind,program,lp,h];exact k
theorem Ih{A:Nat}(h:C9 P t=some A):∃inf,P.info? t=some inf∧inf.bytes=A:=by
 unfold C9 at h;cases hi:P.info? t with
 | none=>rw [hi] at h;cases h
 | some i=>rw [hi] at h;simp at h;exact⟨i,rfl,h⟩
theorem Fw{β:Type}{z y:Nat}{code:BoundsCode}{f:Nat→Sem β}{A:β→St→Prop}{X:Halt→St→Prop}(U:z≤y)(K:lp P (f z) s A X):lp P (Instr.sliceBound (.int .i64 z) y code>>=f) s A X:=by
 refine AB _ _ ?_;unfold Instr.sliceBound;have O:(0:Int)≤(z:Int)∧(z:Int)≤(y:Int):=⟨by omega,by omega⟩;simp only [asIntOf,bind,Sem.bind,pure];rw [if_pos O];simpa [lp] using K
theorem EV{α β:Type}(a:α)(f:α→Sem β):((pure a:Sem α)>>=f)=f a:=rfl
theorem TQ{l c:Nat}{X:Halt→St→Prop}:lp P (Instr.sliceBounds true l c none none none) s (fun r s'=>r=(0,l,c)∧s'=s) X:=by
 unfold Instr.sliceBounds;exact⟨rfl,rfl⟩
theorem TZ{l c:Nat}{lo:Nat}(A:lo≤l){X:Halt→St→Prop}:lp P (Instr.sliceBounds true l c (some (.int .i64 lo)) none none) s (fun r s'=>r=(lo,l,c)∧s'=s) X:=by
 simp only [Instr.sliceBounds,if_true,Option.isSome_none,Option.isSome_some,Bool.false_eq_true,if_false,EV];exact Fw A ⟨rfl,rfl⟩
theorem TY{l c:Nat}{hi:Nat}(hh:hi≤c){X:Halt→St→Prop}:lp P (Instr.sliceBounds true l c none (some (.int .i64 hi)) none) s (fun r s'=>r=(0,hi,c)∧s'=s) X:=by
 simp only [Instr.sliceBounds,if_true,Option.isSome_none,Option.isSome_some,Bool.false_eq_true,if_false,EV];exact Fw hh ⟨rfl,rfl⟩
theorem TR{l c:Nat}{lo hi:Nat}(hh:hi≤c)(A:lo≤hi){X:Halt→St→Prop}:lp P (Instr.sliceBounds true l c (some (.int .i64 lo)) (some (.int .i64 hi)) none) s (fun r s'=>r=(lo,hi,c)∧s'=s) X:=by
 have e:Instr.sliceBounds true l c (some (.int .i64 lo)) (some (.int .i64 hi)) none=(Instr.sliceBound (.int .i64 hi) c .sliceAcap>>=fun h=>Instr.sliceBound (.int .i64 lo) h .sliceB>>=fun l=>pure (l,h,c)):=by
  simp [Instr.sliceBounds]
 rw [e];exact Fw hh (Fw A ⟨rfl,rfl⟩)
theorem TX{l c:Nat}{hi mx:Nat}(hm:mx≤c)(hh:hi≤mx){X:Halt→St→Prop}:lp P (Instr.sliceBounds true l c none (some (.int .i64 hi)) (some (.int .i64 mx))) s (fun r s'=>r=(0,hi,mx)∧s'=s) X:=by
 simp only [Instr.sliceBounds,if_true,Option.isSome_none,Option.isSome_some,Bool.false_eq_true,if_false,EV];exact Fw hm (Fw hh ⟨rfl,rfl⟩)
theorem Ud{l c:Nat}{lo hi mx:Nat}(hm:mx≤c)(hh:hi≤mx)(A:lo≤hi){X:Halt→St→Prop}:lp P (Instr.sliceBounds true l c (some (.int .i64 lo)) (some (.int .i64 hi)) (some (.int .i64 mx))) s (fun r s'=>r=(lo,hi,mx)∧s'=s) X:=by
 simp only [Instr.sliceBounds,if_true,Option.isSome_none,Option.isSome_some,Bool.false_eq_true,if_false,EV];exact Fw hm (Fw hh (Fw A ⟨rfl,rfl⟩))
theorem Qe{l c lo hi mx:Nat}{U Z aa:Option Value}{X:Halt→St→Prop}
  (K:match aa with | some w=>w= .int .i64 mx | none=>mx=c) (A:match Z with | some w=>w= .int .i64 hi | none=>hi=l∧aa=none) (O:match U with | some w=>w= .int .i64 lo | none=>lo=0) (hm:mx≤c) (hh:hi≤mx) (ab:lo≤hi):
  lp P (Instr.sliceBounds true l c U Z aa) s (fun r s'=>r=(lo,hi,mx)∧s'=s) X:=by
 cases aa with
 | none=>
  cases Z with
  | none=>
   cases U with
   | none=>obtain rfl:mx=c:=K;obtain rfl:hi=l:=A.1;obtain rfl:lo=0:=O;exact TQ
   | some w=>obtain rfl:mx=c:=K;obtain rfl:hi=l:=A.1;obtain rfl:w= .int .i64 lo:=O;exact TZ ab
  | some w=>
   cases U with
   | none=>obtain rfl:mx=c:=K;obtain rfl:w= .int .i64 hi:=A;obtain rfl:lo=0:=O;exact TY hh
   | some w'=>obtain rfl:mx=c:=K;obtain rfl:w= .int .i64 hi:=A;obtain rfl:w'= .int .i64 lo:=O;exact TR hh ab
 | some w0=>
  cases Z with
  | none=>exact absurd A.2 (fun h=>by cases h)
  | some w=>
   cases U with
   | none=>obtain rfl:w0= .int .i64 mx:=K;obtain rfl:w= .int .i64 hi:=A;obtain rfl:lo=0:=O;exact TX hm hh
   | some w'=>obtain rfl:w0= .int .i64 mx:=K;obtain rfl:w= .int .i64 hi:=A;obtain rfl:w'= .int .i64 lo:=O;exact Ud hm hh ab
theorem Q3{a:Option Addr}{l c K lo hi mx:Nat}{O U A:Option Value}{Q:Value→St→Prop}{X:Halt→St→Prop}(ht:P.underlying t=some (.slice e))(Z:Bq P e=some K)
  (aa:match A with | some w=>w= .int .i64 mx | none=>mx=c) (ab:match U with | some w=>w= .int .i64 hi | none=>hi=l∧A=none) (ac:match O with | some w=>w= .int .i64 lo | none=>lo=0) (hm:mx≤c) (hh:hi≤mx) (ae:lo≤hi)
  (k:Q (.slice (if mx=lo then a else a.map (·.add (lo*K))) (hi - lo) (mx - lo)) s):lp P (Instr.slice t (.slice a l c) O U A) s Q X:=by
 unfold Instr.slice;refine AB _ _ (Cd ht ?_);have hb:=Qe (P:=P) (s:=s) (X:=X) aa ab ac hm hh ae;refine AB _ _ (B8 _ hb ?_ (fun _ _ h=>h));rintro r s' ⟨rfl,rfl⟩;exact AB _ _ (Dg Z k)
theorem Yl.slice{ρ:Operand→Value}{a:Option Addr}{l c K lo hi mx:Nat}{olo ohi omx:Option Operand}(ht:P.underlying t=some (.slice e))(O:Bq P e=some K)(U:ρ x= .slice a l c)
  (Z:match omx with | some w=>ρ w= .int .i64 mx | none=>mx=c) (A:match ohi with | some w=>ρ w= .int .i64 hi | none=>hi=l∧omx=none) (aa:match olo with | some w=>ρ w= .int .i64 lo | none=>lo=0) (hm:mx≤c) (hh:hi≤mx) (ab:lo≤hi):
  Yl P ⟨d,.slice t x olo ohi omx,ty,p,af,g⟩ ρ s (.slice (if mx=lo then a else a.map (·.add (lo*K))) (hi - lo) (mx - lo)):=
 Yl.Ds (sm:=Instr.sliceAt t (ρ x) (olo.map ρ) (ohi.map ρ) (omx.map ρ)) rfl (by
  rw [U];unfold Instr.sliceAt
  refine AB _ _ (Cd ht ?_)
  refine Q3 ht O (mx:=mx) (hi:=hi) (lo:=lo) ?_ ?_ ?_ hm hh ab ⟨rfl,rfl⟩
  ·cases omx <;> exact Z
  ·cases ohi with
   | none=>exact⟨A.1,by rw [A.2];rfl⟩
   | some w=>exact A
  ·cases olo <;> exact aa)
def EI(s:St)(v:Value)(A:Nat)(xs:List Value):Prop:=
 match v with
 | .slice (some a) l c=>(a.spot=none∨l=0)∧xs.length=l*A∧l≤c∧∀j w,xs[j]? =some w→s.cell? ⟨a.block,a.off+j,none⟩=some w
 | .slice none l _=>l=0∧xs= []
 | _=>False
theorem Bi{a:Addr}(h:a.spot=none)(j:Nat):a.add j=⟨a.block,a.off+j,none⟩:=by
 unfold Addr.add;obtain⟨b,o,sp⟩:=a;simp only at h;subst h;split
 ·rename_i e;subst e;rfl
 ·rfl
theorem GB{U l:Nat}{xs:List Value}{Q:Array Value→St→Prop}{X:Halt→St→Prop}(Z:∃a c,v= .slice a l c)(h:EI s v U xs)(k:Q xs.toArray s):lp P (Builtin.firstCells U l v) s Q X:=by
 obtain⟨a,c,rfl⟩:=Z;cases a with
 | none=>
  obtain⟨A,rfl⟩:=h;exact k
 | some a=>
  obtain⟨A,K,ab,aa⟩:=h;refine Lw K.symm (fun j w O=>?_) k;rcases A with A | A
  ·rw [Bi A];exact aa j w O
  ·rw [A,Nat.zero_mul] at K;rw [List.eq_nil_of_length_eq_zero K] at O;cases O
theorem PV(nl:Nat):∀(r c:Nat),Builtin.growBy nl r c≤max c (2*nl+768):=by
 intro r
 induction r with
 | zero=>intro c;simp [Builtin.growBy];omega
 | succ r A=>
  intro c;simp only [Builtin.growBy];split
  ·omega
  ·rename_i h;have:=A (c+(c+768) / 4);omega
theorem LI{need old:Nat}(h:old<need):Builtin.nextslicecap need old≤2*need+768:=by
 unfold Builtin.nextslicecap;split
 ·omega
 ·split
  ·omega
  ·have:=PV need 4 old;omega
theorem Lr(z:Array Value)(m:Nat):(Builtin.zeroCells z m).size=m*z.size:=by simp [Builtin.zeroCells]
def Ji(B:List (Nat×Obj))(pl:Nat)(e:TypeId)(A:Nat)(a:Option Addr)(l c:Nat)(xs:List Value):Prop:=
 (a=none∧l=0∧c=0∧xs= [])∨∃K f,a=some ⟨K,0,none⟩∧B[pl]? =some (K,.cells f e (0,0))∧f.size=c*A∧l≤c∧xs=f.toList.take (l*A)
theorem Lt(c:Array Value)(off:Nat)(vs:List Value)(h:off+vs.length≤c.size):(A5 c off vs).toList.take (off+vs.length)=c.toList.take off++vs:=by
 induction vs generalizing c off with
 | nil=>simp [A5]
 | cons v vs K=>
  simp only [A5,List.length_cons] at*;have:=K (c.setIfInBounds off v) (off+1) (by simp;omega);rw [show off+(vs.length+1)=off+1+vs.length from by omega,this];have A:off<c.toList.length:=by simp;omega
  rw [Array.toList_setIfInBounds,List.take_add_one];have O:(c.toList.set off v)[off]? =some v:=by simp at A;simp [A]
  rw [O];simp [List.take_set_of_le]
theorem JZ{ats:Array TypeId}{a:Option Addr}{l c A Z m cx:Nat}{ax:Option Addr}{xs ys:List Value}{z:Value}{Q:Value→St→Prop}{X:Halt→St→Prop}{pl:Nat}
  (av:ats[0]? =some t) {t1 aw:TypeId} (ay:ats[1]? =some t1) (az:P.underlying t1=some (.slice aw)) (ht:P.underlying t=some (.slice e)) (aA:Bq P e=some A) (hb:C9 P e=some Z) (aB:zeroOf P e=some z) (aC:z.cells.size=A)
  (ai:Nd E H B) (hs:Ji B pl e A a l c xs)
  (ag:EI (mk E H B) (.slice ax m cx) A ys) (aD:∀w∈ys,BB w=true) (aO:0<Z) (aP:l+m≤2 ^ 40) (aE:Z≤64)
  (aF:∀K f O,a=some ⟨K,0,none⟩→B[pl]? =some (K,.cells f e (0,0))→O=A5 f (l*A) ys→l+m≤c→O.size=c*A→O.toList.take ((l+m)*A)=xs++ys→Nd E H (B.set pl (K,.cells O e (0,0)))→Q (.slice a (l+m) c) (mk E H (B.set pl (K,.cells O e (0,0)))))
  (aG:a=none→m=0→Q (.slice none 0 0) (mk E H B))
  (aH:∀r O aa,l+m≤aa→O.size=aa*A→O.toList.take ((l+m)*A)=xs++ys→Nd E H (B++ [(r,.cells O e (0,0))])→Q (.slice (some ⟨r,0,none⟩) (l+m) aa) (mk E H (B++ [(r,.cells O e (0,0))]))):
  lp P (Builtin.append_ ats ty #[.slice a l c,.slice ax m cx]) (mk E H B) Q X:=by
 unfold Builtin.append_;simp only [av,ay,List.getElem?_toArray,List.getElem?_cons_zero,List.getElem?_cons_succ];refine AB _ _ (Cd ht ?_);refine AB _ _ (Dg aA ?_);refine AB _ _ (Cd az ?_);simp only [EV,Bool.false_eq_true,if_false,Builtin.lenOf,Bool.not_false,if_true];have ab:ys.length=m*A:=by
  cases ax with
  | none=>obtain⟨aj,ak⟩:=ag;subst aj ak;simp
  | some ad=>exact ag.2.1
 have al:∃(aI:Option Addr) (aa:Nat),EI (mk E H B) (.slice a l c) A xs∧aI=a∧aa=c:=by
  refine⟨a,c,?_,rfl,rfl⟩;rcases hs with⟨rfl,rfl,rfl,rfl⟩ | ⟨K,f,rfl,ac,U,ae,rfl⟩
  ·exact⟨rfl,rfl⟩
  ·have hle:l*A≤f.size:=by rw [U];exact Nat.mul_le_mul_right _ ae
   refine⟨.inl rfl,by simp [Nat.min_eq_left hle],ae,fun j w ah=>?_⟩;refine Mo ai ac ?_;simp only [Nat.zero_add];rw [List.getElem?_take] at ah;split at ah
   ·simpa using ah
   ·cases ah
 obtain⟨_,_,al,_,_⟩:=al;have am:xs.length=l*A:=by
  rcases hs with⟨rfl,rfl,rfl,rfl⟩ | ⟨K,f,rfl,ac,U,ae,rfl⟩
  ·simp
  ·have hle:l*A≤f.size:=by rw [U];exact Nat.mul_le_mul_right _ ae
   simp [Nat.min_eq_left hle]
 split
 ·rename_i ar;refine AB _ _ (GB ⟨ax,cx,rfl⟩ ag ?_);rcases hs with⟨rfl,rfl,rfl,rfl⟩ | ⟨K,f,rfl,ac,U,ae,rfl⟩
  ·obtain rfl:m=0:=by omega
   simp only;exact aG rfl rfl
  ·simp only;have hle:l*A+ys.length≤f.size:=by rw [ab,U,← Nat.add_mul];exact Nat.mul_le_mul_right _ ar
   have aJ:(Addr.add ⟨K,0,none⟩ (l*A))=⟨K,l*A,none⟩:=by rw [Bi rfl];simp
   rw [aJ];refine AB _ _ (JE (pl:=pl) ys.toArray.toList 0 f B (by simpa using aD) ai ac (by simpa using hle) (.inl rfl) fun B' au an=>?_);simp only [Nat.add_zero] at au;subst au;refine aF K f _ rfl ac rfl ar (by rw [JX,U]) ?_ an;have:=Lt f (l*A) ys hle;rw [ab,← Nat.add_mul] at this;exact this
 ·rename_i aQ;have aj:¬(((l+m:Nat):Int)>IntKind.i64.max∧(False∨Z=0)):=by rintro⟨_,h | h⟩ <;> omega
  have ak:¬(Builtin.nextslicecap (l+m) c*Z>2 ^ 48):=by
   have:=LI (need:=l+m) (old:=c) (by omega);have aR:Builtin.nextslicecap (l+m) c*Z≤(2*(l+m)+768)*64:=Nat.mul_le_mul this aE;omega
  obtain⟨inf,ao,ap⟩:=Ih hb;refine AB _ _ (FT ao ?_);rw [ap,if_neg aj];refine AB _ _ (FT ao ?_);rw [ap,if_neg ak];refine AB _ _ ?_;simp only [choose,lp,Question.forced,Bool.false_eq_true,if_false];refine⟨rfl,fun aK=>?_⟩;generalize aL:(Question.appendCap (l+m) c e).cut aK=aq;have aM:l+m≤aq:=by rw [← aL];simp [Question.cut]
  refine AB _ _ (FT ao ?_);rw [ap];have aN:∀{α:Type} {f:Unit→Sem α} {Q:α→St→Prop},lp P (f ()) (mk E H B) Q X→lp P (askRoom (aq*Z)>>=f) (mk E H B) Q X:=by
   intro α f Q U;refine AB _ _ ?_;unfold askRoom;split
   ·exact⟨.inl ⟨rfl,rfl⟩,U⟩
   ·exact U
  refine aN ?_;refine AB _ _ (GB ⟨a,c,rfl⟩ al ?_);refine AB _ _ (GB ⟨ax,cx,rfl⟩ ag ?_);refine AB _ _ (D7 aB ?_);refine AB _ _ (EX ai fun r an=>?_);refine aH r _ aq aM ?_ ?_ an
  ·simp only [Array.size_append,List.size_toArray,Lr,aC,am,ab];rw [← Nat.add_mul,← Nat.add_mul];congr 1;omega
  ·simp only [Array.toList_append];rw [List.take_append_of_le_length (by simp [am,ab,Nat.add_mul])];rw [List.take_of_length_le (by simp [am,ab,Nat.add_mul])]
end
end Pal
namespace Pal
open Go Go.Conc
theorem Jy{P:Program}{α:Type}(x:Sem α):∀{s:St} {Q:α→St→Prop} {X:Halt→St→Prop},lp P x s Q X→lp P x s (fun a s'=>Q a s'∧s'.E=s.E∧s'.q=s.q) X:=by
 induction x with
 | pure a=>intro s Q X h;exact⟨h,rfl,rfl⟩
 | load m a k A=>intro s Q X h;obtain⟨K,v,O,U⟩:=h;exact⟨K,v,O,A _ U⟩
 | store m a v k A=>intro s Q X h;obtain⟨K,O,o,U,aa,ab,ac⟩:=h;exact⟨K,O,o,U,aa,ab,A ac⟩
 | new o k A=>intro s Q X h;exact⟨h.1,fun r K O=>A _ (h.2 r K O)⟩
 | shape r k A=>intro s Q X h;obtain⟨o,K,O⟩:=h;exact⟨o,K,A _ O⟩
 | freeze a n k A=>intro s Q X h;exact h
 | frozen a k A=>intro s Q X h;obtain⟨o,K,O⟩:=h;exact⟨o,K,A _ O⟩
 | getObj r k A=>intro s Q X h;obtain⟨o,K,O,U⟩:=h;exact⟨o,K,O,A _ U⟩
 | setObj r o k A=>intro s Q X h;obtain⟨K,O,U⟩:=h;exact⟨K,O,A U⟩
 | choose q k A=>
  intro s Q X h;simp only [lp] at h ⊢;split
  ·rename_i Z;rw [if_pos Z] at h;exact A _ h
  ·rename_i Z;rw [if_neg Z] at h;exact⟨h.1,fun t=>A _ (h.2 t)⟩
 | sys c k A=>intro s Q X h;exact h
 | program k A=>intro s Q X h;exact A _ h
 | mark m k A=>intro s Q X h;exact⟨h.1,A h.2⟩
 | halt h=>intro s Q X h;exact h
def Bh(D:Nat→Bool)(s:St):St:=⟨fun b=>if D b then s.get b else s.E b,fun b=>if D b then none else s.H b,s.q⟩
def BP(D:Nat→Bool)(s s':St):St:=⟨fun b=>if D b then s.E b else s'.E b,fun b=>if D b then s.H b else s'.H b,s'.q⟩
theorem Hm(D:Nat→Bool)(s:St):BP D s (Bh D s)=s:=by
 obtain⟨E,H,q⟩:=s;unfold BP Bh;congr 1
 ·funext b;by_cases h:D b <;> simp [h]
 ·funext b;by_cases h:D b <;> simp [h]
theorem QW{D:Nat→Bool}{s:St}{w:World}(f:Fits s w):Fits (Bh D s) w where
 e b o h:=by
  by_cases A:D b
  ·simp [Bh,A] at h;exact f.get h
  ·simp [Bh,A] at h;exact f.e b o h
 h b o h:=by
  by_cases A:D b
  ·simp [Bh,A] at h
  ·simp [Bh,A] at h;exact f.h b o h
 d b h:=by
  by_cases A:D b
  ·simp [Bh,A]
  ·simp [Bh,A] at h ⊢;exact f.d b h
def Cy{P:Program}(J:Judge P)(f:FuncId)(args:Array Value)(s:St)(R:Value→St→Prop):Prop:=
 ∀(Q:Goroutine→St→Prop) (c:Frame) (cs:List Frame),(∀v s',R v s'→J.ok Q (G (c.finish v) cs) s')→J.ok Q (G (Frame.enter P f args .normal) (c::cs)) s
theorem Cy.mono{P:Program}{J:Judge P}{f:FuncId}{args:Array Value}{s:St}{R A:Value→St→Prop}(h:Cy J f args s R)(K:∀v s',R v s'→A v s'):Cy J f args s A:=
 fun Q c cs O=>h Q c cs fun v s' U=>O v s' (K v s' U)
section
variable {P:Program}{J:Judge P}{Q:Goroutine→St→Prop}{b:Frame}{n:Nat}{L L':Env}{ds:List Deferred}{k:List Item}{cs:List Frame}{s s':St}
theorem Judge.Nq(D:Nat→Bool){T:Array Value}{ops:Array Oper}{i:Nat}{rest:List Nat}{o:Oper}(Z:ops[i]? =some o)(hw:Region.wanted o (yielded ops T)=true)(au:b.kind≠ .early)
  (av:∀c,o.op≠ .defer c) (aw:s.q=false)
  (h:lp P (execOp (Bm T) o) (Bh D s) (fun nx s'=>upon J Q b T ds ops i rest k cs o.dst nx (BP D s s')) (fun _ _=>False)):
  J.ok Q (G (fr b T ds (.inRegion ops (i::rest)::k)) cs) s:=by
 refine J.step ⟨rfl,fun w f=>?_,fun e=>by subst e;cases aw⟩;have aa:((fr b T ds (.inRegion ops (i::rest)::k)).kind==CallKind.early)=false:=by simpa [fr] using au
 have ay:stepG P J.main (G (fr b T ds (.inRegion ops (i::rest)::k)) cs) w=stepG.apply P true (fr b T ds (.inRegion ops (i::rest)::k)) cs none (execOp (Bm T) o) w:=by
  rw [stepG_op Z hw];split
  ·rename_i l c aG az;exact absurd az (av c)
  ·rfl
 obtain⟨ab,ah,ai,aA,K⟩:=Ij _ (Jy _ h) (QW (D:=D) f);have aj:=Ke (P:=P) (fn:=b.fn) aA;have an:=fun v=>D9 (b:=b) (ds:=ds) (k:=k) T ops i rest v o Z;have key:∀w',Fits ab w'→Fr (Bh D s) w ab w'→ab.E=(Bh D s).E→Fits (BP D s ab) w'∧Fr s w (BP D s ab) w':=by
  intro w' ak O aB;have ao:∀b,D b=true→b<w.heap.size→w'.heap[b]? =w.heap[b]? :=fun b hb al=>O.keep b al (by simp [Bh,hb]);have ap:∀b o,(s.H b=some o∨s.E b=some o)→b<w.heap.size:=fun b o Z=>by
   have:=Z.elim (f.h b o) (f.e b o);rcases Nat.lt_or_ge b w.heap.size with am | am
   ·exact am
   ·simp [Array.getElem?_eq_none am] at this
  refine⟨⟨fun b o hb=>?_,fun b o hb=>?_,fun b hb=>?_⟩,⟨O.size,fun b al hb=>?_,fun b hb=>?_,fun b o hb=>?_,fun b hb=>?_,O.tape,O.os,O.output⟩⟩
  ·by_cases A:D b
   ·simp [BP,A] at hb;rw [ao b A (ap b o (.inr hb))];exact f.e b o hb
   ·simp [BP,A] at hb;exact ak.e b o hb
  ·by_cases A:D b
   ·simp [BP,A] at hb;rw [ao b A (ap b o (.inl hb))];exact f.h b o hb
   ·simp [BP,A] at hb;exact ak.h b o hb
  ·by_cases A:D b
   ·simp [BP,A] at hb ⊢;exact f.d b hb
   ·simp [BP,A] at hb ⊢;exact ak.d b hb
  ·exact O.keep b al (by by_cases A:D b <;> simp [Bh,A,hb])
  ·by_cases A:D b
   ·simp [BP,A] at hb;exact .inl hb
   ·simp [BP,A] at hb;rcases O.own b hb with q | q
    ·left;simpa [Bh,A] using q
    ·exact .inr q
  ·by_cases A:D b
   ·simp [BP,A];exact hb
   ·simp only [BP,A,Bool.false_eq_true,if_false];rw [aB];simp [Bh,A,hb]
  ·by_cases A:D b
   ·simp [BP,A] at hb;exact .inl hb
   ·simp [BP,A] at hb;rcases O.CP b hb with q | q | q
    ·left;simpa [Bh,A] using q
    ·right;left;simpa [Bh,A] using q
    ·exact .inr (.inr q)
 have aC:∀w',(∀e∈seen P b.fn ((execOp (Bm T) o).events P w #[]),Ev (Bh D s) w w' e)→∀e∈seen P b.fn ((execOp (Bm T) o).events P w #[]),Ev s w w' e:=by
  intro w' he e hm;have:=he e hm;have aq:∀{b wr},DX (Bh D s) w w' b wr→DX s w w' b wr:=by
   intro b wr ht;refine⟨ht.1,?_⟩;rcases ht.2 with q | q | ⟨q,ar⟩
   ·left;by_cases A:D b <;> simp [Bh,A] at q;exact q
   ·exact .inr (.inl q)
   ·by_cases A:D b
    ·simp [Bh,A,St.get] at q;by_cases ag:s.E b=none
     ·left;intro aD;rw [ag,aD] at q;exact q rfl
     ·exact .inr (.inr ⟨ag,ar⟩)
    ·simp [Bh,A] at q;exact .inr (.inr ⟨q,ar⟩)
  unfold Ev at this ⊢;split <;> rename_i aE <;> simp only [aE] at this
  ·exact⟨this.1,aq this.2⟩
  ·exact⟨this.1,aq this.2⟩
  ·trivial
  ·trivial
 rw [ay];cases U:(execOp (Bm T) o).run P w with
 | ok nx w'=>
  rw [U] at ah ai K aj;simp only [Gu] at ah ai aj;obtain⟨K,ag,_⟩:=K;obtain⟨k1,ac⟩:=key w' ah ai ag;have ae:=aC w' aj;cases nx with
  | value v=>exact⟨_,_,w',seen P b.fn ((execOp (Bm T) o).events P w #[])++ #[],by simp [stepG.apply,U,aa,GStep.after,G,an,Dk],K,k1,ac,by simpa using ae⟩
  | skip=>exact⟨_,_,w',seen P b.fn ((execOp (Bm T) o).events P w #[])++ #[],by simp [stepG.apply,U,aa,GStep.after,G,an,Dk],K,k1,ac,by simpa using ae⟩
  | enter g args=>exact⟨_,_,w',seen P b.fn ((execOp (Bm T) o).events P w #[])++ #[],by simp [stepG.apply,U,aa,GStep.after,G,Dk,ED],K,k1,ac,by simpa using ae⟩
  | round l g aH as aI=>exact⟨_,_,w',seen P b.fn ((execOp (Bm T) o).events P w #[])++ #[],by simp [stepG.apply,U,aa,GStep.after,G,Dk,ED],K,k1,ac,by simpa using ae⟩
  | defer d=>
   have aF:=D9 (b:=b) (ds:=d::ds) (k:=k) T ops i rest undef o Z;exact⟨_,_,w',seen P b.fn ((execOp (Bm T) o).events P w #[])++ #[],by
    rw [← aF];simp [stepG.apply,U,aa,GStep.after,G,Dk,ED];rfl,K,k1,ac,by simpa using ae⟩
  | _=>exact K.elim
 | halt x w'=>rw [U] at K;exact K.elim
end
end Pal
namespace Pal
open Go Go.Conc
def OG(m:Nat)(listed:Array Bool):Bool:=(List.range m).all fun i=>listed.getD i false
def AX(listed:Array Bool)(i:Nat):Array Bool:=listed.setIfInBounds i true
section
variable {P:Program}(J:Judge P)(Q:Goroutine→St→Prop)(b:Frame)(ds:List Deferred)(ops:Array Oper)(k:List Item)(cs:List Frame)(m:Nat)(D:Nat→Bool)
def JA:Nat→Array Bool→Array Value→St→Prop
 | 0,listed,T,s=>Region.ready .any ops listed= []∧J.ok Q (G (fr b T ds (.inRegion ops []::k)) cs) s
 | fuel+1,listed,T,s=>
  (OG m listed=true∧∀t,J.ok Q (G (fr b T ds (.inRegion ops (Region.linearise.go .any ops (fuel+1) t listed [])::k)) cs) s)∨
  (Region.ready .any ops listed≠ []∧s.q=false∧∀i∈Region.ready .any ops listed,∀o,ops[i]? =some o→(∀c,o.op≠ .defer c)∧
   (Region.wanted o (yielded ops T)=false→JA fuel (AX listed i) (BQ T o.dst undef) s)∧
   (Region.wanted o (yielded ops T)=true→lp P (execOp (Bm T) o) (Bh D s) (fun nx s'=>match nx with
    | .value v=>JA fuel (AX listed i) (BQ T o.dst v) (BP D s s')
    | .skip=>JA fuel (AX listed i) (BQ T o.dst undef) (BP D s s')
    | .enter f args=>∃R,Cy J f args (BP D s s') R∧∀v A,R v A→A.q=false∧(∀x o,(Bh D s).E x=some o→(Bh D A).E x=some o)∧JA fuel (AX listed i) (BQ T o.dst v) A
    | _=>False) (fun _ _=>False)))
variable {J Q b ds ops k cs m D}
theorem JA.sound(Z:b.kind≠ .early):∀(fuel t:Nat) (listed:Array Bool) (T:Array Value) (s:St),JA J Q b ds ops k cs m D fuel listed T s→
  J.ok Q (G (fr b T ds (.inRegion ops (Region.linearise.go .any ops fuel t listed [])::k)) cs) s:=by
 intro fuel
 induction fuel with
 | zero=>intro t listed T s h;simpa [Region.linearise.go] using h.2
 | succ fuel A=>
  intro t listed T s h;rcases h with⟨_,h⟩ | ⟨aa,ab,h⟩
  ·exact h t
  ·obtain⟨i,hi⟩:∃i,(Region.ready .any ops listed)[t % (Region.ready .any ops listed).length]? =some i:=by
    have:0<(Region.ready .any ops listed).length:=List.length_pos_iff.2 aa;exact⟨_,List.getElem?_eq_getElem (Nat.mod_lt _ this)⟩
   have U:=List.mem_of_getElem? hi;have hgo:Region.linearise.go .any ops (fuel+1) t listed []=i::Region.linearise.go .any ops fuel (t / (Region.ready .any ops listed).length) (AX listed i) []:=by
    simp only [Region.linearise.go];change (match(Region.ready .any ops listed)[t % (Region.ready .any ops listed).length]? with
     | some i=>Region.linearise.go .any ops fuel (t / (Region.ready .any ops listed).length) (listed.setIfInBounds i true) [i]
     | none=> [].reverse)=_
    rw [hi];simp only;rw [linearise_go_acc];rfl
   rw [hgo];obtain⟨_,o,K,_⟩:=mem_ready.1 U;obtain⟨ac,ae,ag⟩:=h i U o K;cases hw:Region.wanted o (yielded ops T) with
   | false=>exact Judge.unwanted K hw (A _ _ _ _ (ae hw))
   | true=>
    refine Judge.Nq D K hw Z ac ab (B8 _ (ag hw) ?_ (fun _ _ h=>h));intro nx s' O;cases nx with
    | value v=>exact A _ _ _ _ O
    | skip=>exact A _ _ _ _ O
    | enter f args=>
     obtain⟨R,ah,ai⟩:=O;refine ah Q _ cs fun v aj ak=>?_;rw [D9 _ _ _ _ _ _ K];exact A _ _ _ _ (ai v aj ak).2.2
    | _=>exact O.elim
theorem RY{T:Array Value}{d:Option Tmp}{v:Value}{x:Operand}(h:∀t,d=some t→x≠ .tmp t):Bm (BQ T d v) x=Bm T x:=by
 cases d with
 | none=>rfl
 | some t=>
  cases x with
  | tmp u=>
   have A:t≠u:=fun e=>h t rfl (e▸rfl);simp only [BQ,Bm,Array.getD_eq_getD_getElem?,Array.getElem?_setIfInBounds_ne A]
  | _=>rfl
theorem EB{T:Array Value}{d:Option Tmp}{v:Value}{o:Oper}(hs:∀cs b,o.op≠ .select cs b)(h:∀t,d=some t→t ∉ o.looksAt ops):
  execOp (Bm (BQ T d v)) o=execOp (Bm T) o∧Region.wanted o (yielded ops (BQ T d v))=Region.wanted o (yielded ops T):=by
 refine⟨execOp_congr o hs fun x A=>RY fun t ht K=>h t ht ?_,?_⟩
 ·subst K;exact List.mem_append_left _ (List.mem_filterMap.2 ⟨.tmp t,by simpa using A,rfl⟩)
 ·have:=wanted_put (ops:=ops) o (⟨T,[]⟩:Act) d v h
  rwa [act_put'] at this
 where
  act_put' {T : Array Value} {d : Option Tmp} {v : Value} : (⟨T, []⟩ : Act).put d v = ⟨BQ T d v, []⟩ := by cases d <;> rfl
theorem Fv{T:Array Value}{d e:Option Tmp}{v u:Value}(h:∀t,d=some t→e≠some t):BQ (BQ T d v) e u=BQ (BQ T e u) d v:=by
 cases d with
 | none=>rfl
 | some t=>
  cases e with
  | none=>rfl
  | some A=>
   have K:t≠A:=fun q=>h t rfl (q▸rfl);simp [BQ,Array.setIfInBounds_comm _ _ K]
theorem LC{D:Nat→Bool}{s s':St}(A:s'.E=(Bh D s).E):(Bh D (BP D s s')).E=(Bh D s).E:=by
 funext x;by_cases h:D x
 ·simp [Bh,BP,h,St.get]
 ·have:=congrFun A x;simp [Bh,h] at this;simp [Bh,BP,h,this]
def FA(ops:Array Oper)(listed:Array Bool)(i:Nat)(oi:Oper):Bool:=
 (List.range ops.size).all fun j=>j==i || listed.getD j true || match ops[j]? with
  | some A=>(A.after.any fun e=>Region.binds .any e&&e.on==i) || oi.apart ops A
  | none=>true
def waits(ops:Array Oper):Nat→Nat→Nat→Bool
 | 0,_,_=>false
 | f+1,j,i=>match ops[j]? with
  | some A=>A.after.any fun e=>Region.binds .any e&&(e.on==i || waits ops f e.on i)
  | none=>true
def Du(ops:Array Oper)(m:Nat):Bool:=
 (List.range ops.size).all fun j=>decide (j<m) || (List.range m).all fun i=>waits ops ops.size j i
def EF(ops:Array Oper)(listed:Array Bool):Bool:=
 (List.range ops.size).all fun j=> !listed.getD j false || match ops[j]? with
  | some A=>A.after.all fun e=> !Region.binds .any e || listed.getD e.on false
  | none=>true
theorem JJ{listed:Array Bool}(h:EF ops listed=true){j:Nat}{A:Oper}(K:ops[j]? =some A)(O:listed.getD j false=true):∀e∈A.after,Region.binds .any e=true→listed.getD e.on false=true:=by
 intro e he hb;have:=List.all_eq_true.1 h j (List.mem_range.2 (Array.getElem?_eq_some_iff.1 K).1);rw [O,K] at this;simp only [Bool.not_true,Bool.false_or] at this;have:=Array.all_eq_true'.1 this e he;rw [hb] at this;simpa using this
theorem Lz{listed:Array Bool}(Z:EF ops listed=true){i:Nat}:∀(f j:Nat) (K:Oper),ops[j]? =some K→(∀e∈K.after,Region.binds .any e=true→listed.getD e.on false=true)→waits ops f j i=true→listed.getD i false=true∨∃x,ops[x]? =none∧listed.getD x false=true:=by
 intro f
 induction f with
 | zero=>intro j K _ _ h;cases h
 | succ f aa=>
  intro j K ab ac h;simp only [waits,ab] at h;obtain⟨e,he,A⟩:=Array.any_eq_true'.1 h;simp only [Bool.and_eq_true,Bool.or_eq_true,beq_iff_eq] at A;obtain⟨hb,A⟩:=A;have O:=ac e he hb;rcases A with rfl | A
  ·exact .inl O
  ·cases U:ops[e.on]? with
   | none=>exact .inr ⟨_,U,O⟩
   | some o=>exact aa e.on o U (fun ae ag ah=>JJ Z U O ae ag ah) A
theorem JA.take{i:Nat}{oi:Oper}{w:Bool}{v:Value}(hi:ops[i]? =some oi)(aT:i<m)(aU:Du ops m=true)(aV:Region.noSelect ops=true)(aW:∀c,oi.op≠ .defer c):
  ∀(fuel:Nat) (listed:Array Bool) (T:Array Value) (s:St),FA ops listed i oi=true→EF ops listed=true→listed.size=ops.size→i∈Region.ready .any ops listed→s.q=false→Region.wanted oi (yielded ops T)=w→
   (w=true→∀s',s'.q=false→(∀x o,(Bh D s).E x=some o→s'.E x=some o)→Yl P oi (Bm T) s' v)→
   JA J Q b ds ops k cs m D fuel (AX listed i) (BQ T oi.dst (if w then v else undef)) s→JA J Q b ds ops k cs m D (fuel+1) listed T s:=by
 have ah:∀(j:Nat) (Z:Oper),ops[j]? =some Z→∀cs b,Z.op≠Op.select cs b:=fun j Z h cs b=>Region.noSelect_spec aV j Z cs b h;intro fuel
 induction fuel with
 | zero=>?_
 | succ fuel am=>?_
 all_goals
  intro listed T s aH aI ai an ao hw aj h;refine .inr ⟨fun e=>(by rw [e] at an;cases an),ao,fun j aJ Z K=>?_⟩;by_cases ag:j=i
  ·subst ag;obtain rfl:Z=oi:=by rw [hi] at K;exact(Option.some.inj K).symm
   refine⟨aW,fun az=>?_,fun aA=>?_⟩
   ·rw [az] at hw;subst hw;exact h
   ·rw [aA] at hw;subst hw;refine B8 _ (aj rfl (Bh D s) ao fun _ _ h=>h).out ?_ (fun _ _ h=>h);rintro nx s' ⟨rfl,rfl⟩;rw [Hm];exact h
  ·
   have aK:j∈Region.ready .any ops (AX listed i):=ready_mono aJ ag;obtain⟨aa,O,aL,aB⟩:=mem_ready.1 aJ;obtain rfl:O=Z:=by rw [K] at aL;exact(Option.some.inj aL).symm
   have aC:=(mem_ready.1 an).1;have aX:(O.after.any fun e=>Region.binds .any e&&e.on==i)=false:=by
    rw [Array.any_eq_false];intro e he A;simp only [Bool.and_eq_true,beq_iff_eq] at A;have:=aB _ (Array.getElem_mem he) A.1;rw [A.2] at this;have U:listed.getD i true=listed.getD i false∨listed.size≤i:=by
     rcases Nat.lt_or_ge i listed.size with q | q
     ·left;simp [Array.getD_eq_getD_getElem?,q]
     ·exact .inr q
    rcases U with U | U
    ·rw [aC,this] at U;cases U
    ·rw [Array.getD_eq_getD_getElem?,Array.getElem?_eq_none U] at this;simp at this
   have aY:oi.apart ops O=true:=by
    have ak:j<ops.size:=(Array.getElem?_eq_some_iff.1 K).1;have:=List.all_eq_true.1 aH j (List.mem_range.2 ak);simp only [Bool.or_eq_true,beq_iff_eq] at this;rcases this with(q | q) | q
    ·exact absurd q ag
    ·rw [aa] at q;cases q
    ·rw [K] at q;simp only [Bool.or_eq_true] at q;rw [aX] at q;exact q.resolve_left (by simp)
   obtain⟨aZ,ap,aq⟩:=Oper.apart_spec aY;obtain⟨p1,p2⟩:=EB (ops:=ops) (T:=T) (v:=if w then v else undef) (ah j O K) aZ
   first
    | exact absurd aK (by rw [h.1];simp)
    | (
     rcases h with⟨a0,_⟩ | ⟨bd,_,h⟩
     ·
      exfalso
      have a1:¬j<m:=by
       intro ak
       have:=List.all_eq_true.1 a0 j (List.mem_range.2 ak)
       have ab:(AX listed i).getD j false=listed.getD j false:=getD_set_ne false (Ne.symm ag)
       rw [ab] at this
       have U:listed.getD j true=true:=by
        rcases Nat.lt_or_ge j listed.size with q | q
        ·simp [Array.getD_eq_getD_getElem?,q] at this ⊢;exact this
        ·simp [Array.getD_eq_getD_getElem?,Array.getElem?_eq_none q] at this
       rw [aa] at U;cases U
      have ak:j<ops.size:=(Array.getElem?_eq_some_iff.1 K).1
      have:=List.all_eq_true.1 aU j (List.mem_range.2 ak)
      simp only [Bool.or_eq_true,decide_eq_true_eq] at this
      have:=List.all_eq_true.1 (this.resolve_left a1) i (List.mem_range.2 aT)
      rcases Lz aI _ j O K (fun e he hb=>aB e he hb) this with q | ⟨x,q1,q2⟩
      ·have a2:i<listed.size:=by rw [ai];exact(Array.getElem?_eq_some_iff.1 hi).1
       simp [Array.getD_eq_getD_getElem?,a2] at q aC
       rw [aC] at q;cases q
      ·have:¬x<listed.size:=by rw [ai];intro A;simp [A] at q1
       simp [Array.getD_eq_getD_getElem?,this] at q2
     ·obtain⟨a3,az,aA⟩:=h j aK O K
      have ar:AX (AX listed i) j=AX (AX listed j) i:=by
       unfold AX;exact Array.setIfInBounds_comm _ _ (Ne.symm ag)
      have au:i∈Region.ready .any ops (AX listed j):=ready_mono an (Ne.symm ag)
      have av:FA ops (AX listed j) i oi=true:=by
       refine List.all_eq_true.2 fun x A=>?_
       have:=List.all_eq_true.1 aH x A
       simp only [Bool.or_eq_true,beq_iff_eq] at this ⊢
       rcases this with(q | q) | q
       ·exact .inl (.inl q)
       ·left;right
        by_cases e:j=x
        ·subst e;rw [aa] at q;cases q
        ·rw [AX,getD_set_ne true e];exact q
       ·exact .inr q
      have aw:(AX listed j).size=ops.size:=by unfold AX;simpa using ai
      have ay:EF ops (AX listed j)=true:=by
       refine List.all_eq_true.2 fun x A=>?_
       cases aD:ops[x]? with
       | none=>simp
       | some a4=>
        simp only [Bool.or_eq_true,Bool.not_eq_true']
        by_cases e:j=x
        ·subst e
         obtain rfl:a4=O:=by rw [K] at aD;exact(Option.some.inj aD).symm
         right
         refine Array.all_eq_true'.2 fun e he=>?_
         cases hb:Region.binds .any e with
         | false=>simp
         | true=>
          have:=aB e he hb
          by_cases ab:j=e.on
          ·rw [← ab] at this
           have aE:j<listed.size:=by rw [ai];exact(Array.getElem?_eq_some_iff.1 K).1
           simp [Array.getD_eq_getD_getElem?,aE] at this aa
           rw [aa] at this;cases this
          ·rw [AX,getD_set_ne false ab];simpa using this
        ·cases aM:(AX listed j).getD x false with
         | false=>exact .inl rfl
         | true=>
          right
          have a5:listed.getD x false=true:=by rw [AX,getD_set_ne false e] at aM;exact aM
          refine Array.all_eq_true'.2 fun aF he=>?_
          cases hb:Region.binds .any aF with
          | false=>simp
          | true=>
           have:=JJ aI aD a5 aF he hb
           by_cases ab:j=aF.on
           ·rw [← ab] at this
            have aE:j<listed.size:=by rw [ai];exact(Array.getElem?_eq_some_iff.1 K).1
            simp [Array.getD_eq_getD_getElem?,aE] at this aa
            rw [aa] at this;cases this
           ·rw [AX,getD_set_ne false ab];simpa using this
      refine⟨a3,fun a6=>?_,fun a7=>?_⟩
      ·have:=az (by rw [p2];exact a6)
       rw [ar,Fv ap] at this
       obtain⟨q1,q2⟩:=EB (ops:=ops) (T:=T) (d:=O.dst) (v:=undef) (o:=oi) (ah i oi hi) aq
       exact am _ _ _ av ay aw au ao (by rw [q2];exact hw) (fun ac s' a8 aG=>by unfold Yl;rw [q1];exact(aj ac s' a8 aG).out) this
      ·have aN:=Jy _ (aA (by rw [p2];exact a7))
       rw [p1] at aN
       refine B8 _ aN ?_ (fun _ _ h=>h)
       rintro nx s' ⟨A,aG,a9⟩
       have aO:=LC (D:=D) aG
       have aP:(BP D s s').q=false:=by show s'.q=false;rw [a9];exact ao
       cases nx with
       | value u=>
        simp only at A ⊢
        rw [ar,Fv ap] at A
        obtain⟨q1,q2⟩:=EB (ops:=ops) (T:=T) (d:=O.dst) (v:=u) (o:=oi) (ah i oi hi) aq
        exact am _ _ _ av ay aw au aP (by rw [q2];exact hw) (fun ac s2 al ae=>by unfold Yl;rw [q1];exact(aj ac s2 al (by rw [aO] at ae;exact ae)).out) A
       | skip=>
        simp only at A ⊢
        rw [ar,Fv ap] at A
        obtain⟨q1,q2⟩:=EB (ops:=ops) (T:=T) (d:=O.dst) (v:=undef) (o:=oi) (ah i oi hi) aq
        exact am _ _ _ av ay aw au aP (by rw [q2];exact hw) (fun ac s2 al ae=>by unfold Yl;rw [q1];exact(aj ac s2 al (by rw [aO] at ae;exact ae)).out) A
       | enter f args=>
        obtain⟨R,ba,bb⟩:=A
        refine⟨R,ba,fun u bc hu=>?_⟩
        obtain⟨aQ,aR,aS⟩:=bb u bc hu
        refine⟨aQ,aR,?_⟩
        rw [ar,Fv ap] at aS
        obtain⟨q1,q2⟩:=EB (ops:=ops) (T:=T) (d:=O.dst) (v:=u) (o:=oi) (ah i oi hi) aq
        exact am _ _ _ av ay aw au aQ (by rw [q2];exact hw) (fun ac s2 al ae=>by unfold Yl;rw [q1];exact(aj ac s2 al (fun x o A=>ae x o (aR x o A))).out) aS
       | _=>exact A.elim)
end
end Pal
namespace Pal
open Go Go.Conc
section
variable {P:Program}(J:Judge P)(Q:Goroutine→St→Prop)(b:Frame)(n:Nat)(ds:List Deferred)(ops:Array Oper)(k:List Item)(cs:List Frame)(m:Nat)(D:Nat→Bool)
def Av(fuel:Nat)(listed:Array Bool)(L:Env)(s:St):Prop:=∀T,Has n L T→JA J Q b ds ops k cs m D fuel listed T s
end
def Da:Nat→Bool:=fun _=>false
section
variable {P:Program}{J:Judge P}{Q:Goroutine→St→Prop}{b:Frame}{n:Nat}{ds:List Deferred}{ops:Array Oper}{k:List Item}{cs:List Frame}{m fuel:Nat}{D:Nat→Bool}{listed:Array Bool}{L:Env}{s:St}
theorem JL.Oq(m:Nat)(D:Nat→Bool){id:Nat}(A:s.q=false)(hm:P.follows .mixedOrders=true)(K:(b.kind != .early)=true)(h:Av J Q b n ds ops k cs m D ops.size (Array.replicate ops.size false) L s):JL J Q b n L ds (.code (.region id ops true)::k) cs s:=
 JL.draw A hm fun t T O=>JA.sound (by simpa using K) ops.size t _ T s (h T O)
theorem Av.T9{i:Nat}{oi:Oper}{v:Value}(hi:ops[i]? =some oi)(O:decide (i<m)=true)(U:Du ops m=true)(Z:Region.noSelect ops=true)(K:(!Ci oi.op)=true)(aa:FA ops listed i oi=true)(ab:EF ops listed=true)(ac:(listed.size==ops.size)=true)(ae:(Region.ready .any ops listed).contains i=true)(ag:s.q=false)
  (hw:AT L ops oi=some true) (ah:Bd n oi.dst=true) (ai:∀ρ,CU L ρ→∀s',s'.q=false→(∀x o,(Bh D s).E x=some o→s'.E x=some o)→Yl P oi ρ s' v)
  (h:Av J Q b n ds ops k cs m D fuel (AX listed i) (AJ L oi.dst v) s):Av J Q b n ds ops k cs m D (fuel+1) listed L s:=fun T A=>by
 refine JA.take (w:=true) (v:=v) hi (by simpa using O) U Z (fun c aj=>by rw [aj] at K;simp [Ci] at K) fuel listed T s aa ab (by simpa using ac) (by simpa using ae) ag (B4 A hw) (fun _ s' ak al=>ai _ A.Eh s' ak al) ?_
 exact h _ (A.put ah v)
theorem Av.TU{i:Nat}{oi:Oper}(hi:ops[i]? =some oi)(O:decide (i<m)=true)(U:Du ops m=true)(Z:Region.noSelect ops=true)(A:(!Ci oi.op)=true)(aa:FA ops listed i oi=true)(ab:EF ops listed=true)(ac:(listed.size==ops.size)=true)(ae:(Region.ready .any ops listed).contains i=true)(ag:s.q=false)
  (hw:AT L ops oi=some false) (ah:Bd n oi.dst=true)
  (h:Av J Q b n ds ops k cs m D fuel (AX listed i) (AJ L oi.dst undef) s):Av J Q b n ds ops k cs m D (fuel+1) listed L s:=fun T K=>by
 refine JA.take (w:=false) (v:=undef) hi (by simpa using O) U Z (fun c ai=>by rw [ai] at A;simp [Ci] at A) fuel listed T s aa ab (by simpa using ac) (by simpa using ae) ag (B4 K hw) (fun e=>by cases e) ?_
 exact h _ (K.put ah undef)
theorem Av.each(ab:s.q=false)(ac:Region.ready .any ops listed≠ [])
  (h:∀i∈Region.ready .any ops listed,∀o,ops[i]? =some o→(!Ci o.op)=true∧Bd n o.dst=true∧∃w,AT L ops o=some w∧
   (w=false→Av J Q b n ds ops k cs m D fuel (AX listed i) (AJ L o.dst undef) s)∧
   (w=true→∀ρ,CU L ρ→lp P (execOp ρ o) (Bh D s) (fun nx s'=>match nx with
    | .value v=>Av J Q b n ds ops k cs m D fuel (AX listed i) (AJ L o.dst v) (BP D s s')
    | .skip=>Av J Q b n ds ops k cs m D fuel (AX listed i) (AJ L o.dst undef) (BP D s s')
    | .enter f args=>∃R,Cy J f args (BP D s s') R∧∀v A,R v A→A.q=false∧(∀x o,(Bh D s).E x=some o→(Bh D A).E x=some o)∧Av J Q b n ds ops k cs m D fuel (AX listed i) (AJ L o.dst v) A
    | _=>False) (fun _ _=>False))):
  Av J Q b n ds ops k cs m D (fuel+1) listed L s:=fun T K=>by
 refine .inr ⟨ac,ab,fun i hi o ae=>?_⟩
 obtain⟨aa,O,w,hw,ag,ah⟩:=h i hi o ae
 have U:=B4 K hw
 refine⟨fun c ai=>by rw [ai] at aa;simp [Ci] at aa,fun e=>?_,fun e=>?_⟩
 ·rw [e] at U
  exact ag U.symm _ (K.put O undef)
 ·rw [e] at U;refine B8 _ (ah U.symm _ K.Eh) ?_ (fun _ _ h=>h);intro nx s' Z;cases nx with
  | value v=>exact Z _ (K.put O v)
  | skip=>exact Z _ (K.put O undef)
  | enter f args=>
   obtain⟨R,aj,ak⟩:=Z;exact⟨R,aj,fun v A al=>let ⟨a,b,c⟩:=ak v A al;⟨a,b,c _ (K.put O v)⟩⟩
  | _=>exact Z.elim
theorem Av.one{i:Nat}{o:Oper}(aa:s.q=false)(U:Region.ready .any ops listed= [i])(hi:ops[i]? =some o)(K:(!Ci o.op&&Bd n o.dst)=true)(hw:AT L ops o=some true)
  (h:∀ρ,CU L ρ→lp P (execOp ρ o) (Bh D s) (fun nx s'=>match nx with
    | .value v=>Av J Q b n ds ops k cs m D fuel (AX listed i) (AJ L o.dst v) (BP D s s')
    | .skip=>Av J Q b n ds ops k cs m D fuel (AX listed i) (AJ L o.dst undef) (BP D s s')
    | .enter f args=>∃R,Cy J f args (BP D s s') R∧∀v A,R v A→A.q=false∧(∀x o,(Bh D s).E x=some o→(Bh D A).E x=some o)∧Av J Q b n ds ops k cs m D fuel (AX listed i) (AJ L o.dst v) A
    | _=>False) (fun _ _=>False)):
  Av J Q b n ds ops k cs m D (fuel+1) listed L s:=by
 simp only [Bool.and_eq_true] at K;refine Av.each aa (by rw [U];simp) fun j O o' Z=>?_;rw [U] at O;simp at O;subst O;obtain rfl:o'=o:=by rw [hi] at Z;exact(Option.some.inj Z).symm
 exact⟨K.1,K.2,true,hw,fun e=>(by cases e),fun _=>h⟩
theorem Av.call{i:Nat}{d:Option Tmp}{f:FuncId}{args:Array Operand}{ats:Array TypeId}{ty:TypeId}{p:String}{af:Array Edge}{g:Option (Nat×Bool)}{vs:List Value}{R:Value→St→Prop}(O:s.q=false)(U:Region.ready .any ops listed= [i])
  (Z:ops[i]? =some ⟨d,.call ⟨.value (.func f),args,ats⟩,ty,p,af,g⟩) (aa:Bd n d=true) (hw:AT L ops ⟨d,.call ⟨.value (.func f),args,ats⟩,ty,p,af,g⟩=some true) (hb:Cx P f=true) (ab:evs L args.toList=some vs)
  (ac:Cy J f vs.toArray s R) (h:∀v A,R v A→A.q=false∧(∀x o,(Bh D s).E x=some o→(Bh D A).E x=some o)∧Av J Q b n ds ops k cs m D fuel (AX listed i) (AJ L d v) A):
  Av J Q b n ds ops k cs m D (fuel+1) listed L s:=by
 refine Av.one O U Z (by simp [Ci,aa]) hw fun ρ K=>?_;have ae:args.map ρ=vs.toArray:=by
  rw [← DW K ab];apply Array.ext';simp
 have ag:ρ (.func f)= .func (.func f) #[] #[]:=K _ _ rfl;simp only [execOp,resolve,bind,Sem.bind,Deferred.ofValue,ag,pure,invoke];have e: #[]++args.map ρ++ #[]=vs.toArray:=by rw [ae];simp
 rw [e];refine GC hb ?_;rw [Hm];exact⟨R,ac,h⟩
theorem Av.leaf{tail:List Nat}(A:OG m listed=true)(hgo:∀t,Region.linearise.go .any ops (fuel+1) t listed []=tail)(h:JL J Q b n L ds (.inRegion ops tail::k) cs s):Av J Q b n ds ops k cs m D (fuel+1) listed L s:=fun T K=>
 .inl ⟨A,fun t=>by rw [hgo t];exact h T K⟩
theorem Av.fin(A:Region.ready .any ops listed= [])(h:JL J Q b n L ds k cs s):Av J Q b n ds ops k cs m D 0 listed L s:=fun T K=>⟨A,JL.done h T K⟩
theorem A1{listed:Array Bool}{i:Nat}{tail:List Nat}{fuel:Nat}(A:Region.ready .any ops listed= [i])(h:∀t,Region.linearise.go .any ops fuel t (AX listed i) []=tail)(t:Nat):Region.linearise.go .any ops (fuel+1) t listed []=i::tail:=by
 simp only [Region.linearise.go];change (match(Region.ready .any ops listed)[t % (Region.ready .any ops listed).length]? with
  | some i=>Region.linearise.go .any ops fuel (t / (Region.ready .any ops listed).length) (listed.setIfInBounds i true) [i]
  | none=> [].reverse)=_
 rw [A];simp only [List.length_singleton,Nat.mod_one,List.getElem?_cons_zero];rw [linearise_go_acc];have:=h (t / 1);unfold AX at this;rw [this];rfl
theorem BM{listed:Array Bool}(t:Nat):Region.linearise.go .any ops 0 t listed []= []:=rfl
theorem JL.Ug{i:Nat}{rest:List Nat}{d:Option Tmp}{f:FuncId}{args:Array Operand}{ats:Array TypeId}{ty:TypeId}{p:String}{af:Array Edge}{g:Option (Nat×Bool)}{vs:List Value}{R:Value→St→Prop}
  (O:ops[i]? =some ⟨d,.call ⟨.value (.func f),args,ats⟩,ty,p,af,g⟩) (hw:AT L ops ⟨d,.call ⟨.value (.func f),args,ats⟩,ty,p,af,g⟩=some true) (A:((b.kind != .early)&&Bd n d)=true) (hb:Cx P f=true)
  (U:evs L args.toList=some vs) (Z:Cy J f vs.toArray s R) (aa:∀v s',R v s'→JL J Q b n (AJ L d v) ds (.inRegion ops rest::k) cs s'):
  JL J Q b n L ds (.inRegion ops (i::rest)::k) cs s:=fun T K=>by
 simp only [Bool.and_eq_true] at A
 have ab:args.map (Bm T)=vs.toArray:=by
  rw [← DW K.Eh U];apply Array.ext';simp
 refine Judge.oper O (B4 K hw) (by simpa using A.1) (.inr fun c ac=>by cases ac) ?_;have ae:lp P (execOp (Bm T) ⟨d,.call ⟨.value (.func f),args,ats⟩,ty,p,af,g⟩) s (upon J Q b T ds ops i rest k cs d) (Ja J Q b T ds ops i rest k cs):=by
  simp only [execOp,resolve,bind,Sem.bind,Deferred.ofValue,Bm,pure,invoke];have e: #[]++args.map (Bm T)++ #[]=vs.toArray:=by rw [ab];simp
  rw [e];refine GC hb ?_;refine Z Q _ cs fun v s' ag=>?_;rw [D9 (o:=⟨d,.call ⟨.value (.func f),args,ats⟩,ty,p,af,g⟩) _ _ _ _ _ O];exact aa v s' ag _ (K.put A.2 v)
 exact ae
theorem Cy.enter{f:FuncId}{fn:Func}{c:Code}{vs:List Value}{R:Value→St→Prop}(U:P.funcs[f]? =some fn)(hb:fn.body=some c)(ab:vs.length≤fn.ntmps)
  (h:∀(Q:Goroutine→St→Prop) (A:Frame) (cs:List Frame),(∀v s',R v s'→J.ok Q (G (A.finish v) cs) s')→JL J Q (base f) fn.ntmps (DZ 0 vs) [] [.code c] (A::cs) s):Cy J f vs.toArray s R:=fun Q A cs Z=>by
 have he:Frame.enter P f vs.toArray .normal=fr (base f) (vs.toArray++Array.replicate (fn.ntmps - vs.length) undef) [] [.code c]:=by
  simp [Frame.enter,fr,U,hb,base];rfl
 rw [he];refine h Q A cs Z _ ⟨by simp;omega,fun t v ht=>?_⟩;obtain⟨_,K⟩:=GF ht;have aa:t<vs.length:=by
  rcases Nat.lt_or_ge t vs.length with O | O
  ·exact O
  ·simp at K;have:=(List.getElem?_eq_some_iff.1 K).1;omega
 rw [Array.getD_eq_getD_getElem?,Array.getElem?_append_left (by simpa using aa)];simp at K;simp [K]
end
end Pal
namespace Pal
open Go Go.Conc
section
variable {P:Program}{J:Judge P}{Q:Goroutine→St→Prop}{b:Frame}{n:Nat}{ds:List Deferred}{ops:Array Oper}{k:List Item}{cs:List Frame}{L:Env}{s:St}{E E' H:LH}{B B0:List (Nat×Obj)}
theorem JL.FH(K:s.q=false)(h:(∃w,Fits s w)→JL J Q b n L ds k cs s):JL J Q b n L ds k cs s:=fun T O=>by
 by_cases A:∃w,Fits s w
 ·exact h A T O
 ·exact J.step ⟨rfl,fun w f=>absurd ⟨w,f⟩ A,fun e=>by subst e;cases K⟩
theorem LN{x:Nat}:∀{B:List (Nat×Obj)},(∃p∈B,p.1=x)→AU B H x≠none
 | [],⟨p,A,_⟩=>by cases A
 | (c,o)::B,⟨p,A,e⟩=>by
  simp only [AU]
  split
  ·simp
  ·rename_i K;rcases List.mem_cons.1 A with q | q
   ·subst q;exact absurd e.symm K
   ·exact LN ⟨p,q,e⟩
theorem Nd.grow(K:Nd E H B)(O:∀x,E' x≠none→AU B H x=none):Nd E' H B:=by
 have key:∀{C:List (Nat×Obj)},Nd E H C→(∀p∈C,p∈B)→Nd E' H C:=by
  intro C
  induction C with
  | nil=>intro _ _;trivial
  | cons p C U=>
   obtain⟨c,o⟩:=p;intro hC hs;refine⟨?_,hC.2.1,hC.2.2.1,U hC.2.2.2 fun p A=>hs p (List.mem_cons_of_mem _ A)⟩;cases Z:E' c with
   | none=>rfl
   | some u=>exact absurd (O c (by rw [Z];simp)) (LN ⟨(c,o),hs _ (by simp),rfl⟩)
 exact key K fun p A=>A
def Lo(E:LH)(K:Nat)(v:Value)(n:Nat)(xs:List Value):Prop:=
 ∃a c,v= .slice a n c∧n≤c∧xs.length=n*K∧(n=0∨∃A off f e fr,a=some ⟨A,off,none⟩∧E A=some (.cells f e fr)∧∀j w,xs[j]? =some w→f[off+j]? =some w)
theorem Lo.nil{A:Nat}:Lo E A (.slice none 0 0) 0 []:=⟨none,0,rfl,Nat.le_refl _,by simp,.inl rfl⟩
def GS(e:TypeId)(A:Nat)(a:Option Addr)(l c:Nat)(blk:List (Nat×Obj))(xs:List Value):Prop:=
 (a=none∧l=0∧c=0∧blk= []∧xs= [])∨∃K f,a=some ⟨K,0,none⟩∧blk= [(K,.cells f e (0,0))]∧f.size=c*A∧l≤c∧xs=f.toList.take (l*A)
theorem GS.nil{e:TypeId}{A:Nat}:GS e A none 0 0 [] []:= .inl ⟨rfl,rfl,rfl,rfl,rfl⟩
theorem GS.length{e:TypeId}{A:Nat}{a:Option Addr}{l c:Nat}{blk:List (Nat×Obj)}{xs:List Value}(h:GS e A a l c blk xs):xs.length=l*A:=by
 rcases h with⟨_,rfl,_,_,rfl⟩ | ⟨U,f,_,_,K,O,rfl⟩
 ·simp
 ·have:l*A≤c*A:=Nat.mul_le_mul_right _ O;simp [K,Nat.min_eq_left this]
theorem O8{t e:TypeId}{v:Value}{Q:Value→St→Prop}{X:Halt→St→Prop}{z:Value}(ht:P.underlying t=some (.slice e))(O:Bq P e=some v.cells.size)(U:zeroOf P e=some z)(ae:z.cells.size=v.cells.size)(ag:0<v.cells.size)(ah:v.cells.size≤64)
  (Z:Nd E H B) (k:∀r,Nd E H (B++ [(r,.cells v.cells e (0,0))])→Q (.slice (some ⟨r,0,none⟩) 1 1) (mk E H (B++ [(r,.cells v.cells e (0,0))]))):lp P (Instr.buildSlice t 1 #[(0,v)]) (mk E H B) Q X:=by
 unfold Instr.buildSlice;refine AB _ _ (Cd ht ?_);refine AB _ _ (Dg O ?_);rw [if_neg (by omega),if_neg (by omega)];refine AB (x:=zeroValue e) _ (D7 U ?_);have aa:Instr.fill (fun i=>some (i*v.cells.size,v.cells.size)) ((Array.range (1*v.cells.size)).map fun i=>z.cells[i % z.cells.size]!) [(0,v)]=some v.cells:=by
  simp only [Instr.fill,Array.size_map,Array.size_range,Nat.one_mul,Nat.zero_mul];rw [if_neg (by simp)];congr 1;apply Array.ext_getElem?;intro j;have key:∀(l:List Value) (st:Nat) (c:Array Value),st+l.length≤c.size→∀j,(List.foldl (fun cs (p:Value×Nat)=>cs.setIfInBounds (0+p.2) p.1) c (l.zipIdx st))[j]? =if st≤j∧j<st+l.length then l[j - st]? else c[j]? :=by
   intro l
   induction l with
   | nil=>intro st c _ j;simp;omega
   | cons x l ab=>
    intro st c ai j;simp only [List.zipIdx_cons,List.foldl_cons,List.length_cons] at*;rw [ab (st+1) _ (by simp;omega) j];simp only [Nat.zero_add];by_cases ac:j=st
    ·subst ac;rw [if_neg (by omega),if_pos (by omega)];rw [Nat.sub_self,List.getElem?_cons_zero,Array.getElem?_setIfInBounds_self_of_lt (by omega)]
    ·by_cases A:st+1≤j∧j<st+1+l.length
     ·rw [if_pos A,if_pos (by omega)];have:j - st=(j - (st+1))+1:=by omega
      rw [this];simp
     ·rw [if_neg A,if_neg (by omega),Array.getElem?_setIfInBounds_ne (by omega)]
  have:=key v.cells.toList 0 ((Array.range v.cells.size).map fun i=>z.cells[i % z.cells.size]!) (by simp) j;rw [← Array.foldl_toList,Array.toList_zipIdx,this];by_cases K:j<v.cells.size
  ·simp [K]
  ·simp [K]
 rw [EV];simp only [aa];exact AB _ _ (EX Z k)
end
end Pal
namespace Pal
open Go Go.Conc
section
variable {P:Program}{J:Judge P}{Q:Goroutine→St→Prop}{b:Frame}{n:Nat}{ds:List Deferred}{ops:Array Oper}{k:List Item}{cs:List Frame}{L:Env}{s:St}{E E' H:LH}{B B0:List (Nat×Obj)}
theorem H9{ρ:Operand→Value}{d:Option Tmp}{x y:Operand}{ats:Array TypeId}{ty:TypeId}{p:String}{af:Array Edge}{g:Option (Nat×Bool)}:
  execOp ρ ⟨d,.call ⟨.builtin .append,#[x,y],ats⟩,ty,p,af,g⟩=(do pure (Next.value (← Builtin.append_ ats ty #[ρ x,ρ y]))):=by
 simp [execOp,resolve,invoke,builtin,bind,Sem.bind,pure]
theorem Pb{ρ:Operand→Value}{d:Option Tmp}{y:Operand}{t ty:TypeId}{p:String}{af:Array Edge}{g:Option (Nat×Bool)}:
  execOp ρ ⟨d,.buildSlice t 1 #[(0,y)],ty,p,af,g⟩=(do pure (Next.value (← Instr.buildSlice t 1 #[(0,ρ y)]))):=by
 simp [execOp]
theorem Ti{L:Env}{d1:Tmp}{w:Value}:ev (AJ L (some d1) w) (.tmp d1)=some w:=by
 simp [AJ,ev,look]
theorem Fx{α:Type}(l r:List α)(x y:α):(l++x::r).set l.length y=l++y::r:=by simp
theorem JL.F1{e t t1:TypeId}{U ah l c m:Nat}{a:Option Addr}{blk:List (Nat×Obj)}{xs ys:List Value}{i:Nat}{rest:List Nat}{d:Option Tmp}{x y:Operand}{ats:Array TypeId}{ty:TypeId}{p:String}{af:Array Edge}{g:Option (Nat×Bool)}{z:Value}{ax:Option Addr}{cx:Nat}{B1:List (Nat×Obj)}
  (au:ops[i]? =some ⟨d,.call ⟨.builtin .append,#[x,y],ats⟩,ty,p,af,g⟩) (hw:AT L ops ⟨d,.call ⟨.builtin .append,#[x,y],ats⟩,ty,p,af,g⟩=some true) (av:BR b n ⟨d,.call ⟨.builtin .append,#[x,y],ats⟩,ty,p,af,g⟩=true)
  (aw:ev L x=some (.slice a l c)) (ay:ev L y=some (.slice ax m cx)) (az:ats[0]? =some t) (aA:ats[1]? =some t1) (ht:P.underlying t=some (.slice e)) (aB:P.underlying t1=some (.slice e)) (aC:Bq P e=some U) (hb:C9 P e=some ah) (aD:zeroOf P e=some z) (aE:z.cells.size=U)
  (aF:0<ah) (aG:ah≤64) (aP:0<m) (aH:l+m≤2 ^ 40) (aI:∀w∈ys,BB w=true) (ai:GS e U a l c blk xs) (aJ:Nd E H (B0++blk++B1)) (hs:EI (mk E H (B0++blk++B1)) (.slice ax m cx) U ys)
  (h:∀aq ab aj,GS e U aq (l+m) ab aj (xs++ys)→Nd E H (B0++aj)→JL J Q b n (AJ L d (.slice aq (l+m) ab)) ds (.inRegion ops rest::k) cs (mk E H (B0++aj))):
  JL J Q b n L ds (.inRegion ops (i::rest)::k) cs (mk E H (B0++blk++B1)):=by
 refine JL.op au hw av fun ρ ar=>?_;rw [H9,ar x _ aw,ar y _ ay];have aK:Ji (B0++blk++B1) B0.length e U a l c xs:=by
  rcases ai with⟨K,aa,ac,ak,ae⟩ | ⟨al,f,K,aa,ac,ak,ae⟩
  ·exact .inl ⟨K,aa,ac,ae⟩
  ·refine .inr ⟨al,f,K,?_,ac,ak,ae⟩;subst aa;simp
 have hlen:=ai.length;refine AB _ _ (JZ (pl:=B0.length) az aA aB ht aC hb aD aE aJ aK hs aI aF aH aG ?_ ?_ ?_)
 ·
  intro al f A ag aQ aR aL am an Z;rcases ai with⟨K,_⟩ | ⟨O,f0,K,aa,ac,ak,ae⟩
  ·rw [K] at ag;cases ag
  ·subst aa;have aM:O=al:=by rw [K] at ag;simpa using ag
   subst aM;have aN:(B0++ [(O,Obj.cells f0 e (0,0))]++B1).set B0.length (O,.cells A e (0,0))=B0++ [(O,.cells A e (0,0))]++B1:=by
    rw [List.append_assoc,List.append_assoc];exact Fx _ _ _ _
   rw [aN] at Z ⊢;have ao:Nd E H (B0++ [(O,.cells A e (0,0))]):=Nd.left Z;refine JL.drop (B0++ [(O,.cells A e (0,0))]) (fun p ap=>?_) Z (h a c _ (.inr ⟨O,A,K,rfl,am,aL,an.symm⟩) ao);exact List.mem_iff_getElem?.1 (List.mem_append_left _ ap)
 ·intro _ hm;omega
 ·
  intro r A ab aO am an Z;have ao:Nd E H (B0++ [(r,.cells A e (0,0))]):=Nd.pick Z;refine JL.drop (B0++ [(r,.cells A e (0,0))]) (fun p ap=>?_) Z (h (some ⟨r,0,none⟩) ab _ (.inr ⟨r,A,rfl,rfl,am,aO,an.symm⟩) ao);refine List.mem_iff_getElem?.1 ?_;rcases List.mem_append.1 ap with q | q
  ·simp [q]
  ·exact List.mem_append_right _ q
 where
  Nd.left {E H : LH} {A C : List (Nat × Obj)} (h : Nd E H (A ++ C)) : Nd E H A := by
    induction A with
    | nil => trivial
    | cons p A ih =>
      obtain ⟨c, o⟩ := p
      obtain ⟨h1, h2, h3, h4⟩ := h
      exact ⟨h1, h2, fun q hq => h3 q (List.mem_append_left _ hq), ih h4⟩
  Nd.pick {E H : LH} {A C F : List (Nat × Obj)} {x : Nat × Obj} (h : Nd E H (A ++ C ++ F ++ [x])) : Nd E H (A ++ [x]) := by
    induction A with
    | nil =>
      have : ∀ (D : List (Nat × Obj)), Nd E H (D ++ [x]) → Nd E H [x] := by
        intro D
        induction D with
        | nil => exact fun h => h
        | cons p D ih => obtain ⟨c, o⟩ := p; exact fun h => ih h.2.2.2
      exact this _ h
    | cons p A ih =>
      obtain ⟨c, o⟩ := p
      obtain ⟨h1, h2, h3, h4⟩ := h
      refine ⟨h1, h2, fun q hq => h3 q ?_, ih h4⟩
      rcases List.mem_append.1 hq with hq | hq
      · simp [hq]
      · exact List.mem_append_right _ hq
theorem Qd{K r:Nat}{e:TypeId}{v:Value}{A:List (Nat×Obj)}(O:v.cells.size=K)(U:Nd E H (A++ [(r,.cells v.cells e (0,0))])):
  EI (mk E H (A++ [(r,.cells v.cells e (0,0))])) (.slice (some ⟨r,0,none⟩) 1 1) K v.cells.toList:=by
 refine⟨.inl rfl,by simp [O],Nat.le_refl _,fun j w Z=>?_⟩;simp only [Nat.zero_add];refine Mo (i:=A.length) U (c:=v.cells) (e:=e) (f:=(0,0)) (by simp) ?_;simpa using Z
theorem JL.Iv{e t t1 t2:TypeId}{A K l c:Nat}{a:Option Addr}{blk:List (Nat×Obj)}{xs:List Value}{i ac:Nat}{rest:List Nat}{d1:Tmp}{d:Option Tmp}{x y:Operand}{ats:Array TypeId}{ty O:TypeId}{p U:String}{af Z:Array Edge}{g g':Option (Nat×Bool)}{z v:Value}
  (al:ops[i]? =some ⟨some d1,.buildSlice t2 1 #[(0,y)],O,U,Z,g'⟩) (hw:AT L ops ⟨some d1,.buildSlice t2 1 #[(0,y)],O,U,Z,g'⟩=some true) (am:BR b n ⟨some d1,.buildSlice t2 1 #[(0,y)],O,U,Z,g'⟩=true)
  (an:ops[ac]? =some ⟨d,.call ⟨.builtin .append,#[x,.tmp d1],ats⟩,ty,p,af,g⟩) (ao:∀w,AT (AJ L (some d1) w) ops ⟨d,.call ⟨.builtin .append,#[x,.tmp d1],ats⟩,ty,p,af,g⟩=some true) (ap:BR b n ⟨d,.call ⟨.builtin .append,#[x,.tmp d1],ats⟩,ty,p,af,g⟩=true)
  (aq:∀w,ev (AJ L (some d1) w) x=some (.slice a l c)) (ar:ev L y=some v) (au:ats[0]? =some t) (av:ats[1]? =some t1) (ht:P.underlying t=some (.slice e)) (aw:P.underlying t1=some (.slice e)) (ay:P.underlying t2=some (.slice e)) (ae:Bq P e=some A) (hb:C9 P e=some K) (ag:zeroOf P e=some z) (ah:z.cells.size=A)
  (az:0<K) (aA:K≤64) (aa:v.cells.size=A) (aG:0<A) (aH:A≤64) (aB:l+1≤2 ^ 40) (aC:∀w∈v.cells.toList,BB w=true) (aD:GS e A a l c blk xs) (aE:Nd E H (B0++blk))
  (h:∀w ai aj ab,GS e A ai (l+1) aj ab (xs++v.cells.toList)→Nd E H (B0++ab)→JL J Q b n (AJ (AJ L (some d1) w) d (.slice ai (l+1) aj)) ds (.inRegion ops rest::k) cs (mk E H (B0++ab))):
  JL J Q b n L ds (.inRegion ops (i::ac::rest)::k) cs (mk E H (B0++blk)):=by
 refine JL.op al hw am fun ρ aF=>?_;rw [Pb,aF y _ ar];refine AB _ _ (O8 (z:=z) (v:=v) ay (by rw [aa];exact ae) ag (by rw [aa];exact ah) (by omega) (by omega) aE fun r ak=>?_);refine JL.F1 (B1:= [(r,.cells v.cells e (0,0))]) (m:=1) (cx:=1) (ax:=some ⟨r,0,none⟩) (y:= .tmp d1) (x:=x) (ys:=v.cells.toList) (l:=l) (c:=c) (a:=a) (blk:=blk) (xs:=xs) an (ao _) ap (aq _) Ti au av ht aw ae hb ag ah az aA (by omega) aB aC aD ak ?_ (h _);exact Qd aa ak
theorem JL.QF{e:TypeId}{A l c:Nat}{a:Option Addr}{blk:List (Nat×Obj)}{xs:List Value}{todo:List Item}(ab:GS e A a l c blk xs)(U:Nd E H (B0++blk))
  (h:∀E',Le E E'→Lo E' A (.slice a l c) l xs→Nd E' H B0→JL J Q b n L ds todo cs (mk E' H B0)):JL J Q b n L ds todo cs (mk E H (B0++blk)):=by
 rcases ab with⟨rfl,rfl,rfl,rfl,rfl⟩ | ⟨K,f,rfl,rfl,ac,Z,rfl⟩
 ·simp only [List.append_nil] at U ⊢;exact h E (Le.refl _) .nil U
 ·have ae:(B0++ [(K,Obj.cells f e (0,0))])[B0.length]? =some (K,Obj.cells f e (0,0)):=by simp
  refine JL.freeze B0.length U ae fun E' hle ag aa=>?_;have ah:(B0++ [(K,Obj.cells f e (0,0))]).eraseIdx B0.length=B0:=by rw [List.eraseIdx_append_of_length_le (Nat.le_refl _)];simp
  rw [ah] at aa ⊢;refine h E' hle ⟨_,c,rfl,Z,?_,.inr ⟨K,0,f,e,(0,0),rfl,ag,fun j w O=>?_⟩⟩ aa
  ·have:l*A≤c*A:=Nat.mul_le_mul_right _ Z;simp [ac,Nat.min_eq_left this]
  ·rw [List.getElem?_take] at O;split at O
   ·simpa using O
   ·cases O
end
end Pal
namespace Pal
open Go Go.Conc
abbrev CR(s:Nat):Value:= .int .u16 (s:Int)
abbrev iV(n:Int):Value:= .int .i64 n
section
variable {P:Program}{s:St}{ρ:Operand→Value}{d:Option Tmp}{t u ty:TypeId}{x y:Operand}{p:String}{af:Array Edge}{g:Option (Nat×Bool)}{a c:Nat}
theorem Ko{m:Nat}(h:m<65536):IntKind.u16.wrap (m:Int)=m:=by
 simp only [IntKind.wrap,IntKind.bits,IntKind.signed];simp;omega
theorem Jq{m:Nat}(h:m<65536):(BitVec.ofInt IntKind.u16.bits (m:Int)).toNat=m:=by
 simp [IntKind.bits,BitVec.toNat_ofInt];omega
theorem Yl.Uu(A:ρ x=CR a)(K:ρ y=iV (c:Int))(O:c≤16):Yl P ⟨d,.binOp .shr t x y u,ty,p,af,g⟩ ρ s (CR (a>>>c)):=by
 have h:=Yl.shr (P:=P) (s:=s) (d:=d) (t:=t) (u:=u) (ty:=ty) (p:=p) (af:=af) (g:=g) A K (by omega);have e:((a:Int).fdiv (2 ^ (min (c:Int).toNat IntKind.u16.bits)))=((a>>>c:Nat):Int):=by
  have:min (c:Int).toNat IntKind.u16.bits=c:=by simp [IntKind.bits];omega
  rw [this,Nat.shiftRight_eq_div_pow,Int.fdiv_eq_ediv_of_nonneg _ (Int.pow_nonneg (by decide))];rw [Int.natCast_ediv]
  rfl
 rw [e] at h;exact h
theorem Yl.Um(K:ρ x=CR a)(O:ρ y=CR c)(A:a<65536)(U:c<65536):Yl P ⟨d,.binOp .and t x y u,ty,p,af,g⟩ ρ s (CR (a&&& c)):=by
 have h:=Yl.and (P:=P) (s:=s) (d:=d) (t:=t) (u:=u) (ty:=ty) (p:=p) (af:=af) (g:=g) K O;rw [BitVec.toNat_and,Jq A,Jq U,Ko (Nat.lt_of_le_of_lt Nat.and_le_left A)] at h;exact h
theorem Yl.UF(O:ρ x=CR a)(U:ρ y=CR c)(A:a<65536)(K:c<65536):Yl P ⟨d,.binOp .or t x y u,ty,p,af,g⟩ ρ s (CR (a ||| c)):=by
 have h:=Yl.or (P:=P) (s:=s) (d:=d) (t:=t) (u:=u) (ty:=ty) (p:=p) (af:=af) (g:=g) O U;rw [BitVec.toNat_or,Jq A,Jq K,Ko (Nat.or_lt_two_pow (n:=16) A K)] at h;exact h
theorem Yl.Uy(A:ρ x=CR 1)(K:ρ y=iV (c:Int))(O:c<16):Yl P ⟨d,.binOp .shl t x y u,ty,p,af,g⟩ ρ s (CR (1<<<c)):=by
 have h:=Yl.shl (P:=P) (s:=s) (d:=d) (t:=t) (u:=u) (ty:=ty) (p:=p) (af:=af) (g:=g) A K (by omega);have e:IntKind.u16.wrap (((1:Nat):Int)*2 ^ (min (c:Int).toNat IntKind.u16.bits))=((1<<<c:Nat):Int):=by
  have U:min (c:Int).toNat IntKind.u16.bits=c:=by simp [IntKind.bits];omega
  have Z:(1<<<c)<65536:=by rw [Nat.one_shiftLeft];exact Nat.pow_lt_pow_right (n:=16) (by omega) O
  rw [U,← Ko Z,Nat.one_shiftLeft];simp
 rw [e] at h;exact h
end
theorem Kc{P:Program}{t:TypeId}{A:TypeInfo}(h:P.types[t]? =some A):P.info? t=some A:=by
 have:=(Array.getElem?_eq_some_iff.1 h).1;unfold Tables.info?;rw [if_pos this,h]
theorem Ag{P:Program}{t:TypeId}{A:TypeInfo}(h:P.types[t]? =some A):Bq P t=some A.size:=by simp [Bq,Kc h]
theorem Cs{P:Program}{t:TypeId}{A:TypeInfo}(h:P.types[t]? =some A):C9 P t=some A.bytes:=by simp [C9,Kc h]
theorem AO{P:Program}{t:TypeId}{A:TypeInfo}(h:P.types[t]? =some A):zeroOf P t=A.zero:=by simp [zeroOf,Kc h]
def Sj:TypeDesc→Bool | .struct _=>true | .array _ _=>true | _=>false
theorem Al{P:Program}{t:TypeId}{d:TypeDesc}(h:P.underlying t=some d):CH P t=some (Sj d):=by
 unfold CH;rw [h];cases d <;> rfl
theorem Aw{P:Program}{f:FuncId}{fn:Func}(h:P.funcs[f]? =some fn)(hb:(!(fn.name== "runtime.NumGoroutine")&&fn.body.isSome)=true):Cx P f=true:=by
 simp only [Cx,h];exact hb
theorem RU(a c:Nat):decide (((a>>>c&&& 1:Nat):Int)=((1:Nat):Int))=a.testBit c:=by
 have:a.testBit c=decide ((a>>>c)&&& 1=1):=by
  rw [Nat.testBit,Nat.and_comm];rcases Nat.mod_two_eq_zero_or_one (a>>>c) with h | h <;> simp [Nat.and_one_is_mod,Nat.one_and_eq_mod_two,h]
 rw [this];congr 1;simp only [eq_iff_iff];omega
def NB(a:Nat):Nat→List Nat
 | 0=> []
 | n+1=>NB a n++(if a.testBit n then [n] else [])
abbrev Hc(a:Nat):List Nat:=NB a 16
end Pal
namespace Pal
end Pal
namespace Pal
open Go Go.Conc
end Pal
namespace Pal
open Go Go.Conc
def At(E:LH)(A o:Nat)(ws:List Value):Prop:=∃f e fr,E A=some (.cells f e fr)∧∀j w,ws[j]? =some w→f[o+j]? =some w
theorem At.mono{E E':LH}{A o:Nat}{ws:List Value}(h:At E A o ws)(hle:Le E E'):At E' A o ws:=let ⟨f,e,fr,K,O⟩:=h;⟨f,e,fr,hle _ _ K,O⟩
theorem At.cell{E H:LH}{B:List (Nat×Obj)}{A o j:Nat}{ws:List Value}{w:Value}(h:At E A o ws)(K:ws[j]? =some w):(mk E H B).cell? ⟨A,o+j,none⟩=some w:=
 let ⟨_,_,_,O,U⟩:=h;P3 O (U j w K)
theorem At.cells{E H:LH}{B:List (Nat×Obj)}{A o:Nat}{ws:List Value}(h:At E A o ws):∀j v,ws[j]? =some v→(mk E H B).cell? (Addr.add ⟨A,o,none⟩ j)=some v:=fun j v K=>by
 rw [Bi rfl];exact h.cell K
section
variable {P:Program}{J:Judge P}{Q:Goroutine→St→Prop}{b:Frame}{n:Nat}{ds:List Deferred}{ops:Array Oper}{k:List Item}{cs:List Frame}{L:Env}{s:St}{E E' H:LH}{B B0:List (Nat×Obj)}
variable {d:Option Tmp}{x y:Operand}{t u ty e:TypeId}{p:String}{af:Array Edge}{g:Option (Nat×Bool)}{v:Value}{i:Nat}{rest:List Nat}{kd:IntKind}
theorem JL.put(h:look L i=some v)(K:JL J Q b n (AJ L (some i) v) ds k cs s):JL J Q b n L ds k cs s:=fun T A=>
 K T ⟨A.size,fun t w e=>by
  simp only [AJ,look] at e
  split at e
  ·rename_i O;subst O;cases e;exact A.at_ _ _ h
  ·exact A.at_ _ _ e⟩
theorem JL.BW{q:Prop} [Decidable q] (h:look L i=some (.bool (decide q)))(K:q→JL J Q b n (AJ L (some i) (.bool true)) ds k cs s)(O:¬q→JL J Q b n (AJ L (some i) (.bool false)) ds k cs s):JL J Q b n L ds k cs s:=by
 by_cases A:q
 ·refine JL.put (i:=i) (v:= .bool true) ?_ (K A);rw [h,decide_eq_true A]
 ·refine JL.put (i:=i) (v:= .bool false) ?_ (O A);rw [h,decide_eq_false A]
theorem JL.Cg{c:Bool}(h:look L i=some (.bool c))(A:c=true→JL J Q b n (AJ L (some i) (.bool true)) ds k cs s)(K:c=false→JL J Q b n (AJ L (some i) (.bool false)) ds k cs s):JL J Q b n L ds k cs s:=by
 cases c
 ·exact JL.put h (K rfl)
 ·exact JL.put h (A rfl)
end
end Pal
namespace Pal
open Go Go.Conc
theorem Yl.OR{P:Program}{s:St}{ρ:Operand→Value}{d:Option Tmp}{t ty ft:TypeId}{x:Operand}{p:String}{af:Array Edge}{g:Option (Nat×Bool)}{a:Addr}{A:Array Field}{i:Nat}{fl:Field}(K off:Nat)(ht:P.underlying t=some (.struct A))(O:Bq P ft=some (K+1))(hi:A[i]? =some fl)(U:fl.type=ft)(Z:fl.offset=off)(aa:ρ x= .pointer (some a)):
  Yl P ⟨d,.fieldAddr t x i,ty,p,af,g⟩ ρ s (.pointer (some (a.add off))):=by
 subst U Z;exact Yl.fieldAddr ht hi O aa
end Pal
namespace Pal
open Go Go.Conc
section
variable {P:Program}{J:Judge P}{Q:Goroutine→St→Prop}{b:Frame}{n:Nat}{ds:List Deferred}{ops:Array Oper}{k:List Item}{cs:List Frame}{L:Env}{s:St}{E E' H:LH}{B B0:List (Nat×Obj)}
variable {d:Option Tmp}{x y:Operand}{t u ty e:TypeId}{p:String}{af:Array Edge}{g:Option (Nat×Bool)}{v:Value}{i:Nat}{rest:List Nat}{kd:IntKind}
theorem At.CO{A o j:Nat}{ws:List Value}{w:Value}(h:At E A o ws)(hs:∀x o,E x=some o→s.E x=some o)(K:ws[j]? =some w):s.cell? ⟨A,o+j,none⟩=some w:=by
 obtain⟨f,e,fr,O,U⟩:=h;unfold St.cell? St.get;rw [hs _ _ O];exact U j w K
theorem At.Ks{A o:Nat}{ws:List Value}(h:At E A o ws)(hs:∀x o,E x=some o→s.E x=some o):∀j v,ws[j]? =some v→s.cell? (Addr.add ⟨A,o,none⟩ j)=some v:=fun j v K=>by
 rw [Bi rfl];exact h.CO hs K
end
section
variable {P:Program}{J:Judge P}{Q:Goroutine→St→Prop}{b:Frame}{n:Nat}{ds:List Deferred}{ops:Array Oper}{k:List Item}{cs:List Frame}{m fuel:Nat}{listed:Array Bool}{L:Env}{E H:LH}{B:List (Nat×Obj)}
variable {d:Option Tmp}{x y:Operand}{t u ty e:TypeId}{p:String}{af:Array Edge}{g:Option (Nat×Bool)}{v:Value}{i:Nat}{kd:IntKind}
end
end Pal
namespace Pal
open Go Go.Conc
section
variable {P:Program}{J:Judge P}{Q:Goroutine→St→Prop}{b:Frame}{n:Nat}{ds:List Deferred}{ops:Array Oper}{k:List Item}{cs:List Frame}{m fuel:Nat}{D:Nat→Bool}{listed:Array Bool}{L:Env}{s:St}{i:Nat}{v:Value}
theorem Av.put(h:look L i=some v)(K:Av J Q b n ds ops k cs m D fuel listed (AJ L (some i) v) s):Av J Q b n ds ops k cs m D fuel listed L s:=fun T A=>
 K T ⟨A.size,fun t w e=>by
  simp only [AJ,look] at e
  split at e
  ·rename_i O;subst O;cases e;exact A.at_ _ _ h
  ·exact A.at_ _ _ e⟩
theorem Av.BW{q:Prop} [Decidable q] (h:look L i=some (.bool (decide q)))(K:q→Av J Q b n ds ops k cs m D fuel listed (AJ L (some i) (.bool true)) s)(O:¬q→Av J Q b n ds ops k cs m D fuel listed (AJ L (some i) (.bool false)) s):Av J Q b n ds ops k cs m D fuel listed L s:=by
 by_cases A:q
 ·refine Av.put (i:=i) (v:= .bool true) ?_ (K A);rw [h,decide_eq_true A]
 ·refine Av.put (i:=i) (v:= .bool false) ?_ (O A);rw [h,decide_eq_false A]
end
end Pal
namespace Pal
open Go Go.Conc
structure Rp (α:Type) where
 n:Nat
 r:LH→List Value→α→Prop
 mono:∀{E E':LH} {ws:List Value} {x:α},Le E E'→r E ws x→r E' ws x
 len:∀{E:LH} {ws:List Value} {x:α},r E ws x→ws.length=n
 one:∀{E:LH} {ws:List Value} {x:α},r E ws x→∀w∈ws,BB w=true
def rK(kd:IntKind):Rp Int:=⟨1,fun _ ws x=>ws= [.int kd x],fun _ h=>h,fun h=>by subst h;rfl,fun h w hw=>by subst h;simp at hw;subst hw;rfl⟩
abbrev rI:Rp Int:=rK .i64
def rN(kd:IntKind):Rp Nat:=⟨1,fun _ ws x=>ws= [.int kd ((x:Nat):Int)],fun _ h=>h,fun h=>by subst h;rfl,fun h w hw=>by subst h;simp at hw;subst hw;rfl⟩
def rB:Rp Bool:=⟨1,fun _ ws x=>ws= [.bool x],fun _ h=>h,fun h=>by subst h;rfl,fun h w hw=>by subst h;simp at hw;subst hw;rfl⟩
def rP{α β:Type}(p:Rp α)(q:Rp β):Rp (α×β):=⟨p.n+q.n,fun E ws x=>∃O U,ws=O++U∧p.r E O x.1∧q.r E U x.2,
 fun hle ⟨a,b,h,A,K⟩=>⟨a,b,h,p.mono hle A,q.mono hle K⟩,fun⟨a,b,h,A,K⟩=>by subst h;rw [List.length_append,p.len A,q.len K],
 fun⟨a,b,h,A,K⟩ w hw=>by
  subst h
  rcases List.mem_append.1 hw with hw | hw
  ·exact p.one A w hw
  ·exact q.one K w hw⟩
def Ao{α:Type}(p:Rp α)(E:LH)(a:Option Addr)(c:Nat)(xs:List α):Prop:=
 xs.length≤c∧((xs= []∧∀ad:Addr,a=some ad→ad.spot=none∨c=0)∨∃A off,a=some ⟨A,off,none⟩∧∀(i:Nat) x,xs[i]? =some x→∃ws,p.r E ws x∧At E A (off+i*p.n) ws)
theorem Ao.mono{α:Type}{p:Rp α}{E E':LH}{a:Option Addr}{c:Nat}{xs:List α}(h:Ao p E a c xs)(hle:Le E E'):Ao p E' a c xs:=
 ⟨h.1,h.2.imp id fun⟨A,off,K,O⟩=>⟨A,off,K,fun i x U=>let ⟨ws,Z,aa⟩:=O i x U;⟨ws,p.mono hle Z,aa.mono hle⟩⟩⟩
theorem Ao.nil{α:Type}{p:Rp α}{E:LH}{c:Nat}:Ao p E none c []:=⟨Nat.zero_le _,.inl ⟨rfl,fun _ h=>by cases h⟩⟩
def rL{α:Type}(p:Rp α):Rp (List α):=⟨1,fun E ws xs=>∃a c,ws= [.slice a xs.length c]∧Ao p E a c xs,
 fun hle ⟨a,c,h,A⟩=>⟨a,c,h,A.mono hle⟩,fun⟨a,c,h,A⟩=>by subst h;rfl,fun⟨a,c,h,A⟩ w hw=>by subst h;simp at hw;subst hw;rfl⟩
def rA{α:Type}(k:Nat)(p:Rp α):Rp (List α):=⟨k*p.n,fun E ws xs=>xs.length=k∧∃wss:List (List Value),ws=wss.flatten∧wss.length=k∧∀(i:Nat) x us,xs[i]? =some x→wss[i]? =some us→p.r E us x,
 fun hle ⟨O,wss,h,A,K⟩=>⟨O,wss,h,A,fun i x us a b=>p.mono hle (K i x us a b)⟩,
 fun {E ws xs} ⟨O,wss,h,A,K⟩=>by
  subst h
  have:∀(wss:List (List Value)) (xs:List α),xs.length=wss.length→(∀(i:Nat) x us,xs[i]? =some x→wss[i]? =some us→p.r E us x)→wss.flatten.length=wss.length*p.n:=by
   intro wss
   induction wss with
   | nil=>intro xs _ _;simp
   | cons us wss Z=>
    intro xs U h
    cases xs with
    | nil=>simp at U
    | cons x xs=>
     rw [List.flatten_cons,List.length_append,p.len (h 0 x us rfl rfl),Z xs (by simpa using U) (fun i y u a b=>h (i+1) y u a b),List.length_cons,Nat.succ_mul,Nat.add_comm]
  rw [this wss xs (by omega) K,A],
 fun {E ws xs} ⟨O,wss,h,A,K⟩ w hw=>by
  subst h
  obtain⟨us,aa,hw⟩:=List.mem_flatten.1 hw
  obtain⟨i,hi⟩:=List.mem_iff_getElem?.1 aa
  have ab:i<xs.length:=by rw [O,← A];exact(List.getElem?_eq_some_iff.1 hi).1
  exact p.one (K i _ us (List.getElem?_eq_getElem ab) hi) w hw⟩
def ix{α:Type}(xs:List α)(i:Int):Option α:=if 0≤i then xs[i.toNat]? else none
theorem FD{α:Type}{xs:List α}{i:Int}{x:α}(h:ix xs i=some x):∃m:Nat,i=m∧xs[m]? =some x:=by
 unfold ix at h;split at h
 ·exact⟨i.toNat,by omega,h⟩
 ·cases h
def Ax(x:Int):Option Int:=if -9223372036854775808≤x∧x≤9223372036854775807 then some x else none
theorem Hp{x y:Int}(h:Ax x=some y):y=x∧ -9223372036854775808≤x∧x≤9223372036854775807:=by
 unfold Ax at h;split at h
 ·rename_i hb;exact⟨(Option.some.inj h).symm,hb⟩
 ·cases h
theorem bind_some{α β:Type}{o:Option α}{f:α→Option β}{r:β}(h:o.bind f=some r):∃x,o=some x∧f x=some r:=by
 cases o with
 | none=>cases h
 | some x=>exact⟨x,rfl,h⟩
inductive A4 (S A:Type) where
 | more (s:S)
 | done (a:A)
def iter{S A:Type}(body:S→Option (A4 S A)):Nat→S→Option A
 | 0,_=>none
 | f+1,s=>match body s with
  | none=>none
  | some (.done a)=>some a
  | some (.more s')=>iter body f s'
theorem LS{S A:Type}{body:S→Option (A4 S A)}{f:Nat}{s:S}{a:A}(h:iter body (f+1) s=some a):∃st,body s=some st:=by
 simp only [iter] at h;cases hb:body s with
 | none=>rw [hb] at h;cases h
 | some st=>exact⟨st,rfl⟩
theorem Me{S A:Type}{body:S→Option (A4 S A)}{f:Nat}{s:S}{a K:A}(h:iter body (f+1) s=some a)(hb:body s=some (.done K)):K=a:=by
 simp only [iter,hb] at h;exact Option.some.inj h
theorem LV{S A:Type}{body:S→Option (A4 S A)}{f:Nat}{s s':S}{a:A}(h:iter body (f+1) s=some a)(hb:body s=some (.more s')):iter body f s'=some a:=by
 simp only [iter,hb] at h;exact h
abbrev Seg:=List (Nat×Obj)
def Ap(E H:LH)(S:List Seg):St:=mk E H S.flatten
def Ay(E H:LH)(S:List Seg):Prop:=Nd E H S.flatten
theorem Nd.mem{E H:LH}:∀{B:List (Nat×Obj)} {b:Nat} {o:Obj},Nd E H B→(b,o)∈B→∃i:Nat,B[i]? =some (b,o):=fun _ h=>List.mem_iff_getElem?.1 h
theorem Nd.iff{E H:LH}:∀{B:List (Nat×Obj)},Nd E H B↔(B.map (·.1)).Nodup∧∀p∈B,E p.1=none∧H p.1=none
 | []=>by simp [Nd]
 | (b,o)::B=>by
  simp only [Nd,List.map_cons,List.nodup_cons,List.mem_cons,forall_eq_or_imp,Nd.iff (B:=B),List.mem_map,not_exists,not_and]
  constructor
  ·rintro⟨A,K,O,U,Z⟩;exact⟨⟨O,U⟩,⟨A,K⟩,Z⟩
  ·rintro⟨⟨O,U⟩,⟨A,K⟩,Z⟩;exact⟨A,K,O,U,Z⟩
theorem Nd.perm{E H:LH}{B B':List (Nat×Obj)}(h:Nd E H B)(A:B.Perm B'):Nd E H B':=by
 rw [Nd.iff] at h ⊢;exact⟨(A.map _).nodup_iff.1 h.1,fun p K=>h.2 p (A.mem_iff.2 K)⟩
theorem Hj{E H:LH}{B B':List (Nat×Obj)}(h:Nd E H B)(A:B.Perm B'):AU B H=AU B' H:=by
 funext x;by_cases K:∃p∈B,p.1=x
 ·obtain⟨⟨b,o⟩,hm,rfl⟩:=K;obtain⟨i,hi⟩:=h.mem hm;obtain⟨j,O⟩:=(h.perm A).mem (A.mem_iff.1 hm);rw [FY h hi,FY (h.perm A) O]
 ·have key:∀{C:List (Nat×Obj)},(∀p∈C,p.1≠x)→AU C H x=H x:=by
   intro C
   induction C with
   | nil=>intro _;rfl
   | cons p C U=>
    intro hC;obtain⟨c,u⟩:=p;have Z:x≠c:=fun e=>hC (c,u) (by simp) e.symm;simp only [AU,if_neg Z];exact U fun p A=>hC p (List.mem_cons_of_mem _ A)
  rw [key fun p A e=>K ⟨p,A,e⟩,key fun p aa e=>K ⟨p,A.mem_iff.2 aa,e⟩]
theorem Dt{E H:LH}{B B':List (Nat×Obj)}(h:Nd E H B)(A:B.Perm B'):mk E H B=mk E H B':=by unfold mk;rw [Hj h A]
theorem CL{S:List Seg}{j:Nat}{seg seg':Seg}(h:S[j]? =some seg):S.flatten.Perm ((S.set j []).flatten++seg)∧(S.set j seg').flatten.Perm ((S.set j []).flatten++seg'):=by
 induction S generalizing j with
 | nil=>simp at h
 | cons x S A=>
  cases j with
  | zero=>
   simp at h;subst h;simp only [List.set_cons_zero,List.flatten_cons,List.nil_append];exact⟨List.perm_append_comm,List.perm_append_comm⟩
  | succ j=>
   simp at h;obtain⟨K,O⟩:=A h;simp only [List.set_cons_succ,List.flatten_cons,List.append_assoc];exact⟨K.append_left x,O.append_left x⟩
theorem Ed{E H:LH}{S:List Seg}{j:Nat}{seg:Seg}(A:Ay E H S)(h:S[j]? =some seg):Ap E H S=mk E H ((S.set j []).flatten++seg)∧Nd E H ((S.set j []).flatten++seg):=
 ⟨Dt A (CL (seg':=seg) h).1,Nd.perm A (CL (seg':=seg) h).1⟩
theorem Fc{E H:LH}{S:List Seg}{j:Nat}{seg seg':Seg}(h:S[j]? =some seg)(A:Nd E H ((S.set j []).flatten++seg')):mk E H ((S.set j []).flatten++seg')=Ap E H (S.set j seg')∧Ay E H (S.set j seg'):=
 ⟨Dt A (CL h).2.symm,Nd.perm A (CL h).2.symm⟩
theorem EC(S:List Seg)(seg:Seg):(S++ [seg]).flatten=S.flatten++seg:=by simp
theorem CS{E H:LH}{S:List Seg}{seg:Seg}(A:Nd E H (S.flatten++seg)):mk E H (S.flatten++seg)=Ap E H (S++ [seg])∧Ay E H (S++ [seg]):=by
 unfold Ap Ay;rw [EC];exact⟨rfl,A⟩
theorem C8{E H:LH}{S:List Seg}{j i A:Nat}{seg:Seg}{o:Obj}(K:Ay E H S)(O:S[j]? =some seg)(hi:seg[i]? =some (A,o)):(Ap E H S).get A=some o:=by
 have hm:(A,o)∈S.flatten:=List.mem_flatten.2 ⟨seg,List.mem_of_getElem? O,List.mem_of_getElem? hi⟩;obtain⟨Z,U⟩:=K.mem hm;exact JU K U
theorem Cw{E H:LH}{S:List Seg}{j A off:Nat}{c:Array Value}{e:TypeId}{f:Nat×Nat}{v:Value}{seg:Seg}(K:Ay E H S)(O:S[j]? =some ((A,.cells c e f)::seg))(U:c[off]? =some v):(Ap E H S).cell? ⟨A,off,none⟩=some v:=by
 unfold St.cell?;rw [C8 (i:=0) K O rfl];exact U
theorem Px{E H:LH}{S:List Seg}{j A off:Nat}{c:Array Value}{e:TypeId}{f:Nat×Nat}{vs:List Value}{seg:Seg}(K:Ay E H S)(O:S[j]? =some ((A,.cells c e f)::seg))(U:∀i v,vs[i]? =some v→c[off+i]? =some v):∀i v,vs[i]? =some v→(Ap E H S).cell? (Addr.add ⟨A,off,none⟩ i)=some v:=fun i v hi=>by
 rw [Bi rfl];exact Cw K O (U i v hi)
def OL{α:Type}(e:TypeId)(p:Rp α)(E:LH)(a:Option Addr)(c:Nat)(seg:Seg)(xs:List α):Prop:=
 ∃wss:List (List Value),GS e p.n a xs.length c seg wss.flatten∧wss.length=xs.length∧∀(i:Nat) x ws,xs[i]? =some x→wss[i]? =some ws→p.r E ws x
theorem OL.mono{α:Type}{e:TypeId}{p:Rp α}{E E':LH}{a:Option Addr}{c:Nat}{seg:Seg}{xs:List α}(h:OL e p E a c seg xs)(hle:Le E E'):OL e p E' a c seg xs:=
 let ⟨wss,A,K,O⟩:=h;⟨wss,A,K,fun i x ws U hw=>p.mono hle (O i x ws U hw)⟩
theorem OL.nil{α:Type}{e:TypeId}{p:Rp α}{E:LH}:OL e p E none 0 [] []:=⟨[],GS.nil,rfl,fun i x ws A=>by simp at A⟩
theorem FW{α:Type}{p:Rp α}{E:LH}{wss:List (List Value)}{xs:List α}(A:wss.length=xs.length)(h:∀(i:Nat) x ws,xs[i]? =some x→wss[i]? =some ws→p.r E ws x):∀ws∈wss,ws.length=p.n:=fun ws hw=>by
 obtain⟨i,hi⟩:=List.mem_iff_getElem?.1 hw
 have K:i<xs.length:=by rw [← A];exact(List.getElem?_eq_some_iff.1 hi).1
 exact p.len (h i _ ws (List.getElem?_eq_getElem K) hi)
theorem GD{α:Type}{n:Nat}:∀{wss:List (List α)},(∀ws∈wss,ws.length=n)→∀{i:Nat} {ws:List α},wss[i]? =some ws→∀j w,ws[j]? =some w→wss.flatten[i*n+j]? =some w
 | [],_,_,_,h,_,_,_=>by simp at h
 | us::wss,K,0,ws,h,j,w,A=>by
  simp at h;subst h
  have:j<us.length:=(List.getElem?_eq_some_iff.1 A).1
  simp only [List.flatten_cons,Nat.zero_mul,Nat.zero_add]
  rw [List.getElem?_append_left this];exact A
 | us::wss,K,i+1,ws,h,j,w,A=>by
  simp at h
  have hu:us.length=n:=K us (by simp)
  simp only [List.flatten_cons]
  rw [List.getElem?_append_right (by rw [hu,Nat.succ_mul];omega)]
  have e:(i+1)*n+j - us.length=i*n+j:=by rw [hu,Nat.succ_mul];omega
  rw [e];exact GD (fun ws hw=>K ws (List.mem_cons_of_mem _ hw)) h j w A
end Pal
namespace Pal
open Go Go.Conc
section
variable {P:Program}{s:St}{ρ:Operand→Value}{x y z:Operand}{d:Option Tmp}{t u ty e:TypeId}{p:String}{af:Array Edge}{g:Option (Nat×Bool)}{v:Value}{kd kd':IntKind}{m m':Int}{a b:Nat}
theorem K0{a:Nat}:IntKind.u64.wrap (a:Int)=((a % 2 ^ 64:Nat):Int):=by
 simp only [IntKind.wrap,IntKind.bits,IntKind.signed];simp
theorem Yl.Uk(A:ρ x= .int .u64 (a:Int))(K:ρ y= .int .u64 (b:Int)):Yl P ⟨d,.binOp .add t x y u,ty,p,af,g⟩ ρ s (.int .u64 (((a+b) % 2 ^ 64:Nat):Int)):=by
 have h:=Yl.add (P:=P) (s:=s) (d:=d) (t:=t) (u:=u) (ty:=ty) (p:=p) (af:=af) (g:=g) A K;rw [show((a:Int)+(b:Int))=((a+b:Nat):Int) by omega,K0] at h;exact h
theorem Yl.Ju(A:ρ x= .int .u64 (a:Int))(K:ρ y= .int .u64 (b:Int)):Yl P ⟨d,.binOp .mul t x y u,ty,p,af,g⟩ ρ s (.int .u64 (((a*b) % 2 ^ 64:Nat):Int)):=by
 have h:=Yl.mul (P:=P) (s:=s) (d:=d) (t:=t) (u:=u) (ty:=ty) (p:=p) (af:=af) (g:=g) A K;rw [show((a:Int)*(b:Int))=((a*b:Nat):Int) by rw [Int.natCast_mul],K0] at h;exact h
theorem Yl.Jo(A:ρ x= .int .u64 (a:Int))(K:ρ y= .int .u64 (b:Int)):Yl P ⟨d,.binOp .xor t x y u,ty,p,af,g⟩ ρ s (.int .u64 (((a ^^^ b) % 2 ^ 64:Nat):Int)):=by
 have h:=Yl.xor (P:=P) (s:=s) (d:=d) (t:=t) (u:=u) (ty:=ty) (p:=p) (af:=af) (g:=g) A K;have e:(BitVec.ofInt IntKind.u64.bits (a:Int) ^^^ BitVec.ofInt IntKind.u64.bits (b:Int)).toNat=(a ^^^ b) % 2 ^ 64:=by
  rw [Nat.xor_mod_two_pow];rw [BitVec.ofInt_natCast,BitVec.ofInt_natCast];show(BitVec.ofNat 64 a ^^^ BitVec.ofNat 64 b).toNat=_;rw [BitVec.toNat_xor,BitVec.toNat_ofNat,BitVec.toNat_ofNat]
 rw [e,K0,Nat.mod_mod] at h;exact h
theorem Yl.Us(A:ρ x= .int .u64 (a:Int))(K:ρ y= .int .u64 (b:Int))(O:b≠0):Yl P ⟨d,.binOp .rem t x y u,ty,p,af,g⟩ ρ s (.int .u64 ((a % b:Nat):Int)):=by
 have h:=Yl.rem (P:=P) (s:=s) (d:=d) (t:=t) (u:=u) (ty:=ty) (p:=p) (af:=af) (g:=g) A K (by omega);rw [show(a:Int).tmod (b:Int)=((a % b:Nat):Int) from rfl] at h;exact h
theorem Yl.Ha(c:Nat)(A:ρ x= .int .u64 (a:Int))(K:ρ y= .int .u64 (c:Int))(U:c≤64):Yl P ⟨d,.binOp .shr t x y u,ty,p,af,g⟩ ρ s (.int .u64 ((a>>>c:Nat):Int)):=by
 have h:=Yl.shr (P:=P) (s:=s) (d:=d) (t:=t) (u:=u) (ty:=ty) (p:=p) (af:=af) (g:=g) A K (by omega);have e:min (c:Int).toNat IntKind.u64.bits=c:=by simp [IntKind.bits];omega
 rw [e,Int.fdiv_eq_ediv_of_nonneg _ (Int.pow_nonneg (by decide))] at h;have O:(a:Int) / 2 ^ c=((a>>>c:Nat):Int):=by rw [Nat.shiftRight_eq_div_pow,Int.natCast_ediv];rfl
 rw [O] at h;exact h
def B6(m:Int):Nat:=(m % 2 ^ 64).toNat
def Gy(a:Nat):Int:=IntKind.i64.wrap (a:Int)
theorem Yl.B6(ht:P.underlying t=some (.int .i64))(hu:P.underlying u=some (.int .u64))(A:ρ x=iV m):Yl P ⟨d,.convert t u x,ty,p,af,g⟩ ρ s (.int .u64 ((B6 m:Nat):Int)):=by
 have h:=Yl.conv (P:=P) (s:=s) (d:=d) (ty:=ty) (p:=p) (af:=af) (g:=g) ht hu A
 have e:IntKind.u64.wrap m=((Pal.B6 m:Nat):Int):=by
  unfold Pal.B6;simp only [IntKind.wrap,IntKind.bits,IntKind.signed];simp;omega
 rw [e] at h;exact h
theorem Yl.Gy(ht:P.underlying t=some (.int .u64))(hu:P.underlying u=some (.int .i64))(A:ρ x= .int .u64 (a:Int)):Yl P ⟨d,.convert t u x,ty,p,af,g⟩ ρ s (iV (Gy a)):=
 Yl.conv (P:=P) (s:=s) (d:=d) (ty:=ty) (p:=p) (af:=af) (g:=g) ht hu A
theorem Yl.A0{r:Int}(A:ρ x=iV m)(K:ρ y=iV m')(h:Ax (m+m')=some r):Yl P ⟨d,.binOp .add t x y u,ty,p,af,g⟩ ρ s (iV r):=by
 obtain⟨rfl,hb⟩:=Hp h;exact Yl.Ui A K hb
theorem Yl.Bb{r:Int}(A:ρ x=iV m)(K:ρ y=iV m')(h:Ax (m - m')=some r):Yl P ⟨d,.binOp .sub t x y u,ty,p,af,g⟩ ρ s (iV r):=by
 obtain⟨rfl,hb⟩:=Hp h;exact Yl.Up A K hb
theorem Yl.mulC{r:Int}(A:ρ x=iV m)(K:ρ y=iV m')(h:Ax (m*m')=some r):Yl P ⟨d,.binOp .mul t x y u,ty,p,af,g⟩ ρ s (iV r):=by
 obtain⟨rfl,hb⟩:=Hp h;exact Yl.Uo A K hb
theorem Yl.Gw{q:Prop} [Decidable q] (A:ρ x= .bool (decide q)):Yl P ⟨d,.unOp .not t x,ty,p,af,g⟩ ρ s (.bool (decide (¬q))):=by
 have h:=Yl.not (P:=P) (s:=s) (d:=d) (t:=t) (ty:=ty) (p:=p) (af:=af) (g:=g) A;simpa using h
theorem PU{A:Array (Nat×Operand)}:execOp ρ ⟨d,.build t A,ty,p,af,g⟩=(do pure (Next.value (← Instr.build t (A.map fun(j,x)=>(j,ρ x))))):=by
 simp only [execOp]
theorem Yl.build{z:Value}{K:Array Field}{A:Array (Nat×Operand)}{vs:List (Nat×Value)}{places:Array (Nat×Nat)}{cells:Array Value}(Z:zeroOf P t=some z)(ht:P.underlying t=some (.struct K))(aa:K.toList.mapM (fun f=>(Bq P f.type).map fun n=>(f.offset,n))=some places.toList)
  (ab:A.toList.map (fun(j,x)=>(j,ρ x))=vs) (ac:Instr.fill (places[·]?) z.cells vs=some cells):Yl P ⟨d,.build t A,ty,p,af,g⟩ ρ s (.agg cells):=by
 refine Yl.Ds PU ?_;unfold Instr.build;refine AB (x:=zeroValue t) _ (D7 Z ?_);refine AB _ _ (Cd ht ?_);simp only;have key:∀(l:List Field) (acc:List (Nat×Nat)) {Q:List (Nat×Nat)→St→Prop} {X:Halt→St→Prop} (A:List (Nat×Nat)),l.mapM (fun f=>(Bq P f.type).map fun n=>(f.offset,n))=some A→Q (acc.reverse++A) s→lp P (List.mapM.loop (m:=Sem) (fun f=>do pure (f.offset,← Go.sizeOf f.type)) l acc) s Q X:=by
  intro l
  induction l with
  | nil=>
   intro acc Q X A h k;simp at h;subst h;simp only [List.append_nil] at k;exact k
  | cons f l ae=>
   intro acc Q X A h k;simp only [List.mapM_cons,bind] at h;cases O:Bq P f.type with
   | none=>rw [O] at h;simp at h
   | some n=>
    rw [O] at h;simp only [Option.map_some,Option.bind_some] at h;obtain⟨ag,ah,U⟩:=bind_some h;simp at U;subst U;have:=ae ((f.offset,n)::acc) (Q:=Q) (X:=X) ag ah (by simpa using k);simp only [List.mapM.loop];exact AB _ _ (AB (x:=Go.sizeOf f.type) _ (Dg O this))
 have e:(A.map fun(j,x)=>(j,ρ x)).toList=vs:=by rw [← ab,Array.toList_map]
 refine AB _ _ ?_;rw [Array.mapM_eq_mapM_toList];refine AB (x:=List.mapM.loop (m:=Sem) (fun f=>do pure (f.offset,← Go.sizeOf f.type)) K.toList []) (f:=fun r=>pure r.toArray) (key K.toList [] places.toList aa ?_)
 simp only [List.reverse_nil,List.nil_append,lp,pure];rw [e,ac];exact⟨rfl,rfl⟩
end
end Pal
namespace Pal
open Go Go.Conc
section
variable {P:Program}{J:Judge P}{Q:Goroutine→St→Prop}{b:Frame}{n:Nat}{ds:List Deferred}{ops:Array Oper}{k:List Item}{cs:List Frame}{L:Env}{s:St}{E E' H:LH}{S:List Seg}
variable {d:Option Tmp}{x y:Operand}{t u ty e:TypeId}{p:String}{af:Array Edge}{g:Option (Nat×Bool)}{v:Value}{i:Nat}{rest:List Nat}{kd:IntKind}
theorem JS.box(K:ops[i]? =some ⟨d,.box e x,ty,p,af,g⟩)(hw:AT L ops ⟨d,.box e x,ty,p,af,g⟩=some true)(O:BR b n ⟨d,.box e x,ty,p,af,g⟩=true)(U:Ay E H S)(Z:ev L x=some v)
  (h:∀r,Ay E H (S++ [[(r,.cells v.cells e (0,0))]])→JL J Q b n (AJ L d (.pointer (some ⟨r,0,none⟩))) ds (.inRegion ops rest::k) cs (Ap E H (S++ [[(r,.cells v.cells e (0,0))]]))):
  JL J Q b n L ds (.inRegion ops (i::rest)::k) cs (Ap E H S):=
 JL.box K hw O U Z fun r A=>by rw [(CS A).1];exact h r (CS A).2
theorem JS.alloc{z:Value}(K:ops[i]? =some ⟨d,.alloc e,ty,p,af,g⟩)(hw:AT L ops ⟨d,.alloc e,ty,p,af,g⟩=some true)(O:BR b n ⟨d,.alloc e,ty,p,af,g⟩=true)(U:Ay E H S)(Z:zeroOf P e=some z)
  (h:∀r,Ay E H (S++ [[(r,.cells z.cells e (0,0))]])→JL J Q b n (AJ L d (.pointer (some ⟨r,0,none⟩))) ds (.inRegion ops rest::k) cs (Ap E H (S++ [[(r,.cells z.cells e (0,0))]]))):
  JL J Q b n L ds (.inRegion ops (i::rest)::k) cs (Ap E H S):=
 JL.alloc K hw O U Z fun r A=>by rw [(CS A).1];exact h r (CS A).2
theorem JS.store{A off:Nat}{c:Array Value}(j:Nat)(U:ops[i]? =some ⟨d,.store t x y,ty,p,af,g⟩)(hw:AT L ops ⟨d,.store t x y,ty,p,af,g⟩=some true)(Z:BR b n ⟨d,.store t x y,ty,p,af,g⟩=true)(aa:Ay E H S)
  (ab:ev L x=some (.pointer (some ⟨A,off,none⟩))) (ac:ev L y=some v) (ae:Bq P t=some v.cells.size) (ag:∀u∈v.cells.toList,BB u=true) (K:S[j]? =some [(A,.cells c e (0,0))]) (hle:off+v.cells.size≤c.size)
  (h:Ay E H (S.set j [(A,.cells (A5 c off v.cells.toList) e (0,0))])→JL J Q b n (AJ L d undef) ds (.inRegion ops rest::k) cs (Ap E H (S.set j [(A,.cells (A5 c off v.cells.toList) e (0,0))]))):
  JL J Q b n L ds (.inRegion ops (i::rest)::k) cs (Ap E H S):=by
 obtain⟨ah,ai⟩:=Ed aa K;rw [ah];refine JL.store (S.set j []).flatten.length U hw Z ai ab ac ae ag (c:=c) (e:=e) (by simp) hle fun O=>?_;have aj:((S.set j []).flatten++ [(A,Obj.cells c e (0,0))]).set (S.set j []).flatten.length (A,.cells (A5 c off v.cells.toList) e (0,0))=(S.set j []).flatten++ [(A,.cells (A5 c off v.cells.toList) e (0,0))]:=Fx _ _ _ _;rw [aj] at O ⊢;obtain⟨ak,al⟩:=Fc K O;rw [ak];exact h al
theorem JS.drop{todo:List Item}{seg:Seg}(j:Nat)(U:Ay E H S)(A:S[j]? =some seg)(h:Ay E H (S.set j [])→JL J Q b n L ds todo cs (Ap E H (S.set j []))):JL J Q b n L ds todo cs (Ap E H S):=by
 obtain⟨Z,K⟩:=Ed U A;rw [Z];have aa:Nd E H ((S.set j []).flatten++ []):=by rw [List.append_nil];exact JL.F1.Nd.left K
 obtain⟨O,ab⟩:=Fc (seg':= []) A aa;refine JL.drop (S.set j []).flatten (fun q ac=>List.mem_iff_getElem?.1 (List.mem_append_left _ ac)) K ?_;have ae:(S.set j []).flatten++ []=(S.set j []).flatten:=List.append_nil _;rw [ae] at O;rw [O];exact h ab
theorem JS.Ba{todo:List Item}{A:Nat}{c:Array Value}{f:Nat×Nat}(j:Nat)(O:Ay E H S)(U:S[j]? =some [(A,.cells c e f)])
  (h:∀E',Le E E'→At E' A 0 c.toList→Ay E' H (S.set j [])→JL J Q b n L ds todo cs (Ap E' H (S.set j []))):JL J Q b n L ds todo cs (Ap E H S):=by
 obtain⟨Z,aa⟩:=Ed O U;rw [Z];have ab:((S.set j []).flatten++ [(A,Obj.cells c e f)])[(S.set j []).flatten.length]? =some (A,Obj.cells c e f):=by simp
 refine JL.freeze (S.set j []).flatten.length aa ab fun E' hle ac K=>?_;have ae:((S.set j []).flatten++ [(A,Obj.cells c e f)]).eraseIdx (S.set j []).flatten.length=(S.set j []).flatten:=by rw [List.eraseIdx_append_of_length_le (Nat.le_refl _)];simp
 rw [ae] at K ⊢;exact h E' hle ⟨_,_,_,ac,fun i w hi=>by simpa using hi⟩ K
theorem JS.BJ{α:Type}{pp:Rp α}{todo:List Item}{a:Option Addr}{c:Nat}{seg:Seg}{xs:List α}(j:Nat)(O:OL e pp E a c seg xs)(ag:Ay E H S)(ah:S[j]? =some seg)
  (h:∀E',Le E E'→Ao pp E' a c xs→Ay E' H (S.set j [])→JL J Q b n L ds todo cs (Ap E' H (S.set j []))):JL J Q b n L ds todo cs (Ap E H S):=by
 obtain⟨wss,O,aa,ab⟩:=O;have ai:∀ad:Addr,a=some ad→ad.spot=none:=fun ad A=>by
  rcases O with⟨K,_⟩ | ⟨ac,f,K,_⟩
  ·rw [K] at A;cases A
  ·rw [K] at A;cases A;rfl
 obtain⟨K,aj⟩:=Ed ag ah;rw [K];refine JL.QF O aj fun E' hle ak al=>h E' hle ?_ al;obtain⟨am,an,U,ao,aw,Z⟩:=ak;obtain⟨rfl,-,rfl⟩:a=am∧xs.length=xs.length∧c=an:=by
  simp only [Value.slice.injEq] at U;exact⟨U.1,rfl,U.2.2⟩
 refine⟨ao,?_⟩;rcases Z with Z | ⟨ac,off,f,ap,fr,aq,ar,au⟩
 ·exact .inl ⟨List.eq_nil_of_length_eq_zero Z,fun ad A=> .inl (ai ad A)⟩
 ·refine .inr ⟨ac,off,aq,fun i x ae=>?_⟩;have av:i<wss.length:=by rw [aa];exact(List.getElem?_eq_some_iff.1 ae).1
  have hw:=List.getElem?_eq_getElem av;refine⟨wss[i],pp.mono hle (ab i x _ ae hw),f,ap,fr,ar,fun m w hm=>?_⟩;rw [Nat.add_assoc];exact au _ w (GD (FW aa ab) hw m w hm)
theorem Pp{α:Type}{pp:Rp α}{wss:List (List Value)}{xs:List α}{x:α}{ws:List Value}(K:wss.length=xs.length)(h:∀(i:Nat) x ws,xs[i]? =some x→wss[i]? =some ws→pp.r E ws x)(O:pp.r E ws x):
  ∀(i:Nat) y us,(xs++ [x])[i]? =some y→(wss++ [ws])[i]? =some us→pp.r E us y:=by
 intro i y us A hu;rcases Nat.lt_or_ge i xs.length with hi | hi
 ·rw [List.getElem?_append_left hi] at A;rw [List.getElem?_append_left (by omega)] at hu;exact h i y us A hu
 ·rw [List.getElem?_append_right hi] at A;rw [List.getElem?_append_right (by omega),K] at hu;cases hm:i - xs.length with
  | zero=>rw [hm] at A hu;simp at A hu;subst A hu;exact O
  | succ m=>rw [hm] at A;simp at A
theorem JS.Iv{α:Type}{pp:Rp α}{t1 t2:TypeId}{O c:Nat}{a:Option Addr}{seg:Seg}{xs:List α}{xv:α}{ae:Nat}{d1:Tmp}{ats:Array TypeId}{U:TypeId}{Z:String}{aa:Array Edge}{g':Option (Nat×Bool)}{z:Value}(j:Nat)
  (ai:ops[i]? =some ⟨some d1,.buildSlice t2 1 #[(0,y)],U,Z,aa,g'⟩) (hw:AT L ops ⟨some d1,.buildSlice t2 1 #[(0,y)],U,Z,aa,g'⟩=some true) (aj:BR b n ⟨some d1,.buildSlice t2 1 #[(0,y)],U,Z,aa,g'⟩=true)
  (ak:ops[ae]? =some ⟨d,.call ⟨.builtin .append,#[x,.tmp d1],ats⟩,ty,p,af,g⟩) (al:∀w,AT (AJ L (some d1) w) ops ⟨d,.call ⟨.builtin .append,#[x,.tmp d1],ats⟩,ty,p,af,g⟩=some true) (am:BR b n ⟨d,.call ⟨.builtin .append,#[x,.tmp d1],ats⟩,ty,p,af,g⟩=true)
  (an:∀w,ev (AJ L (some d1) w) x=some (.slice a xs.length c)) (ao:ev L y=some v) (ap:ats[0]? =some t) (aq:ats[1]? =some t1) (ht:P.underlying t=some (.slice e)) (ar:P.underlying t1=some (.slice e)) (au:P.underlying t2=some (.slice e)) (av:Bq P e=some pp.n) (hb:C9 P e=some O) (aw:zeroOf P e=some z) (ay:z.cells.size=pp.n)
  (az:0<O) (aA:O≤64) (aB:0<pp.n) (aC:pp.n≤64) (aD:xs.length+1≤2 ^ 40) (ab:OL e pp E a c seg xs) (ac:pp.r E v.cells.toList xv) (aE:Ay E H S) (ag:S[j]? =some seg)
  (h:∀w A K seg',OL e pp E A K seg' (xs++ [xv])→Ay E H (S.set j seg')→JL J Q b n (AJ (AJ L (some d1) w) d (.slice A (xs++ [xv]).length K)) ds (.inRegion ops rest::k) cs (Ap E H (S.set j seg'))):
  JL J Q b n L ds (.inRegion ops (i::ae::rest)::k) cs (Ap E H S):=by
 obtain⟨wss,ab,ah,aF⟩:=ab;obtain⟨aG,aH⟩:=Ed aE ag;rw [aG];have aI:v.cells.size=pp.n:=by simpa using pp.len ac
 refine JL.Iv ai hw aj ak al am an ao ap aq ht ar au av hb aw ay az aA aI aB aC aD (pp.one ac) ab aH fun w A K aJ aK aL=>?_;obtain⟨aM,aN⟩:=Fc ag aL;rw [aM];have hlen:(xs++ [xv]).length=xs.length+1:=by simp
 have:=h w A K aJ ⟨wss++ [v.cells.toList],by rw [hlen,List.flatten_append];simpa using aK,by simp [ah],Pp ah aF ac⟩ aN;rw [hlen] at this;exact this
theorem JS.BF{α:Type}{pp:Rp α}{a:Option Addr}{c:Nat}{xs:List α}{xv:α}{m:Int}(O:Ao pp E a c xs)(hm:ix xs m=some xv)
  (U:ops[i]? =some ⟨d,.indexAddr t x y,ty,p,af,g⟩) (hw:AT L ops ⟨d,.indexAddr t x y,ty,p,af,g⟩=some true) (Z:BR b n ⟨d,.indexAddr t x y,ty,p,af,g⟩=true)
  (aa:ev L x=some (.slice a xs.length c)) (ab:ev L y=some (.int kd m)) (ht:P.underlying t=some (.slice e)) (ac:Bq P e=some pp.n)
  (h:∀A o ws,pp.r E ws xv→At E A o ws→JL J Q b n (AJ L d (.pointer (some ⟨A,o,none⟩))) ds (.inRegion ops rest::k) cs (Ap E H S)):
  JL J Q b n L ds (.inRegion ops (i::rest)::k) cs (Ap E H S):=by
 obtain⟨m,rfl,hm⟩:=FD hm;have ae:m<xs.length:=(List.getElem?_eq_some_iff.1 hm).1;obtain⟨aj,⟨rfl,_⟩ | ⟨A,off,rfl,ag⟩⟩:=O
 ·simp at ae
 obtain⟨ws,ah,ai⟩:=ag m xv hm;refine JL.y (v:= .pointer (some ⟨A,off+m*pp.n,none⟩)) U hw Z (fun ρ K=>?_) (h A _ ws ah ai);have:=Yl.IZ (P:=P) (s:=Ap E H S) (d:=d) (ty:=ty) (p:=p) (af:=af) (g:=g) ht ac (K x _ aa) (K y _ ab) ⟨by omega,by omega⟩;rw [Bi rfl] at this;simpa using this
theorem At.G4{A o j:Nat}{ws:List Value}{w:Value}(h:At E A o ws)(K:ws[j]? =some w):(Ap E H S).cell? ⟨A,o+j,none⟩=some w:=h.cell K
theorem At.Tr{A o:Nat}{ws:List Value}(h:At E A o ws):∀j v,ws[j]? =some v→(Ap E H S).cell? (Addr.add ⟨A,o,none⟩ j)=some v:=h.cells
theorem JL.join{todo:List Item}(I:Env→St→Prop){c:Code}(A:∀L s,I L s→JL J Q b n L ds todo cs s)(h:(∀L s,I L s→JL J Q b n L ds todo cs s)→JL J Q b n L ds (.code c::todo) cs s):JL J Q b n L ds (.code c::todo) cs s:=h A
theorem JL.BI{A:List Nat}{todo:List Item}(l:List Nat)(I:Env→St→Prop)(K:∀L s,I L s→JL J Q b n L ds (.inRegion ops l::todo) cs s)(h:(∀L s,I L s→JL J Q b n L ds (.inRegion ops l::todo) cs s)→JL J Q b n L ds (.inRegion ops A::todo) cs s):JL J Q b n L ds (.inRegion ops A::todo) cs s:=h K
theorem JL.Bf{K A:Type}{c:Code}{body:K→Option (A4 K A)}{f:Nat}{O:K}{a:A}(U:iter body f O=some a)(I:Env→St→K→Prop)(aa:I L s O)
  (round:∀L s x,I L s x→(∀Z,body x=some (.done Z)→Z=a)→(∃st,body x=some st)→(∀L' s' x',I L' s' x'→body x=some (.more x')→JL J Q b n L' ds (.inLoop c::k) cs s')→JL J Q b n L ds (.code c:: .inLoop c::k) cs s):
  JL J Q b n L ds (.code (.loop c)::k) cs s:=by
 refine JL.Gl ?_
 induction f generalizing L s O with
 | zero=>cases U
 | succ f ab=>
  refine round L s O aa (fun Z h=>Me U h) (LS U) fun L' s' x' ac hb=>JL.again (ab (LV U hb) ac)
def Aq(J:Judge P)(f:FuncId)(args:List Value)(E:LH)(B:Seg)(R:Value→LH→Seg→Prop):Prop:=
 ∀H,Nd E H B→Cy J f args.toArray (mk E H B) (fun v s'=>∃E' B',Le E E'∧R v E' B'∧Nd E' H B'∧s'=mk E' H B')
theorem Aq.enter{f:FuncId}{fn:Func}{c:Code}{vs:List Value}{B:Seg}{R:Value→LH→Seg→Prop}(K:P.funcs[f]? =some fn)(hb:fn.body=some c)(O:vs.length≤fn.ntmps)
  (h:∀(Q:Goroutine→St→Prop) (A:Frame) (cs:List Frame) (H:LH),Ay E H [B]→(∀v E' S' B',Le E E'→S'.flatten=B'→R v E' B'→Ay E' H S'→J.ok Q (G (A.finish v) cs) (Ap E' H S'))→JL J Q (base f) fn.ntmps (DZ 0 vs) [] [.code c] (A::cs) (Ap E H [B])):Aq J f vs E B R:=fun H U=>
 Cy.enter K hb O fun Q A cs Z=>by
  have aa:mk E H B=Ap E H [B]:=by unfold Ap;simp
  rw [aa];exact h Q A cs H (by unfold Ay;simpa using U) fun v E' S' B' hle ab ac ae=>by
   subst ab;exact Z v _ ⟨E',S'.flatten,hle,ac,ae,rfl⟩
theorem Aq.mono{f:FuncId}{vs:List Value}{B:Seg}{R A:Value→LH→Seg→Prop}(h:Aq J f vs E B R)(O:∀v E' B',Le E E'→R v E' B'→A v E' B'):Aq J f vs E B A:=fun H U=>
 (h H U).mono fun v s' ⟨E',B',K,Z,aa,ab⟩=>⟨E',B',K,O v E' B' K Z,aa,ab⟩
theorem DV{H:LH}:∀{A B:List (Nat×Obj)},AU (A++B) H=AU A (AU B H)
 | [],_=>rfl
 | (c,o)::A,B=>by
  funext x
  simp only [List.cons_append,AU]
  split
  ·rfl
  ·rw [DV]
theorem Ho{H:LH}{x:Nat}:∀{B:List (Nat×Obj)},(∀p∈B,p.1≠x)→AU B H x=H x
 | [],_=>rfl
 | (c,u)::B,A=>by
  have K:x≠c:=fun e=>A (c,u) (by simp) e.symm
  simp only [AU,if_neg K]
  exact Ho fun p O=>A p (List.mem_cons_of_mem _ O)
theorem Nd.front{A B:List (Nat×Obj)}(h:Nd E H (A++B)):Nd E (AU B H) A:=by
 rw [Nd.iff] at h ⊢;obtain⟨K,U⟩:=h;rw [List.map_append,List.nodup_append] at K;refine⟨K.1,fun q O=>⟨(U q (List.mem_append_left _ O)).1,?_⟩⟩;rw [Ho fun r Z e=>K.2.2 q.1 (List.mem_map_of_mem O) r.1 (List.mem_map_of_mem Z) e.symm];exact(U q (List.mem_append_left _ O)).2
theorem Nd.glue{A B:List (Nat×Obj)}(h:Nd E (AU B H) A)(U:Nd E H B):Nd E H (A++B):=by
 have Z:=U;rw [Nd.iff] at h U ⊢;rw [List.map_append,List.nodup_append];have key:∀q∈A,∀r∈B,q.1≠r.1:=fun q K r O e=>by
  have:=(h.2 q K).2;rw [e] at this;obtain⟨i,hi⟩:=Z.mem (b:=r.1) (o:=r.2) O;rw [FY Z hi] at this;cases this
 refine⟨⟨h.1,U.1,fun x aa y ab e=>?_⟩,fun q K=>?_⟩
 ·obtain⟨q,K,rfl⟩:=List.mem_map.1 aa;obtain⟨r,O,rfl⟩:=List.mem_map.1 ab;exact key q K r O e
 ·rcases List.mem_append.1 K with K | K
  ·refine⟨(h.2 q K).1,?_⟩;have:=(h.2 q K).2
   rwa [Ho fun r O e=>key q K r O e.symm] at this
  ·exact U.2 q K
theorem JS.Kz{f:FuncId}{args:Array Operand}{ats:Array TypeId}{vs:List Value}{seg:Seg}{R:Value→LH→Seg→Prop}(j:Nat)
  (ab:Aq J f vs E seg R) (ac:ops[i]? =some ⟨d,.call ⟨.value (.func f),args,ats⟩,ty,p,af,g⟩) (hw:AT L ops ⟨d,.call ⟨.value (.func f),args,ats⟩,ty,p,af,g⟩=some true) (ae:((b.kind != .early)&&Bd n d)=true) (hb:Cx P f=true)
  (ag:evs L args.toList=some vs) (A:Ay E H S) (K:S[j]? =some seg) (ah:∀v E' seg',Le E E'→R v E' seg'→Ay E' H (S.set j seg')→JL J Q b n (AJ L d v) ds (.inRegion ops rest::k) cs (Ap E' H (S.set j seg'))):
  JL J Q b n L ds (.inRegion ops (i::rest)::k) cs (Ap E H S):=by
 have O:S.flatten.Perm (seg++(S.set j []).flatten):=(CL (seg':=seg) K).1.trans List.perm_append_comm;have U:Nd E H (seg++(S.set j []).flatten):=Nd.perm A O;have ai:Ap E H S=mk E (AU (S.set j []).flatten H) seg:=by
  rw [show Ap E H S=mk E H S.flatten from rfl,Dt A O];unfold mk;rw [DV]
 rw [ai];refine JL.Ug ac hw ae hb ag (ab _ (Nd.front U)) ?_;rintro v s' ⟨E',B',hle,aj,ak,rfl⟩;have al:mk E' (AU (S.set j []).flatten H) B'=mk E' H (B'++(S.set j []).flatten):=by unfold mk;rw [DV]
 have am:Nd E H (S.set j []).flatten:=by
  have:=U;rw [Nd.iff] at this ⊢;rw [List.map_append,List.nodup_append] at this;exact⟨this.1.2.1,fun q an=>this.2 q (List.mem_append_right _ an)⟩
 refine JL.FH rfl fun⟨w,ao⟩=>?_;have ap:Nd E' H (S.set j []).flatten:=am.grow fun x aq=>by
  have ar:=ao.d x aq;have au:AU B' (AU (S.set j []).flatten H) x=none:=ar;exact(EA au).1
 have Z:Nd E' H (B'++(S.set j []).flatten):=Nd.glue ak ap;rw [al];have aa:(B'++(S.set j []).flatten).Perm (S.set j B').flatten:=List.perm_append_comm.trans (CL K).2.symm;rw [Dt Z aa];exact ah v E' B' hle aj (Nd.perm Z aa)
theorem JS.call{f:FuncId}{args:Array Operand}{ats:Array TypeId}{vs:List Value}{R:Value→LH→Seg→Prop}
  (O:Aq J f vs E [] R) (U:ops[i]? =some ⟨d,.call ⟨.value (.func f),args,ats⟩,ty,p,af,g⟩) (hw:AT L ops ⟨d,.call ⟨.value (.func f),args,ats⟩,ty,p,af,g⟩=some true) (Z:((b.kind != .early)&&Bd n d)=true) (hb:Cx P f=true)
  (aa:evs L args.toList=some vs) (A:Ay E H S) (ab:∀v E' seg',Le E E'→R v E' seg'→Ay E' H (S++ [seg'])→JL J Q b n (AJ L d v) ds (.inRegion ops rest::k) cs (Ap E' H (S++ [seg']))):
  JL J Q b n L ds (.inRegion ops (i::rest)::k) cs (Ap E H S):=by
 have ac:Ap E H S=Ap E H (S++ [[]]):=by unfold Ap;simp
 rw [ac];refine JS.Kz S.length O U hw Z hb aa (by unfold Ay at A ⊢;rw [EC,List.append_nil];exact A) (by simp) fun v E' seg' hle ae K=>?_;have ag:(S++ [[]]).set S.length seg'=S++ [seg']:=Fx _ _ _ _;rw [ag] at K ⊢;exact ab v E' seg' hle ae K
theorem JS.split{todo:List Item}{S':List Seg}(A:S'.flatten=S.flatten)(K:Ay E H S)(h:Ay E H S'→JL J Q b n L ds todo cs (Ap E H S')):JL J Q b n L ds todo cs (Ap E H S):=by
 unfold Ap Ay at*;rw [A] at h;exact h K
end
end Pal
namespace Pal
open Go Go.Conc
def Ld(P:Program)(t:TypeId)(a:Addr)(s:St)(v:Value):Prop:=lp P (loadVar t a) s (fun u s'=>u=v∧s'=s) (fun _ _=>False)
theorem Ld.many{P:Program}{t:TypeId}{a:Addr}{s:St}{vs:List Value}(ht:CH P t=some true)(A:Bq P t=some vs.length)(h:∀j v,vs[j]? =some v→s.cell? (a.add j)=some v):Ld P t a s (.agg vs.toArray):=LD ht A h ⟨rfl,rfl⟩
def RV(P:Program)(L:Env)(s:St):List ResultVar→List Value→Prop
 | [],[]=>True
 | .tmp t::rs,v::vs=>look L t=some v∧RV P L s rs vs
 | .cell a t::rs,v::vs=>(∃ad,look L a=some (.pointer (some ad))∧Ld P t ad s v)∧RV P L s rs vs
 | _,_=>False
def IJ:List Value→Value
 | [v]=>v
 | vs=> .tuple vs.toArray
theorem PK(vs:List Value):(if h:vs.toArray.size=1 then vs.toArray[0] else Value.tuple vs.toArray)=IJ vs:=by
 match vs with
 | []=>rfl
 | [v]=>rfl
 | a::b::c=>simp [IJ]
theorem Bx.list{P:Program}{f:FuncId}{fn:Func}{n:Nat}{L:Env}{s:St}{rs:List ResultVar}{vs:List Value}(Z:P.funcs[f]? =some fn)(aa:fn.results.toList=rs)(h:RV P L s rs vs):Bx P f L n s (IJ vs):=by
 refine⟨fn,Z,fun T O=>?_⟩;unfold results;rw [Array.mapM_eq_mapM_toList,aa];have key:∀(rs:List ResultVar) (acc vs:List Value) {Q:List Value→St→Prop} {X:Halt→St→Prop},RV P L s rs vs→Q (acc.reverse++vs) s→lp P (List.mapM.loop (m:=Sem) (fun r=>match r with
   | .tmp t=>pure (T.getD t undef)
   | .cell a t=>do loadVar t (← asAddr (T.getD a undef))) rs acc) s Q X:=by
  intro rs
  induction rs with
  | nil=>
   intro acc vs Q X h k;cases vs with
   | nil=>simp only [List.append_nil] at k;exact k
   | cons v vs=>cases h
  | cons r rs U=>
   intro acc vs Q X h k;cases vs with
   | nil=>cases r <;> cases h
   | cons v vs=>
    cases r with
    | tmp t=>
     obtain⟨A,K⟩:=h;have:=O.at_ t v A;simp only [List.mapM.loop];rw [this];exact U (v::acc) vs K (by simpa using k)
    | cell a t=>
     obtain⟨⟨ad,A,ab⟩,K⟩:=h;have:=O.at_ a _ A;simp only [List.mapM.loop];rw [this];refine AB _ _ (B8 _ (show lp P (loadVar t ad) s _ _ from ab) ?_ (fun _ _ h=>h.elim));rintro u s' ⟨rfl,rfl⟩;exact U (u::acc) vs K (by simpa using k)
 refine AB _ _ ?_;refine AB (x:=List.mapM.loop (m:=Sem) _ rs []) (f:=fun r=>pure r.toArray) ?_;refine key rs [] vs h ?_;simp only [List.reverse_nil,List.nil_append,lp,pure];exact⟨PK vs,trivial⟩
section
variable {P:Program}{J:Judge P}{Q:Goroutine→St→Prop}{g:Goroutine}{E H:LH}{S:List Seg}
theorem F0{seg:Seg}(j:Nat)(Z:Ay E H S)(O:S[j]? =some seg)(h:Ay E H (S.set j [])→J.ok Q g (Ap E H (S.set j []))):J.ok Q g (Ap E H S):=by
 obtain⟨aa,A⟩:=Ed Z O;have ab:Nd E H ((S.set j []).flatten++ []):=by rw [List.append_nil];exact JL.F1.Nd.left A
 obtain⟨ah,ac⟩:=Fc (seg':= []) O ab;refine J.ghost (s₀:=Ap E H (S.set j [])) ⟨fun _ _ h=>h,fun x o ae=>?_,fun _ _ h=> .inl h,rfl⟩ (h ac);have U:AU (S.set j []).flatten H x=some o:=ae;show(Ap E H S).H x=some o;rw [aa];show AU ((S.set j []).flatten++seg) H x=some o;rw [show AU ((S.set j []).flatten++seg) H=AU (seg++(S.set j []).flatten) H from Hj A List.perm_append_comm,DV];by_cases hm:∃p∈seg,p.1=x
 ·exfalso;obtain⟨p,K,e⟩:=hm;have ag:=Nd.front (Nd.perm A List.perm_append_comm);have:=((Nd.iff.1 ag).2 p K).2;rw [e,U] at this;cases this
 ·rw [Ho fun p K e=>hm ⟨p,K,e⟩];exact U
end
section
variable {P:Program}{J:Judge P}{Q:Goroutine→St→Prop}{b:Frame}{n:Nat}{ds:List Deferred}{ops:Array Oper}{k:List Item}{cs:List Frame}{L:Env}{s:St}{E E' H:LH}{S:List Seg}
variable {d:Option Tmp}{x y:Operand}{t u ty e:TypeId}{p:String}{af:Array Edge}{g:Option (Nat×Bool)}{v:Value}{i:Nat}{rest:List Nat}{kd:IntKind}
theorem LW{ρ:Operand→Value}{len:Nat}{A:Array (Nat×Operand)}:execOp ρ ⟨d,.buildSlice t len A,ty,p,af,g⟩=(do pure (Next.value (← Instr.buildSlice t len (A.map fun(j,x)=>(j,ρ x))))):=by
 simp only [execOp]
theorem PF(v:Array Value)(off:Nat)(c:Array Value):v.zipIdx.foldl (fun cs (x,j)=>cs.setIfInBounds (off+j) x) c=A5 c off v.toList:=by
 rw [← Array.foldl_toList,Array.toList_zipIdx];have key:∀(l:List Value) (st:Nat) (c:Array Value),List.foldl (fun cs (p:Value×Nat)=>cs.setIfInBounds (off+p.2) p.1) c (l.zipIdx st)=A5 c (off+st) l:=by
  intro l
  induction l with
  | nil=>intro st c;rfl
  | cons x l A=>intro st c;simp only [List.zipIdx_cons,List.foldl_cons,A5];rw [A];rfl
 exact key v.toList 0 c
def GZ(place:Nat→Option (Nat×Nat))(cells:Array Value):List (Nat×Value)→Option (Array Value)
 | []=>some cells
 | (i,v)::rest=>match place i with
  | none=>none
  | some (off,size)=>if v.cells.size=size∧off+v.cells.size≤cells.size then GZ place (A5 cells off v.cells.toList) rest else none
theorem fill_eq{place:Nat→Option (Nat×Nat)}:∀{vs:List (Nat×Value)} {cells:Array Value},Instr.fill place cells vs=GZ place cells vs
 | [],_=>rfl
 | (i,v)::rest,cells=>by
  simp only [Instr.fill,GZ]
  cases place i with
  | none=>rfl
  | some q=>
   obtain⟨off,size⟩:=q
   simp only
   by_cases h:v.cells.size=size∧off+v.cells.size≤cells.size
   ·rw [if_pos h,if_neg (by simp only [Bool.or_eq_true,decide_eq_true_eq,ne_eq];omega),fill_eq,PF]
   ·rw [if_neg h,if_pos (by simp only [Bool.or_eq_true,decide_eq_true_eq,ne_eq];omega)]
theorem ME{n:Nat}:∀(vs:List Value) (st:Nat) (cells:Array Value),(∀v∈vs,v.cells.size=n)→cells.size=(st+vs.length)*n→
  ∃K,GZ (fun i=>some (i*n,n)) cells ((vs.zipIdx st).map fun q=>(q.2,q.1))=some K∧K.toList=cells.toList.take (st*n)++(vs.map (·.cells.toList)).flatten
 | [],st,cells,_,hs=>⟨cells,rfl,by simp only [List.length_nil,Nat.add_zero] at hs;simp [← hs,List.take_of_length_le]⟩
 | v::vs,st,cells,O,hs=>by
  have A:=O v (by simp)
  have hle:st*n+n≤cells.size:=by
   rw [hs,List.length_cons];have:(st+1)*n≤(st+(vs.length+1))*n:=Nat.mul_le_mul_right _ (by omega);rw [Nat.succ_mul] at this;exact this
  obtain⟨U,Z,aa⟩:=ME vs (st+1) (A5 cells (st*n) v.cells.toList) (fun u hu=>O u (List.mem_cons_of_mem _ hu)) (by rw [JX,hs,List.length_cons];congr 1;omega);refine⟨U,?_,?_⟩
  ·simp only [List.zipIdx_cons,List.map_cons,GZ];rw [if_pos ⟨A,by omega⟩];exact Z
  ·rw [aa,Nat.succ_mul];have:=Lt cells (st*n) v.cells.toList (by simp [A];omega);rw [show v.cells.toList.length=n by simp [A]] at this;rw [this];simp
def F9{α:Type}(pp:Rp α)(E:LH):List α→List Value→Prop
 | [],[]=>True
 | x::xs,v::vs=>pp.r E v.cells.toList x∧F9 pp E xs vs
 | _,_=>False
theorem F9.at{E:LH}{α:Type}{pp:Rp α}:∀{xs:List α} {vs:List Value},F9 pp E xs vs→∀(i:Nat) x v,xs[i]? =some x→vs[i]? =some v→pp.r E v.cells.toList x
 | [],_,_,_,_,_,h,_=>by simp at h
 | _::_,[],h,_,_,_,_,_=>h.elim
 | x::xs,v::vs,h,0,y,u,A,hu=>by simp at A hu;subst A hu;exact h.1
 | x::xs,v::vs,h,i+1,y,u,A,hu=>F9.at h.2 i y u (by simpa using A) (by simpa using hu)
theorem Kr{E0:LH}{ρ:Operand→Value}{K:Next→St→Prop}(ak:CU L ρ){α:Type}{pp:Rp α}{len:Nat}{Z:Array (Nat×Operand)}(vs:List Value){z:Value}(xs:List α)
  (ht:P.underlying t=some (.slice e)) (al:Bq P e=some pp.n) (am:zeroOf P e=some z) (an:decide (0<len*pp.n∧len*pp.n≤2 ^ 24)=true)
  (ao:Z.toList.mapM (fun q=>(ev L q.2).map fun v=>(q.1,v))=some ((vs.zipIdx 0).map fun q=>(q.2,q.1)))
  (O:vs.length=len) (U:xs.length=len) (ap:F9 pp E0 xs vs) (aq:Ay E H S)
  (h:∀r seg,OL e pp E0 (some ⟨r,0,none⟩) len seg xs→Ay E H (S++ [seg])→K (.value (.slice (some ⟨r,0,none⟩) xs.length len)) (Ap E H (S++ [seg]))):
  lp P (execOp ρ ⟨d,.buildSlice t len Z,ty,p,af,g⟩) (Ap E H S) K (fun _ _=>False):=by
 have ae:=ap.at;have ar:(Z.map fun(j,x)=>(j,ρ x)).toList=(vs.zipIdx 0).map fun q=>(q.2,q.1):=by
  have key:∀(l:List (Nat×Operand)) (vs:List (Nat×Value)),l.mapM (fun q=>(ev L q.2).map fun v=>(q.1,v))=some vs→l.map (fun(j,x)=>(j,ρ x))=vs:=by
   intro l
   induction l with
   | nil=>intro vs h;simp at h;subst h;rfl
   | cons q l aa=>
    intro vs h;simp only [List.mapM_cons,bind] at h;cases ab:ev L q.2 with
    | none=>rw [ab] at h;simp at h
    | some w=>
     rw [ab] at h;simp only [Option.map_some,Option.bind_some] at h;obtain⟨au,av,ag⟩:=bind_some h;simp at ag;subst ag;simp [aa au av,ak _ _ ab]
  rw [Array.toList_map];exact key _ _ ao
 have ah:∀v∈vs,v.cells.size=pp.n:=fun v A=>by
  obtain⟨i,hi⟩:=List.mem_iff_getElem?.1 A;have aw:i<xs.length:=by rw [U,← O];exact(List.getElem?_eq_some_iff.1 hi).1
  simpa using pp.len (ae i _ v (List.getElem?_eq_getElem aw) hi)
 rw [LW];refine AB _ _ ?_;unfold Instr.buildSlice;refine AB _ _ (Cd ht ?_);refine AB _ _ (Dg al ?_);have aA:=of_decide_eq_true an;rw [if_neg (by omega),if_neg (by omega)];refine AB (x:=zeroValue e) _ (D7 am ?_);rw [EV,ar];obtain⟨cells,ay,ac⟩:=ME vs 0 ((Array.range (len*pp.n)).map (z.cells[· % z.cells.size]!)) ah (by simp [O]);simp only [fill_eq,ay];simp only [Nat.zero_mul,List.take_zero,List.nil_append] at ac;refine AB _ _ (EX aq fun r ai=>?_);rw [(CS ai).1];have aj:cells.size=len*pp.n:=by
  have:cells.toList.length=len*pp.n:=by
   rw [ac];have:∀(vs:List Value),(∀v∈vs,v.cells.size=pp.n)→(vs.map (·.cells.toList)).flatten.length=vs.length*pp.n:=by
    intro vs
    induction vs with
    | nil=>intro _;simp
    | cons v vs aa=>intro h;rw [List.map_cons,List.flatten_cons,List.length_append,aa fun w hw=>h w (List.mem_cons_of_mem _ hw),List.length_cons,Nat.succ_mul,Nat.add_comm];simp [h v (by simp)]
   rw [this vs ah,O]
  simpa using this
 have:=h r [(r,.cells cells e (0,0))] ⟨vs.map (·.cells.toList),.inr ⟨r,cells,rfl,rfl,aj,by omega,by rw [← ac,List.take_of_length_le (by simp [aj,U])]⟩,by simp [O,U],fun i x ws az hw=>by
  rw [List.getElem?_map] at hw
  cases A:vs[i]? with
  | none=>rw [A] at hw;cases hw
  | some v=>rw [A] at hw;cases hw;exact ae i x v az A⟩ (CS ai).2
 rw [U] at this;exact this
theorem JS.lit{α:Type}{pp:Rp α}{len:Nat}{A:Array (Nat×Operand)}(vs:List Value){z:Value}(xs:List α)
  (K:ops[i]? =some ⟨d,.buildSlice t len A,ty,p,af,g⟩) (hw:AT L ops ⟨d,.buildSlice t len A,ty,p,af,g⟩=some true) (O:BR b n ⟨d,.buildSlice t len A,ty,p,af,g⟩=true)
  (ht:P.underlying t=some (.slice e)) (U:Bq P e=some pp.n) (Z:zeroOf P e=some z) (aa:decide (0<len*pp.n∧len*pp.n≤2 ^ 24)=true)
  (ab:A.toList.mapM (fun q=>(ev L q.2).map fun v=>(q.1,v))=some ((vs.zipIdx 0).map fun q=>(q.2,q.1)))
  (ac:vs.length=len) (ae:xs.length=len) (ag:F9 pp E xs vs) (ah:Ay E H S)
  (h:∀r seg,OL e pp E (some ⟨r,0,none⟩) len seg xs→Ay E H (S++ [seg])→JL J Q b n (AJ L d (.slice (some ⟨r,0,none⟩) xs.length len)) ds (.inRegion ops rest::k) cs (Ap E H (S++ [seg]))):
  JL J Q b n L ds (.inRegion ops (i::rest)::k) cs (Ap E H S):=by
 exact JL.op K hw O fun ρ ai=>Kr ai vs xs ht U Z aa ab ac ae ag ah h
theorem OL.get{α:Type}{pp:Rp α}{a:Option Addr}{c:Nat}{seg:Seg}{xs:List α}{m:Nat}{x:α}(aa:OL e pp E a c seg xs)(hm:xs[m]? =some x):
  ∃K f ws,a=some ⟨K,0,none⟩∧seg= [(K,.cells f e (0,0))]∧pp.r E ws x∧(∀j w,ws[j]? =some w→f[m*pp.n+j]? =some w)∧(m+1)*pp.n≤f.size∧
   ∀(x':α) (ws':List Value),pp.r E ws' x'→OL e pp E a c [(K,.cells (A5 f (m*pp.n) ws') e (0,0))] (xs.set m x'):=by
 obtain⟨wss,aa,ah,ab⟩:=aa;have ai:m<xs.length:=(List.getElem?_eq_some_iff.1 hm).1;rcases aa with⟨ac,aj,_⟩ | ⟨K,f,ac,aj,aq,ak,al⟩
 ·omega
 have hw:wss[m]? =some wss[m]:=List.getElem?_eq_getElem (by omega);have am:=FW ah ab;have hle:(m+1)*pp.n≤xs.length*pp.n:=Nat.mul_le_mul_right _ ai;have av:xs.length*pp.n≤c*pp.n:=Nat.mul_le_mul_right _ ak;refine⟨K,f,wss[m],ac,aj,ab m x _ hm hw,fun j w A=>?_,by omega,fun x' ws' an=>?_⟩
 ·have:=GD am hw j w A;rw [al,List.getElem?_take] at this;split at this
  ·simpa using this
  ·cases this
 ·have ao:ws'.length=pp.n:=pp.len an;refine⟨wss.set m ws',.inr ⟨K,_,ac,rfl,by rw [JX];exact aq,by simpa using ak,?_⟩,by simpa using ah,fun i y us Z hu=>?_⟩
  ·simp only [List.length_set];have key:∀(wss:List (List Value)) (m:Nat) (hm:m<wss.length),(∀ws∈wss,ws.length=pp.n)→∀j,(wss.set m ws').flatten[j]? =if m*pp.n≤j∧j<(m+1)*pp.n then ws'[j - m*pp.n]? else wss.flatten[j]? :=by
    intro wss
    induction wss with
    | nil=>intro m hm;simp at hm
    | cons us wss ae=>
     intro m hm ap j;have hu:us.length=pp.n:=ap us (by simp);cases m with
     | zero=>
      simp only [List.set_cons_zero,List.flatten_cons,Nat.zero_mul,Nat.zero_le,true_and,Nat.zero_add,Nat.one_mul,Nat.sub_zero];split
      ·rename_i A;rw [List.getElem?_append_left (by omega)]
      ·rename_i A;rw [List.getElem?_append_right (by omega),List.getElem?_append_right (by omega),ao,hu]
     | succ m=>
      simp only [List.set_cons_succ,List.flatten_cons];have O:(m+1)*pp.n=m*pp.n+pp.n:=Nat.succ_mul _ _;have ag:(m+1+1)*pp.n=(m+1)*pp.n+pp.n:=Nat.succ_mul _ _;rcases Nat.lt_or_ge j us.length with A | A
      ·rw [List.getElem?_append_left A,List.getElem?_append_left A,if_neg (by omega)]
      ·rw [List.getElem?_append_right A,List.getElem?_append_right A,ae m (by simpa using hm) (fun ws ar=>ap ws (List.mem_cons_of_mem _ ar))];by_cases U:m*pp.n≤j - us.length∧j - us.length<(m+1)*pp.n
       ·rw [if_pos U,if_pos (by omega)];congr 1;omega
       ·rw [if_neg U,if_neg (by omega)]
   have au:∀(vs:List Value) (c:Array Value) (off:Nat),off+vs.length≤c.size→∀j,(A5 c off vs)[j]? =if off≤j∧j<off+vs.length then vs[j - off]? else c[j]? :=by
    intro vs
    induction vs with
    | nil=>intro c off _ j;simp [A5];omega
    | cons w vs ae=>
     intro c off U j;simp only [A5,List.length_cons] at*;rw [ae _ _ (by simp;omega)];by_cases O:j=off
     ·subst O;rw [if_neg (by omega),if_pos (by omega),Nat.sub_self,List.getElem?_cons_zero,Array.getElem?_setIfInBounds_self_of_lt (by omega)]
     ·by_cases ag:off+1≤j∧j<off+1+vs.length
      ·rw [if_pos ag,if_pos (by omega)];have:j - off=(j - (off+1))+1:=by omega
       rw [this];simp
      ·rw [if_neg ag,if_neg (by omega),Array.getElem?_setIfInBounds_ne (by omega)]
   apply List.ext_getElem?;intro j;have O:(m+1)*pp.n=m*pp.n+pp.n:=Nat.succ_mul _ _;have t1:(A5 f (m*pp.n) ws').toList[j]? =(A5 f (m*pp.n) ws')[j]? :=Array.getElem?_toList;have t2:f.toList[j]? =f[j]? :=Array.getElem?_toList;rw [key wss m (by omega) am,List.getElem?_take,t1,au ws' f (m*pp.n) (by omega),al,List.getElem?_take,t2,ao];by_cases U:m*pp.n≤j∧j<(m+1)*pp.n
   ·rw [if_pos U,if_pos (by omega),if_pos (by omega)]
   ·rw [if_neg U,if_neg (show ¬(m*pp.n≤j∧j<m*pp.n+pp.n) by omega)]
  ·rw [List.getElem?_set] at Z hu;by_cases O:m=i
   ·subst O;rw [if_pos rfl,if_pos ai] at Z;rw [if_pos rfl,if_pos (by omega)] at hu;cases Z;cases hu;exact an
   ·rw [if_neg O] at hu Z;exact ab i y us Z hu
theorem JS.KT{α:Type}{pp:Rp α}{a:Option Addr}{c:Nat}{seg:Seg}{xs:List α}{xv:α}{m:Int}(j:Nat)(O:OL e pp E a c seg xs)(hm:ix xs m=some xv)(U:S[j]? =some seg)
  (Z:ops[i]? =some ⟨d,.indexAddr t x y,ty,p,af,g⟩) (hw:AT L ops ⟨d,.indexAddr t x y,ty,p,af,g⟩=some true) (aa:BR b n ⟨d,.indexAddr t x y,ty,p,af,g⟩=true)
  (ab:ev L x=some (.slice a xs.length c)) (ac:ev L y=some (.int kd m)) (ht:P.underlying t=some (.slice e)) (ae:Bq P e=some pp.n)
  (h:∀A o f ws,S[j]? =some [(A,.cells f e (0,0))]→pp.r E ws xv→(∀j w,ws[j]? =some w→f[o+j]? =some w)→o+pp.n≤f.size→(∀(x':α) (ws':List Value),pp.r E ws' x'→OL e pp E a c [(A,.cells (A5 f o ws') e (0,0))] (xs.set m.toNat x'))→o=m.toNat*pp.n→a=some ⟨A,0,none⟩→
   JL J Q b n (AJ L d (.pointer (some ⟨A,o,none⟩))) ds (.inRegion ops rest::k) cs (Ap E H S)):
  JL J Q b n L ds (.inRegion ops (i::rest)::k) cs (Ap E H S):=by
 obtain⟨m,rfl,hm⟩:=FD hm;have am:m<xs.length:=(List.getElem?_eq_some_iff.1 hm).1;obtain⟨A,f,ws,rfl,rfl,ag,ah,ai,aj⟩:=OL.get O hm;have ak:(m+1)*pp.n=m*pp.n+pp.n:=Nat.succ_mul _ _;have al:m*pp.n+pp.n≤f.size:=by rw [← ak];exact ai
 refine JL.y (v:= .pointer (some ⟨A,m*pp.n,none⟩)) Z hw aa (fun ρ K=>?_) (h A (m*pp.n) f ws U ag ah al (by simpa using aj) (by simp) rfl);have:=Yl.IZ (P:=P) (s:=Ap E H S) (d:=d) (ty:=ty) (p:=p) (af:=af) (g:=g) ht ae (K x _ ab) (K y _ ac) ⟨by omega,by omega⟩;rw [Bi rfl] at this;simpa using this
end
end Pal
namespace Pal
open Go Go.Conc
section
variable {P:Program}{J:Judge P}{Q:Goroutine→St→Prop}{b:Frame}{n:Nat}{ds:List Deferred}{ops:Array Oper}{k:List Item}{cs:List Frame}{L:Env}{s:St}{E E' H:LH}{S:List Seg}
variable {d:Option Tmp}{x y:Operand}{t u ty e:TypeId}{p:String}{af:Array Edge}{g:Option (Nat×Bool)}{v:Value}{i:Nat}{rest:List Nat}{kd:IntKind}
theorem JS.perm{todo:List Item}{S':List Seg}(A:S.flatten.Perm S'.flatten)(K:Ay E H S)(h:Ay E H S'→JL J Q b n L ds todo cs (Ap E H S')):JL J Q b n L ds todo cs (Ap E H S):=by
 have O:Ay E H S':=Nd.perm K A;rw [show Ap E H S=Ap E H S' from Dt K A];exact h O
theorem JS.part{todo:List Item}{A B:Seg}(j:Nat)(K:S[j]? =some (A++B))(O:Ay E H S)(h:Ay E H (S.set j A++ [B])→JL J Q b n L ds todo cs (Ap E H (S.set j A++ [B]))):JL J Q b n L ds todo cs (Ap E H S):=by
 refine JS.perm ?_ O h;have U:=(CL (seg':=A) K).1;have Z:=(CL (seg':=A) K).2;rw [EC];refine U.trans ?_;have aa:=Z.symm.append_right B
 rwa [List.append_assoc] at aa
theorem JS.swap{todo:List Item}{A B:Seg}(j l:Nat)(O:S[j]? =some A)(U:S[l]? =some B)(aa:(j==l)=false)(ab:Ay E H S)(h:Ay E H ((S.set j B).set l A)→JL J Q b n L ds todo cs (Ap E H ((S.set j B).set l A))):JL J Q b n L ds todo cs (Ap E H S):=by
 have K:j≠l:=by simpa using aa
 refine JS.perm ?_ ab h;have ac:=(CL (seg':=B) O).1;have ae:(S.set j [])[l]? =some B:=by rw [List.getElem?_set_ne K];exact U
 have ag:=(CL (seg':=A) ae).1;have ah:((S.set j B).set l A)[l]? =some A:=by
  have:l<(S.set j B).length:=by rw [List.length_set];exact(List.getElem?_eq_some_iff.1 U).1
  rw [List.getElem?_set,if_pos rfl,if_pos this]
 have Z:=(CL (seg':=A) ah).1;rw [List.set_set] at Z;have ai:((S.set j B).set l [])[j]? =some B:=by
  have:j<S.length:=(List.getElem?_eq_some_iff.1 O).1;rw [List.getElem?_set_ne (Ne.symm K)];simp [this]
 have c2:=(CL (seg':=B) ai).1;have aj:(((S.set j B).set l []).set j [])=((S.set j []).set l []):=by
  rw [List.set_comm _ _ K,List.set_set,List.set_comm _ _ K.symm]
 rw [aj] at c2;exact ac.trans ((ag.append_right A).trans ((c2.symm.append_right A).trans Z.symm))
theorem D8{A off:Nat}{c:Array Value}{f:Nat×Nat}{vs:List Value}{seg:Seg}(j:Nat)(K:Ay E H S)(O:S[j]? =some ((A,.cells c e f)::seg))(U:(c.toList.drop off).take vs.length=vs):∀i v,vs[i]? =some v→(Ap E H S).cell? (Addr.add ⟨A,off,none⟩ i)=some v:=
 Px K O fun i v hi=>by
  have Z:i<vs.length:=(List.getElem?_eq_some_iff.1 hi).1
  rw [← U,List.getElem?_take_of_lt Z,List.getElem?_drop,Array.getElem?_toList] at hi
  exact hi
theorem Ma(vs:List Value):∀(c:Array Value) (off:Nat),off+vs.length≤c.size→∀j,(A5 c off vs)[j]? =if off≤j∧j<off+vs.length then vs[j - off]? else c[j]? :=by
 induction vs with
 | nil=>intro c off _ j;simp [A5];omega
 | cons w vs K=>
  intro c off U j;simp only [A5,List.length_cons] at*;rw [K _ _ (by simp;omega)];by_cases O:j=off
  ·subst O;rw [if_neg (by omega),if_pos (by omega),Nat.sub_self,List.getElem?_cons_zero,Array.getElem?_setIfInBounds_self_of_lt (by omega)]
  ·by_cases A:off+1≤j∧j<off+1+vs.length
   ·rw [if_pos A,if_pos (by omega)];have:j - off=(j - (off+1))+1:=by omega
    rw [this];simp
   ·rw [if_neg A,if_neg (by omega),Array.getElem?_setIfInBounds_ne (by omega)]
end
end Pal
namespace Pal
open Go Go.Conc
theorem elim_inl{α β A:Type}{f:α→Option A}{g:β→Option A}{x:α}{r:A}(h:Sum.elim f g (.inl x)=some r):f x=some r:=h
theorem elim_inr{α β A:Type}{f:α→Option A}{g:β→Option A}{x:β}{r:A}(h:Sum.elim f g (.inr x)=some r):g x=some r:=h
def room{α:Type}(xs:List α)(x:α):Option (List α):=if xs.length+1≤2 ^ 40 then some (xs++ [x]) else none
theorem P1{α:Type}{xs ys:List α}{x:α}(h:room xs x=some ys):xs.length+1≤2 ^ 40∧ys=xs++ [x]:=by
 unfold room at h;split at h
 ·rename_i hb;exact⟨hb,(Option.some.inj h).symm⟩
 ·cases h
def Jc(a b:Nat):Option Nat:=if b=0 then none else some (a % b)
def Gz(a b:Nat):Option Nat:=if a<65536∧b<65536 then some (a ||| b) else none
def G6(a b:Nat):Option Nat:=if a<65536∧b<65536 then some (a&&& b) else none
section
variable {P:Program}{s:St}{ρ:Operand→Value}{x y z:Operand}{d:Option Tmp}{t u ty e:TypeId}{p:String}{af:Array Edge}{g:Option (Nat×Bool)}{v:Value}{kd kd':IntKind}{m m':Int}{a b:Nat}
theorem Yl.TH{r:Nat}(A:ρ x= .int .u64 (a:Int))(K:ρ y= .int .u64 (b:Int))(h:Jc a b=some r):Yl P ⟨d,.binOp .rem t x y u,ty,p,af,g⟩ ρ s (.int .u64 (r:Int)):=by
 unfold Jc at h;split at h
 ·cases h
 ·rename_i O;cases h;exact Yl.Us A K O
theorem Yl.HK{r:Nat}(K:ρ x=CR a)(O:ρ y=CR b)(h:Gz a b=some r):Yl P ⟨d,.binOp .or t x y u,ty,p,af,g⟩ ρ s (CR r):=by
 unfold Gz at h;split at h
 ·rename_i A;cases h;exact Yl.UF K O A.1 A.2
 ·cases h
theorem Yl.Km{r:Nat}(K:ρ x=CR a)(O:ρ y=CR b)(h:G6 a b=some r):Yl P ⟨d,.binOp .and t x y u,ty,p,af,g⟩ ρ s (CR r):=by
 unfold G6 at h;split at h
 ·rename_i A;cases h;exact Yl.Um K O A.1 A.2
 ·cases h
theorem Yl.min2{ats:Array TypeId}(A:ρ x=iV m)(K:ρ y=iV m'):Yl P ⟨d,.call ⟨.builtin .min,#[x,y],ats⟩,ty,p,af,g⟩ ρ s (iV (min m m')):=by
 have e:(if m'<m then m' else m)=min m m':=by split <;> omega
 simp [Yl,execOp,lp,pure,bind,Sem.bind,A,K,resolve,invoke,builtin,Builtin.min_,Builtin.min2,e]
theorem Yl.max2{ats:Array TypeId}(A:ρ x=iV m)(K:ρ y=iV m'):Yl P ⟨d,.call ⟨.builtin .max,#[x,y],ats⟩,ty,p,af,g⟩ ρ s (iV (max m m')):=by
 have e:(if m<m' then m' else m)=max m m':=by split <;> omega
 simp [Yl,execOp,lp,pure,bind,Sem.bind,A,K,resolve,invoke,builtin,Builtin.max_,Builtin.max2,e]
end
def HO(P:Program):List Field→List (Nat×Nat)→Prop
 | f::A,(o,n)::K=>f.offset=o∧Bq P f.type=some n∧HO P A K
 | [],[]=>True
 | _,_=>False
theorem HO.mapM{P:Program}:∀{A:List Field} {K:List (Nat×Nat)},HO P A K→A.mapM (fun f=>(Bq P f.type).map fun n=>(f.offset,n))=some K
 | [],[],_=>rfl
 | [],_::_,h=>h.elim
 | _::_,[],h=>h.elim
 | f::A,(o,n)::K,h=>by
  obtain⟨O,U,Z⟩:=h
  simp only [List.mapM_cons,bind,U,Option.map_some,Option.bind_some,HO.mapM Z,O];rfl
theorem LX{L:Env}{ρ:Operand→Value}(h:CU L ρ):∀{l:List (Nat×Operand)} {vs:List (Nat×Value)},l.mapM (fun q=>(ev L q.2).map fun v=>(q.1,v))=some vs→l.map (fun(j,x)=>(j,ρ x))=vs
 | [],vs,e=>by simp at e;subst e;rfl
 | q::l,vs,e=>by
  simp only [List.mapM_cons,bind] at e
  cases A:ev L q.2 with
  | none=>rw [A] at e;simp at e
  | some w=>
   rw [A] at e
   simp only [Option.map_some,Option.bind_some] at e
   obtain⟨U,O,K⟩:=bind_some e
   simp at K;subst K
   simp [LX h O,h _ _ A]
theorem Yl.Cb{P:Program}{s:St}{ρ:Operand→Value}{L:Env}{d:Option Tmp}{t ty:TypeId}{p:String}{af:Array Edge}{g:Option (Nat×Bool)}{z:Value}{A:Array Field}{K:Array (Nat×Operand)}{vs:List (Nat×Value)}{cells:Array Value}(places:List (Nat×Nat))(h:CU L ρ)(O:zeroOf P t=some z)(ht:P.underlying t=some (.struct A))(U:HO P A.toList places)
  (Z:K.toList.mapM (fun q=>(ev L q.2).map fun v=>(q.1,v))=some vs) (aa:GZ (places.toArray[·]?) z.cells vs=some cells):Yl P ⟨d,.build t K,ty,p,af,g⟩ ρ s (.agg cells):=
 Yl.build (places:=places.toArray) O ht (by simpa using U.mapM) (LX h Z) (by rw [fill_eq];exact aa)
theorem OL.again{α:Type}{e:TypeId}{pp:Rp α}{E:LH}{a:Option Addr}{A c o:Nat}{f:Array Value}{xs:List α}{m:Int}{x:α}(O:OL e pp E a c [(A,.cells f e (0,0))] xs)(hm:ix xs m=some x)(U:o=m.toNat*pp.n):
  ∃ws,pp.r E ws x∧(∀j w,ws[j]? =some w→f[o+j]? =some w)∧o+pp.n≤f.size∧∀(x':α) (ws':List Value),pp.r E ws' x'→OL e pp E a c [(A,.cells (A5 f o ws') e (0,0))] (xs.set m.toNat x'):=by
 obtain⟨m,rfl,hm⟩:=FD hm;obtain⟨ah,ai,ws,aj,K,Z,aa,ab,ac⟩:=OL.get O hm;simp only [List.cons.injEq,Prod.mk.injEq,Obj.cells.injEq,and_true] at K;obtain⟨rfl,rfl⟩:=K;have ae:(m+1)*pp.n=m*pp.n+pp.n:=Nat.succ_mul _ _;have ag:o=m*pp.n:=by simpa using U
 subst ag;exact⟨ws,Z,aa,by rw [← ae];exact ab,by simpa using ac⟩
section
variable {P:Program}{J:Judge P}{Q:Goroutine→St→Prop}{b:Frame}{n:Nat}{ds:List Deferred}{ops:Array Oper}{k:List Item}{cs:List Frame}{L:Env}{s:St}{E E' H:LH}{S:List Seg}
variable {d:Option Tmp}{x y:Operand}{t u ty e:TypeId}{p:String}{af:Array Edge}{g:Option (Nat×Bool)}{v:Value}{i:Nat}{rest:List Nat}{kd:IntKind}
theorem JS.app{α:Type}{pp:Rp α}{t1 t2:TypeId}{A c:Nat}{a:Option Addr}{seg:Seg}{xs ys:List α}{xv:α}{Z:Nat}{d1:Tmp}{ats:Array TypeId}{K:TypeId}{O:String}{U:Array Edge}{g':Option (Nat×Bool)}{z:Value}(j:Nat)(ac:room xs xv=some ys)
  (ae:ops[i]? =some ⟨some d1,.buildSlice t2 1 #[(0,y)],K,O,U,g'⟩) (hw:AT L ops ⟨some d1,.buildSlice t2 1 #[(0,y)],K,O,U,g'⟩=some true) (ag:BR b n ⟨some d1,.buildSlice t2 1 #[(0,y)],K,O,U,g'⟩=true)
  (ah:ops[Z]? =some ⟨d,.call ⟨.builtin .append,#[x,.tmp d1],ats⟩,ty,p,af,g⟩) (ai:∀w,AT (AJ L (some d1) w) ops ⟨d,.call ⟨.builtin .append,#[x,.tmp d1],ats⟩,ty,p,af,g⟩=some true) (aj:BR b n ⟨d,.call ⟨.builtin .append,#[x,.tmp d1],ats⟩,ty,p,af,g⟩=true)
  (ak:∀w,ev (AJ L (some d1) w) x=some (.slice a xs.length c)) (al:ev L y=some v) (am:ats[0]? =some t) (an:ats[1]? =some t1) (ht:P.underlying t=some (.slice e)) (ao:P.underlying t1=some (.slice e)) (ap:P.underlying t2=some (.slice e)) (aq:Bq P e=some pp.n) (hb:C9 P e=some A) (ar:zeroOf P e=some z) (au:z.cells.size=pp.n)
  (av:0<A) (aw:A≤64) (ay:0<pp.n) (az:pp.n≤64) (aA:OL e pp E a c seg xs) (aB:pp.r E v.cells.toList xv) (aC:Ay E H S) (aD:S[j]? =some seg)
  (h:∀w aa ab seg',OL e pp E aa ab seg' ys→Ay E H (S.set j seg')→JL J Q b n (AJ (AJ L (some d1) w) d (.slice aa ys.length ab)) ds (.inRegion ops rest::k) cs (Ap E H (S.set j seg'))):
  JL J Q b n L ds (.inRegion ops (i::Z::rest)::k) cs (Ap E H S):=by
 obtain⟨aE,rfl⟩:=P1 ac;exact JS.Iv j ae hw ag ah ai aj ak al am an ht ao ap aq hb ar au av aw ay az aE aA aB aC aD h
theorem JS.norm{todo:List Item}{S':List Seg}(A:S=S')(K:Ay E H S)(h:Ay E H S'→JL J Q b n L ds todo cs (Ap E H S')):JL J Q b n L ds todo cs (Ap E H S):=by
 subst A;exact h K
end
end Pal
namespace Pal
open Go Go.Conc
theorem Cy.FH{P:Program}{J:Judge P}{f:FuncId}{args:Array Value}{s:St}{R:Value→St→Prop}(h:Cy J f args s R)(O:∀v s',R v s'→s'.q=false):Cy J f args s (fun v s'=>R v s'∧∃w,Fits s' w):=fun Q c cs U=>
 h Q c cs fun v s' A=>by
  by_cases K:∃w,Fits s' w
  ·exact U v s' ⟨A,K⟩
  ·exact J.step ⟨rfl,fun w f=>absurd ⟨w,f⟩ K,fun e=>by have:=O v s' A;subst e;cases this⟩
def AH(l:List Nat):Nat→Bool:=fun x=>l.contains x
section
variable {P:Program}{J:Judge P}{Q:Goroutine→St→Prop}{b:Frame}{n:Nat}{ds:List Deferred}{ops:Array Oper}{k:List Item}{cs:List Frame}{m fuel:Nat}{D:Nat→Bool}{listed:Array Bool}{L:Env}{s:St}{E E' H:LH}{S:List Seg}
variable {d:Option Tmp}{x y:Operand}{t u ty e:TypeId}{p:String}{af:Array Edge}{g:Option (Nat×Bool)}{v:Value}{i:Nat}{kd:IntKind}
def EN(ops:Array Oper)(listed:Array Bool)(m i:Nat):Bool:=match ops[i]? with
 | some oi=>decide (i<m)&&Region.noSelect ops&& !Ci oi.op&&FA ops listed i oi&&EF ops listed&&listed.size==ops.size&&(Region.ready .any ops listed).contains i
 | none=>false
theorem JG.Co(m:Nat){id:Nat}(hm:P.follows .mixedOrders=true)(A:(b.kind != .early)=true)
  (ht:Du ops m=true) (h:Du ops m=true→Av J Q b n ds ops k cs m Da ops.size (Array.replicate ops.size false) L (Ap E H S)):JL J Q b n L ds (.code (.region id ops true)::k) cs (Ap E H S):=
 JL.Oq m Da rfl hm A (h ht)
theorem Mb{oi:Oper}{i:Nat}(hi:ops[i]? =some oi)(A:EN ops listed m i=true):decide (i<m)=true∧Region.noSelect ops=true∧(!Ci oi.op)=true∧FA ops listed i oi=true∧EF ops listed=true∧(listed.size==ops.size)=true∧(Region.ready .any ops listed).contains i=true:=by
 simp only [EN,hi,Bool.and_eq_true] at A;obtain⟨⟨⟨⟨⟨⟨K,O⟩,U⟩,Z⟩,aa⟩,ab⟩,ac⟩:=A;exact⟨K,O,U,Z,aa,ab,ac⟩
theorem JG.val{oi:Oper}(i:Nat)(hi:ops[i]? =some oi)(A:Du ops m=true)(K:EN ops listed m i=true)(O:s.q=false)
  (hw:AT L ops oi=some true) (U:Bd n oi.dst=true) (Z:∀ρ,CU L ρ→∀s':St,(∀x o,(Bh D s).E x=some o→s'.E x=some o)→Yl P oi ρ s' v)
  (h:Av J Q b n ds ops k cs m D fuel (AX listed i) (AJ L oi.dst v) s):Av J Q b n ds ops k cs m D (fuel+1) listed L s:=
 let ⟨aa,ab,ac,ae,ag,ah,ai⟩:=Mb hi K
 Av.T9 hi aa A ab ac ae ag ah ai O hw U (fun ρ aj s' _ hs=>Z ρ aj s' hs) h
theorem JG.no{oi:Oper}(i:Nat)(hi:ops[i]? =some oi)(A:Du ops m=true)(K:EN ops listed m i=true)(O:s.q=false)
  (hw:AT L ops oi=some false) (U:Bd n oi.dst=true)
  (h:Av J Q b n ds ops k cs m D fuel (AX listed i) (AJ L oi.dst undef) s):Av J Q b n ds ops k cs m D (fuel+1) listed L s:=
 let ⟨Z,aa,ab,ac,ae,ag,ah⟩:=Mb hi K
 Av.TU hi Z A aa ab ac ae ag ah O hw U h
theorem JG.idx{α:Type}{pp:Rp α}{a:Option Addr}{c:Nat}{xs:List α}{xv:α}{A:Int}(i:Nat)(Z:Ao pp E a c xs)(O:ix xs A=some xv)
  (aa:ops[i]? =some ⟨d,.indexAddr t x y,ty,p,af,g⟩) (ab:Du ops m=true) (ac:EN ops listed m i=true) (ae:s.q=false)
  (hw:AT L ops ⟨d,.indexAddr t x y,ty,p,af,g⟩=some true) (ag:Bd n d=true)
  (ah:ev L x=some (.slice a xs.length c)) (ai:ev L y=some (.int kd A)) (ht:P.underlying t=some (.slice e)) (aj:Bq P e=some pp.n)
  (h:∀K o ws,pp.r E ws xv→At E K o ws→Av J Q b n ds ops k cs m D fuel (AX listed i) (AJ L d (.pointer (some ⟨K,o,none⟩))) s):
  Av J Q b n ds ops k cs m D (fuel+1) listed L s:=by
 obtain⟨A,rfl,O⟩:=FD O;have ak:A<xs.length:=(List.getElem?_eq_some_iff.1 O).1;obtain⟨ao,⟨rfl,_⟩ | ⟨K,off,rfl,al⟩⟩:=Z
 ·simp at ak
 obtain⟨ws,am,an⟩:=al A xv O;refine JG.val (v:= .pointer (some ⟨K,off+A*pp.n,none⟩)) i aa ab ac ae hw ag (fun ρ U s' _=>?_) (h K _ ws am an);have:=Yl.IZ (P:=P) (s:=s') (d:=d) (ty:=ty) (p:=p) (af:=af) (g:=g) ht aj (U x _ ah) (U y _ ai) ⟨by omega,by omega⟩;rw [Bi rfl] at this;simpa using this
theorem JG.call{f:FuncId}{args:Array Operand}{ats:Array TypeId}{vs:List Value}{R:Value→LH→Seg→Prop}(U:Aq J f vs E [] R)(Z:Region.ready .any ops listed= [i])
  (aa:ops[i]? =some ⟨d,.call ⟨.value (.func f),args,ats⟩,ty,p,af,g⟩) (ab:Bd n d=true) (hw:AT L ops ⟨d,.call ⟨.value (.func f),args,ats⟩,ty,p,af,g⟩=some true) (hb:Cx P f=true) (ac:evs L args.toList=some vs) (ae:Ay E H S)
  (ag:∀v E' seg',Le E E'→R v E' seg'→Ay E' H (S++ [seg'])→Av J Q b n ds ops k cs m Da fuel (AX listed i) (AJ L d v) (Ap E' H (S++ [seg']))):
  Av J Q b n ds ops k cs m Da (fuel+1) listed L (Ap E H S):=by
 have ah:=Cy.FH (U (AU S.flatten H) trivial) (by rintro v s' ⟨E',B',_,_,_,rfl⟩;rfl);refine Av.call rfl Z aa ab hw hb ac ah ?_;rintro v ap ⟨⟨E',B',hle,ai,aj,rfl⟩,w,ak⟩;have al:mk E' (AU S.flatten H) B'=mk E' H (B'++S.flatten):=by unfold mk;rw [DV]
 have am:Nd E' H S.flatten:=Nd.grow ae fun x A=>by
  have an:=ak.d x A;have ao:AU B' (AU S.flatten H) x=none:=an;exact(EA ao).1
 have K:Nd E' H (B'++S.flatten):=Nd.glue aj am;have O:(B'++S.flatten).Perm (S++ [B']).flatten:=by rw [EC];exact List.perm_append_comm
 rw [al,Dt K O];exact⟨rfl,fun x o A=>hle x o A,ag v E' B' hle ai (Nd.perm K O)⟩
end
end Pal
namespace Pal
open Go Go.Conc
theorem IY{E H:LH}{S:List Seg}{j A:Nat}{o:Obj}{seg:Seg}(K:Ay E H S)(O:S[j]? =some ((A,o)::seg)):E A=none:=by
 have hm:(A,o)∈S.flatten:=List.mem_flatten.2 ⟨_,List.mem_of_getElem? O,by simp⟩;exact((Nd.iff.1 K).2 _ hm).1
end Pal
namespace Pal
open Go Go.Conc
def HQ(a:Nat)(n:Int):Option Nat:=if 0≤n∧n≤16 then some (a>>>n.toNat) else none
def HG(n:Int):Option Nat:=if 0≤n∧n<16 then some (1<<<n.toNat) else none
def F6{α:Type}(n:Int)(z:α):Option (List α):=if 0≤n∧n≤2 ^ 20 then some (List.replicate n.toNat z) else none
def C7{α:Type}(xs ys:List α):Option (List α):=if xs.length+ys.length≤2 ^ 40 then some (xs++ys) else none
section
variable {P:Program}{s:St}{ρ:Operand→Value}{x y z:Operand}{d:Option Tmp}{t u ty e:TypeId}{p:String}{af:Array Edge}{g:Option (Nat×Bool)}{v:Value}{kd kd':IntKind}{m m':Int}{a b:Nat}
theorem Yl.Ut{r:Nat}(A:ρ x=CR a)(K:ρ y=iV m)(h:HQ a m=some r):Yl P ⟨d,.binOp .shr t x y u,ty,p,af,g⟩ ρ s (CR r):=by
 unfold HQ at h;split at h
 ·rename_i O;cases h;refine Yl.Uu A (c:=m.toNat) ?_ (by omega);rw [K];congr 1;omega
 ·cases h
theorem Yl.Ul{r:Nat}(A:ρ x=CR 1)(K:ρ y=iV m)(h:HG m=some r):Yl P ⟨d,.binOp .shl t x y u,ty,p,af,g⟩ ρ s (CR r):=by
 unfold HG at h;split at h
 ·rename_i O;cases h;refine Yl.Uy A (c:=m.toNat) ?_ (by omega);rw [K];congr 1;omega
 ·cases h
end
section
variable {P:Program}{J:Judge P}{Q:Goroutine→St→Prop}{b:Frame}{n:Nat}{ds:List Deferred}{ops:Array Oper}{k:List Item}{cs:List Frame}{L L':Env}{s:St}{E E' H:LH}{S:List Seg}
variable {d:Option Tmp}{x y:Operand}{t u ty e:TypeId}{p:String}{af:Array Edge}{g:Option (Nat×Bool)}{v:Value}{i:Nat}{rest:List Nat}{kd:IntKind}
theorem P6{ρ:Operand→Value}:execOp ρ ⟨d,.makeSlice t x y,ty,p,af,g⟩=(do pure (Next.value (← Instr.makeSlice t (ρ x) (ρ y)))):=by
 simp only [execOp]
theorem JN{α:Type}(w:List α):∀m:Nat,((List.replicate m w).flatten).length=m*w.length
 | 0=>by simp
 | m+1=>by rw [List.replicate_succ,List.flatten_cons,List.length_append,JN w m,Nat.succ_mul,Nat.add_comm]
theorem Qp(z:Array Value)(K:0<z.size):∀m:Nat,((Array.range (m*z.size)).map (z[· % z.size]!)).toList=(List.replicate m z.toList).flatten:=by
 intro m;apply List.ext_getElem?;intro j;simp only [Array.toList_map,Array.toList_range,List.getElem?_map];by_cases A:j<m*z.size
 ·rw [List.getElem?_range A];have U:j / z.size<m:=(Nat.div_lt_iff_lt_mul K).2 A;have O:j % z.size<z.size:=Nat.mod_lt _ K;have hw:(List.replicate m z.toList)[j / z.size]? =some z.toList:=by simp [U]
  have:=GD (n:=z.size) (wss:=List.replicate m z.toList) (fun ws Z=>by rw [List.eq_of_mem_replicate Z];simp) hw (j % z.size) z[j % z.size] (by simp [O]);rw [show j / z.size*z.size+j % z.size=j from by rw [Nat.mul_comm];exact Nat.div_add_mod _ _] at this;rw [this];simp [O]
 ·have hlen:((List.replicate m z.toList).flatten).length=m*z.size:=by rw [JN];simp
  rw [List.getElem?_eq_none (by simpa using A),List.getElem?_eq_none (by rw [hlen];omega)];rfl
theorem JS.make{α:Type}{pp:Rp α}{z:Value}{Z:α}{m:Int}{xs:List α}(O:F6 m Z=some xs)
  (ai:ops[i]? =some ⟨d,.makeSlice t x y,ty,p,af,g⟩) (hw:AT L ops ⟨d,.makeSlice t x y,ty,p,af,g⟩=some true) (aj:BR b n ⟨d,.makeSlice t x y,ty,p,af,g⟩=true)
  (ak:ev L x=some (iV m)) (U:ev L y=some (iV m)) (ht:P.underlying t=some (.slice e)) (al:Bq P e=some pp.n) {K:Nat} (hb:C9 P e=some K) (az:K≤64) (am:zeroOf P e=some z) (aA:0<pp.n) (aa:pp.r E z.cells.toList Z) (an:Ay E H S)
  (h:∀r seg,OL e pp E (some ⟨r,0,none⟩) xs.length seg xs→Ay E H (S++ [seg])→JL J Q b n (AJ L d (.slice (some ⟨r,0,none⟩) xs.length xs.length)) ds (.inRegion ops rest::k) cs (Ap E H (S++ [seg]))):
  JL J Q b n L ds (.inRegion ops (i::rest)::k) cs (Ap E H S):=by
 unfold F6 at O;split at O
 rotate_left
 ·cases O
 rename_i hm;cases O;refine JL.op ai hw aj fun ρ ab=>?_;rw [P6,ab x _ ak,ab y _ U];refine AB _ _ ?_;unfold Instr.makeSlice;refine AB _ _ (Cd ht ?_);simp only [asInt,EV];obtain⟨inf,ao,ap⟩:=Ih hb;refine AB (x:=typeInfo e) _ (FT ao ?_);simp only [ap,Gc (show -9223372036854775808≤m∧m≤9223372036854775807 by omega)];have aB:(K:Int)*m≤64*2 ^ 20:=by
  have ac:(K:Int)*m≤64*m:=Int.mul_le_mul_of_nonneg_right (by omega) hm.1;omega
 have aq:((decide (m<0) || decide ((K:Int)*m>2 ^ 48)) || decide (m<0) || decide (m>m))=false:=by
  simp only [Bool.or_eq_false_iff,decide_eq_false_iff_not];omega
 rw [aq];simp only [Bool.false_eq_true,if_false];refine AB (x:=askRoom _) _ ?_;have ar:∀{Q:Unit→St→Prop} {X:Halt→St→Prop} (w:Nat),Q () (Ap E H S)→lp P (askRoom w) (Ap E H S) Q X:=by
  intro Q X w ae;unfold askRoom;split
  ·exact⟨.inl ⟨rfl,rfl⟩,ae⟩
  ·exact ae
 refine ar _ ?_;refine AB (x:=Go.sizeOf e) _ (Dg al ?_);have ag:z.cells.size=pp.n:=by simpa using pp.len aa
 have fin:∀A:Array Value,((Array.range (m.toNat*pp.n)).map (A[· % A.size]!)).toList=(List.replicate m.toNat z.cells.toList).flatten→lp P (do let a ← newRow e ((Array.range (m.toNat*pp.n)).map (A[· % A.size]!));pure (Value.slice (some a) m.toNat m.toNat)) (Ap E H S) (fun a s'=>lp P (pure (Next.value a)) s' (fun nx s'=>match nx with
   | .value v=>JL J Q b n (AJ L d v) ds (.inRegion ops rest::k) cs s'
   | .skip=>JL J Q b n (AJ L d undef) ds (.inRegion ops rest::k) cs s'
   | _=>False) (fun _ _=>False)) (fun _ _=>False):=by
  intro A au;refine AB _ _ (EX an fun r ah=>?_);rw [(CS ah).1];have aC:((Array.range (m.toNat*pp.n)).map (A[· % A.size]!)).size=m.toNat*pp.n:=by simp
  have:=h r _ ⟨List.replicate m.toNat z.cells.toList,.inr ⟨r,_,rfl,rfl,by simp,by simp,by
   rw [au,List.take_of_length_le (by rw [JN];simp [ag])]⟩,by simp,fun i y us U hu=>by
    have:=List.mem_of_getElem? U;have av:=List.eq_of_mem_replicate this
    have:=List.mem_of_getElem? hu;have aw:=List.eq_of_mem_replicate this
    subst av aw;exact aa⟩ (CS ah).2
  simp only [List.length_replicate] at this;exact this
 split
 ·rename_i ay;have ac:m.toNat=0:=by rcases Nat.mul_eq_zero.1 ay with h | h <;> omega
  exact fin #[] (by simp [ac])
 ·refine AB (x:=zeroValue e) _ (D7 am ?_);refine fin z.cells ?_;rw [← ag];exact Qp z.cells (by omega) _
theorem JS.G8{α:Type}{pp:Rp α}(K:ops[i]? =some ⟨d,.buildSlice t 0 #[],ty,p,af,g⟩)(hw:AT L ops ⟨d,.buildSlice t 0 #[],ty,p,af,g⟩=some true)(O:BR b n ⟨d,.buildSlice t 0 #[],ty,p,af,g⟩=true)
  (ht:P.underlying t=some (.slice e)) (U:Bq P e=some pp.n) (Z:Ay E H S)
  (h:∀r seg,OL e pp E (some ⟨r,0,none⟩) 0 seg []→Ay E H (S++ [seg])→JL J Q b n (AJ L d (.slice (some ⟨r,0,none⟩) 0 0)) ds (.inRegion ops rest::k) cs (Ap E H (S++ [seg]))):
  JL J Q b n L ds (.inRegion ops (i::rest)::k) cs (Ap E H S):=by
 refine JL.op K hw O fun ρ ab=>?_;rw [LW];refine AB _ _ ?_;unfold Instr.buildSlice;refine AB _ _ (Cd ht ?_);refine AB _ _ (Dg U ?_);rw [if_neg (by omega),if_pos (by omega)];refine AB (x:=pure #[]) _ ?_;simp only [lp,pure,List.map_toArray,List.map_nil,Instr.fill];refine AB _ _ (EX Z fun r A=>?_);rw [(CS A).1];exact h r _ ⟨[],.inr ⟨r,_,rfl,rfl,by simp,Nat.le_refl _,by simp⟩,rfl,fun i x ws aa=>by simp at aa⟩ (CS A).2
theorem Ao.rows{α:Type}{pp:Rp α}{a:Option Addr}{c:Nat}{xs:List α}(U:Ao pp E a c xs):∃wss:List (List Value),wss.length=xs.length∧(∀(i:Nat) x ws,xs[i]? =some x→wss[i]? =some ws→pp.r E ws x)∧
  ((xs= []∧∀ad:Addr,a=some ad→ad.spot=none∨c=0)∨∃K off,a=some ⟨K,off,none⟩∧∀(i:Nat) ws,wss[i]? =some ws→At E K (off+i*pp.n) ws):=by
 obtain⟨ac,U⟩:=U;rcases U with⟨rfl,aa⟩ | ⟨K,off,rfl,ab⟩
 ·exact⟨[],rfl,fun i x ws O=>by simp at O,.inl ⟨rfl,aa⟩⟩
 ·have Z:∀i:Fin xs.length,∃ws,pp.r E ws xs[i]∧At E K (off+i*pp.n) ws:=fun i=>ab i xs[i] (List.getElem?_eq_getElem i.2);refine⟨List.ofFn fun i=>Classical.choose (Z i),by simp,fun i x ws O hw=>?_,.inr ⟨K,off,rfl,fun i ws hw=>?_⟩⟩
  ·have A:i<xs.length:=(List.getElem?_eq_some_iff.1 O).1;simp [A] at hw;subst hw;rw [List.getElem?_eq_getElem A] at O;cases O;exact(Classical.choose_spec (Z ⟨i,A⟩)).1
  ·have A:i<xs.length:=by have:=(List.getElem?_eq_some_iff.1 hw).1;simpa using this
   simp [A] at hw;subst hw;exact(Classical.choose_spec (Z ⟨i,A⟩)).2
theorem Ib{n:Nat}:∀{wss:List (List Value)},(∀ws∈wss,ws.length=n)→wss.flatten.length=wss.length*n
 | [],_=>by simp
 | ws::wss,h=>by rw [List.flatten_cons,List.length_append,h ws (by simp),Ib fun w hw=>h w (List.mem_cons_of_mem _ hw),List.length_cons,Nat.succ_mul,Nat.add_comm]
theorem JK{n:Nat}:∀{wss:List (List Value)},(∀ws∈wss,ws.length=n)→∀{j:Nat} {w:Value},wss.flatten[j]? =some w→∃(i m:Nat) (ws:List Value),wss[i]? =some ws∧ws[m]? =some w∧j=i*n+m
 | [],_,_,_,h=>by simp at h
 | us::wss,K,j,w,h=>by
  have hu:=K us (by simp)
  rw [List.flatten_cons] at h
  rcases Nat.lt_or_ge j us.length with A | A
  ·rw [List.getElem?_append_left A] at h
   exact⟨0,j,us,rfl,h,by simp⟩
  ·rw [List.getElem?_append_right A] at h;obtain⟨i,m,ws,O,U,Z⟩:=JK (fun ws hw=>K ws (List.mem_cons_of_mem _ hw)) h;exact⟨i+1,m,ws,by simpa using O,U,by rw [Nat.succ_mul];omega⟩
theorem JR{α:Type}{pp:Rp α}{wss K:List (List Value)}{xs ys:List α}(O:wss.length=xs.length)(h:∀(i:Nat) x ws,xs[i]? =some x→wss[i]? =some ws→pp.r E ws x)(U:∀(i:Nat) x ws,ys[i]? =some x→K[i]? =some ws→pp.r E ws x):
  ∀(i:Nat) y us,(xs++ys)[i]? =some y→(wss++K)[i]? =some us→pp.r E us y:=by
 intro i y us A hu;rcases Nat.lt_or_ge i xs.length with hi | hi
 ·rw [List.getElem?_append_left hi] at A;rw [List.getElem?_append_left (by omega)] at hu;exact h i y us A hu
 ·rw [List.getElem?_append_right hi] at A;rw [List.getElem?_append_right (by omega),O] at hu;exact U _ y us A hu
variable {B0:List (Nat×Obj)}
theorem JL.R0{e t t1:TypeId}{Z al l c m:Nat}{a:Option Addr}{blk:List (Nat×Obj)}{xs ys:List Value}{i:Nat}{rest:List Nat}{d:Option Tmp}{x y:Operand}{ats:Array TypeId}{ty:TypeId}{p:String}{af:Array Edge}{g:Option (Nat×Bool)}{z:Value}{ax:Option Addr}{cx:Nat}{B1:List (Nat×Obj)}
  (aw:ops[i]? =some ⟨d,.call ⟨.builtin .append,#[x,y],ats⟩,ty,p,af,g⟩) (hw:AT L ops ⟨d,.call ⟨.builtin .append,#[x,y],ats⟩,ty,p,af,g⟩=some true) (ay:BR b n ⟨d,.call ⟨.builtin .append,#[x,y],ats⟩,ty,p,af,g⟩=true)
  (az:ev L x=some (.slice a l c)) (aA:ev L y=some (.slice ax m cx)) (aB:ats[0]? =some t) (aC:ats[1]? =some t1) (ht:P.underlying t=some (.slice e)) (aD:P.underlying t1=some (.slice e)) (aE:Bq P e=some Z) (hb:C9 P e=some al) (aF:zeroOf P e=some z) (aG:z.cells.size=Z)
  (aH:0<al) (aI:al≤64) (aJ:l+m≤2 ^ 40) (aK:∀w∈ys,BB w=true) (ai:GS e Z a l c blk xs) (am:Nd E H (B0++blk++B1)) (hs:EI (mk E H (B0++blk++B1)) (.slice ax m cx) Z ys)
  (h:∀ar aj an,GS e Z ar (l+m) aj an (xs++ys)→Nd E H (B0++an)→JL J Q b n (AJ L d (.slice ar (l+m) aj)) ds (.inRegion ops rest::k) cs (mk E H (B0++an))):
  JL J Q b n L ds (.inRegion ops (i::rest)::k) cs (mk E H (B0++blk++B1)):=by
 refine JL.op aw hw ay fun ρ au=>?_;rw [H9,au x _ az,au y _ aA];have aL:Ji (B0++blk++B1) B0.length e Z a l c xs:=by
  rcases ai with⟨A,U,ac,ae,aa⟩ | ⟨ao,f,A,U,ac,ae,aa⟩
  ·exact .inl ⟨A,U,ac,aa⟩
  ·refine .inr ⟨ao,f,A,?_,ac,ae,aa⟩;subst U;simp
 have hlen:=ai.length;refine AB _ _ (JZ (pl:=B0.length) aB aC aD ht aE hb aF aG am aL hs aK aH aJ aI ?_ ?_ ?_)
 ·
  intro ao f K ak aR aS aM ap aq ab;rcases ai with⟨A,_⟩ | ⟨O,f0,A,U,ac,ae,aa⟩
  ·rw [A] at ak;cases ak
  ·subst U;have aN:O=ao:=by rw [A] at ak;simpa using ak
   subst aN;have aO:(B0++ [(O,Obj.cells f0 e (0,0))]++B1).set B0.length (O,.cells K e (0,0))=B0++ [(O,.cells K e (0,0))]++B1:=by
    rw [List.append_assoc,List.append_assoc];exact Fx _ _ _ _
   rw [aO] at ab ⊢;have ag:Nd E H (B0++ [(O,.cells K e (0,0))]):=JL.F1.Nd.left ab;refine JL.drop (B0++ [(O,.cells K e (0,0))]) (fun p ah=>?_) ab (h a c _ (.inr ⟨O,K,A,rfl,ap,aM,aq.symm⟩) ag);exact List.mem_iff_getElem?.1 (List.mem_append_left _ ah)
 ·intro av hm;rcases ai with⟨A,U,ac,ae,aa⟩ | ⟨O,f0,A,_⟩
  ·subst hm;have aP:ys= []:=by
    cases ax with
    | none=>exact hs.2
    | some ad=>have:=hs.2.1;simp at this;exact this
   subst U ae aa aP;have ag:Nd E H (B0++ []):=JL.F1.Nd.left am;exact JL.drop (B0++ []) (fun p ah=>List.mem_iff_getElem?.1 (List.mem_append_left _ ah)) am (h none 0 [] (by simpa using GS.nil) ag)
  ·rw [A] at av;cases av
 ·
  intro r K aj aQ ap aq ab;have ag:Nd E H (B0++ [(r,.cells K e (0,0))]):=JL.F1.Nd.pick ab;refine JL.drop (B0++ [(r,.cells K e (0,0))]) (fun p ah=>?_) ab (h (some ⟨r,0,none⟩) aj _ (.inr ⟨r,K,rfl,rfl,ap,aQ,aq.symm⟩) ag);refine List.mem_iff_getElem?.1 ?_;rcases List.mem_append.1 ah with q | q
  ·simp [q]
  ·exact List.mem_append_right _ q
theorem JS.KV{α:Type}{pp:Rp α}{t1:TypeId}{ac c cx:Nat}{a ax:Option Addr}{seg:Seg}{xs ys ae:List α}{ats:Array TypeId}{z:Value}(j:Nat)(U:C7 xs ys=some ae)
  (ao:ops[i]? =some ⟨d,.call ⟨.builtin .append,#[x,y],ats⟩,ty,p,af,g⟩) (hw:AT L ops ⟨d,.call ⟨.builtin .append,#[x,y],ats⟩,ty,p,af,g⟩=some true) (ap:BR b n ⟨d,.call ⟨.builtin .append,#[x,y],ats⟩,ty,p,af,g⟩=true)
  (aq:ev L x=some (.slice a xs.length c)) (ar:ev L y=some (.slice ax ys.length cx)) (au:ats[0]? =some t) (av:ats[1]? =some t1) (ht:P.underlying t=some (.slice e)) (aw:P.underlying t1=some (.slice e)) (ay:Bq P e=some pp.n) (hb:C9 P e=some ac) (az:zeroOf P e=some z) (aA:z.cells.size=pp.n)
  (aB:0<ac) (aC:ac≤64) (ag:OL e pp E a c seg xs) (ai:Ao pp E ax cx ys) (aD:Ay E H S) (aj:S[j]? =some seg)
  (h:∀Z aa seg',OL e pp E Z aa seg' ae→Ay E H (S.set j seg')→JL J Q b n (AJ L d (.slice Z ae.length aa)) ds (.inRegion ops rest::k) cs (Ap E H (S.set j seg'))):
  JL J Q b n L ds (.inRegion ops (i::rest)::k) cs (Ap E H S):=by
 unfold C7 at U;split at U
 rotate_left
 ·cases U
 rename_i aE;cases U;obtain⟨wss,ag,ak,aF⟩:=ag;obtain⟨aG,al⟩:=Ed aD aj;obtain⟨ab,K,ah,O⟩:=ai.rows;have am:=FW K ah;rw [aG];have aH:∀w∈ab.flatten,BB w=true:=fun w hw=>by
  obtain⟨us,aI,hw⟩:=List.mem_flatten.1 hw;obtain⟨q,A⟩:=List.mem_iff_getElem?.1 aI;have aJ:q<ys.length:=by rw [← K];exact(List.getElem?_eq_some_iff.1 A).1
  exact pp.one (ah q _ us (List.getElem?_eq_getElem aJ) A) w hw
 have hlen:(xs++ys).length=xs.length+ys.length:=by simp
 have an:EI (mk E H ((S.set j []).flatten++seg)) (.slice ax ys.length cx) pp.n ab.flatten:=by
  rcases O with⟨O,aT⟩ | ⟨aU,off,rfl,O⟩
  ·subst O;have:ab= []:=List.eq_nil_of_length_eq_zero K;subst this;cases ax with
   | none=>exact⟨rfl,rfl⟩
   | some ad=>exact⟨.inr rfl,by simp,Nat.zero_le _,fun q w A=>by simp at A⟩
  ·refine⟨.inl rfl,by rw [Ib am,K],ai.1,fun q w A=>?_⟩;obtain⟨q1,m,ws,aK,aL,aM⟩:=JK am A;have:=(O q1 ws aK).cell (H:=H) (B:=(S.set j []).flatten++seg) aL;subst aM;rw [← Nat.add_assoc];exact this
 have aN:(S.set j []).flatten++seg=(S.set j []).flatten++seg++ []:=(List.append_nil _).symm;rw [aN] at al an ⊢;refine JL.R0 ao hw ap aq ar au av ht aw ay hb az aA aB aC aE aH ag al an fun Z aa aO aP aQ=>?_;obtain⟨aR,aS⟩:=Fc aj aQ;rw [aR];have:=h Z aa aO ⟨wss++ab,by rw [hlen,List.flatten_append];exact aP,by simp [ak,K],JR ak aF ah⟩ aS;rw [hlen] at this;exact this
end
end Pal
namespace Pal
open Go Go.Conc
section
variable {P:Program}{J:Judge P}{Q:Goroutine→St→Prop}{b:Frame}{n:Nat}{ds:List Deferred}{ops:Array Oper}{k:List Item}{cs:List Frame}{m fuel:Nat}{D:Nat→Bool}{listed:Array Bool}{L L':Env}{s:St}{E E' H:LH}{S:List Seg}
variable {d:Option Tmp}{x y:Operand}{t u ty e:TypeId}{p:String}{af:Array Edge}{g:Option (Nat×Bool)}{v:Value}{i:Nat}{rest:List Nat}{kd:IntKind}
theorem Av.BU(h:Sub L' L)(k':Av J Q b n ds ops k cs m D fuel listed L' s):Av J Q b n ds ops k cs m D fuel listed L s:=fun T A=>k' T (A.sub h)
theorem Av.join{A:Nat}{K:Array Bool}(fuel:Nat)(listed:Array Bool)(I:Env→St→Prop)(O:∀L s,I L s→Av J Q b n ds ops k cs m D fuel listed L s)(h:(∀L s,I L s→Av J Q b n ds ops k cs m D fuel listed L s)→Av J Q b n ds ops k cs m D A K L s):Av J Q b n ds ops k cs m D A K L s:=h O
end
def FL(t:TypeId)(v:Value):Option (Int×Int)→Prop
 | none=>v= .nilIface
 | some (c,a)=>v= .iface t (.agg #[iV c,iV a])
def Hf{α:Type}(p:Rp α)(E:LH)(v:Value):Option α→Prop
 | none=>v= .pointer none
 | some x=>∃A o us,v= .pointer (some ⟨A,o,none⟩)∧At E A o us∧p.r E us x
theorem Hf.mono{α:Type}{p:Rp α}{E E':LH}{v:Value}{d:Option α}(h:Hf p E v d)(hle:Le E E'):Hf p E' v d:=by
 cases d with
 | none=>exact h
 | some x=>obtain⟨A,o,us,K,O,U⟩:=h;exact⟨A,o,us,K,O.mono hle,p.mono hle U⟩
theorem At.tail{E:LH}{A o:Nat}{l ws:List Value}(h:At E A o (l++ws)):At E A (o+l.length) ws:=by
 obtain⟨f,e,fr,K,O⟩:=h;refine⟨f,e,fr,K,fun j w U=>?_⟩;rw [Nat.add_assoc];refine O _ _ ?_;rw [List.getElem?_append_right (by omega)];rw [show l.length+j - l.length=j by omega];exact U
theorem Ou{α:Type}{kk:Nat}{pp:Rp α}{E:LH}{A o:Nat}{ws:List Value}{xs:List α}{m:Int}{x:α}(O:(rA kk pp).r E ws xs)(h:At E A o ws)(hm:ix xs m=some x):∃us,pp.r E us x∧At E A (o+m.toNat*pp.n) us∧0≤m∧m<kk:=by
 obtain⟨U,wss,rfl,Z,K⟩:=O;obtain⟨m,rfl,hm⟩:=FD hm;have ae:m<xs.length:=(List.getElem?_eq_some_iff.1 hm).1;have hw:wss[m]? =some wss[m]:=List.getElem?_eq_getElem (by omega);refine⟨wss[m],K m x _ hm hw,?_,by omega,by omega⟩;obtain⟨f,e,fr,aa,ab⟩:=h;refine⟨f,e,fr,aa,fun j w ac=>?_⟩;rw [Nat.add_assoc];exact ab _ _ (GD (FW (Z.trans U.symm) K) hw j w ac)
section
variable {P:Program}{s:St}{ρ:Operand→Value}{x y z:Operand}{d:Option Tmp}{t u ty e:TypeId}{p:String}{af:Array Edge}{g:Option (Nat×Bool)}{v v':Value}
theorem L8{ms:Array (String×TypeId)}{A:TypeId}{o:Option (Int×Int)}{n:Nat}(K:P.underlying t=some (.interface ms))(he:FL A v o){Q:Bool→St→Prop}{X:Halt→St→Prop}(k:Q o.isNone s):lp P (Op.equalIn (n+1) t v .nilIface) s Q X:=by
 unfold Op.equalIn;refine AB _ _ (Cd K ?_);cases o with
 | none=>obtain rfl:v= .nilIface:=he;exact k
 | some q=>obtain⟨c,a⟩:=q;obtain rfl:v= .iface A (.agg #[iV c,iV a]):=he;exact k
theorem Yl.KB{ms:Array (String×TypeId)}{A:TypeId}{o:Option (Int×Int)}(K:P.underlying t=some (.interface ms))(he:FL A v o)(O:ρ x=v)(U:ρ (.const .nilIface)= .nilIface):Yl P ⟨d,.binOp .neq t x (.const .nilIface) u,ty,p,af,g⟩ ρ s (.bool o.isSome):=by
 refine Yl.Ds (sm:=do eqGuard .neq t x (.const .nilIface) (ρ x) (ρ (.const .nilIface));binOp .neq t (ρ x) (ρ (.const .nilIface))) rfl ?_
 rw [O,U];have Z:lp P (eqGuard .neq t x (.const .nilIface) v .nilIface) s (fun _ s'=>s'=s) (fun _ _=>False):=by
  cases o with
  | none=>obtain rfl:v= .nilIface:=he;simp [eqGuard,lp,pure]
  | some q=>obtain⟨c,a⟩:=q;obtain rfl:v= .iface A (.agg #[iV c,iV a]):=he;simp [eqGuard,lp,pure]
 refine AB _ _ (B8 _ Z ?_ (fun _ _ h=>h));rintro _ _ rfl;have hb:binOp .neq t v .nilIface=(do pure (.bool (!(← Op.equal t v .nilIface)))):=by
  cases o with
  | none=>obtain rfl:v= .nilIface:=he;rfl
  | some q=>obtain⟨c,a⟩:=q;obtain rfl:v= .iface A (.agg #[iV c,iV a]):=he;rfl
 rw [hb];refine AB (x:=Op.equal t v .nilIface) _ ?_;unfold Op.equal Op.maxDepth;refine L8 K he ?_;refine⟨?_,rfl⟩;cases o <;> rfl
theorem Yl.OI{ms:Array (String×TypeId)}{A:TypeId}{o:Option (Int×Int)}(K:P.underlying t=some (.interface ms))(he:FL A v o)(O:ρ x=v)(U:ρ (.const .nilIface)= .nilIface):Yl P ⟨d,.binOp .eql t x (.const .nilIface) u,ty,p,af,g⟩ ρ s (.bool o.isNone):=by
 refine Yl.Ds (sm:=do eqGuard .eql t x (.const .nilIface) (ρ x) (ρ (.const .nilIface));binOp .eql t (ρ x) (ρ (.const .nilIface))) rfl ?_
 rw [O,U];have Z:lp P (eqGuard .eql t x (.const .nilIface) v .nilIface) s (fun _ s'=>s'=s) (fun _ _=>False):=by
  cases o with
  | none=>obtain rfl:v= .nilIface:=he;simp [eqGuard,lp,pure]
  | some q=>obtain⟨c,a⟩:=q;obtain rfl:v= .iface A (.agg #[iV c,iV a]):=he;simp [eqGuard,lp,pure]
 refine AB _ _ (B8 _ Z ?_ (fun _ _ h=>h));rintro _ _ rfl;have hb:binOp .eql t v .nilIface=(do pure (.bool (← Op.equal t v .nilIface))):=by
  cases o with
  | none=>obtain rfl:v= .nilIface:=he;rfl
  | some q=>obtain⟨c,a⟩:=q;obtain rfl:v= .iface A (.agg #[iV c,iV a]):=he;rfl
 rw [hb];refine AB (x:=Op.equal t v .nilIface) _ ?_;unfold Op.equal Op.maxDepth;refine L8 K he ?_;refine⟨?_,rfl⟩
 rfl
end
end Pal
namespace Pal
open Go Go.Conc
section
variable {P:Program}{J:Judge P}{Q:Goroutine→St→Prop}{b:Frame}{n:Nat}{ds:List Deferred}{ops:Array Oper}{k:List Item}{cs:List Frame}{L:Env}{E H:LH}{S:List Seg}
variable {d:Option Tmp}{x y:Operand}{t u ty e:TypeId}{p:String}{af:Array Edge}{g:Option (Nat×Bool)}{i:Nat}{rest:List Nat}{kd:IntKind}
theorem JS.KS{α:Type}{pp:Rp α}{kk A o:Nat}{l ws:List Value}{xs:List α}{xv:α}{m:Int}(O:At E A o (l++ws))(U:(rA kk pp).r E ws xs)(hm:ix xs m=some xv)
  (Z:ops[i]? =some ⟨d,.indexAddr t x y,ty,p,af,g⟩) (hw:AT L ops ⟨d,.indexAddr t x y,ty,p,af,g⟩=some true) (aa:BR b n ⟨d,.indexAddr t x y,ty,p,af,g⟩=true)
  (ab:ev L x=some (.pointer (some ⟨A,o+l.length,none⟩))) (ac:ev L y=some (.int kd m)) (ht:P.underlying t=some (.array kk e)) (ae:Bq P e=some pp.n)
  (h:∀o' us,pp.r E us xv→At E A o' us→JL J Q b n (AJ L d (.pointer (some ⟨A,o',none⟩))) ds (.inRegion ops rest::k) cs (Ap E H S)):
  JL J Q b n L ds (.inRegion ops (i::rest)::k) cs (Ap E H S):=by
 obtain⟨us,ag,ah,ai,aj⟩:=Ou U O.tail hm;refine JL.y (v:= .pointer (some ⟨A,o+l.length+m.toNat*pp.n,none⟩)) Z hw aa (fun ρ K=>?_) (h _ us ag ah);have:=Yl.NA (P:=P) (s:=Ap E H S) (d:=d) (ty:=ty) (p:=p) (af:=af) (g:=g) ht ae (K x _ ab) (K y _ ac) ⟨ai,aj⟩;rw [Bi rfl] at this;exact this
end
end Pal
namespace Pal
open Go Go.Conc
section
variable {P:Program}{s:St}{ρ:Operand→Value}{x y z:Operand}{d:Option Tmp}{t u ty e:TypeId}{p:String}{af:Array Edge}{g:Option (Nat×Bool)}{v v':Value}
theorem MR{t:TypeId}{cells:Array Value}{off:Nat}{v:Value}(ht:CH P t=some false)(A:cells[off]? =some v){Q:Value→St→Prop}{X:Halt→St→Prop}(k:Q v s):lp P (part t cells off) s Q X:=by
 unfold part;refine AB _ _ (Hq ht ?_);simp only [Bool.false_eq_true,if_false,A];exact k
theorem PY{o:BinOp}{c A:Array Value}(K:o= .eql∨o= .neq)(O:P.eqGuardType P.depth t=false){Q:Unit→St→Prop}{X:Halt→St→Prop}(k:Q () s):lp P (eqGuard o t x y (.agg c) (.agg A)) s Q X:=by
 rcases K with rfl | rfl <;> (simp [eqGuard,lp,bind,Sem.bind,program,pure,O];exact k)
end
end Pal
namespace Pal
open Go Go.Conc
section
variable {P:Program}(J:Judge P)(Q:Goroutine→St→Prop)(b:Frame)(n:Nat)(ds:List Deferred)(ops:Array Oper)(k:List Item)(cs:List Frame)(m:Nat)(D:Nat→Bool)
def Take(fuel:Nat)(listed:Array Bool)(L:Env)(s:St)(i:Nat):Prop:=
 ∃o,ops[i]? =some o∧(!Ci o.op)=true∧Bd n o.dst=true∧AT L ops o=some true∧∀ρ,CU L ρ→lp P (execOp ρ o) (Bh D s) (fun nx s'=>match nx with
  | .value v=>Av J Q b n ds ops k cs m D fuel (AX listed i) (AJ L o.dst v) (BP D s s')
  | .skip=>Av J Q b n ds ops k cs m D fuel (AX listed i) (AJ L o.dst undef) (BP D s s')
  | .enter f args=>∃R,Cy J f args (BP D s s') R∧∀v A,R v A→A.q=false∧(∀x o,(Bh D s).E x=some o→(Bh D A).E x=some o)∧Av J Q b n ds ops k cs m D fuel (AX listed i) (AJ L o.dst v) A
  | _=>False) (fun _ _=>False)
end
section
variable {P:Program}{J:Judge P}{Q:Goroutine→St→Prop}{b:Frame}{n:Nat}{ds:List Deferred}{ops:Array Oper}{k:List Item}{cs:List Frame}{m fuel:Nat}{D:Nat→Bool}{listed:Array Bool}{L:Env}{s:St}{E E' H:LH}{S:List Seg}
variable {d:Option Tmp}{x y:Operand}{t u ty e:TypeId}{p:String}{af:Array Edge}{g:Option (Nat×Bool)}{v:Value}{i:Nat}{kd:IntKind}
theorem JG.MT(O:s.q=false){l:List Nat}(A:Region.ready .any ops listed=l)(U:l≠ [])(h:∀i∈l,Take J Q b n ds ops k cs m D fuel listed L s i):Av J Q b n ds ops k cs m D (fuel+1) listed L s:=
 Av.each O (by rw [A];exact U) fun i hi o K=>by
  rw [A] at hi
  obtain⟨o',Z,aa,ab,ac,ae⟩:=h i hi
  obtain rfl:o'=o:=by rw [Z] at K;exact Option.some.inj K
  exact⟨aa,ab,true,ac,fun e=>(by cases e),fun _=>ae⟩
theorem JG.one(A:s.q=false)(K:Region.ready .any ops listed= [i])(h:Take J Q b n ds ops k cs m D fuel listed L s i):Av J Q b n ds ops k cs m D (fuel+1) listed L s:=
 JG.MT A K (by simp) (by simpa using h)
theorem JG.two{i j:Nat}(A:s.q=false)(K:Region.ready .any ops listed= [i,j])(hi:Take J Q b n ds ops k cs m D fuel listed L s i)(O:Take J Q b n ds ops k cs m D fuel listed L s j):Av J Q b n ds ops k cs m D (fuel+1) listed L s:=
 JG.MT A K (by simp) (by intro q A;simp at A;rcases A with rfl | rfl <;> assumption)
def plus(E:LH)(A:Nat)(o:Obj):LH:=fun x=>if x=A then Option.some o else E x
theorem Ry{jp A:Nat}{o:Obj}(ab:Ay E H S)(ac:S[jp]? =Option.some [(A,o)]):Bh (AH [A]) (Ap E H S)=Ap (plus E A o) H (S.set jp [])∧Ay (plus E A o) H (S.set jp []):=by
 obtain⟨ag,Z⟩:=Ed ab ac;have aa:=Nd.iff.1 Z;have am:E A=Option.none:=(aa.2 (A,o) (by simp)).1;have ah:H A=Option.none:=(aa.2 (A,o) (by simp)).2;have ae:∀q∈(S.set jp []).flatten,q.1≠A:=fun q O e=>by
  have:=aa.1;rw [List.map_append,List.nodup_append] at this;exact this.2.2 q.1 (List.mem_map_of_mem O) A (by simp) e
 have ai:(Ap E H S).get A=Option.some o:=C8 (i:=0) ab ac rfl;have aj:∀x,x≠A→AU ((S.set jp []).flatten++ [(A,o)]) H x=AU (S.set jp []).flatten H x:=fun x K=>by
  rw [show AU ((S.set jp []).flatten++ [(A,o)]) H=AU ([(A,o)]++(S.set jp []).flatten) H from Hj Z List.perm_append_comm];simp [AU,K]
 refine⟨?_,?_⟩
 ·unfold Bh;have ak:(fun x=>if AH [A] x=true then(Ap E H S).get x else(Ap E H S).E x)=plus E A o:=by
   funext x;unfold plus;by_cases K:x=A
   ·subst K;simp [AH,ai]
   ·simp [AH,K];rfl
  have al:(fun x=>if AH [A] x=true then Option.none else(Ap E H S).H x)=AU (S.set jp []).flatten H:=by
   funext x;by_cases K:x=A
   ·subst K;simp [AH];rw [Ho ae,ah]
   ·simp only [AH,List.contains_cons,List.contains_nil,Bool.or_false,beq_iff_eq,if_neg K];rw [ag];exact aj x K
  rw [ak,al];rfl
 ·have U:Nd E H (S.set jp []).flatten:=JL.F1.Nd.left Z;show Nd _ H (S.set jp []).flatten;rw [Nd.iff] at U ⊢;exact⟨U.1,fun q O=>⟨by unfold plus;rw [if_neg (ae q O)];exact(U.2 q O).1,(U.2 q O).2⟩⟩
theorem Qi{jp A:Nat}{o:Obj}{S':List Seg}(ai:Ay E H S)(aj:S[jp]? =Option.some [(A,o)])(ak:Ay (plus E A o) H S')(Z:S'[jp]? =Option.some []):BP (AH [A]) (Ap E H S) (Ap (plus E A o) H S')=Ap E H (S'.set jp [(A,o)])∧Ay E H (S'.set jp [(A,o)]):=by
 obtain⟨al,ac⟩:=Ed ai aj;have ae:=Nd.iff.1 ac;have am:E A=Option.none:=(ae.2 (A,o) (by simp)).1;have an:H A=Option.none:=(ae.2 (A,o) (by simp)).2;have aa:(S'.set jp []).flatten=S'.flatten:=by
  have:S'.set jp []=S':=by
   apply List.ext_getElem?;intro q;rw [List.getElem?_set];split
   ·rename_i e;subst e;rw [Z,if_pos (List.getElem?_eq_some_iff.1 Z).1]
   ·rfl
  rw [this]
 have U:=Nd.iff.1 (show Nd _ H S'.flatten from ak);have ag:∀q∈S'.flatten,q.1≠A:=fun q K e=>by
  have:=(U.2 q K).1;unfold plus at this;rw [if_pos e] at this;cases this
 have ab:Nd E H ((S'.set jp []).flatten++ [(A,o)]):=by
  rw [aa,Nd.iff,List.map_append,List.nodup_append];refine⟨⟨U.1,by simp,fun x O y ah e=>?_⟩,fun q K=>?_⟩
  ·obtain⟨q,K,rfl⟩:=List.mem_map.1 O;simp at ah;subst ah;exact ag q K e
  ·rcases List.mem_append.1 K with K | K
   ·refine⟨?_,(U.2 q K).2⟩;have:=(U.2 q K).1;unfold plus at this
    rwa [if_neg (ag q K)] at this
   ·simp at K;subst K;exact⟨am,an⟩
 obtain⟨ao,ap⟩:=Fc (seg':= [(A,o)]) Z ab;refine⟨?_,ap⟩;rw [← ao,aa];unfold BP Ap mk;congr 1
 ·funext x;show(if AH [A] x=true then E x else plus E A o x)=E x
  by_cases O:x=A
  ·subst O;simp [AH]
  ·simp [AH,O,plus]
 ·funext x;show(if AH [A] x=true then(Ap E H S).H x else AU S'.flatten H x)=AU (S'.flatten++ [(A,o)]) H x
  have aq:AU (S'.flatten++ [(A,o)]) H=AU ([(A,o)]++S'.flatten) H:=Hj (by rw [aa] at ab;exact ab) List.perm_append_comm;rw [aq];by_cases O:x=A
  ·subst O;simp only [AH,List.contains_cons,beq_self_eq_true,Bool.true_or,if_true,List.cons_append,List.nil_append,AU];rw [al];show AU ((S.set jp []).flatten++ [(x,o)]) H x=_;rw [show AU ((S.set jp []).flatten++ [(x,o)]) H=AU ([(x,o)]++(S.set jp []).flatten) H from Hj ac List.perm_append_comm];simp [AU]
  ·simp [AH,O,AU]
end
end Pal
namespace Pal
open Go Go.Conc
theorem OL.TV{α:Type}{e:TypeId}{pp:Rp α}{E0 E H:LH}{S:List Seg}{a:Option Addr}{c j:Nat}{seg:Seg}{xs:List α}(O:OL e pp E0 a c seg xs)(aa:Ay E H S)(ab:S[j]? =some seg):∃wss:List (List Value),EI (Ap E H S) (.slice a xs.length c) pp.n wss.flatten∧wss.length=xs.length∧∀(i:Nat) x ws,xs[i]? =some x→wss[i]? =some ws→pp.r E0 ws x:=by
 obtain⟨wss,O,ac,ae⟩:=O;refine⟨wss,?_,ac,ae⟩;rcases O with⟨rfl,ag,Z,U,A⟩ | ⟨ah,f,rfl,rfl,Z,U,A⟩
 ·exact⟨ag,A⟩
 ·have hle:xs.length*pp.n≤f.size:=by rw [Z];exact Nat.mul_le_mul_right _ U
  refine⟨.inl rfl,by rw [A];simp [hle],U,fun q w K=>?_⟩;rw [A,List.getElem?_take] at K;split at K
  ·refine Cw aa ab ?_;simpa using K
  ·cases K
section
variable {P:Program}{E H:LH}{S:List Seg}{d:Option Tmp}{x y:Operand}{t ty e:TypeId}{p:String}{af:Array Edge}{g:Option (Nat×Bool)}
theorem Nl{E0:LH}{ρ:Operand→Value}{K:Next→St→Prop}{α:Type}{pp:Rp α}{t1:TypeId}{al c cx:Nat}{a ax:Option Addr}{seg av:Seg}{xs ys am:List α}{ats:Array TypeId}{z:Value}(j aD:Nat)(ah:C7 xs ys=some am)
  (aE:ρ x= .slice a xs.length c) (aF:ρ y= .slice ax ys.length cx) (aG:ats[0]? =some t) (aH:ats[1]? =some t1) (ht:P.underlying t=some (.slice e)) (aI:P.underlying t1=some (.slice e)) (aJ:Bq P e=some pp.n) (hb:C9 P e=some al) (aK:zeroOf P e=some z) (aL:z.cells.size=pp.n)
  (aM:0<al) (aN:al≤64) (ae:OL e pp E0 a c seg xs) (aO:OL e pp E0 ax cx av ys) (aw:Ay E H S) (ay:S[j]? =some seg) (aP:S[aD]? =some av)
  (h:∀O A g seg',OL e pp E0 O A seg' am→Ay E H (S.set j (g++seg'))→K (.value (.slice O am.length A)) (Ap E H (S.set j (g++seg')))):
  lp P (execOp ρ ⟨d,.call ⟨.builtin .append,#[x,y],ats⟩,ty,p,af,g⟩) (Ap E H S) K (fun _ _=>False):=by
 unfold C7 at ah;split at ah
 rotate_left
 ·cases ah
 rename_i aQ;cases ah;obtain⟨ai,az,aj,an⟩:=aO.TV aw aP;obtain⟨wss,ae,aA,aR⟩:=ae;obtain⟨aS,ao⟩:=Ed aw ay;have aT:=FW aj an;have aU:∀w∈ai.flatten,BB w=true:=fun w hw=>by
  obtain⟨us,aV,hw⟩:=List.mem_flatten.1 hw;obtain⟨q,aB⟩:=List.mem_iff_getElem?.1 aV;have aW:q<ys.length:=by rw [← aj];exact(List.getElem?_eq_some_iff.1 aB).1
  exact pp.one (an q _ us (List.getElem?_eq_getElem aW) aB) w hw
 have hlen:(xs++ys).length=xs.length+ys.length:=by simp
 rw [aS] at az ⊢;rw [H9,aE,aF];have ap:∀{O A seg'},GS e pp.n O (xs.length+ys.length) A seg' (wss.flatten++ai.flatten)→OL e pp E0 O A seg' (xs++ys):=fun aX=>
  ⟨wss++ai,by rw [hlen,List.flatten_append];exact aX,by simp [aA,aj],JR aA aR an⟩
 have fin:∀O A g seg',OL e pp E0 O A seg' (xs++ys)→Nd E H ((S.set j []).flatten++(g++seg'))→K (.value (.slice O (xs.length+ys.length) A)) (mk E H ((S.set j []).flatten++(g++seg'))):=fun O A g seg' aY U=>by
  obtain⟨aZ,a0⟩:=Fc ay U;rw [aZ];have:=h O A g seg' aY a0;rw [hlen] at this;exact this
 have a1:Ji ((S.set j []).flatten++seg) (S.set j []).flatten.length e pp.n a xs.length c wss.flatten:=by
  rcases ae with⟨q1,q2,ag,aa,ab⟩ | ⟨aq,f,q1,q2,ag,aa,ab⟩
  ·exact .inl ⟨q1,q2,ag,ab⟩
  ·refine .inr ⟨aq,f,q1,?_,ag,aa,ab⟩;subst q2;simp
 refine AB _ _ (JZ (pl:=(S.set j []).flatten.length) aG aH aI ht aJ hb aK aL ao a1 az aU aM aQ aN ?_ ?_ ?_)
 ·intro aq f Z ak a8 a9 a2 ar au U;rcases ae with⟨q1,_⟩ | ⟨ac,f0,q1,q2,ag,aa,ab⟩
  ·rw [q1] at ak;cases ak
  ·subst q2;have a3:ac=aq:=by rw [q1] at ak;simpa using ak
   subst a3;have a4:((S.set j []).flatten++ [(ac,Obj.cells f0 e (0,0))]).set (S.set j []).flatten.length (ac,.cells Z e (0,0))=(S.set j []).flatten++ [(ac,.cells Z e (0,0))]:=Fx _ _ _ _;rw [a4] at U ⊢;exact fin a c [] _ (ap (.inr ⟨ac,Z,q1,rfl,ar,a2,au.symm⟩)) U
 ·intro aC hm;rcases ae with⟨q1,q2,ag,aa,ab⟩ | ⟨ac,f0,q1,_⟩
  ·have a5:ai.flatten= []:=List.eq_nil_of_length_eq_zero (by rw [Ib aT,aj,hm];simp);have:=fin none 0 [] [] (ap (by rw [q2,hm,ab,a5];exact GS.nil)) (by rw [aa] at ao;simpa using ao);rw [q2,hm] at this;rw [aa];simp only [List.append_nil] at this ⊢;exact this
  ·rw [q1] at aC;cases aC
 ·intro r Z A a6 ar au U;have a7:(S.set j []).flatten++seg++ [(r,Obj.cells Z e (0,0))]=(S.set j []).flatten++(seg++ [(r,.cells Z e (0,0))]):=List.append_assoc _ _ _;rw [a7] at U ⊢;exact fin (some ⟨r,0,none⟩) A seg _ (ap (.inr ⟨r,Z,rfl,rfl,ar,a6,au.symm⟩)) U
end
section
variable {P:Program}{J:Judge P}{Q:Goroutine→St→Prop}{b:Frame}{n:Nat}{ds:List Deferred}{ops:Array Oper}{k:List Item}{cs:List Frame}{m fuel:Nat}{D:Nat→Bool}{listed:Array Bool}{L:Env}{s:St}{E E' H:LH}{S:List Seg}
variable {d:Option Tmp}{x y:Operand}{t u ty e:TypeId}{p:String}{af:Array Edge}{g:Option (Nat×Bool)}{v:Value}{i:Nat}{kd:IntKind}
theorem Take.Bh{jp A:Nat}{o:Obj}{oi:Oper}(O:Ay E H S)(U:S[jp]? =some [(A,o)])(hi:ops[i]? =some oi)(K:(!Ci oi.op&&Bd n oi.dst)=true)(hw:AT L ops oi=some true)
  (h:∀ρ,CU L ρ→Ay (plus E A o) H (S.set jp [])→lp P (execOp ρ oi) (Ap (plus E A o) H (S.set jp [])) (fun nx s'=>∃v S',nx= .value v∧s'=Ap (plus E A o) H S'∧Ay (plus E A o) H S'∧S'[jp]? =some []∧
   (Ay E H (S'.set jp [(A,o)])→Av J Q b n ds ops k cs m (AH [A]) fuel (AX listed i) (AJ L oi.dst v) (Ap E H (S'.set jp [(A,o)])))) (fun _ _=>False)):
  Take J Q b n ds ops k cs m (AH [A]) fuel listed L (Ap E H S) i:=by
 simp only [Bool.and_eq_true] at K;refine⟨oi,hi,K.1,K.2,hw,fun ρ Z=>?_⟩;obtain⟨aa,ab⟩:=Ry O U;rw [aa];refine B8 _ (h ρ Z ab) ?_ (fun _ _ h=>h);rintro nx s' ⟨v,S',rfl,rfl,ac,ae,ag⟩;obtain⟨ah,ai⟩:=Qi O U ac ae;show Av J Q b n ds ops k cs m (AH [A]) fuel (AX listed i) (AJ L oi.dst v) (BP (AH [A]) (Ap E H S) (Ap (plus E A o) H S'));rw [ah];exact ag ai
theorem Take.lit{jp A:Nat}{o:Obj}{α:Type}{pp:Rp α}{len:Nat}{K:Array (Nat×Operand)}(vs:List Value){z:Value}(xs:List α)(aa:Ay E H S)(O:S[jp]? =some [(A,o)])
  (ab:ops[i]? =some ⟨d,.buildSlice t len K,ty,p,af,g⟩) (hw:AT L ops ⟨d,.buildSlice t len K,ty,p,af,g⟩=some true) (ac:Bd n d=true)
  (ht:P.underlying t=some (.slice e)) (ae:Bq P e=some pp.n) (ag:zeroOf P e=some z) (ah:decide (0<len*pp.n∧len*pp.n≤2 ^ 24)=true)
  (ai:K.toList.mapM (fun q=>(ev L q.2).map fun v=>(q.1,v))=some ((vs.zipIdx 0).map fun q=>(q.2,q.1)))
  (aj:vs.length=len) (ak:xs.length=len) (al:F9 pp E xs vs)
  (h:∀r seg,OL e pp E (some ⟨r,0,none⟩) len seg xs→Ay E H (S++ [seg])→Av J Q b n ds ops k cs m (AH [A]) fuel (AX listed i) (AJ L d (.slice (some ⟨r,0,none⟩) xs.length len)) (Ap E H (S++ [seg]))):
  Take J Q b n ds ops k cs m (AH [A]) fuel listed L (Ap E H S) i:=by
 have U:jp<S.length:=(List.getElem?_eq_some_iff.1 O).1;refine Take.Bh aa O ab (by simp [Ci,ac]) hw fun ρ am an=>Kr am vs xs ht ae ag ah ai aj ak al an fun r seg ao ap=>⟨_,S.set jp []++ [seg],rfl,rfl,ap,by rw [List.getElem?_append_left (by simpa using U)];simp [U],fun Z=>?_⟩;have aq:(S.set jp []++ [seg]).set jp [(A,o)]=S++ [seg]:=by
  rw [List.set_append_left _ _ (by simpa using U),List.set_set];congr 1;apply List.ext_getElem?;intro q;rw [List.getElem?_set];split
  ·rename_i e;subst e;rw [O]
  ·rfl
 rw [aq] at Z ⊢;exact h r seg ao Z
theorem Take.app{jp A:Nat}{o:Obj}{α:Type}{pp:Rp α}{t1:TypeId}{aa c cx:Nat}{a ax:Option Addr}{seg ag:Seg}{xs ys ab:List α}{ats:Array TypeId}{z:Value}(j K:Nat)(aj:Ay E H S)(ac:S[jp]? =some [(A,o)])(ak:C7 xs ys=some ab)
  (al:ops[i]? =some ⟨d,.call ⟨.builtin .append,#[x,y],ats⟩,ty,p,af,g⟩) (hw:AT L ops ⟨d,.call ⟨.builtin .append,#[x,y],ats⟩,ty,p,af,g⟩=some true) (am:Bd n d=true)
  (an:ev L x=some (.slice a xs.length c)) (ao:ev L y=some (.slice ax ys.length cx)) (ap:ats[0]? =some t) (aq:ats[1]? =some t1) (ht:P.underlying t=some (.slice e)) (ar:P.underlying t1=some (.slice e)) (au:Bq P e=some pp.n) (hb:C9 P e=some aa) (av:zeroOf P e=some z) (aw:z.cells.size=pp.n)
  (ay:0<aa) (az:aa≤64) (aA:OL e pp E a c seg xs) (aB:OL e pp E ax cx ag ys) (aC:S[j]? =some seg) (aD:S[K]? =some ag) (aE:(j==jp)=false) (aF:(K==jp)=false)
  (h:∀O U g seg',OL e pp E O U seg' ab→Ay E H (S.set j (g++seg'))→Av J Q b n ds ops k cs m (AH [A]) fuel (AX listed i) (AJ L d (.slice O ab.length U)) (Ap E H (S.set j (g++seg')))):
  Take J Q b n ds ops k cs m (AH [A]) fuel listed L (Ap E H S) i:=by
 have aG:jp<S.length:=(List.getElem?_eq_some_iff.1 ac).1;have ae:j≠jp:=by simpa using aE
 have aH:K≠jp:=by simpa using aF
 refine Take.Bh aj ac al (by simp [Ci,am]) hw fun ρ ah aI=>Nl j K ak (ah _ _ an) (ah _ _ ao) ap aq ht ar au hb av aw ay az aA aB aI (by rw [List.getElem?_set_ne (Ne.symm ae)];exact aC) (by rw [List.getElem?_set_ne (Ne.symm aH)];exact aD) fun O U Z seg' aJ aK=>⟨_,(S.set jp []).set j (Z++seg'),rfl,rfl,aK,by rw [List.getElem?_set_ne ae];simp [aG],fun ai=>?_⟩;have aL:((S.set jp []).set j (Z++seg')).set jp [(A,o)]=S.set j (Z++seg'):=by
  rw [List.set_comm _ _ ae,List.set_set];congr 1;apply List.ext_getElem?;intro q;rw [List.getElem?_set];split
  ·rename_i e;subst e;rw [ac]
  ·rfl
 rw [aL] at ai ⊢;exact h O U Z seg' aJ ai
end
end Pal
namespace Pal
open Go Go.Conc
section
variable {P:Program}{J:Judge P}{Q:Goroutine→St→Prop}{b:Frame}{n:Nat}{ds:List Deferred}{ops:Array Oper}{k:List Item}{cs:List Frame}{m fuel:Nat}{D:Nat→Bool}{listed:Array Bool}{L:Env}{s:St}{E E' H:LH}{S:List Seg}
variable {d:Option Tmp}{x y:Operand}{t u ty e:TypeId}{p:String}{af:Array Edge}{g:Option (Nat×Bool)}{v:Value}{i:Nat}{kd:IntKind}
theorem Take.Jz{oi:Oper}(hi:ops[i]? =some oi)(A:(!Ci oi.op&&Bd n oi.dst)=true)(hw:AT L ops oi=some true)
  (h:∀ρ,CU L ρ→lp P (execOp ρ oi) s (fun nx s'=>match nx with
   | .value v=>Av J Q b n ds ops k cs m Da fuel (AX listed i) (AJ L oi.dst v) s'
   | .skip=>Av J Q b n ds ops k cs m Da fuel (AX listed i) (AJ L oi.dst undef) s'
   | _=>False) (fun _ _=>False)):Take J Q b n ds ops k cs m Da fuel listed L s i:=by
 simp only [Bool.and_eq_true] at A
 refine⟨oi,hi,A.1,A.2,hw,fun ρ O=>B8 _ (h ρ O) ?_ (fun _ _ h=>h)⟩
 intro nx s' K
 cases nx with
 | value v=>exact K
 | skip=>exact K
 | _=>exact K.elim
theorem Take.G8{α:Type}{pp:Rp α}{len:Nat}{A:Array (Nat×Operand)}(vs:List Value){z:Value}(xs:List α)(K:Ay E H S)
  (O:ops[i]? =some ⟨d,.buildSlice t len A,ty,p,af,g⟩) (hw:AT L ops ⟨d,.buildSlice t len A,ty,p,af,g⟩=some true) (U:Bd n d=true)
  (ht:P.underlying t=some (.slice e)) (Z:Bq P e=some pp.n) (aa:zeroOf P e=some z) (ab:decide (0<len*pp.n∧len*pp.n≤2 ^ 24)=true)
  (ac:A.toList.mapM (fun q=>(ev L q.2).map fun v=>(q.1,v))=some ((vs.zipIdx 0).map fun q=>(q.2,q.1)))
  (ae:vs.length=len) (ag:xs.length=len) (ah:F9 pp E xs vs)
  (h:∀r seg,OL e pp E (some ⟨r,0,none⟩) len seg xs→Ay E H (S++ [seg])→Av J Q b n ds ops k cs m Da fuel (AX listed i) (AJ L d (.slice (some ⟨r,0,none⟩) xs.length len)) (Ap E H (S++ [seg]))):
  Take J Q b n ds ops k cs m Da fuel listed L (Ap E H S) i:=
 Take.Jz O (by simp [Ci,U]) hw fun ρ ai=>Kr ai vs xs ht Z aa ab ac ae ag ah K fun r seg aj ak=>h r seg aj ak
theorem Take.app0{α:Type}{pp:Rp α}{t1:TypeId}{O c cx:Nat}{a ax:Option Addr}{seg Z:Seg}{xs ys U:List α}{ats:Array TypeId}{z:Value}(j aa:Nat)(ac:Ay E H S)(ae:C7 xs ys=some U)
  (ag:ops[i]? =some ⟨d,.call ⟨.builtin .append,#[x,y],ats⟩,ty,p,af,g⟩) (hw:AT L ops ⟨d,.call ⟨.builtin .append,#[x,y],ats⟩,ty,p,af,g⟩=some true) (ah:Bd n d=true)
  (ai:ev L x=some (.slice a xs.length c)) (aj:ev L y=some (.slice ax ys.length cx)) (ak:ats[0]? =some t) (al:ats[1]? =some t1) (ht:P.underlying t=some (.slice e)) (am:P.underlying t1=some (.slice e)) (an:Bq P e=some pp.n) (hb:C9 P e=some O) (ao:zeroOf P e=some z) (ap:z.cells.size=pp.n)
  (aq:0<O) (ar:O≤64) (au:OL e pp E a c seg xs) (av:OL e pp E ax cx Z ys) (aw:S[j]? =some seg) (ay:S[aa]? =some Z)
  (h:∀A K g seg',OL e pp E A K seg' U→Ay E H (S.set j (g++seg'))→Av J Q b n ds ops k cs m Da fuel (AX listed i) (AJ L d (.slice A U.length K)) (Ap E H (S.set j (g++seg')))):
  Take J Q b n ds ops k cs m Da fuel listed L (Ap E H S) i:=
 Take.Jz ag (by simp [Ci,ah]) hw fun ρ ab=>Nl j aa ae (ab _ _ ai) (ab _ _ aj) ak al ht am an hb ao ap aq ar au av ac aw ay fun A K az seg' aA aB=>h A K az seg' aA aB
theorem Take.NK{z:Value}(K:Ay E H S)(O:ops[i]? =some ⟨d,.alloc e,ty,p,af,g⟩)(hw:AT L ops ⟨d,.alloc e,ty,p,af,g⟩=some true)(U:Bd n d=true)(Z:zeroOf P e=some z)
  (h:∀r,Ay E H (S++ [[(r,.cells z.cells e (0,0))]])→Av J Q b n ds ops k cs m Da fuel (AX listed i) (AJ L d (.pointer (some ⟨r,0,none⟩))) (Ap E H (S++ [[(r,.cells z.cells e (0,0))]]))):
  Take J Q b n ds ops k cs m Da fuel listed L (Ap E H S) i:=
 Take.Jz O (by simp [Ci,U]) hw fun ρ _=>by
  show lp P (do pure (Next.value (← Instr.alloc e true (.tuple #[])))) _ _ _
  refine AB _ _ ?_
  unfold Instr.alloc
  refine AB _ _ (D7 Z ?_)
  refine AB _ _ (EX K fun r A=>?_)
  rw [(CS A).1]
  exact h r (CS A).2
end
end Pal
namespace Pal
open Go Go.Conc
theorem Ef{α:Type}{kk:Nat}{pp:Rp α}{E:LH}{ws:List Value}{xs:List α}(A:(rA kk pp).r E ws xs):ws.length=kk*pp.n:=(rA kk pp).len A
theorem FV{α:Type}{kk:Nat}{pp:Rp α}{E:LH}{ws:List Value}{xs:List α}{m:Int}{x:α}(K:(rA kk pp).r E ws xs)(hm:ix xs m=some x):∃us,pp.r E us x∧0≤m∧m<kk∧(∀j w,us[j]? =some w→ws[m.toNat*pp.n+j]? =some w):=by
 obtain⟨O,wss,rfl,U,A⟩:=K;obtain⟨m,rfl,hm⟩:=FD hm;have aa:m<xs.length:=(List.getElem?_eq_some_iff.1 hm).1;have hw:wss[m]? =some wss[m]:=List.getElem?_eq_getElem (by omega);exact⟨wss[m],A m x _ hm hw,by omega,by omega,fun j w Z=>GD (FW (U.trans O.symm) A) hw j w Z⟩
section
variable {P:Program}{J:Judge P}{Q:Goroutine→St→Prop}{b:Frame}{n:Nat}{ds:List Deferred}{ops:Array Oper}{k:List Item}{cs:List Frame}{L:Env}{E H:LH}{S:List Seg}
variable {d:Option Tmp}{x y:Operand}{t u ty e:TypeId}{p:String}{af:Array Edge}{g:Option (Nat×Bool)}{i:Nat}{rest:List Nat}{kd:IntKind}{s:St}{ρ:Operand→Value}
theorem Yl.HM{α:Type}{kk:Nat}{pp:Rp α}{a:Addr}{ws:List Value}{xs:List α}(A:(rA kk pp).r E ws xs)(ht:CH P t=some true)(K:Bq P t=some (kk*pp.n))(O:ρ x= .pointer (some a))(h:∀j v,ws[j]? =some v→s.cell? (a.add j)=some v):Yl P ⟨d,.load t x,ty,p,af,g⟩ ρ s (.agg ws.toArray):=
 Yl.Bs ht (by rw [Ef A];exact K) O h
theorem JS.UB{α:Type}{pp:Rp α}{kk:Nat}{ws:List Value}{xs:List α}{xv:α}{m:Int}{K:Bool}(U:(rA kk pp).r E ws xs)(hm:ix xs m=some xv)
  (ah:ops[i]? =some ⟨d,.index t x y,ty,p,af,g⟩) (hw:AT L ops ⟨d,.index t x y,ty,p,af,g⟩=some true) (ai:BR b n ⟨d,.index t x y,ty,p,af,g⟩=true)
  (aj:ev L x=some (.agg ws.toArray)) (ak:ev L y=some (.int kd m)) (ht:P.underlying t=some (.array kk e)) (Z:Bq P e=some pp.n) (al:CH P e=some K)
  (h:∀us,pp.r E us xv→JL J Q b n (AJ L d (if K then .agg us.toArray else us.headD undef)) ds (.inRegion ops rest::k) cs s) (am:K=false→pp.n=1):
  JL J Q b n L ds (.inRegion ops (i::rest)::k) cs s:=by
 obtain⟨us,aa,an,ao,ab⟩:=FV U hm;have hlen:=pp.len aa;have ap:=Ef U;refine JL.y ah hw ai (fun ρ ac=>?_) (h us aa);refine Yl.Ds (sm:=Instr.index t (ρ x) (ρ y)) rfl ?_;rw [ac _ _ aj,ac _ _ ak];unfold Instr.index;simp only [asIntOf,EV];refine AB (x:=underlying t) _ (Cd ht ?_);simp only [an,ao,and_self,if_true];refine AB (x:=Go.sizeOf e) _ (Dg Z ?_);unfold Go.part;refine AB (x:=isAgg e) _ (Hq al ?_);have ar:m.toNat*pp.n+pp.n≤ws.length:=by
  rw [ap];have:(m.toNat+1)*pp.n≤kk*pp.n:=Nat.mul_le_mul_right _ (by omega);rw [Nat.succ_mul] at this;exact this
 cases K with
 | true=>
  simp only [if_true];refine AB (x:=Go.sizeOf e) _ (Dg Z ?_);have aq:ws.toArray.extract (m.toNat*pp.n) (m.toNat*pp.n+pp.n)=us.toArray:=by
   apply Array.ext_getElem?;intro j;by_cases ae:j<us.length
   ·have O:=ab j us[j] (List.getElem?_eq_getElem ae);simp only [Array.getElem?_extract,List.size_toArray,List.getElem?_toArray];rw [if_pos (by omega),O];simp [ae]
   ·rw [Array.getElem?_eq_none (by simp;omega),Array.getElem?_eq_none (by simp;omega)]
  rw [aq];exact⟨rfl,rfl⟩
 | false=>
  have ag:=am rfl;obtain⟨w,rfl⟩:∃w,us= [w]:=by
   match us,hlen with
   | [w],_=>exact⟨w,rfl⟩
   | [],A=>rw [ag] at A;cases A
   | _::_::_,A=>rw [ag] at A;simp at A
  have O:=ab 0 w rfl;simp only [Bool.false_eq_true,if_false,List.getElem?_toArray];rw [Nat.add_zero] at O;rw [O];exact⟨rfl,rfl⟩
end
end Pal
namespace Pal
open Go Go.Conc
def EH(S:List Seg):List Nat→Prop
 | []=>True
 | A::bks=>(∃(j:Nat) (o:Obj),S[j]? =some [(A,o)])∧EH S bks
theorem EH.mem{S:List Seg}:∀{bks:List Nat},EH S bks→∀A∈bks,∃(j:Nat) (o:Obj),S[j]? =some [(A,o)]
 | [],_,_,h=>by cases h
 | b::bks,h,A,hb=>by
  rcases List.mem_cons.1 hb with rfl | hb
  ·exact h.1
  ·exact h.2.mem A hb
theorem EH.free{E H:LH}{S:List Seg}{bks:List Nat}(h:EH S bks)(A:Ay E H S):∀x,AH bks x=true→E x=none:=fun x K=>by
 obtain⟨j,o,O⟩:=h.mem x (by simpa [AH] using K)
 exact IY A O
section
variable {P:Program}{J:Judge P}{Q:Goroutine→St→Prop}{b:Frame}{n:Nat}{ds:List Deferred}{ops:Array Oper}{k:List Item}{cs:List Frame}{m fuel:Nat}{D:Nat→Bool}{listed:Array Bool}{L:Env}{s:St}{E E' H:LH}{S:List Seg}
variable {d:Option Tmp}{x y:Operand}{t u ty e:TypeId}{p:String}{af:Array Edge}{g:Option (Nat×Bool)}{v:Value}{i:Nat}{kd:IntKind}
theorem JG.Jl{bks:List Nat}{f:FuncId}{args:Array Operand}{ats:Array TypeId}{vs:List Value}{R:Value→LH→Seg→Prop}(ag:EH S bks)(ah:Aq J f vs E [] R)(ai:Region.ready .any ops listed= [i])
  (aj:ops[i]? =some ⟨d,.call ⟨.value (.func f),args,ats⟩,ty,p,af,g⟩) (ak:Bd n d=true) (hw:AT L ops ⟨d,.call ⟨.value (.func f),args,ats⟩,ty,p,af,g⟩=some true) (hb:Cx P f=true) (al:evs L args.toList=some vs) (aa:Ay E H S)
  (am:∀v E' seg',Le E E'→R v E' seg'→Ay E' H (S++ [seg'])→Av J Q b n ds ops k cs m (AH bks) fuel (AX listed i) (AJ L d v) (Ap E' H (S++ [seg']))):
  Av J Q b n ds ops k cs m (AH bks) (fuel+1) listed L (Ap E H S):=by
 have an:=Cy.FH (ah (AU S.flatten H) trivial) (by rintro v s' ⟨E',B',_,_,_,rfl⟩;rfl);refine Av.call rfl ai aj ak hw hb al an ?_;rintro v az ⟨⟨E',B',hle,ao,ap,rfl⟩,w,aq⟩;have ar:mk E' (AU S.flatten H) B'=mk E' H (B'++S.flatten):=by unfold mk;rw [DV]
 have au:Nd E' H S.flatten:=Nd.grow aa fun x K=>by
  have av:=aq.d x K;have O:AU B' (AU S.flatten H) x=none:=av;exact(EA O).1
 have ab:Nd E' H (B'++S.flatten):=Nd.glue ap au;have ac:(B'++S.flatten).Perm (S++ [B']).flatten:=by rw [EC];exact List.perm_append_comm
 have ae:Ay E' H (S++ [B']):=Nd.perm ab ac;rw [ar,Dt ab ac];refine⟨rfl,fun x o K=>?_,am v E' B' hle ao ae⟩;by_cases U:AH bks x=true
 ·obtain⟨j,o',Z⟩:=ag.mem x (by simpa [AH] using U);have O:(Ap E H S).get x=some o':=C8 (i:=0) aa Z rfl;have aw:j<S.length:=(List.getElem?_eq_some_iff.1 Z).1;have ay:(Ap E' H (S++ [B'])).get x=some o':=C8 (i:=0) ae (by rw [List.getElem?_append_left aw];exact Z) rfl;have A:(if AH bks x then(Ap E H S).get x else E x)=some o:=K
  show(if AH bks x then(Ap E' H (S++ [B'])).get x else E' x)=some o
  rw [if_pos U] at A ⊢;rw [ay,← O];exact A
 ·have A:(if AH bks x then(Ap E H S).get x else E x)=some o:=K
  show(if AH bks x then(Ap E' H (S++ [B'])).get x else E' x)=some o
  rw [if_neg U] at A ⊢;exact hle _ _ A
theorem JG.Ce(m:Nat)(bks:List Nat){id:Nat}(K:EH S bks)(O:Ay E H S)(hm:P.follows .mixedOrders=true)(A:(b.kind != .early)=true)(ht:Du ops m=true)
  (h:Du ops m=true→Av J Q b n ds ops k cs m (AH bks) ops.size (Array.replicate ops.size false) L (Ap E H S)):JL J Q b n L ds (.code (.region id ops true)::k) cs (Ap E H S):=
 JL.Oq m (AH bks) rfl hm A (h ht)
theorem Bl{bks:List Nat}{A o:Nat}{c:Array Value}{f:Nat×Nat}{w:Value}{s':St}(j:Nat)(K:Ay E H S)(O:S[j]? =some [(A,.cells c e f)])(U:AH bks A=true)(hs:∀x o,(Bh (AH bks) (Ap E H S)).E x=some o→s'.E x=some o)(hw:c[o]? =some w):s'.cell? ⟨A,o,none⟩=some w:=by
 have Z:(Bh (AH bks) (Ap E H S)).E A=some (.cells c e f):=by
  show(if AH bks A then(Ap E H S).get A else E A)=_
  rw [if_pos U];exact C8 (i:=0) K O rfl
 have aa:=hs _ _ Z;unfold St.cell? St.get;rw [aa];exact hw
theorem P5{bks:List Nat}{A o:Nat}{c:Array Value}{f:Nat×Nat}{ws:List Value}{s':St}(j:Nat)(O:Ay E H S)(U:S[j]? =some [(A,.cells c e f)])(Z:AH bks A=true)(hs:∀x o,(Bh (AH bks) (Ap E H S)).E x=some o→s'.E x=some o)(hw:(c.toList.drop o).take ws.length=ws):∀q w,ws[q]? =some w→s'.cell? (Addr.add ⟨A,o,none⟩ q)=some w:=fun q w K=>by
 rw [Bi rfl]
 refine Bl j O U Z hs ?_
 have aa:q<ws.length:=(List.getElem?_eq_some_iff.1 K).1
 rw [← hw,List.getElem?_take_of_lt aa,List.getElem?_drop,Array.getElem?_toList] at K
 exact K
theorem CM{bks:List Nat}{s':St}(K:Ay E H S)(hs:∀x o,(Bh (AH bks) (Ap E H S)).E x=some o→s'.E x=some o)(O:EH S bks):∀x o,E x=some o→s'.E x=some o:=fun x o A=>hs x o (by
 show(if AH bks x then(Ap E H S).get x else E x)=some o
 rw [if_neg (fun U=>by rw [O.free K x U] at A;cases A)];exact A)
end
end Pal
namespace Pal
open Go Go.Conc
theorem Yl.T7{P:Program}{s:St}{ρ:Operand→Value}{x y:Operand}{d:Option Tmp}{t ty e:TypeId}{p:String}{af:Array Edge}{g:Option (Nat×Bool)}{kd:IntKind}{α:Type}{xs:List α}{xv:α}{m:Int}{A c K:Nat}(hm:ix xs m=some xv)(ht:P.underlying t=some (.slice e))(O:Bq P e=some K)(U:ρ x= .slice (some ⟨A,0,none⟩) xs.length c)(Z:ρ y= .int kd m):
  Yl P ⟨d,.indexAddr t x y,ty,p,af,g⟩ ρ s (.pointer (some ⟨A,m.toNat*K,none⟩)):=by
 obtain⟨m,rfl,hm⟩:=FD hm;have aa:m<xs.length:=(List.getElem?_eq_some_iff.1 hm).1;have:=Yl.IZ (P:=P) (s:=s) (d:=d) (ty:=ty) (p:=p) (af:=af) (g:=g) ht O U Z ⟨by omega,by omega⟩;rw [Bi rfl] at this;simpa using this
end Pal
namespace Pal
open Go Go.Conc
def Fo(ws:List Value)(q:Nat)(us:List Value):List Value:=(A5 ws.toArray q us).toList
theorem Iq{ws us:List Value}{q:Nat}(h:q+us.length≤ws.length)(j:Nat):(Fo ws q us)[j]? =if q≤j∧j<q+us.length then us[j - q]? else ws[j]? :=by
 unfold Fo;rw [Array.getElem?_toList,Ma us _ q (by simpa using h)];simp
theorem Pv{l ws us:List Value}{q:Nat}(h:q+us.length≤ws.length):A5 (l++ws).toArray (l.length+q) us=(l++Fo ws q us).toArray:=by
 apply Array.ext_getElem?;intro j;rw [Ma us _ _ (by simp;omega)];simp only [List.getElem?_toArray];by_cases K:l.length+q≤j∧j<l.length+q+us.length
 ·rw [if_pos K,List.getElem?_append_right (by omega),Iq h,if_pos (by omega)];congr 1;omega
 ·rw [if_neg K];rcases Nat.lt_or_ge j l.length with A | A
  ·rw [List.getElem?_append_left A,List.getElem?_append_left A]
  ·rw [List.getElem?_append_right A,List.getElem?_append_right A,Iq h,if_neg (by omega)]
theorem Mt{ws us:List Value}(h:us.length=ws.length):Fo ws 0 us=us:=by
 apply List.ext_getElem?;intro j;rw [Iq (by omega)];split
 ·simp
 ·rename_i A;rw [List.getElem?_eq_none (by omega),List.getElem?_eq_none (by omega)]
theorem Ik{E H:LH}{S:List Seg}{A:Nat}{l ws:List Value}{e:TypeId}{f:Nat×Nat}(j:Nat)(K:Ay E H S)(O:S[j]? =some [(A,.cells (l++ws).toArray e f)]):∀q v,ws[q]? =some v→(Ap E H S).cell? (Addr.add ⟨A,l.length,none⟩ q)=some v:=fun q v U=>by
 rw [Bi rfl]
 refine Cw K O ?_
 simp only [List.getElem?_toArray]
 rw [List.getElem?_append_right (by omega)]
 rw [show l.length+q - l.length=q by omega];exact U
theorem Qf{E H:LH}{S:List Seg}{A o:Nat}{l ws:List Value}{e:TypeId}{f:Nat×Nat}{w:Value}(j:Nat)(K:Ay E H S)(O:S[j]? =some [(A,.cells (l++ws).toArray e f)])(U:ws[o]? =some w):(Ap E H S).cell? ⟨A,l.length+o,none⟩=some w:=by
 have:=Ik j K O o w U
 rwa [Bi rfl] at this
theorem Kj{α:Type}{kk:Nat}{pp:Rp α}{E:LH}{ws us:List Value}{xs:List α}{m:Int}{x y:α}(Z:(rA kk pp).r E ws xs)(hm:ix xs m=some x)(hu:pp.r E us y):(rA kk pp).r E (Fo ws (m.toNat*pp.n) us) (xs.set m.toNat y)∧m.toNat*pp.n+us.length≤ws.length:=by
 have aj:=Ef Z;obtain⟨aa,wss,rfl,ab,ac⟩:=Z;obtain⟨m,rfl,hm⟩:=FD hm;have ak:m<xs.length:=(List.getElem?_eq_some_iff.1 hm).1;have ae:=pp.len hu;have al:=FW (ab.trans aa.symm) ac;have ag:m*pp.n+us.length≤wss.flatten.length:=by
  rw [aj,ae];have:(m+1)*pp.n≤kk*pp.n:=Nat.mul_le_mul_right _ (by omega);rw [Nat.succ_mul] at this;exact this
 simp only [Int.toNat_natCast];refine⟨⟨by simpa using aa,wss.set m us,?_,by simpa using ab,fun i am an K O=>?_⟩,ag⟩
 ·apply List.ext_getElem?;intro j;rw [Iq ag];have key:∀(wss:List (List Value)) (m:Nat) (hm:m<wss.length),(∀ws∈wss,ws.length=pp.n)→∀j,(wss.set m us).flatten[j]? =if m*pp.n≤j∧j<m*pp.n+us.length then us[j - m*pp.n]? else wss.flatten[j]? :=by
   intro wss
   induction wss with
   | nil=>intro m hm;simp at hm
   | cons vs wss ao=>
    intro m hm ah j;have ap:vs.length=pp.n:=ah vs (by simp);cases m with
    | zero=>
     simp only [List.set_cons_zero,List.flatten_cons,Nat.zero_mul,Nat.zero_le,true_and,Nat.zero_add,Nat.sub_zero];split
     ·rename_i A;rw [List.getElem?_append_left A]
     ·rename_i A;rw [List.getElem?_append_right (by omega),List.getElem?_append_right (by omega),ae,ap]
    | succ m=>
     simp only [List.set_cons_succ,List.flatten_cons];have U:(m+1)*pp.n=m*pp.n+pp.n:=Nat.succ_mul _ _;rcases Nat.lt_or_ge j vs.length with A | A
     ·rw [List.getElem?_append_left A,List.getElem?_append_left A,if_neg (by omega)]
     ·rw [List.getElem?_append_right A,List.getElem?_append_right A,ao m (by simpa using hm) (fun ws aq=>ah ws (List.mem_cons_of_mem _ aq))];by_cases ai:m*pp.n≤j - vs.length∧j - vs.length<m*pp.n+us.length
      ·rw [if_pos ai,if_pos (by omega)];congr 1;omega
      ·rw [if_neg ai,if_neg (by omega)]
  exact(key wss m (by omega) al j).symm
 ·rw [List.getElem?_set] at K O;by_cases U:m=i
  ·subst U;rw [if_pos rfl,if_pos ak] at K;rw [if_pos rfl,if_pos (by omega)] at O;cases K;cases O;exact hu
  ·rw [if_neg U] at K O;exact ac i am an K O
theorem GY{α:Type}{kk:Nat}{pp:Rp α}{E:LH}{w:Value}{x:α}(h:pp.r E [w] x):(rA kk pp).r E (List.replicate kk w) (List.replicate kk x):=by
 refine⟨by simp,List.replicate kk [w],?_,by simp,fun i y us A hu=>?_⟩
 ·induction kk with
  | zero=>rfl
  | succ k K=>rw [List.replicate_succ,List.replicate_succ,List.flatten_cons,← K];rfl
 ·have O:=List.eq_of_mem_replicate (List.mem_of_getElem? A);have U:=List.eq_of_mem_replicate (List.mem_of_getElem? hu);subst O U;exact h
section
variable {P:Program}{J:Judge P}{Q:Goroutine→St→Prop}{b:Frame}{n:Nat}{ds:List Deferred}{ops:Array Oper}{k:List Item}{cs:List Frame}{L:Env}{E H:LH}{S:List Seg}
variable {d:Option Tmp}{x y:Operand}{t u ty e:TypeId}{p:String}{af:Array Edge}{g:Option (Nat×Bool)}{i:Nat}{rest:List Nat}{kd:IntKind}{s:St}{ρ:Operand→Value}
theorem Yl.G3{α:Type}{kk:Nat}{pp:Rp α}{ws:List Value}{xs:List α}{xv:α}{m:Int}{A o:Nat}(K:(rA kk pp).r E ws xs)(hm:ix xs m=some xv)(ht:P.underlying t=some (.array kk e))(O:Bq P e=some pp.n)(U:ρ x= .pointer (some ⟨A,o,none⟩))(Z:ρ y= .int kd m):
  Yl P ⟨d,.indexAddr t x y,ty,p,af,g⟩ ρ s (.pointer (some ⟨A,o+m.toNat*pp.n,none⟩)):=by
 obtain⟨us,ac,aa,ab,ae⟩:=FV K hm;have:=Yl.NA (P:=P) (s:=s) (d:=d) (ty:=ty) (p:=p) (af:=af) (g:=g) ht O U Z ⟨aa,ab⟩;rw [Bi rfl] at this;exact this
theorem JS.HB{A o:Nat}{l ws us:List Value}{v:Value}(j:Nat)(U:ops[i]? =some ⟨d,.store t x y,ty,p,af,g⟩)(hw:AT L ops ⟨d,.store t x y,ty,p,af,g⟩=some true)(Z:BR b n ⟨d,.store t x y,ty,p,af,g⟩=true)(aa:Ay E H S)
  (ab:ev L x=some (.pointer (some ⟨A,l.length+o,none⟩))) (ac:ev L y=some v) (K:v.cells.toList=us) (ae:Bq P t=some us.length) (ag:∀u∈us,BB u=true) (ah:S[j]? =some [(A,.cells (l++ws).toArray e (0,0))]) (hle:o+us.length≤ws.length)
  (h:Ay E H (S.set j [(A,.cells (l++Fo ws o us).toArray e (0,0))])→JL J Q b n (AJ L d undef) ds (.inRegion ops rest::k) cs (Ap E H (S.set j [(A,.cells (l++Fo ws o us).toArray e (0,0))]))):
  JL J Q b n L ds (.inRegion ops (i::rest)::k) cs (Ap E H S):=by
 have ai:v.cells.size=us.length:=by rw [← K];simp
 refine JS.store (v:=v) (off:=l.length+o) j U hw Z aa ab ac (by rw [ai];exact ae) (by rw [K];exact ag) ah (by simp;omega) fun O=>?_;rw [K,Pv hle] at O ⊢;exact h O
theorem JL.T0{todo:List Item}{K A:Type}{body:K→Option (A4 K A)}{f:Nat}{O:K}{a:A}(U:iter body f O=some a)(I:Env→St→K→Prop)(aa:I L s O)
  (round:∀L s x,I L s x→(∀Z,body x=some (.done Z)→Z=a)→(∃st,body x=some st)→(∀L' s' x',I L' s' x'→body x=some (.more x')→JL J Q b n L' ds todo cs s')→JL J Q b n L ds todo cs s):
  JL J Q b n L ds todo cs s:=by
 induction f generalizing L s O with
 | zero=>cases U
 | succ f ab=>
  exact round L s O aa (fun Z h=>Me U h) (LS U) fun L' s' x' ac hb=>ab (LV U hb) ac
end
end Pal
namespace Pal
open Go Go.Conc
section
variable {P:Program}{s:St}{ρ:Operand→Value}{x y z:Operand}{d:Option Tmp}{t u ty e:TypeId}{p:String}{af:Array Edge}{g:Option (Nat×Bool)}{v v':Value}{E:LH}
structure K7 (P:Program) (e:TypeId) (kd:IntKind) (f:Field):Prop where
 ht:P.underlying e=some (.struct #[f])
 hs:P.stoodInHeld e=false
 n1:f.name≠ "_"
 u1:P.underlying f.type=some (.int kd)
 o1:f.offset=0
theorem Tv{n:Nat}{kd:IntKind}{a b:Int}(ht:P.underlying t=some (.int kd)){Q:Bool→St→Prop}{X:Halt→St→Prop}(k:Q (a==b) s):lp P (Op.equalIn (n+1) t (.int kd a) (.int kd b)) s Q X:=by
 unfold Op.equalIn;refine AB _ _ (Cd ht ?_);simp only [if_true];exact k
theorem Ql{n:Nat}{kd:IntKind}{f:Field}{a b:Int}(h:K7 P e kd f){Q:Bool→St→Prop}{X:Halt→St→Prop}(k:Q (decide (a=b)) s):lp P (Op.equalIn (n+2) e (.agg #[.int kd a]) (.agg #[.int kd b])) s Q X:=by
 unfold Op.equalIn;refine AB _ _ (Cd h.ht ?_);refine AB (x:=program) _ ?_;show lp P (if P.stoodInHeld e=true then _ else _) s _ _
 rw [if_neg (by rw [h.hs];exact Bool.false_ne_true)];have A:CH P f.type=some false:=by unfold CH;rw [h.u1]
 dsimp only;rw [← Array.forIn_toList];simp only [List.forIn_cons,List.forIn_nil];refine AB _ _ (AB _ _ ?_);rw [if_pos h.n1,h.o1];refine AB _ _ (MR (v:= .int kd a) A rfl ?_);refine AB _ _ (MR (v:= .int kd b) A rfl ?_);refine AB _ _ (Tv h.u1 ?_);by_cases h:a=b
 ·subst h;simpa [lp,pure] using k
 ·simpa [lp,pure,h] using k
theorem Mn{c:Array Value}{off:Nat}{w:Value}(ht:CH P e=some true)(A:Bq P e=some 1)(hw:c[off]? =some w){Q:Value→St→Prop}{X:Halt→St→Prop}(k:Q (.agg #[w]) s):lp P (part e c off) s Q X:=by
 unfold Go.part;refine AB (x:=isAgg e) _ (Hq ht ?_);simp only [if_true];refine AB (x:=Go.sizeOf e) _ (Dg A ?_);have K:c.extract off (off+1)= #[w]:=by
  have O:off<c.size:=(Array.getElem?_eq_some_iff.1 hw).1;apply Array.ext_getElem?;intro j;simp only [Array.getElem?_extract];cases j with
  | zero=>rw [if_pos (by omega)];simpa using hw
  | succ j=>rw [if_neg (by omega)];simp
 show Q (.agg (c.extract off (off+1))) s;rw [K];exact k
theorem Qx{n kk:Nat}{kd:IntKind}{f:Field}{ws ws':List Value}{xs A:List Nat}(ht:P.underlying t=some (.array kk e))(h:K7 P e kd f)(aa:Bq P e=some 1)(Z:(rA kk (rN kd)).r E ws xs)(ag:(rA kk (rN kd)).r E ws' A)
  {Q:Bool→St→Prop} {X:Halt→St→Prop} (k:Q (decide (xs=A)) s):lp P (Op.equalIn (n+3) t (.agg ws.toArray) (.agg ws'.toArray)) s Q X:=by
 have ah:CH P e=some true:=by unfold CH;rw [h.ht]
 have ay:=Z.1;have az:=ag.1;have at_:∀{ws:List Value} {xs:List Nat},(rA kk (rN kd)).r E ws xs→∀i,i<kk→∃a,xs[i]? =some a∧ws[i]? =some (.int kd ((a:Nat):Int)):=by
  intro ws xs Z i hi;obtain⟨a,ai⟩:∃a,xs[i]? =some a:=⟨_,List.getElem?_eq_getElem (by rw [Z.1];exact hi)⟩;obtain⟨us,al,_,_,am⟩:=FV (m:=(i:Int)) Z (by unfold ix;simp;exact ai);have an:us= [.int kd ((a:Nat):Int)]:=al;subst an;have:=am 0 _ rfl;simp [rN] at this;exact⟨_,ai,this⟩
 unfold Op.equalIn;refine AB _ _ (Cd ht ?_);refine AB (x:=Go.sizeOf e) _ (Dg aa ?_)
 dsimp only;simp only [Std.Legacy.Range.forIn_eq_forIn_range',Std.Legacy.Range.size,Nat.sub_zero,Nat.add_one_sub_one,Nat.div_one];let ao:Nat→Option Bool×Unit→Sem (ForInStep (Option Bool×Unit)):=fun i _=>do
  if !(← Op.equalIn (n+2) e (← Go.part e ws.toArray (i*1)) (← Go.part e ws'.toArray (i*1))) then pure (ForInStep.done (some false,())) else pure (ForInStep.yield (none,()))
 have key:∀(m st:Nat),st+m=kk→(∀i,i<st→xs[i]? =A[i]?)→∀{K:Option Bool×Unit→St→Prop},K (if xs=A then(none,()) else(some false,())) s→lp P (forIn (List.range' st m) (none,()) ao:Sem _) s K X:=by
  intro m
  induction m with
  | zero=>
   intro st ap ab K O;have U:xs=A:=by
    apply List.ext_getElem?;intro i;rcases Nat.lt_or_ge i st with hi | hi
    ·exact ab i hi
    ·rw [List.getElem?_eq_none (by omega),List.getElem?_eq_none (by omega)]
   rw [if_pos U] at O;simp only [List.range'_zero,List.forIn_nil];exact O
  | succ m aq=>
   intro st ap ab K O;simp only [List.range'_succ,List.forIn_cons];obtain⟨a,ac,ar⟩:=at_ Z st (by omega);obtain⟨c,ae,au⟩:=at_ ag st (by omega);refine AB _ _ ?_;refine AB _ _ (Mn ah aa (by rw [Nat.mul_one];simpa using ar) ?_);refine AB _ _ (Mn ah aa (by rw [Nat.mul_one];simpa using au) ?_);refine AB _ _ (Ql h ?_);by_cases aj:a=c
   ·subst aj;simp only [decide_true,Bool.not_true,Bool.false_eq_true,if_false,lp,pure];exact aq (st+1) (by omega) (fun i hi=>by
     rcases Nat.lt_or_ge i st with ak | ak
     ·exact ab i ak
     ·obtain rfl:i=st:=by omega
      rw [ac,ae]) O
   ·have av:¬xs=A:=fun q=>aj (by rw [q] at ac;rw [ac] at ae;exact Option.some.inj ae);rw [if_neg av] at O;have aw:¬((a:Nat):Int)=((c:Nat):Int):=by omega
    simp only [aw,decide_false,Bool.not_false,if_true,lp,pure];exact O
 refine AB _ _ (key kk 0 (by omega) (fun i hi=>by omega) ?_);by_cases U:xs=A
 ·rw [if_pos U];simpa [lp,pure,U] using k
 ·rw [if_neg U];simpa [lp,pure,U] using k
def OO(P:Program)(e:TypeId)(kd:IntKind):Prop:=∃f,K7 P e kd f
theorem Yl.TG{kk:Nat}{kd:IntKind}{ws ws':List Value}{xs A:List Nat}(ht:P.underlying t=some (.array kk e))(K:P.eqGuardType P.depth t=false)(O:OO P e kd)(U:Bq P e=some 1)(Z:(rA kk (rN kd)).r E ws xs)(aa:(rA kk (rN kd)).r E ws' A)
  (ab:ρ x= .agg ws.toArray) (ac:ρ y= .agg ws'.toArray):Yl P ⟨d,.binOp .neq t x y u,ty,p,af,g⟩ ρ s (.bool (decide (xs≠A))):=by
 obtain⟨f,h⟩:=O;refine Yl.Ds (sm:=do eqGuard .neq t x y (ρ x) (ρ y);binOp .neq t (ρ x) (ρ y)) rfl ?_
 rw [ab,ac];refine AB _ _ (PY (.inr rfl) K ?_);have hb:binOp .neq t (.agg ws.toArray) (.agg ws'.toArray)=(do pure (.bool (!(← Op.equal t (.agg ws.toArray) (.agg ws'.toArray))))):=rfl
 rw [hb];refine AB (x:=Op.equal t _ _) _ ?_;unfold Op.equal Op.maxDepth;exact Qx ht h U Z aa ⟨by simp,rfl⟩
end
theorem Qn{E H:LH}{S:List Seg}{A o:Nat}{l ws:List Value}{e:TypeId}{f:Nat×Nat}{w:Value}(j:Nat)(O:Ay E H S)(U:S[j]? =some [(A,.cells (l++ws).toArray e f)])(K:l[o]? =some w):(Ap E H S).cell? ⟨A,o,none⟩=some w:=by
 refine Cw O U ?_;simp only [List.getElem?_toArray];rw [List.getElem?_append_left (List.getElem?_eq_some_iff.1 K).1];exact K
theorem J1{E H:LH}{S:List Seg}{bks:List Nat}{A:Nat}{l ws:List Value}{e:TypeId}{f:Nat×Nat}{s':St}(j:Nat)(K:Ay E H S)(O:S[j]? =some [(A,.cells (l++ws).toArray e f)])(U:AH bks A=true)(hs:∀x o,(Bh (AH bks) (Ap E H S)).E x=some o→s'.E x=some o):∀q v,ws[q]? =some v→s'.cell? (Addr.add ⟨A,l.length,none⟩ q)=some v:=fun q v Z=>by
 rw [Bi rfl]
 refine Bl j K O U hs ?_
 simp only [List.getElem?_toArray]
 rw [List.getElem?_append_right (by omega)]
 rw [show l.length+q - l.length=q by omega];exact Z
end Pal
namespace Pal
open Go Go.Conc
def Lm(t1 t2:TypeId)(v:Value):Option (Int×Option Int)→Prop
 | none=>v= .nilIface
 | some (m,none)=>v= .iface t1 (.agg #[iV m])
 | some (m,some a)=>v= .iface t2 (.agg #[iV m,iV a])
def Ln:Option (Int×Option Int)→Value
 | some (m,none)=> .agg #[iV m]
 | _=> .agg #[iV 0]
def Lj:Option (Int×Option Int)→Value
 | some (m,some a)=> .agg #[iV m,iV a]
 | _=> .agg #[iV 0,iV 0]
def HS:Option (Int×Option Int)→Bool
 | some (_,none)=>true
 | _=>false
def HY:Option (Int×Option Int)→Bool
 | some (_,some _)=>true
 | _=>false
section
variable {P:Program}{s:St}{ρ:Operand→Value}{x y z:Operand}{d:Option Tmp}{t u ty e xt t1 t2:TypeId}{p:String}{af:Array Edge}{g:Option (Nat×Bool)}{v v':Value}{o:Option (Int×Option Int)}
theorem Yl.Rb{f1:Array Field}(K:P.underlying t1=some (.struct f1))(A:zeroOf P t1=some (.agg #[iV 0]))(O:t2≠t1)(he:Lm t1 t2 v o)(U:ρ x=v):Yl P ⟨d,.typeAssert x xt t1 true,ty,p,af,g⟩ ρ s (.tuple #[Ln o,.bool (HS o)]):=by
 refine Yl.Ds (sm:=Instr.typeAssert (ρ x) xt t1 true) rfl ?_;rw [U];unfold Instr.typeAssert;refine AB _ _ (Cd K ?_)
 match o,he with
 | none,he=>obtain rfl:v= .nilIface:=he;exact AB (x:=zeroValue t1) _ (D7 A ⟨rfl,rfl⟩)
 | some (m,none),he=>obtain rfl:v= .iface t1 (.agg #[iV m]):=he;simp [lp,pure,Ln,HS]
 | some (m,some a),he=>
  obtain rfl:v= .iface t2 (.agg #[iV m,iV a]):=he;simp only [if_neg O];exact AB (x:=zeroValue t1) _ (D7 A ⟨rfl,rfl⟩)
theorem Yl.R6{f1:Array Field}(K:P.underlying t2=some (.struct f1))(A:zeroOf P t2=some (.agg #[iV 0,iV 0]))(O:t1≠t2)(he:Lm t1 t2 v o)(U:ρ x=v):Yl P ⟨d,.typeAssert x xt t2 true,ty,p,af,g⟩ ρ s (.tuple #[Lj o,.bool (HY o)]):=by
 refine Yl.Ds (sm:=Instr.typeAssert (ρ x) xt t2 true) rfl ?_;rw [U];unfold Instr.typeAssert;refine AB _ _ (Cd K ?_)
 match o,he with
 | none,he=>obtain rfl:v= .nilIface:=he;exact AB (x:=zeroValue t2) _ (D7 A ⟨rfl,rfl⟩)
 | some (m,none),he=>
  obtain rfl:v= .iface t1 (.agg #[iV m]):=he;simp only [if_neg O];exact AB (x:=zeroValue t2) _ (D7 A ⟨rfl,rfl⟩)
 | some (m,some a),he=>obtain rfl:v= .iface t2 (.agg #[iV m,iV a]):=he;simp [lp,pure,Lj,HY]
end
def OV{P:Program}(J:Judge P)(v:Value)(args:Array Value)(s:St)(R:Value→St→Prop):Prop:=
 ∀(Q:Goroutine→St→Prop) (c:Frame) (cs:List Frame),(∀w s',R w s'→J.ok Q (G (c.finish w) cs) s')→
  lp P (do let d ← Deferred.ofValue v args;invoke d.target d.args) s (fun nx s'=>match nx with
   | .enter f a=>J.ok Q (G (Frame.enter P f a .normal) (c::cs)) s'
   | .round l f A as K=>J.ok Q (G (Frame.round l f A as K .normal) (c::cs)) s'
   | _=>False) (fun _ _=>False)
def Dc{P:Program}(J:Judge P)(v:Value)(args:List Value)(E:LH)(B:Seg)(R:Value→LH→Seg→Prop):Prop:=
 ∀H,Nd E H B→OV J v args.toArray (mk E H B) (fun v s'=>∃E' B',Le E E'∧R v E' B'∧Nd E' H B'∧s'=mk E' H B')
section
variable {P:Program}{J:Judge P}{Q:Goroutine→St→Prop}{b:Frame}{n:Nat}{L:Env}{ds:List Deferred}{k:List Item}{cs:List Frame}{E:LH}{H:LH}{S:List Seg}{i:Nat}{rest:List Nat}{d:Option Tmp}{ty e t:TypeId}{p:String}{af:Array Edge}{g:Option (Nat×Bool)}{ops:Array Oper}
theorem Dc.ofFn{f:FuncId}{caps vs:List Value}{B:Seg}{R:Value→LH→Seg→Prop}(hb:Cx P f=true)(h:Aq J f (vs++caps) E B R):Dc J (.func (.func f) #[] caps.toArray) vs E B R:=fun H A Q c cs K=>by
 simp only [Deferred.ofValue,bind,Sem.bind,pure,invoke]
 have e: #[]++vs.toArray++caps.toArray=(vs++caps).toArray:=by simp
 rw [e];exact GC hb (h H A Q c cs K)
theorem JL.TD{x:Operand}{K:Value}{args:Array Operand}{ats:Array TypeId}{s:St}{vs:List Value}{R:Value→St→Prop}
  (U:ops[i]? =some ⟨d,.call ⟨.value x,args,ats⟩,ty,p,af,g⟩) (hw:AT L ops ⟨d,.call ⟨.value x,args,ats⟩,ty,p,af,g⟩=some true) (O:((b.kind != .early)&&Bd n d)=true)
  (Z:ev L x=some K) (aa:evs L args.toList=some vs) (ab:OV J K vs.toArray s R) (ac:∀v s',R v s'→JL J Q b n (AJ L d v) ds (.inRegion ops rest::k) cs s'):
  JL J Q b n L ds (.inRegion ops (i::rest)::k) cs s:=fun T A=>by
 simp only [Bool.and_eq_true] at O
 have ae:args.map (Bm T)=vs.toArray:=by
  rw [← DW A.Eh aa];apply Array.ext';simp
 refine Judge.oper U (B4 A hw) (by simpa using O.1) (.inr fun c ag=>by cases ag) ?_;have ah:lp P (execOp (Bm T) ⟨d,.call ⟨.value x,args,ats⟩,ty,p,af,g⟩) s (upon J Q b T ds ops i rest k cs d) (Ja J Q b T ds ops i rest k cs):=by
  have ai:execOp (Bm T) ⟨d,.call ⟨.value x,args,ats⟩,ty,p,af,g⟩=(do let d ← Deferred.ofValue K vs.toArray;invoke d.target d.args):=by
   simp only [execOp,resolve,ae,A.Eh _ _ Z]
  rw [ai];refine B8 _ (ab Q (fr b T ds (.inRegion ops (i::rest)::k)) cs fun v s' aj=>?_) (fun nx s' h=>?_) (fun _ _ h=>h.elim)
  ·rw [D9 (o:=⟨d,.call ⟨.value x,args,ats⟩,ty,p,af,g⟩) _ _ _ _ _ U];exact ac v s' aj _ (A.put O.2 v)
  ·cases nx <;> first | exact h | exact h.elim
 exact ah
theorem JS.G1{x:Operand}{K:Value}{args:Array Operand}{ats:Array TypeId}{vs:List Value}{seg:Seg}{R:Value→LH→Seg→Prop}(j:Nat)
  (ae:Dc J K vs E seg R) (ag:ops[i]? =some ⟨d,.call ⟨.value x,args,ats⟩,ty,p,af,g⟩) (hw:AT L ops ⟨d,.call ⟨.value x,args,ats⟩,ty,p,af,g⟩=some true) (ah:((b.kind != .early)&&Bd n d)=true)
  (A:ev L x=some K) (ai:evs L args.toList=some vs) (O:Ay E H S) (U:S[j]? =some seg) (aj:∀v E' seg',Le E E'→R v E' seg'→Ay E' H (S.set j seg')→JL J Q b n (AJ L d v) ds (.inRegion ops rest::k) cs (Ap E' H (S.set j seg'))):
  JL J Q b n L ds (.inRegion ops (i::rest)::k) cs (Ap E H S):=by
 have Z:S.flatten.Perm (seg++(S.set j []).flatten):=(CL (seg':=seg) U).1.trans List.perm_append_comm;have aa:Nd E H (seg++(S.set j []).flatten):=Nd.perm O Z;have ak:Ap E H S=mk E (AU (S.set j []).flatten H) seg:=by
  rw [show Ap E H S=mk E H S.flatten from rfl,Dt O Z];unfold mk;rw [DV]
 rw [ak];refine JL.TD ag hw ah A ai (ae _ (Nd.front aa)) ?_;rintro v s' ⟨E',B',hle,al,am,rfl⟩;have an:mk E' (AU (S.set j []).flatten H) B'=mk E' H (B'++(S.set j []).flatten):=by unfold mk;rw [DV]
 have ao:Nd E H (S.set j []).flatten:=by
  have:=aa;rw [Nd.iff] at this ⊢;rw [List.map_append,List.nodup_append] at this;exact⟨this.1.2.1,fun q ap=>this.2 q (List.mem_append_right _ ap)⟩
 refine JL.FH rfl fun⟨w,aq⟩=>?_;have ar:Nd E' H (S.set j []).flatten:=ao.grow fun x A=>by
  have au:=aq.d x A;have av:AU B' (AU (S.set j []).flatten H) x=none:=au;exact(EA av).1
 have ab:Nd E' H (B'++(S.set j []).flatten):=Nd.glue am ar;rw [an];have ac:(B'++(S.set j []).flatten).Perm (S.set j B').flatten:=List.perm_append_comm.trans (CL U).2.symm;rw [Dt ab ac];exact aj v E' B' hle al (Nd.perm ab ac)
theorem JG.NZ{bks:List Nat}{m fuel:Nat}{listed:Array Bool}{f:FuncId}{args:Array Operand}{ats:Array TypeId}{vs:List Value}{seg:Seg}{R:Value→LH→Seg→Prop}(j:Nat)(aj:EH S bks)(ak:Aq J f vs E seg R)(al:∀v E' B',R v E' B'→B'=seg)(am:Region.ready .any ops listed= [i])
  (an:ops[i]? =some ⟨d,.call ⟨.value (.func f),args,ats⟩,ty,p,af,g⟩) (ao:Bd n d=true) (hw:AT L ops ⟨d,.call ⟨.value (.func f),args,ats⟩,ty,p,af,g⟩=some true) (hb:Cx P f=true) (ap:evs L args.toList=some vs) (U:Ay E H S) (aq:S[j]? =some seg)
  (ar:∀v E',Le E E'→R v E' seg→Ay E' H S→Av J Q b n ds ops k cs m (AH bks) fuel (AX listed i) (AJ L d v) (Ap E' H S)):
  Av J Q b n ds ops k cs m (AH bks) (fuel+1) listed L (Ap E H S):=by
 have K:S.flatten.Perm (seg++(S.set j []).flatten):=(CL (seg':=seg) aq).1.trans List.perm_append_comm;have ab:Nd E H (seg++(S.set j []).flatten):=Nd.perm U K;have au:Ap E H S=mk E (AU (S.set j []).flatten H) seg:=by
  rw [show Ap E H S=mk E H S.flatten from rfl,Dt U K];unfold mk;rw [DV]
 have ac:=Cy.FH (ak (AU (S.set j []).flatten H) (Nd.front ab)) (by rintro v s' ⟨E',B',_,_,_,rfl⟩;rfl);rw [← au] at ac;refine Av.call rfl am an ao hw hb ap ac ?_;rintro v aE ⟨⟨E',B',hle,ae,av,rfl⟩,w,aw⟩;obtain rfl:=al _ _ _ ae;have ay:mk E' (AU (S.set j []).flatten H) B'=mk E' H (B'++(S.set j []).flatten):=by unfold mk;rw [DV]
 have az:Nd E H (S.set j []).flatten:=by
  have:=ab;rw [Nd.iff] at this ⊢;rw [List.map_append,List.nodup_append] at this;exact⟨this.1.2.1,fun q aA=>this.2 q (List.mem_append_right _ aA)⟩
 have aB:Nd E' H (S.set j []).flatten:=az.grow fun x O=>by
  have aC:=aw.d x O;have Z:AU B' (AU (S.set j []).flatten H) x=none:=aC;exact(EA Z).1
 have ag:Nd E' H (B'++(S.set j []).flatten):=Nd.glue av aB;have ah:Ay E' H S:=Nd.perm ag K.symm;rw [ay,Dt ag K.symm];refine⟨rfl,fun x o O=>?_,ar v E' hle ae ah⟩;by_cases aa:AH bks x=true
 ·obtain⟨aF,o',ai⟩:=aj.mem x (by simpa [AH] using aa);have Z:(Ap E H S).get x=some o':=C8 (i:=0) U ai rfl;have aD:(Ap E' H S).get x=some o':=C8 (i:=0) ah ai rfl;have A:(if AH bks x then(Ap E H S).get x else E x)=some o:=O
  show(if AH bks x then(Ap E' H S).get x else E' x)=some o
  rw [if_pos aa] at A ⊢;rw [aD,← Z];exact A
 ·have A:(if AH bks x then(Ap E H S).get x else E x)=some o:=O
  show(if AH bks x then(Ap E' H S).get x else E' x)=some o
  rw [if_neg aa] at A ⊢;exact hle _ _ A
theorem Take.Jl{bks:List Nat}{m fuel:Nat}{listed:Array Bool}{f:FuncId}{args:Array Operand}{ats:Array TypeId}{vs:List Value}{R:Value→LH→Seg→Prop}(ah:EH S bks)(aa:Ay E H S)(ai:Aq J f vs E [] R)
  (aj:ops[i]? =some ⟨d,.call ⟨.value (.func f),args,ats⟩,ty,p,af,g⟩) (hw:AT L ops ⟨d,.call ⟨.value (.func f),args,ats⟩,ty,p,af,g⟩=some true) (ak:Bd n d=true) (hb:Cx P f=true) (al:evs L args.toList=some vs)
  (am:∀v E' seg',Le E E'→R v E' seg'→Ay E' H (S++ [seg'])→Av J Q b n ds ops k cs m (AH bks) fuel (AX listed i) (AJ L d v) (Ap E' H (S++ [seg']))):
  Take J Q b n ds ops k cs m (AH bks) fuel listed L (Ap E H S) i:=by
 have an:=Cy.FH (ai (AU S.flatten H) trivial) (by rintro v s' ⟨E',B',_,_,_,rfl⟩;rfl);refine⟨_,aj,by simp [Ci],ak,hw,fun ρ ab=>?_⟩;have ao:args.map ρ=vs.toArray:=by
  rw [← DW ab al];apply Array.ext';simp
 have ap:ρ (.func f)= .func (.func f) #[] #[]:=ab _ _ rfl;simp only [execOp,resolve,bind,Sem.bind,Deferred.ofValue,ap,pure,invoke];have e: #[]++args.map ρ++ #[]=vs.toArray:=by rw [ao];simp
 rw [e];refine GC hb ?_;rw [Hm];refine⟨_,an,?_⟩;rintro v aB ⟨⟨E',B',hle,aq,ar,rfl⟩,w,au⟩;have av:mk E' (AU S.flatten H) B'=mk E' H (B'++S.flatten):=by unfold mk;rw [DV]
 have aw:Nd E' H S.flatten:=Nd.grow aa fun x K=>by
  have ay:=au.d x K;have O:AU B' (AU S.flatten H) x=none:=ay;exact(EA O).1
 have ac:Nd E' H (B'++S.flatten):=Nd.glue ar aw;have ae:(B'++S.flatten).Perm (S++ [B']).flatten:=by rw [EC];exact List.perm_append_comm
 have ag:Ay E' H (S++ [B']):=Nd.perm ac ae;rw [av,Dt ac ae];refine⟨rfl,fun x o K=>?_,am v E' B' hle aq ag⟩;by_cases U:AH bks x=true
 ·obtain⟨j,o',Z⟩:=ah.mem x (by simpa [AH] using U);have O:(Ap E H S).get x=some o':=C8 (i:=0) aa Z rfl;have az:j<S.length:=(List.getElem?_eq_some_iff.1 Z).1;have aA:(Ap E' H (S++ [B'])).get x=some o':=C8 (i:=0) ag (by rw [List.getElem?_append_left az];exact Z) rfl;have A:(if AH bks x then(Ap E H S).get x else E x)=some o:=K
  show(if AH bks x then(Ap E' H (S++ [B'])).get x else E' x)=some o
  rw [if_pos U] at A ⊢;rw [aA,← O];exact A
 ·have A:(if AH bks x then(Ap E H S).get x else E x)=some o:=K
  show(if AH bks x then(Ap E' H (S++ [B'])).get x else E' x)=some o
  rw [if_neg U] at A ⊢;exact hle _ _ A
theorem Take.OA{m fuel:Nat}{listed:Array Bool}{f:FuncId}{args:Array Operand}{ats:Array TypeId}{vs:List Value}{R:Value→LH→Seg→Prop}(K:Ay E H S)(O:Aq J f vs E [] R)
  (U:ops[i]? =some ⟨d,.call ⟨.value (.func f),args,ats⟩,ty,p,af,g⟩) (hw:AT L ops ⟨d,.call ⟨.value (.func f),args,ats⟩,ty,p,af,g⟩=some true) (Z:Bd n d=true) (hb:Cx P f=true) (aa:evs L args.toList=some vs)
  (A:∀v E' seg',Le E E'→R v E' seg'→Ay E' H (S++ [seg'])→Av J Q b n ds ops k cs m Da fuel (AX listed i) (AJ L d v) (Ap E' H (S++ [seg']))):
  Take J Q b n ds ops k cs m Da fuel listed L (Ap E H S) i:=by
 have e:AH []=Da:=by funext x;rfl
 rw [← e] at A ⊢;exact Take.Jl (bks:= []) trivial K O U hw Z hb aa A
end
end Pal
