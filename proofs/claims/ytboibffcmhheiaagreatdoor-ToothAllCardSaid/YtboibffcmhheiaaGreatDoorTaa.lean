/- ToothAll: gone through one by one, all horses say what the program says Part 1 of 8. -/
import Derived.Conc.Own5
import Derived.Conc.Listed
import Derived.Conc.DeferLaws
import Derived.Orders
set_option linter.all false
set_option maxRecDepth 100000
namespace Pal
open Go Go.Conc
abbrev LH:=Nat→Option Obj
structure St where
 E:LH
 H:LH
 q:Bool
abbrev Ld_:=List Deferred
abbrev Ao_:=Array Oper
abbrev Li_:=List Item
abbrev Lf_:=List Frame
abbrev On_:=Option (Nat×Bool)
abbrev Ae_:=Array Edge
abbrev Gs_:=Goroutine→St→Prop
abbrev Lv_:=List Value
abbrev AA:=Array Value
def St.get(s:St)(b:Nat):Option Obj:=match s.E b with | some o=>some o | none=>s.H b
structure Fits (s:St) (w:World):Prop where
 e:∀b o,s.E b=some o→w.heap[b]? =some o
 h:∀b o,s.H b=some o→w.heap[b]? =some o
 d:∀b,s.E b≠none→s.H b=none
theorem Fits.get{s:St}{w:World}(f:Fits s w){b:Nat}{o:Obj}(h:s.get b=some o):w.heap[b]? =some o:=by
 unfold St.get at h;split at h
 ·rename_i o' K;cases h;exact f.e _ _ K
 ·exact f.h _ _ h
theorem Fits.Te{s:St}{w:World}(f:Fits s w){b:Nat}{o:Obj}(h:s.H b=some o):b<w.heap.size:=by
 have:=f.h _ _ h;rcases Nat.lt_or_ge b w.heap.size with K | K
 ·exact K
 ·simp [Array.getElem?_eq_none K] at this
theorem Fits.lt{s:St}{w:World}(f:Fits s w){b:Nat}{o:Obj}(h:s.get b=some o):b<w.heap.size:=by
 have:=f.get h;rcases Nat.lt_or_ge b w.heap.size with K | K
 ·exact K
 ·simp [Array.getElem?_eq_none K] at this
def cellAt(o:Obj)(a:Addr):Option Value:=match o with | .cells c _ _=>if a.spot.isSome then none else c[a.off]? | _=>none
def frozenAt(o:Obj)(a:Addr):Bool:=match o with | .cells _ _ (lo,hi)=>lo≤a.off&&a.off<hi | _=>false
def shapeOf(o:Obj):Option (TypeId×Nat):=match o with | .cells c e _=>some (e,c.size) | _=>none
def Cx:Value→Bool | .agg _ | .tuple _=>false | _=>true
def I6(o:Obj)(a:Addr)(v:Value):Obj:=match o with | .cells c e f=> .cells (if a.spot.isSome then c else c.setIfInBounds a.off v) e f | o=>o
def Im(o:Obj):Bool:=match o with | .cells ..=>false | .chan ..=>false | .pending ..=>false | .view ..=>false | .number ..=>false | _=>true
def St.cell? (s:St)(a:Addr):Option Value:=(s.get a.block).bind (cellAt · a)
def St.upd(s:St)(b:Nat)(o:Obj):St:={s with H:=fun x=>if x=b then some o else s.H x}
theorem P0{w:World}{a:Addr}{o:Obj}(h:w.heap[a.block]? =some o):w.cell? a=cellAt o a:=by
 unfold World.cell? cellAt;rw [h];cases o <;> rfl
theorem PF{w:World}{a:Addr}{o:Obj}(h:w.heap[a.block]? =some o):w.frozen? a=frozenAt o a:=by
 unfold World.frozen? frozenAt;rw [h];cases o <;> rfl
theorem TB{w:World}{b:Nat}{o:Obj}(h:w.heap[b]? =some o):w.shape? b=shapeOf o:=by
 unfold World.shape? shapeOf;rw [h];cases o <;> rfl
def lp(P:Program){α:Type}:Sem α→St→(α→St→Prop)→(Halt→St→Prop)→Prop
 | .pure a,s,Q,_=>Q a s
 | .load m a k,s,Q,X=>m= .plain∧∃v,s.cell? a=some v∧lp P (k v) s Q X
 | .store m a v k,s,Q,X=>m= .plain∧Cx v=true∧∃o,s.H a.block=some o∧(cellAt o a).isSome=true∧frozenAt o a=false∧lp P k (s.upd a.block (I6 o a v)) Q X
 | .new o k,s,Q,X=>s.q=false∧∀r,s.E r=none→s.H r=none→lp P (k r) (s.upd r o) Q X
 | .shape r k,s,Q,X=>∃o,s.get r=some o∧lp P (k (shapeOf o)) s Q X
 | .freeze _ _ _,_,_,_=>False
 | .frozen a k,s,Q,X=>∃o,s.get a.block=some o∧lp P (k (frozenAt o a)) s Q X
 | .getObj r k,s,Q,X=>∃o,s.get r=some o∧Im o=true∧lp P (k o) s Q X
 | .setObj r o k,s,Q,X=>(∃o₀,s.H r=some o₀∧Im o₀=true)∧Im o=true∧lp P k (s.upd r o) Q X
 | .choose q k,s,Q,X=>if q.forced then lp P (k 0) s Q X else s.q=false∧∀t,lp P (k (q.cut t)) s Q X
 | .sys _ _,_,_,_=>False
 | .program k,s,Q,X=>lp P (k P) s Q X
 | .mark m k,s,Q,X=>((s.q=false∧m= .noRoom)∨∃f,m= .extern f)∧lp P k s Q X
 | .halt h,s,_,X=>X h s
theorem Dv{P:Program}{α:Type}(x:Sem α):∀{s:St} {Q V:α→St→Prop} {X W:Halt→St→Prop},lp P x s Q X→(∀a s,Q a s→V a s)→(∀h s,X h s→W h s)→lp P x s V W:=by
 induction x with
 | pure a=>intro s Q V X W h K O;exact K _ _ h
 | load m a k U=>intro s Q V X W h K O;obtain⟨Z,v,aa,ab⟩:=h;exact⟨Z,v,aa,U _ ab K O⟩
 | store m a v k U=>intro s Q V X W h K O;obtain⟨Z,aa,o,ab,ag,ah,ai⟩:=h;exact⟨Z,aa,o,ab,ag,ah,U ai K O⟩
 | new o k U=>intro s Q V X W h K O;exact⟨h.1,fun r Z aa=>U _ (h.2 r Z aa) K O⟩
 | shape r k U=>intro s Q V X W h K O;obtain⟨o,Z,aa⟩:=h;exact⟨o,Z,U _ aa K O⟩
 | freeze a n k U=>intro s Q V X W h K O;exact h
 | frozen a k U=>intro s Q V X W h K O;obtain⟨o,Z,aa⟩:=h;exact⟨o,Z,U _ aa K O⟩
 | getObj r k U=>intro s Q V X W h K O;obtain⟨o,Z,aa,ab⟩:=h;exact⟨o,Z,aa,U _ ab K O⟩
 | setObj r o k U=>intro s Q V X W h K O;obtain⟨Z,aa,ab⟩:=h;exact⟨Z,aa,U ab K O⟩
 | choose q k U=>
  intro s Q V X W h K O;simp only [lp] at h ⊢;split
  ·rename_i ae;rw [if_pos ae] at h;exact U _ h K O
  ·rename_i ae;rw [if_neg ae] at h;exact⟨h.1,fun t=>U _ (h.2 t) K O⟩
 | sys c k U=>intro s Q V X W h K O;exact h
 | program k U=>intro s Q V X W h K O;exact U _ h K O
 | mark m k U=>intro s Q V X W h K O;exact⟨h.1,U h.2 K O⟩
 | halt h=>intro s Q V X W h K O;exact O _ _ h
theorem AH{P:Program}{α β:Type}(x:Sem α)(f:α→Sem β):∀{s:St} {Q:β→St→Prop} {X:Halt→St→Prop},lp P x s (fun a s'=>lp P (f a) s' Q X) X→lp P (x>>=f) s Q X:=by
 show ∀{s:St} {Q:β→St→Prop} {X:Halt→St→Prop},lp P x s (fun a s'=>lp P (f a) s' Q X) X→lp P (Sem.bind x f) s Q X
 induction x with
 | pure a=>intro s Q X h;exact h
 | load m a k K=>intro s Q X h;obtain⟨O,v,U,V⟩:=h;exact⟨O,v,U,K _ V⟩
 | store m a v k K=>intro s Q X h;obtain⟨O,U,o,V,Z,aa,ab⟩:=h;exact⟨O,U,o,V,Z,aa,K ab⟩
 | new o k K=>intro s Q X h;exact⟨h.1,fun r O U=>K _ (h.2 r O U)⟩
 | shape r k K=>intro s Q X h;obtain⟨o,O,U⟩:=h;exact⟨o,O,K _ U⟩
 | freeze a n k K=>intro s Q X h;exact h
 | frozen a k K=>intro s Q X h;obtain⟨o,O,U⟩:=h;exact⟨o,O,K _ U⟩
 | getObj r k K=>intro s Q X h;obtain⟨o,O,U,V⟩:=h;exact⟨o,O,U,K _ V⟩
 | setObj r o k K=>intro s Q X h;obtain⟨O,U,V⟩:=h;exact⟨O,U,K V⟩
 | choose q k K=>
  intro s Q X h;simp only [lp,Sem.bind] at h ⊢;split
  ·rename_i W;rw [if_pos W] at h;exact K _ h
  ·rename_i W;rw [if_neg W] at h;exact⟨h.1,fun t=>K _ (h.2 t)⟩
 | sys c k K=>intro s Q X h;exact h
 | program k K=>intro s Q X h;exact K _ h
 | mark m k K=>intro s Q X h;exact⟨h.1,K h.2⟩
 | halt h=>intro s Q X h;exact h
structure Fr (s:St) (w:World) (s':St) (w':World):Prop where
 size:w.heap.size≤w'.heap.size
 keep:∀b,b<w.heap.size→s.H b=none→w'.heap[b]? =w.heap[b]?
 own:∀b,s'.H b≠none→s.H b≠none∨w.heap.size≤b
 ext:∀b o,s.E b=some o→s'.E b=some o
 Eh:∀b,s'.E b≠none→s.E b≠none∨s.H b≠none∨w.heap.size≤b
 tape:w'.tape=w.tape
 os:w'.os=w.os
 output:w'.output=w.output
theorem Fr.refl(s:St)(w:World):Fr s w s w:=
 ⟨Nat.le_refl _,fun _ _ _=>rfl,fun _ h=> .inl h,fun _ _ h=>h,fun _ h=> .inl h,rfl,rfl,rfl⟩
theorem Fr.trans{s K O:St}{w U V:World}(h:Fr s w K U)(k:Fr K U O V):Fr s w O V where
 size:=Nat.le_trans h.size k.size
 keep b hb W:=by
  rw [k.keep b (Nat.lt_of_lt_of_le hb h.size) ?_,h.keep b hb W];by_cases Z:K.H b=none
  ·exact Z
  ·rcases h.own b Z with x | x
   ·exact absurd W x
   ·omega
 own b hb:=by
  rcases k.own b hb with x | x
  ·exact h.own b x
  ·exact .inr (Nat.le_trans h.size x)
 ext b o aa:=k.ext b o (h.ext b o aa)
 Eh b hb:=by
  rcases k.Eh b hb with x | x | x
  ·exact h.Eh b x
  ·rcases h.own b x with y | y
   ·exact .inr (.inl y)
   ·exact .inr (.inr y)
  ·exact .inr (.inr (Nat.le_trans h.size x))
 tape:=k.tape.trans h.tape
 os:=k.os.trans h.os
 output:=k.output.trans h.output
def F7(s:St)(w w':World)(b:Nat)(write:Bool):Prop:=
 b<w'.heap.size∧(s.H b≠none∨w.heap.size≤b∨(s.E b≠none∧write=false))
def Ev(s:St)(w w':World)(e:Event):Prop:=
 match e.loc with
 | .cell a=>e.sync=false∧F7 s w w' a.block e.write
 | .obj r=>e.sync=false∧F7 s w w' r e.write
 | .mark (.extern _)=>True
 | .mark .noRoom=>True
 | _=>False
theorem F7.Ai{s K:St}{w O w' U:World}{b:Nat}{wr:Bool}(h:Fr s w K O)(hs:w'.heap.size≤U.heap.size)(t:F7 K O w' b wr):F7 s w U b wr:=by
 refine⟨Nat.lt_of_lt_of_le t.1 hs,?_⟩;rcases t.2 with x | x | ⟨x,y⟩
 ·rcases h.own b x with z | z
  ·exact .inl z
  ·exact .inr (.inl z)
 ·exact .inr (.inl (Nat.le_trans h.size x))
 ·rcases h.Eh b x with z | z | z
  ·exact .inr (.inr ⟨z,y⟩)
  ·exact .inl z
  ·exact .inr (.inl z)
theorem Ev.Ai{s K:St}{w O w' U:World}{e:Event}(h:Fr s w K O)(hs:w'.heap.size≤U.heap.size)(t:Ev K O w' e):Ev s w U e:=by
 unfold Ev at t ⊢;split <;> rename_i he <;> simp only [he] at t
 ·exact⟨t.1,t.2.Ai h hs⟩
 ·exact⟨t.1,t.2.Ai h hs⟩
 ·trivial
 ·trivial
def I8{α:Type}:Result α→World | .ok _ w=>w | .halt _ w=>w
def Yp{α:Type}(Q:α→St→Prop)(X:Halt→St→Prop)(s:St):Result α→Prop | .ok a _=>Q a s | .halt h _=>X h s
theorem QQ{s:St}{b:Nat}{o:Obj}(h:s.get b=some o)(K:s.H b=none):s.E b≠none:=by
 intro e;unfold St.get at h;rw [e] at h;simp only at h;rw [K] at h;cases h
theorem Oe{s:St}{w w':World}{b:Nat}{o:Obj}(f:Fits s w)(U:s.E b=none)(hb:w'.heap[b]? =some o)(V:∀c,c≠b→∀x,w.heap[c]? =some x→w'.heap[c]? =some x):Fits (s.upd b o) w' where
 e c x K:=by
  have O:c≠b:=fun e=>by subst e;simp [St.upd] at K;rw [U] at K;cases K
  exact V c O x (f.e c x K)
 h c x K:=by
  simp only [St.upd] at K;split at K
  ·rename_i e;subst e;cases K;exact hb
  ·rename_i O;exact V c O x (f.h c x K)
 d c K:=by
  have O:c≠b:=fun e=>by subst e;exact K U
  simp only [St.upd,if_neg O];exact f.d c K
theorem Mj{P:Program}{α:Type}(x:Sem α):∀{s:St} {w:World} {Q:α→St→Prop} {X:Halt→St→Prop},lp P x s Q X→Fits s w→
  ∃s',Fits s' (I8 (x.run P w))∧Fr s w s' (I8 (x.run P w))∧(∀e∈x.events P w #[],Ev s w (I8 (x.run P w)) e)∧Yp Q X s' (x.run P w):=by
 induction x with
 | pure a=>intro s w Q X h f;exact⟨s,f,.refl _ _,by simp [Sem.events_pure'],h⟩
 | load m a k O=>
  intro s w Q X h f;obtain⟨rfl,v,aq,h⟩:=h;obtain⟨o,K,aD⟩:=Option.bind_eq_some_iff.1 aq;have hw:=f.get K;have ar:w.cell? a=some v:=by rw [P0 hw,aD]
  have U:(Sem.load Mode.plain a k).run P w=(k v).run P w:=by simp [Sem.run,ar]
  have V:(Sem.load Mode.plain a k).events P w #[]= #[⟨.cell a,false,false⟩]++(k v).events P w #[]:=by
   rw [← Sem.events_acc];simp only [Sem.events,Sem.runT,ar];rfl
  rw [U,V];obtain⟨s',Z,W,aa,ab⟩:=O v h f;refine⟨s',Z,W,fun e he=>?_,ab⟩;rcases Array.mem_append.1 he with he | he
  ·simp at he;subst he;refine⟨rfl,Nat.lt_of_lt_of_le (f.lt K) W.size,?_⟩;by_cases al:s.H a.block=none
   ·refine .inr (.inr ⟨?_,rfl⟩);exact QQ K al
   ·exact .inl al
  ·exact aa e he
 | store m a v k O=>
  intro s w Q X h f;obtain⟨rfl,aq,o,K,ar,aE,h⟩:=h;have hw:=f.h _ _ K;obtain⟨u,hu⟩:=Option.isSome_iff_exists.1 ar;have az:w.cell? a=some u:=by rw [P0 hw,hu]
  have aA:w.frozen? a=false:=by rw [PF hw,aE]
  have au:=f.Te K;obtain⟨aw,ay,f0,rfl⟩:∃c e f,o= .cells c e f:=by cases o <;> simp [cellAt] at hu;exact⟨_,_,_,rfl⟩
  have aF:(w.setCell a v).heap[a.block]? =some (I6 (.cells aw ay f0) a v):=by
   simp [World.setCell,I6,Array.getElem?_modify,hw]
  have am:∀c,c≠a.block→(w.setCell a v).heap[c]? =w.heap[c]? :=by
   intro c ah;simp [World.setCell,Array.getElem?_modify,Ne.symm ah]
  have ag:s.E a.block=none:=by
   cases ag:s.E a.block with
   | none=>rfl
   | some x=>have:=f.d a.block (by rw [ag];simp);rw [K] at this;cases this
  have an:Fits (s.upd a.block (I6 (.cells aw ay f0) a v)) (w.setCell a v):=Oe f ag aF (fun c ah x ai=>by rw [am c ah];exact ai);have U:(Sem.store Mode.plain a v k).run P w=k.run P (w.setCell a v):=by
   cases v <;> first | (simp [Cx] at aq;done) | simp [Sem.run,az,aA]
  have V:(Sem.store Mode.plain a v k).events P w #[]= #[⟨.cell a,true,false⟩]++k.events P (w.setCell a v) #[]:=by
   rw [← Sem.events_acc];cases v <;> first | (simp [Cx] at aq;done) | (simp only [Sem.events,Sem.runT,az,aA];rfl)
  have ae:Fr s w (s.upd a.block (I6 (.cells aw ay f0) a v)) (w.setCell a v):=by
   refine⟨by simp [World.setCell],fun b hb aj=>am b (fun e=>by subst e;rw [K] at aj;cases aj),fun b hb=>?_,fun _ _ h=>h,fun _ h=> .inl h,rfl,rfl,rfl⟩;simp only [St.upd] at hb;split at hb
   ·rename_i e;subst e;exact .inl (by rw [K];simp)
   ·exact .inl hb
  rw [U,V];obtain⟨s',Z,W,aa,ab⟩:=O h an;refine⟨s',Z,ae.trans W,fun e he=>?_,ab⟩;rcases Array.mem_append.1 he with he | he
  ·simp at he;subst he;exact⟨rfl,Nat.lt_of_lt_of_le au (ae.trans W).size,.inl (by rw [K];simp)⟩
  ·exact(aa e he).Ai ae (Nat.le_refl _)
 | new o k O=>
  intro s w Q X h f;have aB:s.E w.heap.size=none:=by
   cases ag:s.E w.heap.size with
   | none=>rfl
   | some x=>have:=f.e _ _ ag;simp at this
  have aG:s.H w.heap.size=none:=by
   cases ag:s.H w.heap.size with
   | none=>rfl
   | some x=>have:=f.h _ _ ag;simp at this
  have U:(Sem.new o k).run P w=(k w.heap.size).run P {w with heap:=w.heap.push o}:=by simp [Sem.run]
  have V:(Sem.new o k).events P w #[]=(k w.heap.size).events P {w with heap:=w.heap.push o} #[]:=by simp only [Sem.events,Sem.runT]
  rw [U,V];have an:Fits (s.upd w.heap.size o) {w with heap:=w.heap.push o}:=Oe f aB (by simp) (fun c ah x ai=>by
   have:c<w.heap.size:=by
    rcases Nat.lt_or_ge c w.heap.size with ao | ao
    ·exact ao
    ·simp [Array.getElem?_eq_none ao] at ai
   simp [Array.getElem?_push,Nat.ne_of_lt this,ai])
  have ae:Fr s w (s.upd w.heap.size o) {w with heap:=w.heap.push o}:=by
   refine⟨by simp,fun b hb aj=>by simp [Array.getElem?_push,Nat.ne_of_lt hb],fun b hb=>?_,fun _ _ h=>h,fun _ h=> .inl h,rfl,rfl,rfl⟩;simp only [St.upd] at hb;split at hb
   ·rename_i e;subst e;exact .inr (Nat.le_refl _)
   ·exact .inl hb
  obtain⟨s',Z,W,aa,ab⟩:=O _ (h.2 _ aB aG) an;exact⟨s',Z,ae.trans W,fun e he=>(aa e he).Ai ae (Nat.le_refl _),ab⟩
 | shape r k O=>
  intro s w Q X h f;obtain⟨o,K,h⟩:=h;have ap:=TB (f.get K);have U:(Sem.shape r k).run P w=(k (shapeOf o)).run P w:=by simp [Sem.run,ap]
  have V:(Sem.shape r k).events P w #[]=(k (shapeOf o)).events P w #[]:=by simp only [Sem.events,Sem.runT,ap]
  rw [U,V];exact O _ h f
 | freeze a n k O=>intro s w Q X h f;exact h.elim
 | frozen a k O=>
  intro s w Q X h f;obtain⟨o,K,h⟩:=h;have ap:=PF (a:=a) (f.get K);have U:(Sem.frozen a k).run P w=(k (frozenAt o a)).run P w:=by simp [Sem.run,ap]
  have V:(Sem.frozen a k).events P w #[]=(k (frozenAt o a)).events P w #[]:=by simp only [Sem.events,Sem.runT,ap]
  rw [U,V];exact O _ h f
 | getObj r k O=>
  intro s w Q X h f;obtain⟨o,K,av,h⟩:=h;have hw:=f.get K;have U:(Sem.getObj r k).run P w=(k o).run P w:=by cases o <;> simp [Im] at av <;> simp [Sem.run,hw]
  have V:(Sem.getObj r k).events P w #[]= #[⟨.obj r,false,false⟩]++(k o).events P w #[]:=by
   rw [← Sem.events_acc];cases o <;> simp [Im] at av <;> (simp only [Sem.events,Sem.runT,hw,Obj.isChan];rfl)
  rw [U,V];obtain⟨s',Z,W,aa,ab⟩:=O o h f;refine⟨s',Z,W,fun e he=>?_,ab⟩;rcases Array.mem_append.1 he with he | he
  ·simp at he;subst he;refine⟨rfl,Nat.lt_of_lt_of_le (f.lt K) W.size,?_⟩;by_cases al:s.H r=none
   ·refine .inr (.inr ⟨?_,rfl⟩);exact QQ K al
   ·exact .inl al
  ·exact aa e he
 | setObj r o k O=>
  intro s w Q X h f;obtain⟨⟨o₀,K,aC⟩,av,h⟩:=h;have hw:=f.h _ _ K;have au:=f.Te K;have ag:s.E r=none:=by
   cases ag:s.E r with
   | none=>rfl
   | some x=>have:=f.d r (by rw [ag];simp);rw [K] at this;cases this
  have U:(Sem.setObj r o k).run P w=k.run P {w with heap:=w.heap.setIfInBounds r o}:=by
   cases o₀ <;> simp [Im] at aC <;> simp [Sem.run,hw]
  have V:(Sem.setObj r o k).events P w #[]= #[⟨.obj r,true,false⟩]++k.events P {w with heap:=w.heap.setIfInBounds r o} #[]:=by
   rw [← Sem.events_acc];cases o₀ <;> simp [Im] at aC <;> cases o <;> simp [Im] at av <;> (simp only [Sem.events,Sem.runT,hw,Obj.isChan];rfl)
  have am:∀c,c≠r→(w.heap.setIfInBounds r o)[c]? =w.heap[c]? :=fun c ah=>by simp [Ne.symm ah]
  have an:Fits (s.upd r o) {w with heap:=w.heap.setIfInBounds r o}:=Oe f ag (by simp [au]) (fun c ah x ai=>by show(w.heap.setIfInBounds r o)[c]? =_;rw [am c ah];exact ai);have ae:Fr s w (s.upd r o) {w with heap:=w.heap.setIfInBounds r o}:=by
   refine⟨by simp,fun b hb aj=>am b (fun e=>by subst e;rw [K] at aj;cases aj),fun b hb=>?_,fun _ _ h=>h,fun _ h=> .inl h,rfl,rfl,rfl⟩;simp only [St.upd] at hb;split at hb
   ·rename_i e;subst e;exact .inl (by rw [K];simp)
   ·exact .inl hb
  rw [U,V];obtain⟨s',Z,W,aa,ab⟩:=O h an;refine⟨s',Z,ae.trans W,fun e he=>?_,ab⟩;rcases Array.mem_append.1 he with he | he
  ·simp at he;subst he;exact⟨rfl,Nat.lt_of_lt_of_le au (ae.trans W).size,.inl (by rw [K];simp)⟩
  ·exact(aa e he).Ai ae (Nat.le_refl _)
 | choose q k O=>
  intro s w Q X h f;simp only [lp] at h;by_cases ak:q.forced
  ·rw [if_pos ak] at h;have U:(Sem.choose q k).run P w=(k 0).run P w:=by simp [Sem.run,ak]
   have V:(Sem.choose q k).events P w #[]=(k 0).events P w #[]:=by simp only [Sem.events,Sem.runT];rw [if_pos ak]
   rw [U,V];exact O _ h f
  ·rw [if_neg ak] at h;have U:(Sem.choose q k).run P w=(k (q.cut (w.tape w.drawn q))).run P {w with drawn:=w.drawn+1}:=by simp [Sem.run,ak]
   have V:(Sem.choose q k).events P w #[]=(k (q.cut (w.tape w.drawn q))).events P {w with drawn:=w.drawn+1} #[]:=by simp only [Sem.events,Sem.runT];rw [if_neg ak]
   rw [U,V];have ae:Fr s w s {w with drawn:=w.drawn+1}:=⟨Nat.le_refl _,fun _ _ _=>rfl,fun _ h=> .inl h,fun _ _ h=>h,fun _ h=> .inl h,rfl,rfl,rfl⟩;obtain⟨s',Z,W,aa,ab⟩:=O _ (h.2 (w.tape w.drawn q)) (⟨f.e,f.h,f.d⟩:Fits s {w with drawn:=w.drawn+1});exact⟨s',Z,ae.trans W,fun e he=>(aa e he).Ai ae (Nat.le_refl _),ab⟩
 | sys c k O=>intro s w Q X h f;exact h.elim
 | program k O=>
  intro s w Q X h f;have U:(Sem.program k).run P w=(k P).run P w:=by simp [Sem.run]
  have V:(Sem.program k).events P w #[]=(k P).events P w #[]:=by simp only [Sem.events,Sem.runT]
  rw [U,V];exact O _ h f
 | mark m k O=>
  intro s w Q X h f;have U:(Sem.mark m k).run P w=k.run P w:=by simp [Sem.run]
  have V:(Sem.mark m k).events P w #[]= #[⟨.mark m,false,true⟩]++k.events P w #[]:=by
   rw [← Sem.events_acc];simp only [Sem.events,Sem.runT];rfl
  rw [U,V];obtain⟨hm,h⟩:=h;obtain⟨s',Z,W,aa,ab⟩:=O h f;refine⟨s',Z,W,fun e he=>?_,ab⟩;rcases Array.mem_append.1 he with he | he
  ·simp at he;subst he;rcases hm with⟨_,rfl⟩ | ⟨g,rfl⟩ <;> trivial
  ·exact aa e he
 | halt h=>intro s w Q X ao f;exact⟨s,f,.refl _ _,by simp [Sem.events_halt],ao⟩
theorem NT{P:Program}{fn:FuncId}{es:Array Event}(h:∀e∈es,∃f,e.loc= .mark (.extern f)):seen P fn es= #[]:=by
 rw [seen_def];have:∀(l:List Event) (q:Bool),(∀e∈l,∃f,e.loc= .mark (.extern f))→(l.foldl (seenStep fun f=>(P.funcs[f]?).any (·.norace)) (q,#[])).2= #[]:=by
  intro l
  induction l with
  | nil=>intro q _;rfl
  | cons e l K=>
   intro q h;obtain⟨f,O⟩:=h e (by simp);rw [List.foldl_cons];have:seenStep (fun f=>(P.funcs[f]?).any (·.norace)) (q,#[]) e=((P.funcs[f]?).any (·.norace),#[]):=by simp [seenStep,O]
   rw [this];exact K _ fun x U=>h x (by simp [U])
 exact this es.toList _ fun e he=>h e (Array.mem_toList_iff.1 he)
def St.quiet:St:=⟨fun _=>none,fun _=>none,true⟩
theorem Oj{P:Program}{α:Type}(x:Sem α):∀{Q:α→St→Prop} {X:Halt→St→Prop},lp P x .quiet Q X→
  ∃es,(∀w,x.events P w #[]=es)∧(∀e∈es,∃f,e.loc= .mark (.extern f))∧((∃a,Q a .quiet∧(∀w,x.run P w= .ok a w))∨(∃a,X a .quiet∧(∀w,x.run P w= .halt a w))):=by
 induction x with
 | pure a=>intro Q X h;exact⟨#[],fun w=>by simp [Sem.events_pure'],by simp,.inl ⟨a,h,fun w=>rfl⟩⟩
 | load m a k K=>intro Q X h;obtain⟨_,v,W,_⟩:=h;simp [St.cell?,St.get,St.quiet] at W
 | store m a v k K=>intro Q X h;obtain⟨_,_,o,Z,_⟩:=h;cases Z
 | new o k K=>intro Q X h;cases h.1
 | shape r k K=>intro Q X h;obtain⟨o,O,_⟩:=h;simp [St.get,St.quiet] at O
 | freeze a n k K=>intro Q X h;exact h.elim
 | frozen a k K=>intro Q X h;obtain⟨o,O,_⟩:=h;simp [St.get,St.quiet] at O
 | getObj r k K=>intro Q X h;obtain⟨o,O,_⟩:=h;simp [St.get,St.quiet] at O
 | setObj r o k K=>intro Q X h;obtain⟨⟨o,O,_⟩,_⟩:=h;cases O
 | choose q k K=>
  intro Q X h;simp only [lp] at h;by_cases U:q.forced
  ·rw [if_pos U] at h;have V:∀w,(Sem.choose q k).run P w=(k 0).run P w:=fun w=>by simp [Sem.run,U]
   have e2:∀w,(Sem.choose q k).events P w #[]=(k 0).events P w #[]:=fun w=>by simp only [Sem.events,Sem.runT];rw [if_pos U]
   simpa only [V,e2] using K _ h
  ·rw [if_neg U] at h;cases h.1
 | sys c k K=>intro Q X h;exact h.elim
 | program k K=>
  intro Q X h;have V:∀w,(Sem.program k).run P w=(k P).run P w:=fun w=>by simp [Sem.run]
  have e2:∀w,(Sem.program k).events P w #[]=(k P).events P w #[]:=fun w=>by simp only [Sem.events,Sem.runT]
  simpa only [V,e2] using K _ h
 | mark m k K=>
  intro Q X h;obtain⟨hm,h⟩:=h;obtain⟨es,O,W,Z⟩:=K h;have V:∀w,(Sem.mark m k).run P w=k.run P w:=fun w=>by simp [Sem.run]
  have e2:∀w,(Sem.mark m k).events P w #[]= #[⟨.mark m,false,true⟩]++k.events P w #[]:=fun w=>by rw [← Sem.events_acc];simp only [Sem.events,Sem.runT];rfl
  refine⟨#[⟨.mark m,false,true⟩]++es,fun w=>by rw [e2,O],fun e he=>?_,by simpa only [V] using Z⟩;rcases Array.mem_append.1 he with he | he
  ·simp at he;subst he;rcases hm with⟨U,_⟩ | hm
   ·cases U
   ·obtain⟨f,rfl⟩:=hm;exact⟨f,rfl⟩
  ·exact W e he
 | halt h=>intro Q X aa;exact⟨#[],fun w=>by simp [Sem.events_halt],by simp,.inr ⟨h,aa,fun w=>rfl⟩⟩
end Pal
namespace Pal
open Go Go.Conc
def Sn(P:Program)(main:Bool)(g:Goroutine)(s:St)(K:Gs_):Prop:=
 g.status= .running∧(∀w,Fits s w→
  ∃g' s' w' es,stepG P main g w= .go g' w' es∧K g' s'∧Fits s' w'∧Fr s w s' w'∧(∀e∈es,Ev s w w' e))∧
  (s= .quiet→∃g',(∀w,stepG P main g w= .go g' w #[])∧K g' .quiet)
structure Cv (s s₀:St):Prop where
 ext:∀b o,s.E b=some o→s₀.E b=some o
 own:∀b o,s₀.H b=some o→s.H b=some o
 Eh:∀b o,s₀.E b=some o→s.E b=some o∨(s.H b=some o∧s₀.H b=none)
 q:s₀.q=s.q
theorem Cv.refl(s:St):Cv s s:=⟨fun _ _ h=>h,fun _ _ h=>h,fun _ _ h=> .inl h,rfl⟩
theorem Cv.fits{s s₀:St}(g:Cv s s₀){w:World}(f:Fits s w):Fits s₀ w where
 e b o h:=by
  rcases g.Eh b o h with x | x
  ·exact f.e _ _ x
  ·exact f.h _ _ x.1
 h b o h:=f.h _ _ (g.own _ _ h)
 d b h:=by
  cases K:s₀.E b with
  | none=>exact absurd K h
  | some o=>
   rcases g.Eh b o K with x | x
   ·cases O:s₀.H b with
    | none=>rfl
    | some y=>have:=g.own _ _ O;rw [f.d b (by rw [x];simp)] at this;cases this
   ·exact x.2
theorem Hj{α:Type}{x:Option α}(h:x≠none):∃a,x=some a:=by cases x <;> simp at h;exact⟨_,rfl⟩
theorem Cv.fr{s s₀ s':St}{w w':World}(g:Cv s s₀)(f:Fr s₀ w s' w'):Fr s w s' w' where
 size:=f.size
 keep b hb O:=f.keep b hb (by
  cases h:s₀.H b with
  | none=>rfl
  | some o=>rw [g.own _ _ h] at O;cases O)
 own b hb:=(f.own b hb).imp (fun h=>by obtain⟨o,K⟩:=Hj h;rw [g.own _ _ K];simp) id
 ext b o h:=f.ext _ _ (g.ext _ _ h)
 Eh b hb:=by
  rcases f.Eh b hb with h | h | h
  ·obtain⟨o,K⟩:=Hj h;rcases g.Eh _ _ K with x | x
   ·exact .inl (by rw [x];simp)
   ·exact .inr (.inl (by rw [x.1];simp))
  ·obtain⟨o,K⟩:=Hj h;exact .inr (.inl (by rw [g.own _ _ K];simp))
  ·exact .inr (.inr h)
 tape:=f.tape
 os:=f.os
 output:=f.output
theorem Cv.F7{s s₀:St}{w w':World}{b:Nat}{wr:Bool}(g:Cv s s₀)(t:F7 s₀ w w' b wr):F7 s w w' b wr:=by
 refine⟨t.1,?_⟩;rcases t.2 with h | h | ⟨h,hw⟩
 ·obtain⟨o,K⟩:=Hj h;exact .inl (by rw [g.own _ _ K];simp)
 ·exact .inr (.inl h)
 ·obtain⟨o,K⟩:=Hj h;rcases g.Eh _ _ K with x | x
  ·exact .inr (.inr ⟨by rw [x];simp,hw⟩)
  ·exact .inl (by rw [x.1];simp)
theorem Cv.ev{s s₀:St}{w w':World}{e:Event}(g:Cv s s₀)(t:Ev s₀ w w' e):Ev s w w' e:=by
 unfold Ev at t ⊢;split <;> rename_i he <;> simp only [he] at t
 ·exact⟨t.1,g.F7 t.2⟩
 ·exact⟨t.1,g.F7 t.2⟩
 ·trivial
 ·trivial
theorem Cv.quiet{s₀:St}(g:Cv .quiet s₀):s₀= .quiet:=by
 obtain⟨E,H,q⟩:=s₀;have K:E=fun _=>none:=by
  funext b;cases h:E b with
  | none=>rfl
  | some o=>rcases g.Eh b o h with x | ⟨x,_⟩ <;> cases x
 have O:H=fun _=>none:=by
  funext b;cases h:H b with
  | none=>rfl
  | some o=>cases g.own b o h
 have U:q=true:=g.q;subst K O U;rfl
inductive Rk:Type where
 | leaf:Rk
 | node (f:World→Rk):Rk
def Rk.sub(a b:Rk):Prop:=∃f w,b= .node f∧a=f w
theorem Rk.wf:WellFounded Rk.sub:=⟨fun r=>by
 induction r with
 | leaf=>exact⟨_,fun a ⟨f,w,h,_⟩=>by cases h⟩
 | node f K=>exact⟨_,fun a ⟨g,w,h,e⟩=>by cases h;subst e;exact K w⟩⟩
def Jr(P:Program)(main:Bool)(Q:Gs_):Rk→Gs_
 | .leaf,g,s=>Q g s
 | .node f,g,s=>Q g s∨(g.status= .running∧∀w,Fits s w→
  ∃g' s' w' es,stepG P main g w= .go g' w' es∧Jr P main Q (f w) g' s'∧Fits s' w'∧Fr s w s' w'∧(∀e∈es,Ev s w w' e)∧(s= .quiet→s'= .quiet∧w'=w∧es= #[]))
structure Judge (P:Program) where
 main:Bool
 ok:(Gs_)→Gs_
 stop:∀{Q g s},Q g s→ok Q g s
 step:∀{Q g s},Sn P main g s (ok Q)→ok Q g s
 trans:∀{Q R g s},ok Q g s→(∀g' s',Q g' s'→ok R g' s')→ok R g s
 ghost:∀{Q g s s₀},Cv s s₀→ok Q g s₀→ok Q g s
def JQ(Q:Gs_)(g:Goroutine)(s:St):Prop:=∃s₀,Cv s s₀∧Q g s₀
theorem Cv.trans{a b c:St}(h:Cv a b)(k:Cv b c):Cv a c where
 ext x o y:=k.ext _ _ (h.ext _ _ y)
 own x o y:=h.own _ _ (k.own _ _ y)
 Eh x o y:=by
  rcases k.Eh x o y with z | z
  ·rcases h.Eh x o z with u | u
   ·exact .inl u
   ·refine .inr ⟨u.1,?_⟩;cases K:c.H x with
    | none=>rfl
    | some v=>have:=k.own _ _ K;rw [u.2] at this;cases this
  ·exact .inr ⟨h.own _ _ z.1,z.2⟩
 q:=k.q.trans h.q
def BB(P:Program)(main:Bool):Judge P where
 main:=main
 ok Q g s:=∃r,Jr P main (JQ Q) r g s
 stop h:=⟨.leaf,_,.refl _,h⟩
 step {Q g s} h:=by
  obtain⟨U,h,hu⟩:=h;have aa:∀w,∃r:Rk,Fits s w→∃g' s' w' es,stepG P main g w= .go g' w' es∧Jr P main (JQ Q) r g' s'∧Fits s' w'∧Fr s w s' w'∧(∀e∈es,Ev s w w' e)∧(s= .quiet→s'= .quiet∧w'=w∧es= #[]):=by
   intro w;by_cases f:Fits s w
   ·by_cases e:s= .quiet
    ·obtain⟨g',K,r,O⟩:=hu e;exact⟨r,fun _=>⟨g',.quiet,w,#[],K w,O,e▸f,e▸ .refl _ _,by simp,fun _=>⟨rfl,rfl,rfl⟩⟩⟩
    ·obtain⟨g',s',w',es,K,⟨r,O⟩,W,ab,ae⟩:=h w f;exact⟨r,fun _=>⟨g',s',w',es,K,O,W,ab,ae,fun x=>absurd x e⟩⟩
   ·exact⟨.leaf,fun x=>absurd x f⟩
  exact⟨.node fun w=>Classical.choose (aa w),.inr ⟨U,fun w f=>Classical.choose_spec (aa w) f⟩⟩
 trans {Q R g s} h k:=by
  obtain⟨r,h⟩:=h;have ah:∀(r:Rk) {g:Goroutine} {s s₀:St},Cv s s₀→Jr P main (JQ R) r g s₀→Jr P main (JQ R) r g s:=by
   intro r g s s₀ hg V;cases r with
   | leaf=>obtain⟨Z,K,O⟩:=V;exact⟨Z,hg.trans K,O⟩
   | node f=>
    rcases V with⟨Z,K,O⟩ | ⟨U,V⟩
    ·exact .inl ⟨Z,hg.trans K,O⟩
    ·exact .inr ⟨U,fun w f=>let ⟨g',s',w',es,K,O,W,ab,ae,ag⟩:=V w (hg.fits f);⟨g',s',w',es,K,O,W,hg.fr ab,fun e he=>hg.ev (ae e he),fun e=>ag (by subst e;exact hg.quiet)⟩⟩
  induction r generalizing g s with
  | leaf=>
   obtain⟨s₀,K,O⟩:=h;obtain⟨r,U⟩:=k _ _ O;exact⟨r,ah r K U⟩
  | node f aj=>
   rcases h with⟨s₀,K,O⟩ | ⟨U,h⟩
   ·obtain⟨r,U⟩:=k _ _ O;exact⟨r,ah r K U⟩
   ·have aa:∀w,∃r:Rk,Fits s w→∃g' s' w' es,stepG P main g w= .go g' w' es∧Jr P main (JQ R) r g' s'∧Fits s' w'∧Fr s w s' w'∧(∀e∈es,Ev s w w' e)∧(s= .quiet→s'= .quiet∧w'=w∧es= #[]):=by
     intro w;by_cases ai:Fits s w
     ·obtain⟨g',s',w',es,K,O,W⟩:=h w ai;obtain⟨r,U⟩:=aj w O;exact⟨r,fun _=>⟨g',s',w',es,K,U,W⟩⟩
     ·exact⟨.leaf,fun x=>absurd x ai⟩
    exact⟨.node fun w=>Classical.choose (aa w),.inr ⟨U,fun w f=>Classical.choose_spec (aa w) f⟩⟩
 ghost {Q g s s₀} hg h:=by
  obtain⟨r,V⟩:=h;refine⟨r,?_⟩;cases r with
  | leaf=>obtain⟨Z,K,O⟩:=V;exact⟨Z,hg.trans K,O⟩
  | node f=>
   rcases V with⟨Z,K,O⟩ | ⟨U,V⟩
   ·exact .inl ⟨Z,hg.trans K,O⟩
   ·exact .inr ⟨U,fun w f=>let ⟨g',s',w',es,K,O,W,ab,ae,ag⟩:=V w (hg.fits f);⟨g',s',w',es,K,O,W,hg.fr ab,fun e he=>hg.ev (ae e he),fun e=>ag (by subst e;exact hg.quiet)⟩⟩
def Lv(P:Program)(Q:Gs_):Nat→Goroutine→Prop
 | 0,g=>Q g .quiet
 | n+1,g=>Q g .quiet∨(g.status= .running∧∃g',(∀w,stepG P false g w= .go g' w #[])∧Lv P Q n g')
def Gz(P:Program):Judge P where
 main:=false
 ok Q g s:=s= .quiet→∃n,Lv P Q n g
 stop h e:=⟨0,by subst e;exact h⟩
 step {Q g s} h e:=by
  obtain⟨g',K,O⟩:=h.2.2 e;obtain⟨n,U⟩:=O rfl;exact⟨n+1,.inr ⟨h.1,g',K,U⟩⟩
 trans {Q R g s} h k e:=by
  obtain⟨n,U⟩:=h e;have:∀n g,Lv P Q n g→∃m,Lv P R m g:=by
   intro n
   induction n with
   | zero=>intro g h;exact k _ _ h rfl
   | succ n V=>
    intro g h;rcases h with h | ⟨W,g',K,O⟩
    ·exact k _ _ h rfl
    ·obtain⟨m,hm⟩:=V g' O;exact⟨m+1,.inr ⟨W,g',K,hm⟩⟩
  exact this n g U
 ghost {Q g s s₀} hg h e:=by subst e;exact h hg.quiet
end Pal
namespace Pal
open Go Go.Conc
def fr(b:Frame)(T:AA)(ds:Ld_)(todo:Li_):Frame:={b with tmps:=T,todo:=todo,defers:=ds,mode:= .run}
def ED(b:Frame)(T:AA)(ds:Ld_)(todo:Li_):Frame:={b with tmps:=T,todo:=todo,defers:=ds,mode:= .returning}
def BO(T:AA):Operand→Value
 | .tmp t=>T.getD t undef
 | .const v=>v
 | .global g=> .pointer (some ⟨g,0,none⟩)
 | .func f=> .func (.func f) #[] #[]
abbrev Env:=List (Nat×Value)
def look:Env→Nat→Option Value
 | [],_=>none
 | (t,v)::L,u=>if t=u then some v else look L u
def ev(L:Env):Operand→Option Value
 | .tmp t=>look L t
 | .const v=>some v
 | .global g=>some (.pointer (some ⟨g,0,none⟩))
 | .func f=>some (.func (.func f) #[] #[])
structure Has (n:Nat) (L:Env) (T:AA):Prop where
 size:T.size=n
 at_:∀t v,look L t=some v→T.getD t undef=v
theorem Has.ev{n:Nat}{L:Env}{T:AA}(h:Has n L T){x:Operand}{v:Value}(e:ev L x=some v):BO T x=v:=by
 cases x with
 | tmp t=>exact h.at_ t v e
 | const u=>cases e;rfl
 | global g=>cases e;rfl
 | func f=>cases e;rfl
def CU(T:AA):Option Tmp→Value→AA
 | some d,v=>T.setIfInBounds d v
 | none,_=>T
def AF(L:Env):Option Tmp→Value→Env
 | some d,v=>(d,v)::L
 | none,_=>L
def BE(n:Nat):Option Tmp→Bool
 | some d=>d<n
 | none=>true
theorem U1(T:AA)(d:Nat)(v:Value)(h:d<T.size)(t:Nat):(T.setIfInBounds d v).getD t undef=if d=t then v else T.getD t undef:=by
 by_cases e:d=t
 ·subst e;simp [Array.getD_eq_getD_getElem?,h]
 ·simp [Array.getD_eq_getD_getElem?,e]
theorem Has.put{n:Nat}{L:Env}{T:AA}(h:Has n L T){d:Option Tmp}(hd:BE n d=true)(v:Value):Has n (AF L d v) (CU T d v):=by
 cases d with
 | none=>exact h
 | some d=>
  have K:d<T.size:=by rw [h.size];simpa [BE] using hd
  refine⟨by simp [CU,h.size],fun t u hu=>?_⟩;simp only [CU,U1 T d v K];simp only [AF,look] at hu;split at hu
  ·rename_i e;rw [if_pos e];exact Option.some.inj hu
  ·rename_i e;rw [if_neg e];exact h.at_ t u hu
def Sub:Env→Env→Prop
 | [],_=>True
 | (t,v)::L',L=>look L t=some v∧Sub L' L
theorem Sub.look{L:Env}:∀{L':Env},Sub L' L→∀t v,look L' t=some v→Pal.look L t=some v
 | [],_,t,v,e=>by simp [Pal.look] at e
 | (u,w)::L',h,t,v,e=>by
  simp only [Pal.look] at e
  split at e
  ·rename_i K;subst K;cases e;exact h.1
  ·exact Sub.look h.2 t v e
theorem Has.sub{n:Nat}{L L':Env}{T:AA}(h:Has n L T)(s:Sub L' L):Has n L' T:=⟨h.size,fun t v e=>h.at_ t v (s.look t v e)⟩
section
variable {P:Program}(J:Judge P)(Q:Gs_)
def JL(b:Frame)(n:Nat)(L:Env)(ds:Ld_)(todo:Li_)(cs:Lf_)(s:St):Prop:=
 ∀T,Has n L T→J.ok Q (G (fr b T ds todo) cs) s
end
section
variable {P:Program}{J:Judge P}{Q:Gs_}{b:Frame}{n:Nat}{L L':Env}{ds:Ld_}{k:Li_}{cs:Lf_}{s s':St}
theorem Judge.Dw{g g':Goroutine}(K:g.status= .running)(h:∀w,stepG P J.main g w= .go g' w)(k:J.ok Q g' s):J.ok Q g s:=
 J.step ⟨K,fun w f=>⟨g',s,w,#[],h w,k,f,.refl _ _,by simp⟩,fun e=>⟨g',h,e▸k⟩⟩
theorem Fg(h:Sub L' L)(k':JL J Q b n L' ds k cs s):JL J Q b n L ds k cs s:=fun T K=>k' T (K.sub h)
theorem JL.ghost(h:Cv s s')(k':JL J Q b n L ds k cs s'):JL J Q b n L ds k cs s:=fun T K=>J.ghost h (k' T K)
theorem JL.skip(h:JL J Q b n L ds k cs s):JL J Q b n L ds (.code .skip::k) cs s:=fun T K=>Judge.Dw rfl (fun w=>by simp [G,stepG,stepG.exec,fr]) (h T K)
theorem JL.label{l:Nat}(h:JL J Q b n L ds k cs s):JL J Q b n L ds (.code (.label l)::k) cs s:=fun T K=>Judge.Dw rfl (fun w=>by simp [G,stepG,stepG.exec,fr]) (h T K)
theorem NZ{i:Nat}(h:JL J Q b n L ds k cs s):JL J Q b n L ds (.inBlock i::k) cs s:=fun T K=>Judge.Dw rfl (fun w=>by simp [G,stepG,stepG.exec,fr]) (h T K)
theorem TG{c:Code}(h:JL J Q b n L ds k cs s):JL J Q b n L ds (.inScope c::k) cs s:=fun T K=>Judge.Dw rfl (fun w=>by simp [G,stepG,stepG.exec,fr]) (h T K)
theorem JL.seq{x y:Code}(h:JL J Q b n L ds (.code x:: .code y::k) cs s):JL J Q b n L ds (.code (.seq x y)::k) cs s:=fun T K=>Judge.Dw rfl (fun w=>by simp [G,stepG,stepG.exec,fr]) (h T K)
theorem JL.block{i:Nat}{c:Code}(h:JL J Q b n L ds (.code c:: .inBlock i::k) cs s):JL J Q b n L ds (.code (.block i c)::k) cs s:=fun T K=>Judge.Dw rfl (fun w=>by simp [G,stepG,stepG.exec,fr]) (h T K)
theorem JL.scope{c:Code}(h:JL J Q b n L ds (.code c:: .inScope c::k) cs s):JL J Q b n L ds (.code (.scope c)::k) cs s:=fun T K=>Judge.Dw rfl (fun w=>by simp [G,stepG,stepG.exec,fr]) (h T K)
theorem Jl{c:Code}(h:JL J Q b n L ds (.code c:: .inLoop c::k) cs s):JL J Q b n L ds (.code (.loop c)::k) cs s:=fun T K=>Judge.Dw rfl (fun w=>by simp [G,stepG,stepG.exec,fr]) (h T K)
theorem JL.again{c:Code}(h:JL J Q b n L ds (.code c:: .inLoop c::k) cs s):JL J Q b n L ds (.inLoop c::k) cs s:=fun T K=>Judge.Dw rfl (fun w=>by simp [G,stepG,stepG.exec,fr]) (h T K)
theorem JL.exit{i:Nat}{k':Li_}(K:exitTo i k=some k')(h:JL J Q b n L ds k' cs s):JL J Q b n L ds (.code (.exit i)::k) cs s:=fun T O=>Judge.Dw rfl (fun w=>by simp [G,stepG,stepG.exec,fr,K]) (h T O)
theorem JL.goto{l:Nat}{k':Li_}(K:gotoIn l k=some k')(h:JL J Q b n L ds k' cs s):JL J Q b n L ds (.code (.goto l)::k) cs s:=fun T O=>Judge.Dw rfl (fun w=>by simp [G,stepG,stepG.exec,fr,K]) (h T O)
theorem Rz(T:AA)(todo:Li_)(x:Operand):(fr b T ds todo).eval x=BO T x:=by cases x <;> rfl
theorem QR(T:AA)(todo:Li_):(fr b T ds todo).eval=BO T:=funext (Rz T todo)
theorem JL.cond{c:Operand}{x y:Code}{t:Bool}(U:ev L c=some (.bool t))(h:JL J Q b n L ds (.code (if t then x else y)::k) cs s):JL J Q b n L ds (.code (.cond c x y)::k) cs s:=fun T O=>
 Judge.Dw rfl (fun w=>by
  have K:=Rz (b:=b) (ds:=ds) T (.code (.cond c x y)::k) c
  rw [O.ev U] at K
  simp only [fr] at K
  simp [G,stepG,stepG.exec,fr,K]) (h T O)
theorem UQ{c:Operand}{x y:Code}(K:ev L c=some (.bool true))(h:JL J Q b n L ds (.code x::k) cs s):JL J Q b n L ds (.code (.cond c x y)::k) cs s:=JL.cond K h
theorem UR{c:Operand}{x y:Code}(K:ev L c=some (.bool false))(h:JL J Q b n L ds (.code y::k) cs s):JL J Q b n L ds (.code (.cond c x y)::k) cs s:=JL.cond K h
theorem QF{c:Operand}{x y:Code}{t:Bool}(K:ev L c=some (.bool t))(O:t=true→JL J Q b n L ds (.code x::k) cs s)(U:t=false→JL J Q b n L ds (.code y::k) cs s):JL J Q b n L ds (.code (.cond c x y)::k) cs s:=by
 cases t
 ·exact JL.cond K (U rfl)
 ·exact JL.cond K (O rfl)
theorem OG{c:Operand}{x y:Code}{p:Prop} [Decidable p] (K:ev L c=some (.bool (decide p)))(O:p→JL J Q b n L ds (.code x::k) cs s)(U:¬p→JL J Q b n L ds (.code y::k) cs s):JL J Q b n L ds (.code (.cond c x y)::k) cs s:=
 QF K (fun h=>O (of_decide_eq_true h)) (fun h=>U (of_decide_eq_false h))
theorem JL.region{id:Nat}{ops:Ao_}(h:JL J Q b n L ds (.inRegion ops (List.range ops.size)::k) cs s):JL J Q b n L ds (.code (.region id ops false)::k) cs s:=fun T K=>Judge.Dw rfl (fun w=>by simp [G,stepG,stepG.exec,fr]) (h T K)
theorem JL.done{ops:Ao_}(h:JL J Q b n L ds k cs s):JL J Q b n L ds (.inRegion ops []::k) cs s:=fun T K=>Judge.Dw rfl (fun w=>by simp [G,stepG,stepG.exec,fr]) (h T K)
theorem Rt{id:Nat}{ops:Ao_}(K:s.q=false)(hm:P.follows .mixedOrders=true)(h:∀t,JL J Q b n L ds (.inRegion ops (Region.linearise .any ops t)::k) cs s):JL J Q b n L ds (.code (.region id ops true)::k) cs s:=fun T O=>by
 refine J.step ⟨rfl,fun w f=>⟨_,s,{w with drawn:=w.drawn+1},#[],?_,h (w.tape w.drawn (.order b.fn id)) T O,⟨f.e,f.h,f.d⟩,⟨Nat.le_refl _,fun _ _ _=>rfl,fun _ h=> .inl h,fun _ _ h=>h,fun _ h=> .inl h,rfl,rfl,rfl⟩,by simp⟩,fun e=>by subst e;cases K⟩
 simp [G,stepG,stepG.exec,fr,choose,Sem.run,Question.forced,Question.cut,Region.schedule,hm]
theorem Gm(T:AA)(ops:Ao_)(i:Nat)(rest:List Nat)(v:Value)(o:Oper)(K:ops[i]? =some o):
  (fr b T ds (.inRegion ops (i::rest)::k)).finish v=fr b (CU T o.dst v) ds (.inRegion ops rest::k):=by
 cases hd:o.dst <;> simp [Frame.finish,fr,K,hd,CU]
theorem stepG_op{main:Bool}{T:AA}{ops:Ao_}{i:Nat}{rest:List Nat}{o:Oper}{w:World}(K:ops[i]? =some o)(hw:Region.wanted o (yielded ops T)=true):
  stepG P main (G (fr b T ds (.inRegion ops (i::rest)::k)) cs) w=
   match b.roundOf,o.op with
   | some l,.defer c=>stepG.apply P true (fr b T ds (.inRegion ops (i::rest)::k)) cs none (do Instr.deferInRound l (← resolve (BO T) c o.type);pure .skip) w
   | _,_=>stepG.apply P true (fr b T ds (.inRegion ops (i::rest)::k)) cs none (execOp (BO T) o) w:=by
 have he:=QR (b:=b) (ds:=ds) T (.inRegion ops (i::rest)::k);simp only [fr] at he;simp only [G,stepG,stepG.exec,fr,K,Option.map_some,Option.getD_some,hw,if_true,stepG.oper,Frame.oper?,he]
 rfl
theorem Fj(T:AA)(todo:Li_):(fr b T ds todo).fn=b.fn:=rfl
theorem G4(T:AA)(todo:Li_):(fr b T ds todo).todo=todo:=rfl
def upon(J:Judge P)(Q:Gs_)(b:Frame)(T:AA)(ds:Ld_)(ops:Ao_)(i:Nat)(rest:List Nat)(k:Li_)(cs:Lf_)(dst:Option Tmp):Next→St→Prop
 | .value v,s=>J.ok Q (G (fr b (CU T dst v) ds (.inRegion ops rest::k)) cs) s
 | .skip,s=>J.ok Q (G (fr b (CU T dst undef) ds (.inRegion ops rest::k)) cs) s
 | .defer d,s=>J.ok Q (G (fr b (CU T dst undef) (d::ds) (.inRegion ops rest::k)) cs) s
 | .enter f args,s=>J.ok Q (G (Frame.enter P f args .normal) (fr b T ds (.inRegion ops (i::rest)::k)::cs)) s
 | .round l f tmps assign body,s=>J.ok Q (G (Frame.round l f tmps assign body .normal) (fr b T ds (.inRegion ops (i::rest)::k)::cs)) s
 | _,_=>False
def Nk(J:Judge P)(Q:Gs_)(b:Frame)(T:AA)(ds:Ld_)(ops:Ao_)(i:Nat)(rest:List Nat)(k:Li_)(cs:Lf_):Halt→St→Prop
 | .panic v,s=>J.ok Q (G ((fr b T ds (.inRegion ops (i::rest)::k)).raise [{v,recovered:=false}]) cs) s
 | _,_=>False
theorem OC{s:St}{w w':World}{fn:FuncId}{es:Array Event}(h:∀e∈es,Ev s w w' e):∀e∈seen P fn es,Ev s w w' e:=fun e he=>h e (mem_seen he)
theorem Judge.oper{T:AA}{ops:Ao_}{i:Nat}{rest:List Nat}{o:Oper}(ab:ops[i]? =some o)(hw:Region.wanted o (yielded ops T)=true)(aj:b.kind≠ .early)
  (hd:b.roundOf=none∨∀c,o.op≠ .defer c)
  (h:lp P (execOp (BO T) o) s (upon J Q b T ds ops i rest k cs o.dst) (Nk J Q b T ds ops i rest k cs)):
  J.ok Q (G (fr b T ds (.inRegion ops (i::rest)::k)) cs) s:=by
 have U:((fr b T ds (.inRegion ops (i::rest)::k)).kind==CallKind.early)=false:=by simpa [fr] using aj
 have ah:∀w,stepG P J.main (G (fr b T ds (.inRegion ops (i::rest)::k)) cs) w=stepG.apply P true (fr b T ds (.inRegion ops (i::rest)::k)) cs none (execOp (BO T) o) w:=by
  intro w;rw [stepG_op ab hw];split
  ·rename_i l c ai e2;rcases hd with hd | hd
   ·rw [hd] at ai;cases ai
   ·exact absurd e2 (hd c)
  ·rfl
 refine J.step ⟨rfl,fun w f=>?_,fun e=>?_⟩
 rotate_left
 ·subst e;simp only [ah];have ae:=fun v=>Gm (b:=b) (ds:=ds) (k:=k) T ops i rest v o ab;obtain⟨es,he,V,h⟩:=Oj _ h;have aa:seen P b.fn es= #[]:=NT V;rcases h with⟨nx,K,O⟩ | ⟨x,K,O⟩
  ·cases nx with
   | value v=>exact⟨_,fun w=>by simp [stepG.apply,O,U,GStep.after,G,ae,Fj,he,aa],K⟩
   | skip=>exact⟨_,fun w=>by simp [stepG.apply,O,U,GStep.after,G,ae,Fj,he,aa],K⟩
   | enter g args=>exact⟨_,fun w=>by simp [stepG.apply,O,U,GStep.after,G,Fj,G4,he,aa],K⟩
   | round l g ak as al=>exact⟨_,fun w=>by simp [stepG.apply,O,U,GStep.after,G,Fj,G4,he,aa],K⟩
   | defer d=>
    have ag:=Gm (b:=b) (ds:=d::ds) (k:=k) T ops i rest undef o ab;exact⟨_,fun w=>by rw [← ag];simp [stepG.apply,O,U,GStep.after,G,Fj,G4,he,aa];rfl,K⟩
   | _=>exact K.elim
  ·cases x with
   | panic v=>exact⟨_,fun w=>by simp [stepG.apply,O,U,GStep.after,G,Fj,G4,he,aa],K⟩
   | _=>exact K.elim
 obtain⟨s',W,Z,am,K⟩:=Mj _ h f;rw [ah];have V:=OC (P:=P) (fn:=b.fn) am;have ae:=fun v=>Gm (b:=b) (ds:=ds) (k:=k) T ops i rest v o ab;cases O:(execOp (BO T) o).run P w with
 | ok nx w'=>
  rw [O] at W Z K V;simp only [I8] at W Z V;cases nx with
  | value v=>exact⟨_,s',w',seen P b.fn ((execOp (BO T) o).events P w #[])++ #[],by simp [stepG.apply,O,U,GStep.after,G,ae,Fj],K,W,Z,by simpa using V⟩
  | skip=>exact⟨_,s',w',seen P b.fn ((execOp (BO T) o).events P w #[])++ #[],by simp [stepG.apply,O,U,GStep.after,G,ae,Fj],K,W,Z,by simpa using V⟩
  | enter g args=>exact⟨_,s',w',seen P b.fn ((execOp (BO T) o).events P w #[])++ #[],by simp [stepG.apply,O,U,GStep.after,G,Fj,G4],K,W,Z,by simpa using V⟩
  | round l g ak as al=>exact⟨_,s',w',seen P b.fn ((execOp (BO T) o).events P w #[])++ #[],by simp [stepG.apply,O,U,GStep.after,G,Fj,G4],K,W,Z,by simpa using V⟩
  | defer d=>
   have ag:=Gm (b:=b) (ds:=d::ds) (k:=k) T ops i rest undef o ab;exact⟨_,s',w',seen P b.fn ((execOp (BO T) o).events P w #[])++ #[],by
    rw [← ag];simp [stepG.apply,O,U,GStep.after,G,Fj,G4];rfl,K,W,Z,by simpa using V⟩
  | _=>exact K.elim
 | halt x w'=>
  rw [O] at W Z K V;simp only [I8] at W Z V;cases x with
  | panic v=>exact⟨_,s',w',seen P b.fn ((execOp (BO T) o).events P w #[])++ #[],by simp [stepG.apply,O,U,GStep.after,G,Fj,G4],K,W,Z,by simpa using V⟩
  | _=>exact K.elim
theorem Judge.unwanted{T:AA}{ops:Ao_}{i:Nat}{rest:List Nat}{o:Oper}(K:ops[i]? =some o)(hw:Region.wanted o (yielded ops T)=false)
  (h:J.ok Q (G (fr b (CU T o.dst undef) ds (.inRegion ops rest::k)) cs) s):J.ok Q (G (fr b T ds (.inRegion ops (i::rest)::k)) cs) s:=by
 refine Judge.Dw rfl (fun w=>?_) h;have O:=Gm (b:=b) (ds:=ds) (k:=k) T ops i rest undef o K;rw [← O];simp [G,stepG,stepG.exec,fr,K,hw]
end
end Pal
namespace Pal
open Go Go.Conc
def Yl(P:Program)(o:Oper)(ρ:Operand→Value)(s:St)(v:Value):Prop:=lp P (execOp ρ o) s (fun nx s'=>nx= .value v∧s'=s) (fun _ _=>False)
def EL(L:Env)(ρ:Operand→Value):Prop:=∀x v,ev L x=some v→ρ x=v
def Bi(L:Env)(ops:Ao_)(o:Oper):Option Bool:=
 match o.guard with
 | none=>some true
 | some (j,K)=>match(ops[j]?).bind (·.dst) with
  | some d=>match look L d with
   | some (.bool b)=>some (b==K)
   | some (.tuple _)=>some false
   | _=>none
  | none=>none
section
variable {P:Program}{J:Judge P}{Q:Gs_}{b:Frame}{n:Nat}{L L':Env}{ds:Ld_}{k:Li_}{cs:Lf_}{s s':St}
theorem Has.Gs{T:AA}(h:Has n L T):EL L (BO T):=fun _ _ e=>h.ev e
theorem getD_some{T:AA}{d:Nat}{c:Bool}(h:T.getD d undef= .bool c):T[d]? =some (.bool c):=by
 rw [Array.getD_eq_getD_getElem?] at h;cases K:T[d]? with
 | none=>rw [K] at h;simp [undef] at h
 | some v=>rw [K] at h;simp at h;rw [h]
theorem Dj{T:AA}{ops:Ao_}{o:Oper}{c:Bool}(h:Has n L T)(hw:Bi L ops o=some c):Region.wanted o (yielded ops T)=c:=by
 unfold Bi at hw;unfold Region.wanted;cases hg:o.guard with
 | none=>rw [hg] at hw;simpa using hw
 | some p=>
  obtain⟨j,U⟩:=p;rw [hg] at hw;simp only at hw ⊢;cases hd:(ops[j]?).bind (·.dst) with
  | none=>rw [hd] at hw;simp at hw
  | some d=>
   rw [hd] at hw;simp only at hw;cases K:look L d with
   | none=>rw [K] at hw;simp at hw
   | some v=>
    rw [K] at hw;cases v with
    | bool x=>
     simp only [Option.some.injEq] at hw;have:=getD_some (h.at_ d _ K);simp only [yielded,hd,Option.bind_some,this];simp [← hw]
    | tuple c=>
     simp only [Option.some.injEq] at hw;have hg:=h.at_ d _ K;simp only [yielded,hd,Option.bind_some];cases O:T[d]? with
     | none=>simp [← hw]
     | some u=>
      have:u= .tuple c:=by rw [Array.getD_eq_getD_getElem?,O] at hg;exact hg
      subst this;simp [← hw]
    | _=>simp at hw
def Dx:Op→Bool | .defer _=>true | _=>false
def CZ(b:Frame)(n:Nat)(o:Oper):Bool:=(b.kind != .early)&&(BE n o.dst&& !Dx o.op)
theorem Yl.out{P:Program}{o:Oper}{ρ:Operand→Value}{s:St}{v:Value}(h:Yl P o ρ s v):Pal.lp P (execOp ρ o) s (fun nx s'=>nx= .value v∧s'=s) (fun _ _=>False):=by unfold Yl at h;exact h
theorem Bc{ops:Ao_}{i:Nat}{rest:List Nat}{o:Oper}{v:Value}(U:ops[i]? =some o)(hw:Bi L ops o=some true)(K:CZ b n o=true)
  (h:∀ρ,EL L ρ→Yl P o ρ s v) (V:JL J Q b n (AF L o.dst v) ds (.inRegion ops rest::k) cs s):
  JL J Q b n L ds (.inRegion ops (i::rest)::k) cs s:=fun T O=>by
 simp only [CZ,Bool.and_eq_true] at K
 obtain⟨K,W,hd⟩:=K
 refine Judge.oper U (Dj O hw) (by simpa using K) (.inr fun c Z=>by rw [Z] at hd;simp [Dx] at hd) (Dv _ (h _ O.Gs).out ?_ ?_)
 ·rintro nx s' ⟨rfl,rfl⟩
  exact V _ (O.put W v)
 ·intro _ _ aa;exact aa.elim
theorem S2{ops:Ao_}{i:Nat}{rest:List Nat}{o:Oper}(O:ops[i]? =some o)(hw:Bi L ops o=some false)(U:BE n o.dst=true)
  (V:JL J Q b n (AF L o.dst undef) ds (.inRegion ops rest::k) cs s):
  JL J Q b n L ds (.inRegion ops (i::rest)::k) cs s:=fun _ K=>
 Judge.unwanted O (Dj K hw) (V _ (K.put U undef))
theorem JL.op{ops:Ao_}{i:Nat}{rest:List Nat}{o:Oper}(W:ops[i]? =some o)(hw:Bi L ops o=some true)(K:CZ b n o=true)
  (h:∀ρ,EL L ρ→lp P (execOp ρ o) s (fun nx s'=>match nx with
   | .value v=>JL J Q b n (AF L o.dst v) ds (.inRegion ops rest::k) cs s'
   | .skip=>JL J Q b n (AF L o.dst undef) ds (.inRegion ops rest::k) cs s'
   | _=>False) (fun _ _=>False)):
  JL J Q b n L ds (.inRegion ops (i::rest)::k) cs s:=fun T O=>by
 simp only [CZ,Bool.and_eq_true] at K
 obtain⟨K,V,hd⟩:=K
 refine Judge.oper W (Dj O hw) (by simpa using K) (.inr fun c Z=>by rw [Z] at hd;simp [Dx] at hd) (Dv _ (h _ O.Gs) ?_ ?_)
 ·intro nx s' U
  cases nx with
  | value v=>exact U _ (O.put V v)
  | skip=>exact U _ (O.put V undef)
  | _=>exact U.elim
 ·intro _ _ aa;exact aa.elim
end
section
variable {P:Program}{ρ:Operand→Value}{s:St}{x y z:Operand}{d:Option Tmp}{t u ty:TypeId}{p:String}{af:Ae_}{g:On_}{v:Value}{kd kd':IntKind}{m m':Int}
theorem Yl.move(K:ρ x=v):Yl P ⟨d,.move x,ty,p,af,g⟩ ρ s v:=by simp [Yl,execOp,lp,pure,K]
theorem Yl.assign(K:ρ x=v):Yl P ⟨d,.assign x,ty,p,af,g⟩ ρ s v:=by simp [Yl,execOp,lp,pure,K]
theorem Uz(K:ρ z= .bool true)(O:ρ x=v):Yl P ⟨d,.pick z x y,ty,p,af,g⟩ ρ s v:=by simp [Yl,execOp,lp,pure,bind,Sem.bind,asBool,K,O]
theorem UT(K:ρ z= .bool false)(O:ρ y=v):Yl P ⟨d,.pick z x y,ty,p,af,g⟩ ρ s v:=by simp [Yl,execOp,lp,pure,bind,Sem.bind,asBool,K,O]
theorem Yl.lss(K:ρ x= .int kd m)(O:ρ y= .int kd m'):Yl P ⟨d,.binOp .lss t x y u,ty,p,af,g⟩ ρ s (.bool (decide (m<m'))):=by
 simp [Yl,execOp,lp,pure,bind,Sem.bind,K,O,eqGuard,Go.binOp,Op.intCmp]
theorem Yl.leq(K:ρ x= .int kd m)(O:ρ y= .int kd m'):Yl P ⟨d,.binOp .leq t x y u,ty,p,af,g⟩ ρ s (.bool (decide (m≤m'))):=by
 simp [Yl,execOp,lp,pure,bind,Sem.bind,K,O,eqGuard,Go.binOp,Op.intCmp]
theorem Yl.gtr(K:ρ x= .int kd m)(O:ρ y= .int kd m'):Yl P ⟨d,.binOp .gtr t x y u,ty,p,af,g⟩ ρ s (.bool (decide (m'<m))):=by
 simp [Yl,execOp,lp,pure,bind,Sem.bind,K,O,eqGuard,Go.binOp,Op.intCmp]
theorem Yl.geq(K:ρ x= .int kd m)(O:ρ y= .int kd m'):Yl P ⟨d,.binOp .geq t x y u,ty,p,af,g⟩ ρ s (.bool (decide (m'≤m))):=by
 simp [Yl,execOp,lp,pure,bind,Sem.bind,K,O,eqGuard,Go.binOp,Op.intCmp]
theorem Yl.eql(K:ρ x= .int kd m)(O:ρ y= .int kd m'):Yl P ⟨d,.binOp .eql t x y u,ty,p,af,g⟩ ρ s (.bool (decide (m=m'))):=by
 simp [Yl,execOp,lp,pure,bind,Sem.bind,K,O,eqGuard,Go.binOp,Op.intCmp];rfl
theorem Yl.neq(K:ρ x= .int kd m)(O:ρ y= .int kd m'):Yl P ⟨d,.binOp .neq t x y u,ty,p,af,g⟩ ρ s (.bool (!decide (m=m'))):=by
 simp [Yl,execOp,lp,pure,bind,Sem.bind,K,O,eqGuard,Go.binOp,Op.intCmp];rfl
theorem Yl.add(K:ρ x= .int kd m)(O:ρ y= .int kd m'):Yl P ⟨d,.binOp .add t x y u,ty,p,af,g⟩ ρ s (.int kd (kd.wrap (m+m'))):=by
 simp [Yl,execOp,lp,pure,bind,Sem.bind,K,O,eqGuard,Go.binOp,Op.intArith]
theorem Yl.sub(K:ρ x= .int kd m)(O:ρ y= .int kd m'):Yl P ⟨d,.binOp .sub t x y u,ty,p,af,g⟩ ρ s (.int kd (kd.wrap (m - m'))):=by
 simp [Yl,execOp,lp,pure,bind,Sem.bind,K,O,eqGuard,Go.binOp,Op.intArith]
theorem Yl.mul(K:ρ x= .int kd m)(O:ρ y= .int kd m'):Yl P ⟨d,.binOp .mul t x y u,ty,p,af,g⟩ ρ s (.int kd (kd.wrap (m*m'))):=by
 simp [Yl,execOp,lp,pure,bind,Sem.bind,K,O,eqGuard,Go.binOp,Op.intArith]
theorem Ii{a:Int}(h: -9223372036854775808≤a∧a≤9223372036854775807):IntKind.i64.wrap a=a:=by
 simp only [IntKind.wrap,IntKind.bits,IntKind.signed];simp;split <;> omega
theorem Wu(K:ρ x= .int .i64 m)(O:ρ y= .int .i64 m')(hb: -9223372036854775808≤m+m'∧m+m'≤9223372036854775807):Yl P ⟨d,.binOp .add t x y u,ty,p,af,g⟩ ρ s (.int .i64 (m+m')):=by
 have:=Yl.add (P:=P) (s:=s) (d:=d) (t:=t) (u:=u) (ty:=ty) (p:=p) (af:=af) (g:=g) K O;rwa [Ii hb] at this
theorem W8(K:ρ x= .int .i64 m)(O:ρ y= .int .i64 m')(hb: -9223372036854775808≤m - m'∧m - m'≤9223372036854775807):Yl P ⟨d,.binOp .sub t x y u,ty,p,af,g⟩ ρ s (.int .i64 (m - m')):=by
 have:=Yl.sub (P:=P) (s:=s) (d:=d) (t:=t) (u:=u) (ty:=ty) (p:=p) (af:=af) (g:=g) K O;rwa [Ii hb] at this
theorem WR(K:ρ x= .int .i64 m)(O:ρ y= .int .i64 m')(hb: -9223372036854775808≤m*m'∧m*m'≤9223372036854775807):Yl P ⟨d,.binOp .mul t x y u,ty,p,af,g⟩ ρ s (.int .i64 (m*m')):=by
 have:=Yl.mul (P:=P) (s:=s) (d:=d) (t:=t) (u:=u) (ty:=ty) (p:=p) (af:=af) (g:=g) K O;rwa [Ii hb] at this
theorem Yl.rem(K:ρ x= .int kd m)(O:ρ y= .int kd m')(U:m'≠0):Yl P ⟨d,.binOp .rem t x y u,ty,p,af,g⟩ ρ s (.int kd (m.tmod m')):=by
 simp [Yl,execOp,lp,pure,bind,Sem.bind,K,O,eqGuard,Go.binOp,Op.intDiv,U]
theorem Yl.quo(K:ρ x= .int kd m)(O:ρ y= .int kd m')(U:m'≠0):Yl P ⟨d,.binOp .quo t x y u,ty,p,af,g⟩ ρ s (.int kd (kd.wrap (m.tdiv m'))):=by
 simp [Yl,execOp,lp,pure,bind,Sem.bind,K,O,eqGuard,Go.binOp,Op.intDiv,U]
theorem Yl.and(K:ρ x= .int kd m)(O:ρ y= .int kd m'):Yl P ⟨d,.binOp .and t x y u,ty,p,af,g⟩ ρ s (.int kd (kd.wrap (BitVec.ofInt kd.bits m&&& BitVec.ofInt kd.bits m').toNat)):=by
 simp [Yl,execOp,lp,pure,bind,Sem.bind,K,O,eqGuard,Go.binOp,Op.intBits]
theorem Yl.or(K:ρ x= .int kd m)(O:ρ y= .int kd m'):Yl P ⟨d,.binOp .or t x y u,ty,p,af,g⟩ ρ s (.int kd (kd.wrap (BitVec.ofInt kd.bits m ||| BitVec.ofInt kd.bits m').toNat)):=by
 simp [Yl,execOp,lp,pure,bind,Sem.bind,K,O,eqGuard,Go.binOp,Op.intBits]
theorem Yl.xor(K:ρ x= .int kd m)(O:ρ y= .int kd m'):Yl P ⟨d,.binOp .xor t x y u,ty,p,af,g⟩ ρ s (.int kd (kd.wrap (BitVec.ofInt kd.bits m ^^^ BitVec.ofInt kd.bits m').toNat)):=by
 simp [Yl,execOp,lp,pure,bind,Sem.bind,K,O,eqGuard,Go.binOp,Op.intBits]
theorem Yl.shl(K:ρ x= .int kd m)(O:ρ y= .int kd' m')(U:0≤m'):Yl P ⟨d,.binOp .shl t x y u,ty,p,af,g⟩ ρ s (.int kd (kd.wrap (m*2 ^ (min m'.toNat kd.bits)))):=by
 have:¬m'<0:=by omega
 simp [Yl,execOp,lp,pure,bind,Sem.bind,K,O,eqGuard,Go.binOp,Op.shift,this]
theorem Yl.shr(K:ρ x= .int kd m)(O:ρ y= .int kd' m')(U:0≤m'):Yl P ⟨d,.binOp .shr t x y u,ty,p,af,g⟩ ρ s (.int kd (m.fdiv (2 ^ (min m'.toNat kd.bits)))):=by
 have:¬m'<0:=by omega
 simp [Yl,execOp,lp,pure,bind,Sem.bind,K,O,eqGuard,Go.binOp,Op.shift,this]
theorem Yl.not{c:Bool}(K:ρ x= .bool c):Yl P ⟨d,.unOp .not t x,ty,p,af,g⟩ ρ s (.bool (!c)):=by
 simp [Yl,execOp,lp,pure,bind,Sem.bind,K,Op.unary]
theorem EC(ht:P.underlying t=some (.int kd'))(hu:P.underlying u=some (.int kd))(K:ρ x= .int kd' m):Yl P ⟨d,.convert t u x,ty,p,af,g⟩ ρ s (.int kd (kd.wrap m)):=by
 simp [Yl,execOp,lp,pure,bind,Sem.bind,K,Go.convert,underlying,program,ht,hu,Conv.intToInt]
theorem Yl.extract{vs:AA}{i:Nat}(K:ρ x= .tuple vs)(hi:vs[i]? =some v):Yl P ⟨d,.extract x i,ty,p,af,g⟩ ρ s v:=by
 simp [Yl,execOp,lp,pure,bind,Sem.bind,K,Instr.extract,hi]
theorem Yl.nilCheck{a:Addr}(K:ρ x= .pointer (some a)):Yl P ⟨d,.nilCheck x,ty,p,af,g⟩ ρ s (.pointer (some a)):=by
 simp [Yl,execOp,lp,pure,K]
theorem Yl.len{a:Option Addr}{e:TypeId}{l c:Nat}{ats:Array TypeId}(K:ats[0]? =some t)(ht:P.underlying t=some (.slice e))(O:ρ x= .slice a l c):
  Yl P ⟨d,.call ⟨.builtin .len,#[x],ats⟩,ty,p,af,g⟩ ρ s (.int .i64 l):=by
 simp [Yl,execOp,lp,pure,bind,Sem.bind,O,resolve,invoke,builtin,Builtin.len_,K,underlying,program,ht,goInt]
theorem Fz{K:TypeDesc}(ht:P.underlying t=some K)(O:∀ms,K≠ .interface ms)(U:ρ x=v):Yl P ⟨d,.makeInterface t x,ty,p,af,g⟩ ρ s (.iface t v):=by
 have:lp P (Instr.makeInterface t v) s (fun r s'=>r= .iface t v∧s'=s) (fun _ _=>False):=by
  unfold Instr.makeInterface;simp only [lp,bind,Sem.bind,underlying,program,ht];cases K <;> first | exact⟨rfl,rfl⟩ | exact absurd rfl (O _)
 simp only [Yl,execOp,U];exact AH _ _ (Dv _ this (fun r s' ⟨V,W⟩=>⟨by rw [V],W⟩) (fun _ _ h=>h))
theorem IQ{fn:Fn}{a c:Array Operand}{K O:AA}(U:a.map ρ=K)(V:c.map ρ=O):Yl P ⟨d,.makeFunc fn a c,ty,p,af,g⟩ ρ s (.func fn K O):=by
 simp [Yl,execOp,lp,pure,bind,Sem.bind,Instr.makeFunc,U,V]
end
attribute [irreducible] Yl
end Pal
namespace Pal
open Go Go.Conc
def Le(E E':LH):Prop:=∀b o,E b=some o→E' b=some o
theorem Le.refl(E:LH):Le E E:=fun _ _ h=>h
theorem Le.trans{E E' K:LH}(h:Le E E')(k:Le E' K):Le E K:=fun b o x=>k b o (h b o x)
theorem Aq{E:LH}:Le E E:=Le.refl E
theorem Le.Ab{a b c:LH}(h:Le a b)(k:Le b c):Le a c:=h.trans k
def Bm:List (Nat×Obj)→LH→LH
 | [],H=>H
 | (b,o)::B,H=>fun x=>if x=b then some o else Bm B H x
def mk(E H:LH)(B:List (Nat×Obj)):St:=⟨E,Bm B H,false⟩
def Nd(E H:LH):List (Nat×Obj)→Prop
 | []=>True
 | (b,_)::B=>E b=none∧H b=none∧(∀p∈B,p.1≠b)∧Nd E H B
theorem P3{H:LH}{b:Nat}:∀{B:List (Nat×Obj)},H b=none→(∀p∈B,p.1≠b)→Bm B H b=none
 | [],h,_=>h
 | (c,o)::B,h,hb=>by
  have K:b≠c:=fun e=>hb (c,o) (by simp) e.symm
  simp only [Bm,if_neg K]
  exact P3 h fun p O=>hb p (List.mem_cons_of_mem _ O)
theorem GZ{H:LH}{b:Nat}:∀{B:List (Nat×Obj)},Bm B H b=none→H b=none∧∀p∈B,p.1≠b
 | [],h=>⟨h,by simp⟩
 | (c,o)::B,h=>by
  simp only [Bm] at h
  split at h
  ·cases h
  ·rename_i O;obtain⟨U,V⟩:=GZ h;refine⟨U,fun p K=>?_⟩;rcases List.mem_cons.1 K with rfl | K
   ·exact fun e=>O e.symm
   ·exact V p K
theorem PC{H:LH}{x:Nat}{o:Obj}{r:Nat}:∀{B:List (Nat×Obj)},(∀p∈B,p.1≠r)→Bm (B++ [(r,o)]) H x=if x=r then some o else Bm B H x
 | [],_=>rfl
 | (c,u)::B,h=>by
  simp only [List.cons_append,Bm]
  by_cases e:x=c
  ·subst e
   have:x≠r:=fun e=>h (x,u) (by simp) e;simp [this]
  ·simp only [if_neg e];exact PC fun p K=>h p (List.mem_cons_of_mem _ K)
theorem Nd.append{E H:LH}{r:Nat}{o:Obj}(O:E r=none)(U:H r=none):∀{B:List (Nat×Obj)},(∀p∈B,p.1≠r)→Nd E H B→Nd E H (B++ [(r,o)])
 | [],_,_=>⟨O,U,by simp,trivial⟩
 | (c,u)::B,h,V=>by
  obtain⟨W,Z,aa,ab⟩:=V
  refine⟨W,Z,fun p K=>?_,Nd.append O U (fun p K=>h p (List.mem_cons_of_mem _ K)) ab⟩
  rcases List.mem_append.1 K with K | K
  ·exact aa p K
  ·simp at K;subst K;exact fun e=>h (c,u) (by simp) e.symm
theorem HP{E H:LH}{b:Nat}{o:Obj}:∀{B:List (Nat×Obj)} {i:Nat},Nd E H B→B[i]? =some (b,o)→Bm B H b=some o
 | [],_,_,h=>by simp at h
 | (c,u)::B,0,_,h=>by simp at h;obtain⟨rfl,rfl⟩:=h;simp [Bm]
 | (c,u)::B,i+1,K,h=>by
  simp at h
  have O:b≠c:=K.2.2.1 (b,o) (List.mem_of_getElem? h)
  simp only [Bm,if_neg O]
  exact HP K.2.2.2 h
theorem Qt{E H:LH}{b:Nat}{o o':Obj}:∀{B:List (Nat×Obj)} {i:Nat},Nd E H B→B[i]? =some (b,o)→Bm (B.set i (b,o')) H=fun x=>if x=b then some o' else Bm B H x
 | [],_,_,h=>by simp at h
 | (c,u)::B,0,_,h=>by
  simp at h;obtain⟨rfl,rfl⟩:=h
  funext x
  simp only [List.set_cons_zero,Bm]
  split <;> rfl
 | (c,u)::B,i+1,K,h=>by
  simp at h
  have O:b≠c:=K.2.2.1 (b,o) (List.mem_of_getElem? h)
  funext x
  simp only [List.set_cons_succ,Bm]
  rw [Qt K.2.2.2 h]
  by_cases e:x=c
  ·subst e;simp [Ne.symm O]
  ·simp [e]
theorem Nd.set{E H:LH}{b:Nat}{o o':Obj}:∀{B:List (Nat×Obj)} {i:Nat},Nd E H B→B[i]? =some (b,o)→Nd E H (B.set i (b,o'))
 | [],_,_,h=>by simp at h
 | (c,u)::B,0,K,h=>by simp at h;obtain⟨rfl,rfl⟩:=h;exact K
 | (c,u)::B,i+1,K,h=>by
  simp at h
  refine⟨K.1,K.2.1,fun p O=>?_,K.2.2.2.set h⟩
  have hm:=List.mem_or_eq_of_mem_set O
  rcases hm with hm | rfl
  ·exact K.2.2.1 p hm
  ·exact K.2.2.1 (b,o) (List.mem_of_getElem? h)
theorem Nd.Rf{E H:LH}{b:Nat}{o:Obj}:∀{B:List (Nat×Obj)} {i:Nat},Nd E H B→B[i]? =some (b,o)→E b=none
 | [],_,_,h=>by simp at h
 | (c,u)::B,0,K,h=>by simp at h;obtain⟨rfl,rfl⟩:=h;exact K.1
 | (c,u)::B,i+1,K,h=>by simp at h;exact Nd.Rf K.2.2.2 h
theorem N2{E H:LH}{B:List (Nat×Obj)}{i b:Nat}{o:Obj}(K:Nd E H B)(h:B[i]? =some (b,o)):(mk E H B).get b=some o:=by
 unfold St.get mk;simp only [K.Rf h,HP K h]
theorem TN{E H:LH}{B:List (Nat×Obj)}{b:Nat}{o:Obj}(h:E b=some o):(mk E H B).get b=some o:=by
 unfold St.get mk;simp only [h]
theorem QX{E H:LH}{B:List (Nat×Obj)}{i b off:Nat}{c:AA}{e:TypeId}{f:Nat×Nat}{v:Value}(K:Nd E H B)(h:B[i]? =some (b,.cells c e f))(O:c[off]? =some v):(mk E H B).cell? ⟨b,off,none⟩=some v:=by
 unfold St.cell?;rw [N2 K h];exact O
theorem UJ{E H:LH}{B:List (Nat×Obj)}{b off:Nat}{c:AA}{e:TypeId}{f:Nat×Nat}{v:Value}(h:E b=some (.cells c e f))(K:c[off]? =some v):(mk E H B).cell? ⟨b,off,none⟩=some v:=by
 unfold St.cell?;rw [TN h];exact K
section
variable {P:Program}{J:Judge P}{Q:Gs_}{b:Frame}{n:Nat}{L L':Env}{ds:Ld_}{k:Li_}{cs:Lf_}{E H:LH}{B B':List (Nat×Obj)}
theorem Ju{r:Nat}(O:(mk E H B).E r=none)(U:(mk E H B).H r=none)(o:Obj)(V:Nd E H B):Nd E H (B++ [(r,o)])∧(mk E H B).upd r o=mk E H (B++ [(r,o)]):=by
 obtain⟨W,K⟩:=GZ U;refine⟨Nd.append O W K V,?_⟩;unfold St.upd mk;congr 1;funext x;exact(PC K).symm
theorem X3{i bk:Nat}{o o':Obj}(K:Nd E H B)(h:B[i]? =some (bk,o)):(mk E H B).upd bk o'=mk E H (B.set i (bk,o')):=by
 unfold St.upd mk;congr 1;exact(Qt K h).symm
theorem JL.drop(B':List (Nat×Obj))(h:∀p∈B',∃i:Nat,B[i]? =some p)(U:Nd E H B)(k':JL J Q b n L ds k cs (mk E H B')):JL J Q b n L ds k cs (mk E H B):=
 JL.ghost (s':=mk E H B') ⟨fun _ _ h=>h,fun x o O=>by
  show Bm B H x=some o
  have key:∀{B':List (Nat×Obj)},(∀p∈B',∃i:Nat,B[i]? =some p)→Bm B' H x=some o→Bm B H x=some o:=by
   intro B'
   induction B' with
   | nil=>
    intro _ O
    have ab:∀p∈B,p.1≠x:=by
     intro p K e
     have:∀{B:List (Nat×Obj)},Nd E H B→p∈B→H p.1=none:=by
      intro B U K
      induction B with
      | nil=>simp at K
      | cons q B V=>
       rcases List.mem_cons.1 K with rfl | K
       ·exact U.2.1
       ·exact V U.2.2.2 K
     have Z:=this U K
     rw [e] at Z
     have aa:H x=some o:=O
     rw [Z] at aa;cases aa
    have:∀{B:List (Nat×Obj)},(∀p∈B,p.1≠x)→Bm B H x=H x:=by
     intro B W
     induction B with
     | nil=>rfl
     | cons q B V=>
      have ae:x≠q.1:=fun e=>W q (by simp) e.symm
      obtain⟨c,u⟩:=q
      simp only [Bm,if_neg ae]
      exact V fun p K=>W p (List.mem_cons_of_mem _ K)
    rw [this ab];exact O
   | cons q B' V=>
    intro W O
    obtain⟨c,u⟩:=q
    simp only [Bm] at O
    split at O
    ·rename_i e;subst e;cases O
     obtain⟨i,hi⟩:=W (x,o) (by simp)
     exact HP U hi
    ·exact V (fun p K=>W p (List.mem_cons_of_mem _ K)) O
  exact key h O,fun _ _ h=> .inl h,rfl⟩ k'
theorem Km{x:Nat}:∀{B:List (Nat×Obj)} {i:Nat} {bk:Nat} {o u:Obj},Nd E H B→B[i]? =some (bk,o)→Bm (B.eraseIdx i) H x=some u→x≠bk∧Bm B H x=some u
 | [],_,_,_,_,_,h,_=>by simp at h
 | (c,v)::B,0,bk,o,u,O,h,K=>by
  simp at h;obtain⟨rfl,rfl⟩:=h
  simp only [List.eraseIdx_cons_zero] at K
  have U:x≠c:=by
   intro e;subst e;rw [P3 O.2.1 O.2.2.1] at K;cases K
  exact⟨U,by simp only [Bm,if_neg U];exact K⟩
 | (c,v)::B,i+1,bk,o,u,O,h,K=>by
  simp at h;simp only [List.eraseIdx_cons_succ,Bm] at K ⊢;split at K
  ·rename_i e;subst e;rw [if_pos rfl];exact⟨fun e=>O.2.2.1 (bk,o) (List.mem_of_getElem? h) e.symm,K⟩
  ·rename_i e;rw [if_neg e];exact Km O.2.2.2 h K
theorem JL.freeze(i:Nat){bk:Nat}{o:Obj}(K:Nd E H B)(h:B[i]? =some (bk,o))
  (k':∀E',Le E E'→E' bk=some o→Nd E' H (B.eraseIdx i)→JL J Q b n L ds k cs (mk E' H (B.eraseIdx i))):JL J Q b n L ds k cs (mk E H B):=by
 have ag:=List.mem_of_getElem? h;have ah:E bk=none∧H bk=none:=by
  have:∀{B:List (Nat×Obj)},Nd E H B→(bk,o)∈B→E bk=none∧H bk=none:=by
   intro B K O
   induction B with
   | nil=>simp at O
   | cons q B V=>
    rcases List.mem_cons.1 O with rfl | O
    ·exact⟨K.1,K.2.1⟩
    ·exact V K.2.2.2 O
  exact this K ag
 let E':LH:=fun x=>if x=bk then some o else E x
 have aa:E' bk=some o:=by simp [E']
 have hle:Le E E':=fun x u U=>by
  have:x≠bk:=fun e=>by subst e;rw [ah.1] at U;cases U
  simp [E',this,U]
 have ai:Nd E' H (B.eraseIdx i):=by
  have:∀{B:List (Nat×Obj)} {i:Nat},Nd E H B→B[i]? =some (bk,o)→Nd E' H (B.eraseIdx i)∧∀p∈B.eraseIdx i,p.1≠bk:=by
   intro B
   induction B with
   | nil=>intro i _ h;simp at h
   | cons q B V=>
    obtain⟨c,v⟩:=q;intro i K h;have up:∀{B:List (Nat×Obj)},Nd E H B→(∀p∈B,p.1≠bk)→Nd E' H B:=by
     intro B K ab
     induction B with
     | nil=>trivial
     | cons q B aj=>exact⟨by simpa [E',ab q (by simp)] using K.1,K.2.1,K.2.2.1,aj K.2.2.2 fun p O=>ab p (List.mem_cons_of_mem _ O)⟩
    cases i with
    | zero=>
     simp at h;obtain⟨rfl,rfl⟩:=h;exact⟨up K.2.2.2 K.2.2.1,K.2.2.1⟩
    | succ i=>
     simp at h;obtain⟨W,Z⟩:=V K.2.2.2 h;have ae:c≠bk:=fun e=>K.2.2.1 (bk,o) (List.mem_of_getElem? h) e.symm;refine⟨⟨by simpa [E',ae] using K.1,K.2.1,fun p O=>K.2.2.1 p (List.mem_of_mem_eraseIdx O),W⟩,fun p O=>?_⟩;rcases List.mem_cons.1 O with rfl | O
     ·exact ae
     ·exact Z p O
  exact(this K h).1
 refine JL.ghost (s':=mk E' H (B.eraseIdx i)) ⟨fun x u U=>hle x u U,fun x u U=>(Km K h U).2,fun x u U=>?_,rfl⟩ (k' E' hle aa ai);by_cases e:x=bk
 ·subst e;right;have:u=o:=by have:E' x=some u:=U;rw [aa] at this;exact(Option.some.inj this).symm
  subst this;refine⟨HP K h,?_⟩;cases ak:(mk E' H (B.eraseIdx i)).H x with
  | none=>rfl
  | some y=>exact absurd rfl (Km K h ak).1
 ·left;have W:E' x=some u:=U;have Z:E' x=E x:=by simp [E',e]
  show E x=some u;rw [← Z];exact W
def Fn(P:Program)(f:FuncId)(args:AA)(s:St)(R:Value→St→Prop):Prop:=
 ∀(J:Judge P) (Q:Gs_) (c:Frame) (cs:Lf_),(∀v s',R v s'→J.ok Q (G (c.finish v) cs) s')→J.ok Q (G (Frame.enter P f args .normal) (c::cs)) s
def D9(P:Program)(f:FuncId):Bool:=match P.funcs[f]? with | some fn=> !(fn.name== "runtime.NumGoroutine")&&fn.body.isSome | none=>false
def evs(L:Env):List Operand→Option (Lv_)
 | []=>some []
 | x::xs=>match ev L x,evs L xs with | some v,some vs=>some (v::vs) | _,_=>none
theorem Gy{L:Env}{ρ:Operand→Value}(h:EL L ρ):∀{xs:List Operand} {vs:Lv_},evs L xs=some vs→xs.map ρ=vs
 | [],vs,e=>by simp [evs] at e;subst e;rfl
 | x::xs,vs,e=>by
  simp only [evs] at e
  split at e
  ·rename_i v ws K O
   cases e;rw [List.map_cons,h x v K,Gy h O]
  ·cases e
theorem Jh{f:FuncId}{args:AA}{s:St}{Q:Next→St→Prop}{X:Halt→St→Prop}(K:D9 P f=true)(h:Q (.enter f args) s):lp P (callFunc f args) s Q X:=by
 unfold D9 at K;unfold callFunc;simp only [bind,Sem.bind,program,lp];cases O:P.funcs[f]? with
 | none=>rw [O] at K;cases K
 | some fn=>
  rw [O] at K;simp only [Bool.and_eq_true,Bool.not_eq_true'] at K;have hb:fn.body.isNone=false:=by cases U:fn.body <;> simp_all
  simp only [K.1,hb,Bool.false_eq_true,if_false];exact h
def B6(P:Program)(f:FuncId)(L:Env)(n:Nat)(s:St)(v:Value):Prop:=∃fn,P.funcs[f]? =some fn∧∀T,Has n L T→lp P (results fn T) s (fun u s'=>u=v∧s'=s) (fun _ _=>False)
theorem Judge.leave{T:AA}{todo:Li_}{c:Frame}{s:St}{v:Value}{fn:Func}(V:b.kind= .normal)(W:P.funcs[b.fn]? =some fn)(U:lp P (results fn T) s (fun u s'=>u=v∧s'=s) (fun _ _=>False))
  (h:J.ok Q (G (c.finish v) cs) s):J.ok Q (G (ED b T [] todo) (c::cs)) s:=by
 refine J.step ⟨rfl,fun w f=>?_,fun e=>?_⟩
 rotate_left
 ·subst e;obtain⟨es,he,ae,U⟩:=Oj _ U;have ag:seen P b.fn es= #[]:=NT ae;rcases U with⟨u,⟨rfl,_⟩,O⟩ | ⟨x,K,_⟩
  ·exact⟨_,fun w=>by simp [G,stepG,unwind,ED,W,O,doReturn,V,GStep.after,he,ag],h⟩
  ·exact K.elim
 obtain⟨s',Z,aa,ab,K⟩:=Mj _ U f;cases O:(results fn T).run P w with
 | halt x w'=>rw [O] at K;exact K.elim
 | ok u w'=>
  rw [O] at Z aa ab K;obtain⟨rfl,rfl⟩:=K;exact⟨_,s',w',seen P b.fn ((results fn T).events P w #[])++ #[],by simp [G,stepG,unwind,ED,W,O,doReturn,V,GStep.after],h,Z,aa,by simp only [Array.append_empty];exact OC ab⟩
theorem JL.ret{s:St}{c:Frame}{v:Value}(O:b.kind= .normal)(U:b.roundOf=none)(K:B6 P b.fn L n s v)(h:J.ok Q (G (c.finish v) cs) s):JL J Q b n L [] (.code .ret::k) (c::cs) s:=fun T V=>by
 obtain⟨fn,W,K⟩:=K
 refine Judge.Dw (g':=G (ED b T [] (.code .ret::k)) (c::cs)) rfl (fun w=>by simp [G,stepG,stepG.exec,fr,ED,U]) ?_
 exact Judge.leave O W (K T V) h
theorem JL.fin{s:St}{c:Frame}{v:Value}(O:b.kind= .normal)(U:b.roundOf=none)(K:B6 P b.fn L n s v)(h:J.ok Q (G (c.finish v) cs) s):JL J Q b n L [] [] (c::cs) s:=fun T V=>by
 obtain⟨fn,W,K⟩:=K
 refine Judge.Dw (g':=G (ED b T [] []) (c::cs)) rfl (fun w=>by simp [G,stepG,stepG.exec,fr,ED,U]) ?_
 exact Judge.leave O W (K T V) h
theorem B6.one{f:FuncId}{fn:Func}{s:St}{t:Tmp}{v:Value}(K:P.funcs[f]? =some fn)(O:fn.results= #[.tmp t])(h:look L t=some v):B6 P f L n s v:=
 ⟨fn,K,fun T U=>by
  have e:results fn T=Sem.pure v:=by
   have:=U.at_ t v h
   simp only [results,O,Array.mapM_eq_mapM_toList]
   show Sem.pure (T.getD t undef)=_
   rw [this]
  rw [e];exact⟨rfl,rfl⟩⟩
theorem B6.none{f:FuncId}{fn:Func}{s:St}(K:P.funcs[f]? =some fn)(O:fn.results= #[]):B6 P f L n s (.tuple #[]):=
 ⟨fn,K,fun T U=>by
  have e:results fn T=Sem.pure (.tuple #[]):=by
   simp only [results,O,Array.mapM_eq_mapM_toList]
   rfl
  rw [e];exact⟨rfl,rfl⟩⟩
def FW:Nat→Lv_→Env
 | _,[]=> []
 | i,v::vs=>(i,v)::FW (i+1) vs
theorem Ji{i:Nat}{vs:Lv_}{t:Nat}{v:Value}(h:look (FW i vs) t=some v):i≤t∧vs[t - i]? =some v:=by
 induction vs generalizing i with
 | nil=>simp [FW,look] at h
 | cons u vs K=>
  simp only [FW,look] at h;split at h
  ·rename_i e;subst e;cases h;simp
  ·rename_i U;obtain⟨V,O⟩:=K h;refine⟨by omega,?_⟩;have:t - i=(t - (i+1))+1:=by omega
   rw [this];simpa using O
end
end Pal
namespace Pal
open Go Go.Conc
def BA(P:Program)(t:TypeId):Option Nat:=(P.info? t).map (·.size)
def Dl(P:Program)(t:TypeId):Option Bool:=match P.underlying t with | some (.struct _)=>some true | some (.array _ _)=>some true | some _=>some false | none=>none
def zeroOf(P:Program)(t:TypeId):Option Value:=(P.info? t).bind (·.zero)
section
variable {P:Program}{s:St}{t:TypeId}
theorem EV{sz:Nat}{Q:Nat→St→Prop}{X:Halt→St→Prop}(h:BA P t=some sz)(k:Q sz s):lp P (Go.sizeOf t) s Q X:=by
 unfold BA at h;simp only [Go.sizeOf,typeInfo,bind,Sem.bind,program,lp];cases hi:P.info? t with
 | none=>rw [hi] at h;cases h
 | some i=>rw [hi] at h;simp at h;subst h;exact k
theorem F5{z:Value}{Q:Value→St→Prop}{X:Halt→St→Prop}(h:zeroOf P t=some z)(k:Q z s):lp P (zeroValue t) s Q X:=by
 unfold zeroOf at h;simp only [zeroValue,typeInfo,bind,Sem.bind,program,lp];cases hi:P.info? t with
 | none=>rw [hi] at h;cases h
 | some i=>
  rw [hi] at h;simp at h;show lp P (match i.zero with | some v=>pure v | none=>unsupported _) s Q X
  rw [h];exact k
theorem KB{c:Bool}{Q:Bool→St→Prop}{X:Halt→St→Prop}(h:Dl P t=some c)(k:Q c s):lp P (isAgg t) s Q X:=by
 unfold Dl at h;simp only [isAgg,underlying,bind,Sem.bind,program,lp];cases hu:P.underlying t with
 | none=>rw [hu] at h;cases h
 | some u=>
  rw [hu] at h;cases u <;> simp at h <;> subst h <;> exact k
theorem Di{u:TypeDesc}{Q:TypeDesc→St→Prop}{X:Halt→St→Prop}(h:P.underlying t=some u)(k:Q u s):lp P (underlying t) s Q X:=by
 simp only [underlying,bind,Sem.bind,program,lp,h];exact k
theorem Ry{a:Addr}{v:Value}{Q:Value→St→Prop}{X:Halt→St→Prop}(h:s.cell? a=some v)(k:Q v s):lp P (load a) s Q X:=⟨rfl,v,h,k⟩
theorem Pv{a:Addr}{Q:AA→St→Prop}{X:Halt→St→Prop}:∀(vs:Lv_) (i:Nat) (acc:AA),(∀j v,vs[j]? =some v→s.cell? (a.add (i+j))=some v)→Q (acc++vs.toArray) s→lp P (loadCellsFrom a i vs.length acc) s Q X
 | [],i,acc,_,k=>by simpa [loadCellsFrom,lp,pure] using k
 | v::vs,i,acc,h,k=>by
  simp only [List.length_cons,loadCellsFrom]
  refine AH _ _ (Ry (h 0 v rfl) ?_)
  refine Pv vs (i+1) (acc.push v) (fun j u K=>?_) (by simpa using k)
  have:=h (j+1) u (by simpa using K)
  rwa [show i+1+j=i+(j+1) from by omega]
theorem PD{a:Addr}{vs:Lv_}{m:Nat}{Q:AA→St→Prop}{X:Halt→St→Prop}(hm:m=vs.length)(h:∀j v,vs[j]? =some v→s.cell? (a.add j)=some v)(k:Q vs.toArray s):lp P (loadCells a m) s Q X:=by
 subst hm;exact Pv vs 0 #[] (fun j v K=>by simpa using h j v K) (by simpa using k)
theorem TM{a:Addr}{v:Value}{Q:Value→St→Prop}{X:Halt→St→Prop}(ht:Dl P t=some false)(h:s.cell? a=some v)(k:Q v s):lp P (loadVar t a) s Q X:=by
 unfold loadVar;refine AH _ _ (KB ht ?_);exact Ry h k
theorem PL{a:Addr}{vs:Lv_}{Q:Value→St→Prop}{X:Halt→St→Prop}(ht:Dl P t=some true)(K:BA P t=some vs.length)(h:∀j v,vs[j]? =some v→s.cell? (a.add j)=some v)(k:Q (.agg vs.toArray) s):lp P (loadVar t a) s Q X:=by
 unfold loadVar;refine AH _ _ (KB ht ?_);show lp P (do let r ← loadCells a (← Go.sizeOf t);pure (Value.agg r)) s Q X
 refine AH (x:=Go.sizeOf t) _ (EV K ?_);refine AH _ _ (PD rfl h ?_);exact k
end
section
variable {P:Program}{ρ:Operand→Value}{s:St}{x y z:Operand}{d:Option Tmp}{t u ty e:TypeId}{p:String}{af:Ae_}{g:On_}{v:Value}{kd kd':IntKind}{m m':Int}
theorem Fx{o:Oper}{sm:Sem Value}(K:execOp ρ o=(do pure (Next.value (← sm))))(h:lp P sm s (fun r s'=>r=v∧s'=s) (fun _ _=>False)):Yl P o ρ s v:=by
 unfold Yl;rw [K];exact AH _ _ (Dv _ h (fun r s' ⟨O,U⟩=>⟨by rw [O],U⟩) (fun _ _ h=>h))
theorem Yl.load{a:Addr}(ht:Dl P t=some false)(K:ρ x= .pointer (some a))(h:s.cell? a=some v):Yl P ⟨d,.load t x,ty,p,af,g⟩ ρ s v:=
 Fx (sm:=Instr.loadAt t (ρ x)) rfl (by rw [K];exact TM ht h ⟨rfl,rfl⟩)
theorem FQ{a:Addr}{vs:Lv_}(ht:Dl P t=some true)(K:BA P t=some vs.length)(O:ρ x= .pointer (some a))(h:∀j v,vs[j]? =some v→s.cell? (a.add j)=some v):Yl P ⟨d,.load t x,ty,p,af,g⟩ ρ s (.agg vs.toArray):=
 Fx (sm:=Instr.loadAt t (ρ x)) rfl (by rw [O];exact PL ht K h ⟨rfl,rfl⟩)
theorem Yl.fieldAddr{a:Addr}{fs:Array Field}{i:Nat}{fl:Field}{sz:Nat}(ht:P.underlying t=some (.struct fs))(hi:fs[i]? =some fl)(K:BA P fl.type=some (sz+1))(O:ρ x= .pointer (some a)):
  Yl P ⟨d,.fieldAddr t x i,ty,p,af,g⟩ ρ s (.pointer (some (a.add fl.offset))):=
 Fx (sm:=Instr.fieldAt t (ρ x) i) rfl (by
  rw [O];unfold Instr.fieldAt
  refine AH _ _ (Di ht ?_)
  simp only [hi,Instr.sureAddr,bind,Sem.bind,pure]
  refine AH (x:=fieldPlace a fl) _ ?_
  unfold fieldPlace
  refine AH _ _ (EV K ?_)
  simp only [Nat.add_eq_zero_iff,Nat.succ_ne_self,and_false,if_false,lp,pure]
  exact⟨trivial,trivial⟩)
theorem Ma{a:Addr}{l c sz:Nat}(ht:P.underlying t=some (.slice e))(K:BA P e=some sz)(O:ρ x= .slice (some a) l c)(U:ρ y= .int kd m)(h:0≤m∧m<l):
  Yl P ⟨d,.indexAddr t x y,ty,p,af,g⟩ ρ s (.pointer (some (a.add (m.toNat*sz)))):=
 Fx (sm:=Instr.indexAt t (ρ x) (ρ y)) rfl (by
  rw [O,U];unfold Instr.indexAt
  simp only [asIntOf,bind,Sem.bind,pure]
  refine AH (x:=underlying t) _ (Di ht ?_)
  simp only [Sem.bind]
  refine AH (x:=underlying t) _ (Di ht ?_)
  simp only [Sem.bind,h,and_self,if_true]
  refine AH (x:=Go.sizeOf e) _ (EV K ?_)
  exact⟨rfl,rfl⟩)
theorem Qp{a:Addr}{l sz:Nat}(ht:P.underlying t=some (.array l e))(K:BA P e=some sz)(O:ρ x= .pointer (some a))(U:ρ y= .int kd m)(h:0≤m∧m<l):
  Yl P ⟨d,.indexAddr t x y,ty,p,af,g⟩ ρ s (.pointer (some (a.add (m.toNat*sz)))):=
 Fx (sm:=Instr.indexAt t (ρ x) (ρ y)) rfl (by
  rw [O,U];unfold Instr.indexAt
  simp only [asIntOf,bind,Sem.bind,pure]
  refine AH (x:=underlying t) _ (Di ht ?_)
  simp only [Sem.bind,Instr.sureAddr,pure]
  refine AH (x:=underlying t) _ (Di ht ?_)
  simp only [Sem.bind,h,and_self,if_true]
  refine AH (x:=Go.sizeOf e) _ (EV K ?_)
  exact⟨rfl,rfl⟩)
end
section
variable {P:Program}{J:Judge P}{Q:Gs_}{b:Frame}{n:Nat}{L L':Env}{ds:Ld_}{k:Li_}{cs:Lf_}{E H:LH}{B B':List (Nat×Obj)}
variable {ops:Ao_}{i:Nat}{rest:List Nat}{d:Option Tmp}{x y:Operand}{t u ty e:TypeId}{p:String}{af:Ae_}{g:On_}{v:Value}
theorem G2{cells:AA}{Q:Addr→St→Prop}{X:Halt→St→Prop}(K:Nd E H B)(k:∀r,Nd E H (B++ [(r,.cells cells e (0,0))])→Q ⟨r,0,none⟩ (mk E H (B++ [(r,.cells cells e (0,0))]))):lp P (newRow e cells) (mk E H B) Q X:=by
 simp only [newRow,newObj,bind,Sem.bind,lp,pure];refine⟨rfl,fun r O U=>?_⟩;obtain⟨V,W⟩:=Ju O U (.cells cells e (0,0)) K;rw [W];exact k r V
theorem JL.alloc{z:Value}(K:ops[i]? =some ⟨d,.alloc e,ty,p,af,g⟩)(hw:Bi L ops ⟨d,.alloc e,ty,p,af,g⟩=some true)(O:CZ b n ⟨d,.alloc e,ty,p,af,g⟩=true)(U:Nd E H B)(V:zeroOf P e=some z)
  (h:∀r,Nd E H (B++ [(r,.cells z.cells e (0,0))])→JL J Q b n (AF L d (.pointer (some ⟨r,0,none⟩))) ds (.inRegion ops rest::k) cs (mk E H (B++ [(r,.cells z.cells e (0,0))]))):
  JL J Q b n L ds (.inRegion ops (i::rest)::k) cs (mk E H B):=
 JL.op K hw O fun ρ _=>by
  show lp P (do pure (Next.value (← Instr.alloc e true (.tuple #[])))) _ _ _
  refine AH _ _ ?_
  unfold Instr.alloc
  refine AH _ _ (F5 V ?_)
  refine AH _ _ (G2 U fun r W=>?_)
  exact h r W
theorem JL.box(K:ops[i]? =some ⟨d,.box e x,ty,p,af,g⟩)(hw:Bi L ops ⟨d,.box e x,ty,p,af,g⟩=some true)(O:CZ b n ⟨d,.box e x,ty,p,af,g⟩=true)(U:Nd E H B)(V:ev L x=some v)
  (h:∀r,Nd E H (B++ [(r,.cells v.cells e (0,0))])→JL J Q b n (AF L d (.pointer (some ⟨r,0,none⟩))) ds (.inRegion ops rest::k) cs (mk E H (B++ [(r,.cells v.cells e (0,0))]))):
  JL J Q b n L ds (.inRegion ops (i::rest)::k) cs (mk E H B):=
 JL.op K hw O fun ρ W=>by
  show lp P (do pure (Next.value (← Instr.box e (ρ x)))) _ _ _
  rw [W x v V]
  refine AH _ _ ?_
  unfold Instr.box
  refine AH _ _ (G2 U fun r Z=>?_)
  exact h r Z
def A4(c:AA)(off:Nat):Lv_→AA
 | []=>c
 | v::vs=>A4 (c.setIfInBounds off v) (off+1) vs
theorem N1(c:AA)(off:Nat)(vs:Lv_):(A4 c off vs).size=c.size:=by
 induction vs generalizing c off with
 | nil=>rfl
 | cons v vs K=>simp [A4,K]
theorem NR{bk:Nat}{Q:Unit→St→Prop}{X:Halt→St→Prop}{pl off:Nat}{sp:Option Nat}:∀(vs:Lv_) (j:Nat) (c:AA) (B:List (Nat×Obj)),(∀v∈vs,Cx v=true)→Nd E H B→B[pl]? =some (bk,.cells c e (0,0))→off+j+vs.length≤c.size→(sp=none∨0<j)→
  (∀B',B'=B.set pl (bk,.cells (A4 c (off+j) vs) e (0,0))→Nd E H B'→Q () (mk E H B'))→lp P (storeCells ⟨bk,off,sp⟩ vs j) (mk E H B) Q X
 | [],j,c,B,_,O,K,_,_,k=>by
  simp only [storeCells,lp,pure]
  refine k B ?_ O
  simp only [A4]
  exact(List.ext_getElem? fun i=>by
   by_cases hi:pl=i
   ·subst hi
    obtain⟨W,Z⟩:=List.getElem?_eq_some_iff.1 K
    simp [W,Z]
   ·simp [hi])
 | v::vs,j,c,B,U,O,K,hle,V,k=>by
  simp only [storeCells,List.length_cons] at*
  have aa:off+j<c.size:=by omega
  have ab:(Addr.add ⟨bk,off,sp⟩ j)=⟨bk,off+j,none⟩:=by
   unfold Addr.add;split
   ·rename_i ae;subst ae;rcases V with rfl | V
    ·rfl
    ·omega
   ·rfl
  have ag:(cellAt (.cells c e (0,0)) ⟨bk,off+j,none⟩).isSome=true:=by simp [cellAt,aa]
  refine AH (x:=store (Addr.add ⟨bk,off,sp⟩ j) v) _ ?_;rw [ab];refine⟨rfl,U v (by simp),_,HP O K,ag,by simp [frozenAt],?_⟩;simp only [lp];have ah:I6 (.cells c e (0,0)) ⟨bk,off+j,none⟩ v= .cells (c.setIfInBounds (off+j) v) e (0,0):=by simp [I6]
  rw [ah,X3 O K];have ai:(B.set pl (bk,.cells (c.setIfInBounds (off+j) v) e (0,0)))[pl]? =some (bk,.cells (c.setIfInBounds (off+j) v) e (0,0)):=by
   have:pl<B.length:=(List.getElem?_eq_some_iff.1 K).1;simp [this]
  refine NR vs (j+1) _ _ (fun u hu=>U u (List.mem_cons_of_mem _ hu)) (O.set K) ai (by simp;omega) (.inr (by omega)) fun aj e2 ak=>k aj ?_ ak;rw [e2,List.set_set];simp only [A4]
  rfl
theorem NX{bk off pl:Nat}{c:AA}{Q:Unit→St→Prop}{X:Halt→St→Prop}(K:BA P t=some v.cells.size)(O:∀u∈v.cells.toList,Cx u=true)(U:Nd E H B)(V:B[pl]? =some (bk,.cells c e (0,0)))(hle:off+v.cells.size≤c.size)
  (k:Nd E H (B.set pl (bk,.cells (A4 c off v.cells.toList) e (0,0)))→Q () (mk E H (B.set pl (bk,.cells (A4 c off v.cells.toList) e (0,0))))):lp P (storeVar t ⟨bk,off,none⟩ v) (mk E H B) Q X:=by
 unfold storeVar;refine AH _ _ (EV K ?_);simp only [ne_eq,not_true_eq_false,if_false];refine NR v.cells.toList 0 c B O U V (by simpa using hle) (.inl rfl) fun B' e W=>?_;subst e;exact k W
theorem JL.store{bk off:Nat}{c:AA}(pl:Nat)(O:ops[i]? =some ⟨d,.store t x y,ty,p,af,g⟩)(hw:Bi L ops ⟨d,.store t x y,ty,p,af,g⟩=some true)(U:CZ b n ⟨d,.store t x y,ty,p,af,g⟩=true)(V:Nd E H B)
  (W:ev L x=some (.pointer (some ⟨bk,off,none⟩))) (Z:ev L y=some v) (aa:BA P t=some v.cells.size) (ab:∀u∈v.cells.toList,Cx u=true) (ae:B[pl]? =some (bk,.cells c e (0,0))) (hle:off+v.cells.size≤c.size)
  (h:Nd E H (B.set pl (bk,.cells (A4 c off v.cells.toList) e (0,0)))→JL J Q b n (AF L d undef) ds (.inRegion ops rest::k) cs (mk E H (B.set pl (bk,.cells (A4 c off v.cells.toList) e (0,0))))):
  JL J Q b n L ds (.inRegion ops (i::rest)::k) cs (mk E H B):=
 JL.op O hw U fun ρ K=>by
  show lp P (do Instr.storeAt t (ρ x) (ρ y);pure Next.skip) _ _ _
  rw [K x _ W,K y _ Z]
  refine AH _ _ ?_
  unfold Instr.storeAt
  simp only [Instr.sureAddr,bind,Sem.bind,pure]
  exact NX aa ab V ae hle fun ag=>h ag
end
end Pal
namespace Pal
open Go Go.Conc
def Ey(P:Program)(t:TypeId):Option Nat:=(P.info? t).map (·.bytes)
section
variable {P:Program}{J:Judge P}{Q:Gs_}{b:Frame}{n:Nat}{L L':Env}{ds:Ld_}{k:Li_}{cs:Lf_}{E H:LH}{B B':List (Nat×Obj)}{s:St}
variable {ops:Ao_}{i:Nat}{rest:List Nat}{d:Option Tmp}{x y:Operand}{t u ty e:TypeId}{p:String}{af:Ae_}{g:On_}{v:Value}
theorem HH{inf:TypeInfo}{Q:TypeInfo→St→Prop}{X:Halt→St→Prop}(h:P.info? t=some inf)(k:Q inf s):lp P (typeInfo t) s Q X:=by
 simp only [typeInfo,bind,Sem.bind,program,lp,h];exact k
theorem Kv{K:Nat}(h:Ey P t=some K):∃inf,P.info? t=some inf∧inf.bytes=K:=by
 unfold Ey at h;cases hi:P.info? t with
 | none=>rw [hi] at h;cases h
 | some i=>rw [hi] at h;simp at h;exact⟨i,rfl,h⟩
theorem HN{β:Type}{z y:Nat}{code:BoundsCode}{f:Nat→Sem β}{K:β→St→Prop}{X:Halt→St→Prop}(V:z≤y)(O:lp P (f z) s K X):lp P (Instr.sliceBound (.int .i64 z) y code>>=f) s K X:=by
 refine AH _ _ ?_;unfold Instr.sliceBound;have U:(0:Int)≤(z:Int)∧(z:Int)≤(y:Int):=⟨by omega,by omega⟩;simp only [asIntOf,bind,Sem.bind,pure];rw [if_pos U];simpa [lp] using O
theorem G0{α β:Type}(a:α)(f:α→Sem β):((pure a:Sem α)>>=f)=f a:=rfl
theorem Za{l c:Nat}{X:Halt→St→Prop}:lp P (Instr.sliceBounds true l c none none none) s (fun r s'=>r=(0,l,c)∧s'=s) X:=by
 unfold Instr.sliceBounds;exact⟨rfl,rfl⟩
theorem Y9{l c:Nat}{lo:Nat}(K:lo≤l){X:Halt→St→Prop}:lp P (Instr.sliceBounds true l c (some (.int .i64 lo)) none none) s (fun r s'=>r=(lo,l,c)∧s'=s) X:=by
 simp only [Instr.sliceBounds,if_true,Option.isSome_none,Option.isSome_some,Bool.false_eq_true,if_false,G0];exact HN K ⟨rfl,rfl⟩
theorem Y4{l c:Nat}{hi:Nat}(hh:hi≤c){X:Halt→St→Prop}:lp P (Instr.sliceBounds true l c none (some (.int .i64 hi)) none) s (fun r s'=>r=(0,hi,c)∧s'=s) X:=by
 simp only [Instr.sliceBounds,if_true,Option.isSome_none,Option.isSome_some,Bool.false_eq_true,if_false,G0];exact HN hh ⟨rfl,rfl⟩
theorem YV{l c:Nat}{lo hi:Nat}(hh:hi≤c)(K:lo≤hi){X:Halt→St→Prop}:lp P (Instr.sliceBounds true l c (some (.int .i64 lo)) (some (.int .i64 hi)) none) s (fun r s'=>r=(lo,hi,c)∧s'=s) X:=by
 have e:Instr.sliceBounds true l c (some (.int .i64 lo)) (some (.int .i64 hi)) none=(Instr.sliceBound (.int .i64 hi) c .sliceAcap>>=fun h=>Instr.sliceBound (.int .i64 lo) h .sliceB>>=fun l=>pure (l,h,c)):=by
  simp [Instr.sliceBounds]
 rw [e];exact HN hh (HN K ⟨rfl,rfl⟩)
theorem YW{l c:Nat}{hi mx:Nat}(hm:mx≤c)(hh:hi≤mx){X:Halt→St→Prop}:lp P (Instr.sliceBounds true l c none (some (.int .i64 hi)) (some (.int .i64 mx))) s (fun r s'=>r=(0,hi,mx)∧s'=s) X:=by
 simp only [Instr.sliceBounds,if_true,Option.isSome_none,Option.isSome_some,Bool.false_eq_true,if_false,G0];exact HN hm (HN hh ⟨rfl,rfl⟩)
theorem YM{l c:Nat}{lo hi mx:Nat}(hm:mx≤c)(hh:hi≤mx)(K:lo≤hi){X:Halt→St→Prop}:lp P (Instr.sliceBounds true l c (some (.int .i64 lo)) (some (.int .i64 hi)) (some (.int .i64 mx))) s (fun r s'=>r=(lo,hi,mx)∧s'=s) X:=by
 simp only [Instr.sliceBounds,if_true,Option.isSome_none,Option.isSome_some,Bool.false_eq_true,if_false,G0];exact HN hm (HN hh (HN K ⟨rfl,rfl⟩))
theorem UM{l c lo hi mx:Nat}{V W Z:Option Value}{X:Halt→St→Prop}
  (O:match Z with | some w=>w= .int .i64 mx | none=>mx=c) (K:match W with | some w=>w= .int .i64 hi | none=>hi=l∧Z=none) (U:match V with | some w=>w= .int .i64 lo | none=>lo=0) (hm:mx≤c) (hh:hi≤mx) (aa:lo≤hi):
  lp P (Instr.sliceBounds true l c V W Z) s (fun r s'=>r=(lo,hi,mx)∧s'=s) X:=by
 cases Z with
 | none=>
  cases W with
  | none=>
   cases V with
   | none=>obtain rfl:mx=c:=O;obtain rfl:hi=l:=K.1;obtain rfl:lo=0:=U;exact Za
   | some w=>obtain rfl:mx=c:=O;obtain rfl:hi=l:=K.1;obtain rfl:w= .int .i64 lo:=U;exact Y9 aa
  | some w=>
   cases V with
   | none=>obtain rfl:mx=c:=O;obtain rfl:w= .int .i64 hi:=K;obtain rfl:lo=0:=U;exact Y4 hh
   | some w'=>obtain rfl:mx=c:=O;obtain rfl:w= .int .i64 hi:=K;obtain rfl:w'= .int .i64 lo:=U;exact YV hh aa
 | some w0=>
  cases W with
  | none=>exact absurd K.2 (fun h=>by cases h)
  | some w=>
   cases V with
   | none=>obtain rfl:w0= .int .i64 mx:=O;obtain rfl:w= .int .i64 hi:=K;obtain rfl:lo=0:=U;exact YW hm hh
   | some w'=>obtain rfl:w0= .int .i64 mx:=O;obtain rfl:w= .int .i64 hi:=K;obtain rfl:w'= .int .i64 lo:=U;exact YM hm hh aa
theorem Vh{a:Option Addr}{l c sz lo hi mx:Nat}{O U K:Option Value}{Q:Value→St→Prop}{X:Halt→St→Prop}(ht:P.underlying t=some (.slice e))(V:BA P e=some sz)
  (W:match K with | some w=>w= .int .i64 mx | none=>mx=c) (Z:match U with | some w=>w= .int .i64 hi | none=>hi=l∧K=none) (aa:match O with | some w=>w= .int .i64 lo | none=>lo=0) (hm:mx≤c) (hh:hi≤mx) (ab:lo≤hi)
  (k:Q (.slice (if mx=lo then a else a.map (·.add (lo*sz))) (hi - lo) (mx - lo)) s):lp P (Instr.slice t (.slice a l c) O U K) s Q X:=by
 unfold Instr.slice;refine AH _ _ (Di ht ?_);have hb:=UM (P:=P) (s:=s) (X:=X) W Z aa hm hh ab;refine AH _ _ (Dv _ hb ?_ (fun _ _ h=>h));rintro r s' ⟨rfl,rfl⟩;exact AH _ _ (EV V k)
theorem Yl.slice{ρ:Operand→Value}{a:Option Addr}{l c sz lo hi mx:Nat}{olo ohi omx:Option Operand}(ht:P.underlying t=some (.slice e))(O:BA P e=some sz)(U:ρ x= .slice a l c)
  (V:match omx with | some w=>ρ w= .int .i64 mx | none=>mx=c) (K:match ohi with | some w=>ρ w= .int .i64 hi | none=>hi=l∧omx=none) (W:match olo with | some w=>ρ w= .int .i64 lo | none=>lo=0) (hm:mx≤c) (hh:hi≤mx) (Z:lo≤hi):
  Yl P ⟨d,.slice t x olo ohi omx,ty,p,af,g⟩ ρ s (.slice (if mx=lo then a else a.map (·.add (lo*sz))) (hi - lo) (mx - lo)):=
 Fx (sm:=Instr.sliceAt t (ρ x) (olo.map ρ) (ohi.map ρ) (omx.map ρ)) rfl (by
  rw [U];unfold Instr.sliceAt
  refine AH _ _ (Di ht ?_)
  refine Vh ht O (mx:=mx) (hi:=hi) (lo:=lo) ?_ ?_ ?_ hm hh Z ⟨rfl,rfl⟩
  ·cases omx <;> exact V
  ·cases ohi with
   | none=>exact⟨K.1,by rw [K.2];rfl⟩
   | some w=>exact K
  ·cases olo <;> exact W)
def GJ(s:St)(v:Value)(sz:Nat)(xs:Lv_):Prop:=
 match v with
 | .slice (some a) l c=>(a.spot=none∨l=0)∧xs.length=l*sz∧l≤c∧∀j w,xs[j]? =some w→s.cell? ⟨a.block,a.off+j,none⟩=some w
 | .slice none l _=>l=0∧xs= []
 | _=>False
theorem El{a:Addr}(h:a.spot=none)(j:Nat):a.add j=⟨a.block,a.off+j,none⟩:=by
 unfold Addr.add;obtain⟨b,o,sp⟩:=a;simp only at h;subst h;split
 ·rename_i e;subst e;rfl
 ·rfl
theorem Jg{sz l:Nat}{xs:Lv_}{Q:AA→St→Prop}{X:Halt→St→Prop}(V:∃a c,v= .slice a l c)(h:GJ s v sz xs)(k:Q xs.toArray s):lp P (Builtin.firstCells sz l v) s Q X:=by
 obtain⟨a,c,rfl⟩:=V;cases a with
 | none=>
  obtain⟨K,rfl⟩:=h;exact k
 | some a=>
  obtain⟨K,O,Z,W⟩:=h;refine PD O.symm (fun j w U=>?_) k;rcases K with K | K
  ·rw [El K];exact W j w U
  ·rw [K,Nat.zero_mul] at O;rw [List.eq_nil_of_length_eq_zero O] at U;cases U
theorem Uu(nl:Nat):∀(r c:Nat),Builtin.growBy nl r c≤max c (2*nl+768):=by
 intro r
 induction r with
 | zero=>intro c;simp [Builtin.growBy];omega
 | succ r K=>
  intro c;simp only [Builtin.growBy];split
  ·omega
  ·rename_i h;have:=K (c+(c+768) / 4);omega
theorem PS{need old:Nat}(h:old<need):Builtin.nextslicecap need old≤2*need+768:=by
 unfold Builtin.nextslicecap;split
 ·omega
 ·split
  ·omega
  ·have:=Uu need 4 old;omega
theorem Pw(z:AA)(m:Nat):(Builtin.zeroCells z m).size=m*z.size:=by simp [Builtin.zeroCells]
def Nn(B:List (Nat×Obj))(pl:Nat)(e:TypeId)(sz:Nat)(a:Option Addr)(l c:Nat)(xs:Lv_):Prop:=
 (a=none∧l=0∧c=0∧xs= [])∨∃bk f,a=some ⟨bk,0,none⟩∧B[pl]? =some (bk,.cells f e (0,0))∧f.size=c*sz∧l≤c∧xs=f.toList.take (l*sz)
theorem PG(c:AA)(off:Nat)(vs:Lv_)(h:off+vs.length≤c.size):(A4 c off vs).toList.take (off+vs.length)=c.toList.take off++vs:=by
 induction vs generalizing c off with
 | nil=>simp [A4]
 | cons v vs O=>
  simp only [A4,List.length_cons] at*;have:=O (c.setIfInBounds off v) (off+1) (by simp;omega);rw [show off+(vs.length+1)=off+1+vs.length from by omega,this];have K:off<c.toList.length:=by simp;omega
  rw [Array.toList_setIfInBounds,List.take_add_one];have U:(c.toList.set off v)[off]? =some v:=by simp at K;simp [K]
  rw [U];simp [List.take_set_of_le]
theorem N8{ats:Array TypeId}{a:Option Addr}{l c sz U m cx:Nat}{ax:Option Addr}{xs ys:Lv_}{z:Value}{Q:Value→St→Prop}{X:Halt→St→Prop}{pl:Nat}
  (ar:ats[0]? =some t) {t1 au:TypeId} (av:ats[1]? =some t1) (aw:P.underlying t1=some (.slice au)) (ht:P.underlying t=some (.slice e)) (ay:BA P e=some sz) (hb:Ey P e=some U) (az:zeroOf P e=some z) (aA:z.cells.size=sz)
  (ag:Nd E H B) (hs:Nn B pl e sz a l c xs)
  (ab:GJ (mk E H B) (.slice ax m cx) sz ys) (aB:∀w∈ys,Cx w=true) (aM:0<U) (aN:l+m≤2 ^ 40) (aC:U≤64)
  (aD:∀bk f K,a=some ⟨bk,0,none⟩→B[pl]? =some (bk,.cells f e (0,0))→K=A4 f (l*sz) ys→l+m≤c→K.size=c*sz→K.toList.take ((l+m)*sz)=xs++ys→Nd E H (B.set pl (bk,.cells K e (0,0)))→Q (.slice a (l+m) c) (mk E H (B.set pl (bk,.cells K e (0,0)))))
  (aE:a=none→m=0→Q (.slice none 0 0) (mk E H B))
  (aF:∀r K V,l+m≤V→K.size=V*sz→K.toList.take ((l+m)*sz)=xs++ys→Nd E H (B++ [(r,.cells K e (0,0))])→Q (.slice (some ⟨r,0,none⟩) (l+m) V) (mk E H (B++ [(r,.cells K e (0,0))]))):
  lp P (Builtin.append_ ats ty #[.slice a l c,.slice ax m cx]) (mk E H B) Q X:=by
 unfold Builtin.append_;simp only [ar,av,List.getElem?_toArray,List.getElem?_cons_zero,List.getElem?_cons_succ];refine AH _ _ (Di ht ?_);refine AH _ _ (EV ay ?_);refine AH _ _ (Di aw ?_);simp only [G0,Bool.false_eq_true,if_false,Builtin.lenOf,Bool.not_false,if_true];have W:ys.length=m*sz:=by
  cases ax with
  | none=>obtain⟨ah,ai⟩:=ab;subst ah ai;simp
  | some ad=>exact ab.2.1
 have aj:∃(aG:Option Addr) (V:Nat),GJ (mk E H B) (.slice a l c) sz xs∧aG=a∧V=c:=by
  refine⟨a,c,?_,rfl,rfl⟩;rcases hs with⟨rfl,rfl,rfl,rfl⟩ | ⟨bk,f,rfl,Z,O,aa,rfl⟩
  ·exact⟨rfl,rfl⟩
  ·have hle:l*sz≤f.size:=by rw [O];exact Nat.mul_le_mul_right _ aa
   refine⟨.inl rfl,by simp [Nat.min_eq_left hle],aa,fun j w ae=>?_⟩;refine QX ag Z ?_;simp only [Nat.zero_add];rw [List.getElem?_take] at ae;split at ae
   ·simpa using ae
   ·cases ae
 obtain⟨_,_,aj,_,_⟩:=aj;have ak:xs.length=l*sz:=by
  rcases hs with⟨rfl,rfl,rfl,rfl⟩ | ⟨bk,f,rfl,Z,O,aa,rfl⟩
  ·simp
  ·have hle:l*sz≤f.size:=by rw [O];exact Nat.mul_le_mul_right _ aa
   simp [Nat.min_eq_left hle]
 split
 ·rename_i ap;refine AH _ _ (Jg ⟨ax,cx,rfl⟩ ab ?_);rcases hs with⟨rfl,rfl,rfl,rfl⟩ | ⟨bk,f,rfl,Z,O,aa,rfl⟩
  ·obtain rfl:m=0:=by omega
   simp only;exact aE rfl rfl
  ·simp only;have hle:l*sz+ys.length≤f.size:=by rw [W,O,← Nat.add_mul];exact Nat.mul_le_mul_right _ ap
   have aH:(Addr.add ⟨bk,0,none⟩ (l*sz))=⟨bk,l*sz,none⟩:=by rw [El rfl];simp
   rw [aH];refine AH _ _ (NR (pl:=pl) ys.toArray.toList 0 f B (by simpa using aB) ag Z (by simpa using hle) (.inl rfl) fun B' aq al=>?_);simp only [Nat.add_zero] at aq;subst aq;refine aD bk f _ rfl Z rfl ap (by rw [N1,O]) ?_ al;have:=PG f (l*sz) ys hle;rw [W,← Nat.add_mul] at this;exact this
 ·rename_i aO;have ah:¬(((l+m:Nat):Int)>IntKind.i64.max∧(False∨U=0)):=by rintro⟨_,h | h⟩ <;> omega
  have ai:¬(Builtin.nextslicecap (l+m) c*U>2 ^ 48):=by
   have:=PS (need:=l+m) (old:=c) (by omega);have aP:Builtin.nextslicecap (l+m) c*U≤(2*(l+m)+768)*64:=Nat.mul_le_mul this aC;omega
  obtain⟨inf,am,an⟩:=Kv hb;refine AH _ _ (HH am ?_);rw [an,if_neg ah];refine AH _ _ (HH am ?_);rw [an,if_neg ai];refine AH _ _ ?_;simp only [choose,lp,Question.forced,Bool.false_eq_true,if_false];refine⟨rfl,fun aI=>?_⟩;generalize aJ:(Question.appendCap (l+m) c e).cut aI=ao;have aK:l+m≤ao:=by rw [← aJ];simp [Question.cut]
  refine AH _ _ (HH am ?_);rw [an];have aL:∀{α:Type} {f:Unit→Sem α} {Q:α→St→Prop},lp P (f ()) (mk E H B) Q X→lp P (askRoom (ao*U)>>=f) (mk E H B) Q X:=by
   intro α f Q O;refine AH _ _ ?_;unfold askRoom;split
   ·exact⟨.inl ⟨rfl,rfl⟩,O⟩
   ·exact O
  refine aL (AH _ _ (Jg ⟨a,c,rfl⟩ aj ?_));refine AH _ _ (Jg ⟨ax,cx,rfl⟩ ab ?_);refine AH _ _ (F5 az ?_);refine AH _ _ (G2 ag fun r al=>?_);refine aF r _ ao aK ?_ ?_ al
  ·simp only [Array.size_append,List.size_toArray,Pw,aA,ak,W];rw [← Nat.add_mul,← Nat.add_mul];congr 1;omega
  ·simp only [Array.toList_append];rw [List.take_append_of_le_length (by simp [ak,W,Nat.add_mul])];rw [List.take_of_length_le (by simp [ak,W,Nat.add_mul])]
end
end Pal
namespace Pal
open Go Go.Conc
theorem NC{P:Program}{α:Type}(x:Sem α):∀{s:St} {Q:α→St→Prop} {X:Halt→St→Prop},lp P x s Q X→lp P x s (fun a s'=>Q a s'∧s'.E=s.E∧s'.q=s.q) X:=by
 induction x with
 | pure a=>intro s Q X h;exact⟨h,rfl,rfl⟩
 | load m a k K=>intro s Q X h;obtain⟨O,v,U,V⟩:=h;exact⟨O,v,U,K _ V⟩
 | store m a v k K=>intro s Q X h;obtain⟨O,U,o,V,Z,aa,ab⟩:=h;exact⟨O,U,o,V,Z,aa,K ab⟩
 | new o k K=>intro s Q X h;exact⟨h.1,fun r O U=>K _ (h.2 r O U)⟩
 | shape r k K=>intro s Q X h;obtain⟨o,O,U⟩:=h;exact⟨o,O,K _ U⟩
 | freeze a n k K=>intro s Q X h;exact h
 | frozen a k K=>intro s Q X h;obtain⟨o,O,U⟩:=h;exact⟨o,O,K _ U⟩
 | getObj r k K=>intro s Q X h;obtain⟨o,O,U,V⟩:=h;exact⟨o,O,U,K _ V⟩
 | setObj r o k K=>intro s Q X h;obtain⟨O,U,V⟩:=h;exact⟨O,U,K V⟩
 | choose q k K=>
  intro s Q X h;simp only [lp] at h ⊢;split
  ·rename_i W;rw [if_pos W] at h;exact K _ h
  ·rename_i W;rw [if_neg W] at h;exact⟨h.1,fun t=>K _ (h.2 t)⟩
 | sys c k K=>intro s Q X h;exact h
 | program k K=>intro s Q X h;exact K _ h
 | mark m k K=>intro s Q X h;exact⟨h.1,K h.2⟩
 | halt h=>intro s Q X h;exact h
def BF(D:Nat→Bool)(s:St):St:=⟨fun b=>if D b then s.get b else s.E b,fun b=>if D b then none else s.H b,s.q⟩
def CL(D:Nat→Bool)(s s':St):St:=⟨fun b=>if D b then s.E b else s'.E b,fun b=>if D b then s.H b else s'.H b,s'.q⟩
theorem Ku(D:Nat→Bool)(s:St):CL D s (BF D s)=s:=by
 obtain⟨E,H,q⟩:=s;unfold CL BF;congr 1
 ·funext b;by_cases h:D b <;> simp [h]
 ·funext b;by_cases h:D b <;> simp [h]
theorem Vx{D:Nat→Bool}{s:St}{w:World}(f:Fits s w):Fits (BF D s) w where
 e b o h:=by
  by_cases hd:D b
  ·simp [BF,hd] at h;exact f.get h
  ·simp [BF,hd] at h;exact f.e b o h
 h b o h:=by
  by_cases hd:D b
  ·simp [BF,hd] at h
  ·simp [BF,hd] at h;exact f.h b o h
 d b h:=by
  by_cases hd:D b
  ·simp [BF,hd]
  ·simp [BF,hd] at h ⊢;exact f.d b h
def Ei{P:Program}(J:Judge P)(f:FuncId)(args:AA)(s:St)(R:Value→St→Prop):Prop:=
 ∀(Q:Gs_) (c:Frame) (cs:Lf_),(∀v s',R v s'→J.ok Q (G (c.finish v) cs) s')→J.ok Q (G (Frame.enter P f args .normal) (c::cs)) s
theorem Ei.Ai{P:Program}{J:Judge P}{f:FuncId}{args:AA}{s:St}{R K:Value→St→Prop}(h:Ei J f args s R)(O:∀v s',R v s'→K v s'):Ei J f args s K:=
 fun Q c cs U=>h Q c cs fun v s' V=>U v s' (O v s' V)
section
variable {P:Program}{J:Judge P}{Q:Gs_}{b:Frame}{n:Nat}{L L':Env}{ds:Ld_}{k:Li_}{cs:Lf_}{s s':St}
theorem Judge.Ro(D:Nat→Bool){T:AA}{ops:Ao_}{i:Nat}{rest:List Nat}{o:Oper}(V:ops[i]? =some o)(hw:Region.wanted o (yielded ops T)=true)(ar:b.kind≠ .early)
  (hd:∀c,o.op≠ .defer c) (au:s.q=false)
  (h:lp P (execOp (BO T) o) (BF D s) (fun nx s'=>upon J Q b T ds ops i rest k cs o.dst nx (CL D s s')) (fun _ _=>False)):
  J.ok Q (G (fr b T ds (.inRegion ops (i::rest)::k)) cs) s:=by
 refine J.step ⟨rfl,fun w f=>?_,fun e=>by subst e;cases au⟩;have W:((fr b T ds (.inRegion ops (i::rest)::k)).kind==CallKind.early)=false:=by simpa [fr] using ar
 have av:stepG P J.main (G (fr b T ds (.inRegion ops (i::rest)::k)) cs) w=stepG.apply P true (fr b T ds (.inRegion ops (i::rest)::k)) cs none (execOp (BO T) o) w:=by
  rw [stepG_op V hw];split
  ·rename_i l c aD e2;exact absurd e2 (hd c)
  ·rfl
 obtain⟨Z,ag,ah,aw,O⟩:=Mj _ (NC _ h) (Vx (D:=D) f);have ai:=OC (P:=P) (fn:=b.fn) aw;have am:=fun v=>Gm (b:=b) (ds:=ds) (k:=k) T ops i rest v o V;have key:∀w',Fits Z w'→Fr (BF D s) w Z w'→Z.E=(BF D s).E→Fits (CL D s Z) w'∧Fr s w (CL D s Z) w':=by
  intro w' aj g2 ay;have an:∀b,D b=true→b<w.heap.size→w'.heap[b]? =w.heap[b]? :=fun b hb ak=>g2.keep b ak (by simp [BF,hb]);have ao:∀b o,(s.H b=some o∨s.E b=some o)→b<w.heap.size:=fun b o V=>by
   have:=V.elim (f.h b o) (f.e b o);rcases Nat.lt_or_ge b w.heap.size with al | al
   ·exact al
   ·simp [Array.getElem?_eq_none al] at this
  refine⟨⟨fun b o hb=>?_,fun b o hb=>?_,fun b hb=>?_⟩,⟨g2.size,fun b ak hb=>?_,fun b hb=>?_,fun b o hb=>?_,fun b hb=>?_,g2.tape,g2.os,g2.output⟩⟩
  ·by_cases K:D b
   ·simp [CL,K] at hb;rw [an b K (ao b o (.inr hb))];exact f.e b o hb
   ·simp [CL,K] at hb;exact aj.e b o hb
  ·by_cases K:D b
   ·simp [CL,K] at hb;rw [an b K (ao b o (.inl hb))];exact f.h b o hb
   ·simp [CL,K] at hb;exact aj.h b o hb
  ·by_cases K:D b
   ·simp [CL,K] at hb ⊢;exact f.d b hb
   ·simp [CL,K] at hb ⊢;exact aj.d b hb
  ·exact g2.keep b ak (by by_cases K:D b <;> simp [BF,K,hb])
  ·by_cases K:D b
   ·simp [CL,K] at hb;exact .inl hb
   ·simp [CL,K] at hb;rcases g2.own b hb with q | q
    ·left;simpa [BF,K] using q
    ·exact .inr q
  ·by_cases K:D b
   ·simp [CL,K];exact hb
   ·simp only [CL,K,Bool.false_eq_true,if_false];rw [ay];simp [BF,K,hb]
  ·by_cases K:D b
   ·simp [CL,K] at hb;exact .inl hb
   ·simp [CL,K] at hb;rcases g2.Eh b hb with q | q | q
    ·left;simpa [BF,K] using q
    ·right;left;simpa [BF,K] using q
    ·exact .inr (.inr q)
 have az:∀w',(∀e∈seen P b.fn ((execOp (BO T) o).events P w #[]),Ev (BF D s) w w' e)→∀e∈seen P b.fn ((execOp (BO T) o).events P w #[]),Ev s w w' e:=by
  intro w' he e hm;have:=he e hm;have ap:∀{b wr},F7 (BF D s) w w' b wr→F7 s w w' b wr:=by
   intro b wr ht;refine⟨ht.1,?_⟩;rcases ht.2 with q | q | ⟨q,aq⟩
   ·left;by_cases K:D b <;> simp [BF,K] at q;exact q
   ·exact .inr (.inl q)
   ·by_cases K:D b
    ·simp [BF,K,St.get] at q;by_cases ae:s.E b=none
     ·left;intro aA;rw [ae,aA] at q;exact q rfl
     ·exact .inr (.inr ⟨ae,aq⟩)
    ·simp [BF,K] at q;exact .inr (.inr ⟨q,aq⟩)
  unfold Ev at this ⊢;split <;> rename_i aB <;> simp only [aB] at this
  ·exact⟨this.1,ap this.2⟩
  ·exact⟨this.1,ap this.2⟩
  ·trivial
  ·trivial
 rw [av];cases U:(execOp (BO T) o).run P w with
 | ok nx w'=>
  rw [U] at ag ah O ai;simp only [I8] at ag ah ai;obtain⟨O,ae,_⟩:=O;obtain⟨k1,aa⟩:=key w' ag ah ae;have ab:=az w' ai;cases nx with
  | value v=>exact⟨_,_,w',seen P b.fn ((execOp (BO T) o).events P w #[])++ #[],by simp [stepG.apply,U,W,GStep.after,G,am,Fj],O,k1,aa,by simpa using ab⟩
  | skip=>exact⟨_,_,w',seen P b.fn ((execOp (BO T) o).events P w #[])++ #[],by simp [stepG.apply,U,W,GStep.after,G,am,Fj],O,k1,aa,by simpa using ab⟩
  | enter g args=>exact⟨_,_,w',seen P b.fn ((execOp (BO T) o).events P w #[])++ #[],by simp [stepG.apply,U,W,GStep.after,G,Fj,G4],O,k1,aa,by simpa using ab⟩
  | round l g aE as aF=>exact⟨_,_,w',seen P b.fn ((execOp (BO T) o).events P w #[])++ #[],by simp [stepG.apply,U,W,GStep.after,G,Fj,G4],O,k1,aa,by simpa using ab⟩
  | defer d=>
   have aC:=Gm (b:=b) (ds:=d::ds) (k:=k) T ops i rest undef o V;exact⟨_,_,w',seen P b.fn ((execOp (BO T) o).events P w #[])++ #[],by
    rw [← aC];simp [stepG.apply,U,W,GStep.after,G,Fj,G4];rfl,O,k1,aa,by simpa using ab⟩
  | _=>exact O.elim
 | halt x w'=>rw [U] at O;exact O.elim
end
end Pal
namespace Pal
open Go Go.Conc
def O5(m:Nat)(listed:Array Bool):Bool:=(List.range m).all fun i=>listed.getD i false
def Bg(listed:Array Bool)(i:Nat):Array Bool:=listed.setIfInBounds i true
section
variable {P:Program}(J:Judge P)(Q:Gs_)(b:Frame)(ds:Ld_)(ops:Ao_)(k:Li_)(cs:Lf_)(m:Nat)(D:Nat→Bool)
def JA:Nat→Array Bool→AA→St→Prop
 | 0,listed,T,s=>Region.ready .any ops listed= []∧J.ok Q (G (fr b T ds (.inRegion ops []::k)) cs) s
 | fuel+1,listed,T,s=>
  (O5 m listed=true∧∀t,J.ok Q (G (fr b T ds (.inRegion ops (Region.linearise.go .any ops (fuel+1) t listed [])::k)) cs) s)∨
  (Region.ready .any ops listed≠ []∧s.q=false∧∀i∈Region.ready .any ops listed,∀o,ops[i]? =some o→(∀c,o.op≠ .defer c)∧
   (Region.wanted o (yielded ops T)=false→JA fuel (Bg listed i) (CU T o.dst undef) s)∧
   (Region.wanted o (yielded ops T)=true→lp P (execOp (BO T) o) (BF D s) (fun nx s'=>match nx with
    | .value v=>JA fuel (Bg listed i) (CU T o.dst v) (CL D s s')
    | .skip=>JA fuel (Bg listed i) (CU T o.dst undef) (CL D s s')
    | .enter f args=>∃R,Ei J f args (CL D s s') R∧∀v K,R v K→K.q=false∧(∀x o,(BF D s).E x=some o→(BF D K).E x=some o)∧JA fuel (Bg listed i) (CU T o.dst v) K
    | _=>False) (fun _ _=>False)))
variable {J Q b ds ops k cs m D}
theorem V1(W:b.kind≠ .early):∀(fuel t:Nat) (listed:Array Bool) (T:AA) (s:St),JA J Q b ds ops k cs m D fuel listed T s→
  J.ok Q (G (fr b T ds (.inRegion ops (Region.linearise.go .any ops fuel t listed [])::k)) cs) s:=by
 intro fuel
 induction fuel with
 | zero=>intro t listed T s h;simpa [Region.linearise.go] using h.2
 | succ fuel K=>
  intro t listed T s h;rcases h with⟨_,h⟩ | ⟨Z,aa,h⟩
  ·exact h t
  ·obtain⟨i,hi⟩:∃i,(Region.ready .any ops listed)[t % (Region.ready .any ops listed).length]? =some i:=by
    have:0<(Region.ready .any ops listed).length:=List.length_pos_iff.2 Z;exact⟨_,List.getElem?_eq_getElem (Nat.mod_lt _ this)⟩
   have V:=List.mem_of_getElem? hi;have hgo:Region.linearise.go .any ops (fuel+1) t listed []=i::Region.linearise.go .any ops fuel (t / (Region.ready .any ops listed).length) (Bg listed i) []:=by
    simp only [Region.linearise.go];change (match(Region.ready .any ops listed)[t % (Region.ready .any ops listed).length]? with
     | some i=>Region.linearise.go .any ops fuel (t / (Region.ready .any ops listed).length) (listed.setIfInBounds i true) [i]
     | none=> [].reverse)=_
    rw [hi];simp only;rw [linearise_go_acc];rfl
   rw [hgo];obtain⟨_,o,O,_⟩:=mem_ready.1 V;obtain⟨hd,ab,ae⟩:=h i V o O;cases hw:Region.wanted o (yielded ops T) with
   | false=>exact Judge.unwanted O hw (K _ _ _ _ (ab hw))
   | true=>
    refine Judge.Ro D O hw W hd aa (Dv _ (ae hw) ?_ (fun _ _ h=>h));intro nx s' U;cases nx with
    | value v=>exact K _ _ _ _ U
    | skip=>exact K _ _ _ _ U
    | enter f args=>
     obtain⟨R,ag,ah⟩:=U;refine ag Q _ cs fun v ai aj=>?_;rw [Gm _ _ _ _ _ _ O];exact K _ _ _ _ (ah v ai aj).2.2
    | _=>exact U.elim
theorem WQ{T:AA}{d:Option Tmp}{v:Value}{x:Operand}(h:∀t,d=some t→x≠ .tmp t):BO (CU T d v) x=BO T x:=by
 cases d with
 | none=>rfl
 | some t=>
  cases x with
  | tmp u=>
   have K:t≠u:=fun e=>h t rfl (e▸rfl);simp only [CU,BO,Array.getD_eq_getD_getElem?,Array.getElem?_setIfInBounds_ne K]
  | _=>rfl
theorem G1{T:AA}{d:Option Tmp}{v:Value}{o:Oper}(hs:∀cs b,o.op≠ .select cs b)(h:∀t,d=some t→t ∉ o.looksAt ops):
  execOp (BO (CU T d v)) o=execOp (BO T) o∧Region.wanted o (yielded ops (CU T d v))=Region.wanted o (yielded ops T):=by
 refine⟨execOp_congr o hs fun x K=>WQ fun t ht O=>h t ht ?_,?_⟩
 ·subst O;exact List.mem_append_left _ (List.mem_filterMap.2 ⟨.tmp t,by simpa using K,rfl⟩)
 ·have:=wanted_put (ops:=ops) o (⟨T,[]⟩:Act) d v h
  rwa [act_put'] at this
 where
  act_put' {T : AA} {d : Option Tmp} {v : Value} : (⟨T, []⟩ : Act).put d v = ⟨CU T d v, []⟩ := by cases d <;> rfl
theorem HK{T:AA}{d e:Option Tmp}{v u:Value}(h:∀t,d=some t→e≠some t):CU (CU T d v) e u=CU (CU T e u) d v:=by
 cases d with
 | none=>rfl
 | some t=>
  cases e with
  | none=>rfl
  | some K=>
   have O:t≠K:=fun q=>h t rfl (q▸rfl);simp [CU,Array.setIfInBounds_comm _ _ O]
theorem PM{D:Nat→Bool}{s s':St}(K:s'.E=(BF D s).E):(BF D (CL D s s')).E=(BF D s).E:=by
 funext x;by_cases h:D x
 ·simp [BF,CL,h,St.get]
 ·have:=congrFun K x;simp [BF,h] at this;simp [BF,CL,h,this]
def HS(ops:Ao_)(listed:Array Bool)(i:Nat)(oi:Oper):Bool:=
 (List.range ops.size).all fun j=>j==i || listed.getD j true || match ops[j]? with
  | some K=>(K.after.any fun e=>Region.binds .any e&&e.on==i) || oi.apart ops K
  | none=>true
def waits(ops:Ao_):Nat→Nat→Nat→Bool
 | 0,_,_=>false
 | f+1,j,i=>match ops[j]? with
  | some K=>K.after.any fun e=>Region.binds .any e&&(e.on==i || waits ops f e.on i)
  | none=>true
def DG(ops:Ao_)(m:Nat):Bool:=
 (List.range ops.size).all fun j=>decide (j<m) || (List.range m).all fun i=>waits ops ops.size j i
def G5(ops:Ao_)(listed:Array Bool):Bool:=
 (List.range ops.size).all fun j=> !listed.getD j false || match ops[j]? with
  | some K=>K.after.all fun e=> !Region.binds .any e || listed.getD e.on false
  | none=>true
theorem NV{listed:Array Bool}(h:G5 ops listed=true){j:Nat}{K:Oper}(O:ops[j]? =some K)(U:listed.getD j false=true):∀e∈K.after,Region.binds .any e=true→listed.getD e.on false=true:=by
 intro e he hb;have:=List.all_eq_true.1 h j (List.mem_range.2 (Array.getElem?_eq_some_iff.1 O).1);rw [U,O] at this;simp only [Bool.not_true,Bool.false_or] at this;have:=Array.all_eq_true'.1 this e he;rw [hb] at this;simpa using this
theorem PE{listed:Array Bool}(W:G5 ops listed=true){i:Nat}:∀(f j:Nat) (O:Oper),ops[j]? =some O→(∀e∈O.after,Region.binds .any e=true→listed.getD e.on false=true)→waits ops f j i=true→listed.getD i false=true∨∃x,ops[x]? =none∧listed.getD x false=true:=by
 intro f
 induction f with
 | zero=>intro j O _ _ h;cases h
 | succ f Z=>
  intro j O aa hd h;simp only [waits,aa] at h;obtain⟨e,he,K⟩:=Array.any_eq_true'.1 h;simp only [Bool.and_eq_true,Bool.or_eq_true,beq_iff_eq] at K;obtain⟨hb,K⟩:=K;have U:=hd e he hb;rcases K with rfl | K
  ·exact .inl U
  ·cases V:ops[e.on]? with
   | none=>exact .inr ⟨_,V,U⟩
   | some o=>exact Z e.on o V (fun ab ae ag=>NV W V U ab ae ag) K
theorem JA.take{i:Nat}{oi:Oper}{w:Bool}{v:Value}(hi:ops[i]? =some oi)(aS:i<m)(aT:DG ops m=true)(aU:Region.noSelect ops=true)(aV:∀c,oi.op≠ .defer c):
  ∀(fuel:Nat) (listed:Array Bool) (T:AA) (s:St),HS ops listed i oi=true→G5 ops listed=true→listed.size=ops.size→i∈Region.ready .any ops listed→s.q=false→Region.wanted oi (yielded ops T)=w→
   (w=true→∀s',s'.q=false→(∀x o,(BF D s).E x=some o→s'.E x=some o)→Yl P oi (BO T) s' v)→
   JA J Q b ds ops k cs m D fuel (Bg listed i) (CU T oi.dst (if w then v else undef)) s→JA J Q b ds ops k cs m D (fuel+1) listed T s:=by
 have ag:∀(j:Nat) (W:Oper),ops[j]? =some W→∀cs b,W.op≠Op.select cs b:=fun j W h cs b=>Region.noSelect_spec aU j W cs b h;intro fuel
 induction fuel with
 | zero=>?_
 | succ fuel al=>?_
 all_goals
  intro listed T s aG aH ah am an hw ai h;refine .inr ⟨fun e=>(by rw [e] at am;cases am),an,fun j aI W O=>?_⟩;by_cases ae:j=i
  ·subst ae;obtain rfl:W=oi:=by rw [hi] at O;exact(Option.some.inj O).symm
   refine⟨aV,fun ay=>?_,fun az=>?_⟩
   ·rw [ay] at hw;subst hw;exact h
   ·rw [az] at hw;subst hw;refine Dv _ (ai rfl (BF D s) an fun _ _ h=>h).out ?_ (fun _ _ h=>h);rintro nx s' ⟨rfl,rfl⟩;rw [Ku];exact h
  ·
   have aJ:j∈Region.ready .any ops (Bg listed i):=ready_mono aI ae;obtain⟨Z,U,aK,aA⟩:=mem_ready.1 aI;obtain rfl:U=W:=by rw [O] at aK;exact(Option.some.inj aK).symm
   have aB:=(mem_ready.1 am).1;have aW:(U.after.any fun e=>Region.binds .any e&&e.on==i)=false:=by
    rw [Array.any_eq_false];intro e he K;simp only [Bool.and_eq_true,beq_iff_eq] at K;have:=aA _ (Array.getElem_mem he) K.1;rw [K.2] at this;have V:listed.getD i true=listed.getD i false∨listed.size≤i:=by
     rcases Nat.lt_or_ge i listed.size with q | q
     ·left;simp [Array.getD_eq_getD_getElem?,q]
     ·exact .inr q
    rcases V with V | V
    ·rw [aB,this] at V;cases V
    ·rw [Array.getD_eq_getD_getElem?,Array.getElem?_eq_none V] at this;simp at this
   have aX:oi.apart ops U=true:=by
    have aj:j<ops.size:=(Array.getElem?_eq_some_iff.1 O).1;have:=List.all_eq_true.1 aG j (List.mem_range.2 aj);simp only [Bool.or_eq_true,beq_iff_eq] at this;rcases this with(q | q) | q
    ·exact absurd q ae
    ·rw [Z] at q;cases q
    ·rw [O] at q;simp only [Bool.or_eq_true] at q;rw [aW] at q;exact q.resolve_left (by simp)
   obtain⟨aY,ao,ap⟩:=Oper.apart_spec aX;obtain⟨p1,p2⟩:=G1 (ops:=ops) (T:=T) (v:=if w then v else undef) (ag j U O) aY
   first
    | exact absurd aJ (by rw [h.1];simp)
    | (
     rcases h with⟨aZ,_⟩ | ⟨bb,_,h⟩
     ·
      exfalso
      have a0:¬j<m:=by
       intro aj
       have:=List.all_eq_true.1 aZ j (List.mem_range.2 aj)
       have e2:(Bg listed i).getD j false=listed.getD j false:=getD_set_ne false (Ne.symm ae)
       rw [e2] at this
       have V:listed.getD j true=true:=by
        rcases Nat.lt_or_ge j listed.size with q | q
        ·simp [Array.getD_eq_getD_getElem?,q] at this ⊢;exact this
        ·simp [Array.getD_eq_getD_getElem?,Array.getElem?_eq_none q] at this
       rw [Z] at V;cases V
      have aj:j<ops.size:=(Array.getElem?_eq_some_iff.1 O).1
      have:=List.all_eq_true.1 aT j (List.mem_range.2 aj)
      simp only [Bool.or_eq_true,decide_eq_true_eq] at this
      have:=List.all_eq_true.1 (this.resolve_left a0) i (List.mem_range.2 aS)
      rcases PE aH _ j U O (fun e he hb=>aA e he hb) this with q | ⟨x,q1,q2⟩
      ·have a1:i<listed.size:=by rw [ah];exact(Array.getElem?_eq_some_iff.1 hi).1
       simp [Array.getD_eq_getD_getElem?,a1] at q aB
       rw [aB] at q;cases q
      ·have:¬x<listed.size:=by rw [ah];intro K;simp [K] at q1
       simp [Array.getD_eq_getD_getElem?,this] at q2
     ·obtain⟨hd,ay,az⟩:=h j aJ U O
      have aq:Bg (Bg listed i) j=Bg (Bg listed j) i:=by
       unfold Bg;exact Array.setIfInBounds_comm _ _ (Ne.symm ae)
      have ar:i∈Region.ready .any ops (Bg listed j):=ready_mono am (Ne.symm ae)
      have au:HS ops (Bg listed j) i oi=true:=by
       refine List.all_eq_true.2 fun x K=>?_
       have:=List.all_eq_true.1 aG x K
       simp only [Bool.or_eq_true,beq_iff_eq] at this ⊢
       rcases this with(q | q) | q
       ·exact .inl (.inl q)
       ·left;right
        by_cases e:j=x
        ·subst e;rw [Z] at q;cases q
        ·rw [Bg,getD_set_ne true e];exact q
       ·exact .inr q
      have av:(Bg listed j).size=ops.size:=by unfold Bg;simpa using ah
      have aw:G5 ops (Bg listed j)=true:=by
       refine List.all_eq_true.2 fun x K=>?_
       cases aC:ops[x]? with
       | none=>simp
       | some a2=>
        simp only [Bool.or_eq_true,Bool.not_eq_true']
        by_cases e:j=x
        ·subst e
         obtain rfl:a2=U:=by rw [O] at aC;exact(Option.some.inj aC).symm
         right
         refine Array.all_eq_true'.2 fun e he=>?_
         cases hb:Region.binds .any e with
         | false=>simp
         | true=>
          have:=aA e he hb
          by_cases e2:j=e.on
          ·rw [← e2] at this
           have aD:j<listed.size:=by rw [ah];exact(Array.getElem?_eq_some_iff.1 O).1
           simp [Array.getD_eq_getD_getElem?,aD] at this Z
           rw [Z] at this;cases this
          ·rw [Bg,getD_set_ne false e2];simpa using this
        ·cases aL:(Bg listed j).getD x false with
         | false=>exact .inl rfl
         | true=>
          right
          have a3:listed.getD x false=true:=by rw [Bg,getD_set_ne false e] at aL;exact aL
          refine Array.all_eq_true'.2 fun aE he=>?_
          cases hb:Region.binds .any aE with
          | false=>simp
          | true=>
           have:=NV aH aC a3 aE he hb
           by_cases e2:j=aE.on
           ·rw [← e2] at this
            have aD:j<listed.size:=by rw [ah];exact(Array.getElem?_eq_some_iff.1 O).1
            simp [Array.getD_eq_getD_getElem?,aD] at this Z
            rw [Z] at this;cases this
           ·rw [Bg,getD_set_ne false e2];simpa using this
      refine⟨hd,fun a4=>?_,fun a5=>?_⟩
      ·have:=ay (by rw [p2];exact a4)
       rw [aq,HK ao] at this
       obtain⟨q1,q2⟩:=G1 (ops:=ops) (T:=T) (d:=U.dst) (v:=undef) (o:=oi) (ag i oi hi) ap
       exact al _ _ _ au aw av ar an (by rw [q2];exact hw) (fun aa s' a6 aF=>by unfold Yl;rw [q1];exact(ai aa s' a6 aF).out) this
      ·have aM:=NC _ (az (by rw [p2];exact a5))
       rw [p1] at aM
       refine Dv _ aM ?_ (fun _ _ h=>h)
       rintro nx s' ⟨K,aF,a7⟩
       have aN:=PM (D:=D) aF
       have aO:(CL D s s').q=false:=by show s'.q=false;rw [a7];exact an
       cases nx with
       | value u=>
        simp only at K ⊢
        rw [aq,HK ao] at K
        obtain⟨q1,q2⟩:=G1 (ops:=ops) (T:=T) (d:=U.dst) (v:=u) (o:=oi) (ag i oi hi) ap
        exact al _ _ _ au aw av ar aO (by rw [q2];exact hw) (fun aa s2 ak ab=>by unfold Yl;rw [q1];exact(ai aa s2 ak (by rw [aN] at ab;exact ab)).out) K
       | skip=>
        simp only at K ⊢
        rw [aq,HK ao] at K
        obtain⟨q1,q2⟩:=G1 (ops:=ops) (T:=T) (d:=U.dst) (v:=undef) (o:=oi) (ag i oi hi) ap
        exact al _ _ _ au aw av ar aO (by rw [q2];exact hw) (fun aa s2 ak ab=>by unfold Yl;rw [q1];exact(ai aa s2 ak (by rw [aN] at ab;exact ab)).out) K
       | enter f args=>
        obtain⟨R,a8,a9⟩:=K
        refine⟨R,a8,fun u ba hu=>?_⟩
        obtain⟨aP,aQ,aR⟩:=a9 u ba hu
        refine⟨aP,aQ,?_⟩
        rw [aq,HK ao] at aR
        obtain⟨q1,q2⟩:=G1 (ops:=ops) (T:=T) (d:=U.dst) (v:=u) (o:=oi) (ag i oi hi) ap
        exact al _ _ _ au aw av ar aP (by rw [q2];exact hw) (fun aa s2 ak ab=>by unfold Yl;rw [q1];exact(ai aa s2 ak (fun x o K=>ab x o (aQ x o K))).out) aR
       | _=>exact K.elim)
end
end Pal
namespace Pal
open Go Go.Conc
section
variable {P:Program}(J:Judge P)(Q:Gs_)(b:Frame)(n:Nat)(ds:Ld_)(ops:Ao_)(k:Li_)(cs:Lf_)(m:Nat)(D:Nat→Bool)
def AV(fuel:Nat)(listed:Array Bool)(L:Env)(s:St):Prop:=∀T,Has n L T→JA J Q b ds ops k cs m D fuel listed T s
end
def C9:Nat→Bool:=fun _=>false
section
variable {P:Program}{J:Judge P}{Q:Gs_}{b:Frame}{n:Nat}{ds:Ld_}{ops:Ao_}{k:Li_}{cs:Lf_}{m fuel:Nat}{D:Nat→Bool}{listed:Array Bool}{L:Env}{s:St}
theorem Oh(m:Nat)(D:Nat→Bool){id:Nat}(K:s.q=false)(hm:P.follows .mixedOrders=true)(O:(b.kind != .early)=true)(h:AV J Q b n ds ops k cs m D ops.size (Array.replicate ops.size false) L s):JL J Q b n L ds (.code (.region id ops true)::k) cs s:=
 Rt K hm fun t T U=>V1 (by simpa using O) ops.size t _ T s (h T U)
theorem UF{i:Nat}{oi:Oper}{v:Value}(hi:ops[i]? =some oi)(U:decide (i<m)=true)(V:DG ops m=true)(W:Region.noSelect ops=true)(O:(!Dx oi.op)=true)(Z:HS ops listed i oi=true)(aa:G5 ops listed=true)(ab:(listed.size==ops.size)=true)(ae:(Region.ready .any ops listed).contains i=true)(ag:s.q=false)
  (hw:Bi L ops oi=some true) (ah:BE n oi.dst=true) (ai:∀ρ,EL L ρ→∀s',s'.q=false→(∀x o,(BF D s).E x=some o→s'.E x=some o)→Yl P oi ρ s' v)
  (h:AV J Q b n ds ops k cs m D fuel (Bg listed i) (AF L oi.dst v) s):AV J Q b n ds ops k cs m D (fuel+1) listed L s:=fun T K=>by
 refine JA.take (w:=true) (v:=v) hi (by simpa using U) V W (fun c aj=>by rw [aj] at O;simp [Dx] at O) fuel listed T s Z aa (by simpa using ab) (by simpa using ae) ag (Dj K hw) (fun _ s' ak al=>ai _ K.Gs s' ak al) ?_
 exact h _ (K.put ah v)
theorem UK{i:Nat}{oi:Oper}(hi:ops[i]? =some oi)(U:decide (i<m)=true)(V:DG ops m=true)(W:Region.noSelect ops=true)(K:(!Dx oi.op)=true)(Z:HS ops listed i oi=true)(aa:G5 ops listed=true)(ab:(listed.size==ops.size)=true)(ae:(Region.ready .any ops listed).contains i=true)(ag:s.q=false)
  (hw:Bi L ops oi=some false) (ah:BE n oi.dst=true)
  (h:AV J Q b n ds ops k cs m D fuel (Bg listed i) (AF L oi.dst undef) s):AV J Q b n ds ops k cs m D (fuel+1) listed L s:=fun T O=>by
 refine JA.take (w:=false) (v:=undef) hi (by simpa using U) V W (fun c ai=>by rw [ai] at K;simp [Dx] at K) fuel listed T s Z aa (by simpa using ab) (by simpa using ae) ag (Dj O hw) (fun e=>by cases e) ?_
 exact h _ (O.put ah undef)
theorem QP(aa:s.q=false)(ab:Region.ready .any ops listed≠ [])
  (h:∀i∈Region.ready .any ops listed,∀o,ops[i]? =some o→(!Dx o.op)=true∧BE n o.dst=true∧∃w,Bi L ops o=some w∧
   (w=false→AV J Q b n ds ops k cs m D fuel (Bg listed i) (AF L o.dst undef) s)∧
   (w=true→∀ρ,EL L ρ→lp P (execOp ρ o) (BF D s) (fun nx s'=>match nx with
    | .value v=>AV J Q b n ds ops k cs m D fuel (Bg listed i) (AF L o.dst v) (CL D s s')
    | .skip=>AV J Q b n ds ops k cs m D fuel (Bg listed i) (AF L o.dst undef) (CL D s s')
    | .enter f args=>∃R,Ei J f args (CL D s s') R∧∀v K,R v K→K.q=false∧(∀x o,(BF D s).E x=some o→(BF D K).E x=some o)∧AV J Q b n ds ops k cs m D fuel (Bg listed i) (AF L o.dst v) K
    | _=>False) (fun _ _=>False))):
  AV J Q b n ds ops k cs m D (fuel+1) listed L s:=fun T O=>by
 refine .inr ⟨ab,aa,fun i hi o ae=>?_⟩
 obtain⟨Z,U,w,hw,ag,ah⟩:=h i hi o ae
 have V:=Dj O hw
 refine⟨fun c ai=>by rw [ai] at Z;simp [Dx] at Z,fun e=>?_,fun e=>?_⟩
 ·rw [e] at V
  exact ag V.symm _ (O.put U undef)
 ·rw [e] at V;refine Dv _ (ah V.symm _ O.Gs) ?_ (fun _ _ h=>h);intro nx s' W;cases nx with
  | value v=>exact W _ (O.put U v)
  | skip=>exact W _ (O.put U undef)
  | enter f args=>
   obtain⟨R,aj,ak⟩:=W;exact⟨R,aj,fun v K al=>let ⟨a,b,c⟩:=ak v K al;⟨a,b,c _ (O.put U v)⟩⟩
  | _=>exact W.elim
theorem AV.one{i:Nat}{o:Oper}(Z:s.q=false)(V:Region.ready .any ops listed= [i])(hi:ops[i]? =some o)(O:(!Dx o.op&&BE n o.dst)=true)(hw:Bi L ops o=some true)
  (h:∀ρ,EL L ρ→lp P (execOp ρ o) (BF D s) (fun nx s'=>match nx with
    | .value v=>AV J Q b n ds ops k cs m D fuel (Bg listed i) (AF L o.dst v) (CL D s s')
    | .skip=>AV J Q b n ds ops k cs m D fuel (Bg listed i) (AF L o.dst undef) (CL D s s')
    | .enter f args=>∃R,Ei J f args (CL D s s') R∧∀v K,R v K→K.q=false∧(∀x o,(BF D s).E x=some o→(BF D K).E x=some o)∧AV J Q b n ds ops k cs m D fuel (Bg listed i) (AF L o.dst v) K
    | _=>False) (fun _ _=>False)):
  AV J Q b n ds ops k cs m D (fuel+1) listed L s:=by
 simp only [Bool.and_eq_true] at O;refine QP Z (by rw [V];simp) fun j U o' W=>?_;rw [V] at U;simp at U;subst U;obtain rfl:o'=o:=by rw [hi] at W;exact(Option.some.inj W).symm
 exact⟨O.1,O.2,true,hw,fun e=>(by cases e),fun _=>h⟩
theorem AV.call{i:Nat}{d:Option Tmp}{f:FuncId}{args:Array Operand}{ats:Array TypeId}{ty:TypeId}{p:String}{af:Ae_}{g:On_}{vs:Lv_}{R:Value→St→Prop}(U:s.q=false)(V:Region.ready .any ops listed= [i])
  (W:ops[i]? =some ⟨d,.call ⟨.value (.func f),args,ats⟩,ty,p,af,g⟩) (Z:BE n d=true) (hw:Bi L ops ⟨d,.call ⟨.value (.func f),args,ats⟩,ty,p,af,g⟩=some true) (hb:D9 P f=true) (aa:evs L args.toList=some vs)
  (ab:Ei J f vs.toArray s R) (h:∀v K,R v K→K.q=false∧(∀x o,(BF D s).E x=some o→(BF D K).E x=some o)∧AV J Q b n ds ops k cs m D fuel (Bg listed i) (AF L d v) K):
  AV J Q b n ds ops k cs m D (fuel+1) listed L s:=by
 refine AV.one U V W (by simp [Dx,Z]) hw fun ρ O=>?_;have ae:args.map ρ=vs.toArray:=by
  rw [← Gy O aa];apply Array.ext';simp
 have ag:ρ (.func f)= .func (.func f) #[] #[]:=O _ _ rfl;simp only [execOp,resolve,bind,Sem.bind,Deferred.ofValue,ag,pure,invoke];have e: #[]++args.map ρ++ #[]=vs.toArray:=by rw [ae];simp
 rw [e];refine Jh hb ?_;rw [Ku];exact⟨R,ab,h⟩
theorem AV.leaf{tail:List Nat}(K:O5 m listed=true)(hgo:∀t,Region.linearise.go .any ops (fuel+1) t listed []=tail)(h:JL J Q b n L ds (.inRegion ops tail::k) cs s):AV J Q b n ds ops k cs m D (fuel+1) listed L s:=fun T O=>
 .inl ⟨K,fun t=>by rw [hgo t];exact h T O⟩
theorem AV.fin(K:Region.ready .any ops listed= [])(h:JL J Q b n L ds k cs s):AV J Q b n ds ops k cs m D 0 listed L s:=fun T O=>⟨K,JL.done h T O⟩
theorem Yg{listed:Array Bool}{i:Nat}{tail:List Nat}{fuel:Nat}(K:Region.ready .any ops listed= [i])(h:∀t,Region.linearise.go .any ops fuel t (Bg listed i) []=tail)(t:Nat):Region.linearise.go .any ops (fuel+1) t listed []=i::tail:=by
 simp only [Region.linearise.go];change (match(Region.ready .any ops listed)[t % (Region.ready .any ops listed).length]? with
  | some i=>Region.linearise.go .any ops fuel (t / (Region.ready .any ops listed).length) (listed.setIfInBounds i true) [i]
  | none=> [].reverse)=_
 rw [K];simp only [List.length_singleton,Nat.mod_one,List.getElem?_cons_zero];rw [linearise_go_acc];have:=h (t / 1);unfold Bg at this;rw [this];rfl
theorem Vi{i:Nat}{rest:List Nat}{d:Option Tmp}{f:FuncId}{args:Array Operand}{ats:Array TypeId}{ty:TypeId}{p:String}{af:Ae_}{g:On_}{vs:Lv_}{R:Value→St→Prop}
  (U:ops[i]? =some ⟨d,.call ⟨.value (.func f),args,ats⟩,ty,p,af,g⟩) (hw:Bi L ops ⟨d,.call ⟨.value (.func f),args,ats⟩,ty,p,af,g⟩=some true) (K:((b.kind != .early)&&BE n d)=true) (hb:D9 P f=true)
  (V:evs L args.toList=some vs) (W:Ei J f vs.toArray s R) (Z:∀v s',R v s'→JL J Q b n (AF L d v) ds (.inRegion ops rest::k) cs s'):
  JL J Q b n L ds (.inRegion ops (i::rest)::k) cs s:=fun T O=>by
 simp only [Bool.and_eq_true] at K
 have aa:args.map (BO T)=vs.toArray:=by
  rw [← Gy O.Gs V];apply Array.ext';simp
 refine Judge.oper U (Dj O hw) (by simpa using K.1) (.inr fun c ab=>by cases ab) ?_;have hd:lp P (execOp (BO T) ⟨d,.call ⟨.value (.func f),args,ats⟩,ty,p,af,g⟩) s (upon J Q b T ds ops i rest k cs d) (Nk J Q b T ds ops i rest k cs):=by
  simp only [execOp,resolve,bind,Sem.bind,Deferred.ofValue,BO,pure,invoke];have e: #[]++args.map (BO T)++ #[]=vs.toArray:=by rw [aa];simp
  rw [e];refine Jh hb (W Q _ cs fun v s' ae=>?_);rw [Gm (o:=⟨d,.call ⟨.value (.func f),args,ats⟩,ty,p,af,g⟩) _ _ _ _ _ U];exact Z v s' ae _ (O.put K.2 v)
 exact hd
theorem Ei.enter{f:FuncId}{fn:Func}{c:Code}{vs:Lv_}{R:Value→St→Prop}(V:P.funcs[f]? =some fn)(hb:fn.body=some c)(aa:vs.length≤fn.ntmps)
  (h:∀(Q:Gs_) (K:Frame) (cs:Lf_),(∀v s',R v s'→J.ok Q (G (K.finish v) cs) s')→JL J Q (base f) fn.ntmps (FW 0 vs) [] [.code c] (K::cs) s):Ei J f vs.toArray s R:=fun Q K cs W=>by
 have he:Frame.enter P f vs.toArray .normal=fr (base f) (vs.toArray++Array.replicate (fn.ntmps - vs.length) undef) [] [.code c]:=by
  simp [Frame.enter,fr,V,hb,base];rfl
 rw [he];refine h Q K cs W _ ⟨by simp;omega,fun t v ht=>?_⟩;obtain⟨_,O⟩:=Ji ht;have Z:t<vs.length:=by
  rcases Nat.lt_or_ge t vs.length with U | U
  ·exact U
  ·simp at O;have:=(List.getElem?_eq_some_iff.1 O).1;omega
 rw [Array.getD_eq_getD_getElem?,Array.getElem?_append_left (by simpa using Z)];simp at O;simp [O]
end
end Pal
namespace Pal
open Go Go.Conc
section
variable {P:Program}{J:Judge P}{Q:Gs_}{b:Frame}{n:Nat}{ds:Ld_}{ops:Ao_}{k:Li_}{cs:Lf_}{L:Env}{s:St}{E E' H:LH}{B B0:List (Nat×Obj)}
theorem RJ(O:s.q=false)(h:(∃w,Fits s w)→JL J Q b n L ds k cs s):JL J Q b n L ds k cs s:=fun T U=>by
 by_cases K:∃w,Fits s w
 ·exact h K T U
 ·exact J.step ⟨rfl,fun w f=>absurd ⟨w,f⟩ K,fun e=>by subst e;cases O⟩
theorem PW{x:Nat}:∀{B:List (Nat×Obj)},(∃p∈B,p.1=x)→Bm B H x≠none
 | [],⟨p,K,_⟩=>by cases K
 | (c,o)::B,⟨p,K,e⟩=>by
  simp only [Bm]
  split
  ·simp
  ·rename_i O;rcases List.mem_cons.1 K with q | q
   ·subst q;exact absurd e.symm O
   ·exact PW ⟨p,q,e⟩
theorem Nd.grow(O:Nd E H B)(hd:∀x,E' x≠none→Bm B H x=none):Nd E' H B:=by
 have key:∀{C:List (Nat×Obj)},Nd E H C→(∀p∈C,p∈B)→Nd E' H C:=by
  intro C
  induction C with
  | nil=>intro _ _;trivial
  | cons p C U=>
   obtain⟨c,o⟩:=p;intro hC hs;refine⟨?_,hC.2.1,hC.2.2.1,U hC.2.2.2 fun p K=>hs p (List.mem_cons_of_mem _ K)⟩;cases V:E' c with
   | none=>rfl
   | some u=>exact absurd (hd c (by rw [V];simp)) (PW ⟨(c,o),hs _ (by simp),rfl⟩)
 exact key O fun p K=>K
def ND(E:LH)(sz:Nat)(v:Value)(n:Nat)(xs:Lv_):Prop:=
 ∃a c,v= .slice a n c∧n≤c∧xs.length=n*sz∧(n=0∨∃bk off f e fr,a=some ⟨bk,off,none⟩∧E bk=some (.cells f e fr)∧∀j w,xs[j]? =some w→f[off+j]? =some w)
theorem ND.nil{sz:Nat}:ND E sz (.slice none 0 0) 0 []:=⟨none,0,rfl,Nat.le_refl _,by simp,.inl rfl⟩
def GS(e:TypeId)(sz:Nat)(a:Option Addr)(l c:Nat)(blk:List (Nat×Obj))(xs:Lv_):Prop:=
 (a=none∧l=0∧c=0∧blk= []∧xs= [])∨∃bk f,a=some ⟨bk,0,none⟩∧blk= [(bk,.cells f e (0,0))]∧f.size=c*sz∧l≤c∧xs=f.toList.take (l*sz)
theorem GS.nil{e:TypeId}{sz:Nat}:GS e sz none 0 0 [] []:= .inl ⟨rfl,rfl,rfl,rfl,rfl⟩
theorem GS.length{e:TypeId}{sz:Nat}{a:Option Addr}{l c:Nat}{blk:List (Nat×Obj)}{xs:Lv_}(h:GS e sz a l c blk xs):xs.length=l*sz:=by
 rcases h with⟨_,rfl,_,_,rfl⟩ | ⟨bk,f,_,_,K,O,rfl⟩
 ·simp
 ·have:l*sz≤c*sz:=Nat.mul_le_mul_right _ O;simp [K,Nat.min_eq_left this]
theorem Tn{t e:TypeId}{v:Value}{Q:Value→St→Prop}{X:Halt→St→Prop}{z:Value}(ht:P.underlying t=some (.slice e))(O:BA P e=some v.cells.size)(U:zeroOf P e=some z)(ab:z.cells.size=v.cells.size)(ae:0<v.cells.size)(ag:v.cells.size≤64)
  (V:Nd E H B) (k:∀r,Nd E H (B++ [(r,.cells v.cells e (0,0))])→Q (.slice (some ⟨r,0,none⟩) 1 1) (mk E H (B++ [(r,.cells v.cells e (0,0))]))):lp P (Instr.buildSlice t 1 #[(0,v)]) (mk E H B) Q X:=by
 unfold Instr.buildSlice;refine AH _ _ (Di ht ?_);refine AH _ _ (EV O ?_);rw [if_neg (by omega),if_neg (by omega)];refine AH (x:=zeroValue e) _ (F5 U ?_);have W:Instr.fill (fun i=>some (i*v.cells.size,v.cells.size)) ((Array.range (1*v.cells.size)).map fun i=>z.cells[i % z.cells.size]!) [(0,v)]=some v.cells:=by
  simp only [Instr.fill,Array.size_map,Array.size_range,Nat.one_mul,Nat.zero_mul];rw [if_neg (by simp)];congr 1;apply Array.ext_getElem?;intro j;have key:∀(l:Lv_) (st:Nat) (c:AA),st+l.length≤c.size→∀j,(List.foldl (fun cs (p:Value×Nat)=>cs.setIfInBounds (0+p.2) p.1) c (l.zipIdx st))[j]? =if st≤j∧j<st+l.length then l[j - st]? else c[j]? :=by
   intro l
   induction l with
   | nil=>intro st c _ j;simp;omega
   | cons x l Z=>
    intro st c ah j;simp only [List.zipIdx_cons,List.foldl_cons,List.length_cons] at*;rw [Z (st+1) _ (by simp;omega) j];simp only [Nat.zero_add];by_cases aa:j=st
    ·subst aa;rw [if_neg (by omega),if_pos (by omega)];rw [Nat.sub_self,List.getElem?_cons_zero,Array.getElem?_setIfInBounds_self_of_lt (by omega)]
    ·by_cases e2:st+1≤j∧j<st+1+l.length
     ·rw [if_pos e2,if_pos (by omega)];have:j - st=(j - (st+1))+1:=by omega
      rw [this];simp
     ·rw [if_neg e2,if_neg (by omega),Array.getElem?_setIfInBounds_ne (by omega)]
  have:=key v.cells.toList 0 ((Array.range v.cells.size).map fun i=>z.cells[i % z.cells.size]!) (by simp) j;rw [← Array.foldl_toList,Array.toList_zipIdx,this];by_cases K:j<v.cells.size
  ·simp [K]
  ·simp [K]
 rw [G0];simp only [W];exact AH _ _ (G2 V k)
end
end Pal
namespace Pal
open Go Go.Conc
section
variable {P:Program}{J:Judge P}{Q:Gs_}{b:Frame}{n:Nat}{ds:Ld_}{ops:Ao_}{k:Li_}{cs:Lf_}{L:Env}{s:St}{E E' H:LH}{B B0:List (Nat×Obj)}
theorem LZ{ρ:Operand→Value}{d:Option Tmp}{x y:Operand}{ats:Array TypeId}{ty:TypeId}{p:String}{af:Ae_}{g:On_}:
  execOp ρ ⟨d,.call ⟨.builtin .append,#[x,y],ats⟩,ty,p,af,g⟩=(do pure (Next.value (← Builtin.append_ ats ty #[ρ x,ρ y]))):=by
 simp [execOp,resolve,invoke,builtin,bind,Sem.bind,pure]
theorem Tr{ρ:Operand→Value}{d:Option Tmp}{y:Operand}{t ty:TypeId}{p:String}{af:Ae_}{g:On_}:
  execOp ρ ⟨d,.buildSlice t 1 #[(0,y)],ty,p,af,g⟩=(do pure (Next.value (← Instr.buildSlice t 1 #[(0,ρ y)]))):=by
 simp [execOp]
theorem Yf{L:Env}{d1:Tmp}{w:Value}:ev (AF L (some d1) w) (.tmp d1)=some w:=by
 simp [AF,ev,look]
theorem GD{α:Type}(l r:List α)(x y:α):(l++x::r).set l.length y=l++y::r:=by simp
theorem Ih{e t t1:TypeId}{sz ag l c m:Nat}{a:Option Addr}{blk:List (Nat×Obj)}{xs ys:Lv_}{i:Nat}{rest:List Nat}{d:Option Tmp}{x y:Operand}{ats:Array TypeId}{ty:TypeId}{p:String}{af:Ae_}{g:On_}{z:Value}{ax:Option Addr}{cx:Nat}{B1:List (Nat×Obj)}
  (ap:ops[i]? =some ⟨d,.call ⟨.builtin .append,#[x,y],ats⟩,ty,p,af,g⟩) (hw:Bi L ops ⟨d,.call ⟨.builtin .append,#[x,y],ats⟩,ty,p,af,g⟩=some true) (aq:CZ b n ⟨d,.call ⟨.builtin .append,#[x,y],ats⟩,ty,p,af,g⟩=true)
  (ar:ev L x=some (.slice a l c)) (au:ev L y=some (.slice ax m cx)) (av:ats[0]? =some t) (aw:ats[1]? =some t1) (ht:P.underlying t=some (.slice e)) (ay:P.underlying t1=some (.slice e)) (az:BA P e=some sz) (hb:Ey P e=some ag) (aA:zeroOf P e=some z) (aB:z.cells.size=sz)
  (aC:0<ag) (aD:ag≤64) (aM:0<m) (aE:l+m≤2 ^ 40) (aF:∀w∈ys,Cx w=true) (hg:GS e sz a l c blk xs) (aG:Nd E H (B0++blk++B1)) (hs:GJ (mk E H (B0++blk++B1)) (.slice ax m cx) sz ys)
  (h:∀an Z ah,GS e sz an (l+m) Z ah (xs++ys)→Nd E H (B0++ah)→JL J Q b n (AF L d (.slice an (l+m) Z)) ds (.inRegion ops rest::k) cs (mk E H (B0++ah))):
  JL J Q b n L ds (.inRegion ops (i::rest)::k) cs (mk E H (B0++blk++B1)):=by
 refine JL.op ap hw aq fun ρ ao=>?_;rw [LZ,ao x _ ar,ao y _ au];have aH:Nn (B0++blk++B1) B0.length e sz a l c xs:=by
  rcases hg with⟨O,W,aa,ai,ab⟩ | ⟨bk,f,O,W,aa,ai,ab⟩
  ·exact .inl ⟨O,W,aa,ab⟩
  ·refine .inr ⟨bk,f,O,?_,aa,ai,ab⟩;subst W;simp
 have hlen:=hg.length;refine AH _ _ (N8 (pl:=B0.length) av aw ay ht az hb aA aB aG aH hs aF aC aE aD ?_ ?_ ?_)
 ·
  intro bk f K ae aN aO aI aj ak V;rcases hg with⟨O,_⟩ | ⟨U,f0,O,W,aa,ai,ab⟩
  ·rw [O] at ae;cases ae
  ·subst W;have aJ:U=bk:=by rw [O] at ae;simpa using ae
   subst aJ;have aK:(B0++ [(U,Obj.cells f0 e (0,0))]++B1).set B0.length (U,.cells K e (0,0))=B0++ [(U,.cells K e (0,0))]++B1:=by
    rw [List.append_assoc,List.append_assoc];exact GD _ _ _ _
   rw [aK] at V ⊢;have al:Nd E H (B0++ [(U,.cells K e (0,0))]):=Nd.left V;refine JL.drop (B0++ [(U,.cells K e (0,0))]) (fun p am=>?_) V (h a c _ (.inr ⟨U,K,O,rfl,aj,aI,ak.symm⟩) al);exact List.mem_iff_getElem?.1 (List.mem_append_left _ am)
 ·intro _ hm;omega
 ·
  intro r K Z aL aj ak V;have al:Nd E H (B0++ [(r,.cells K e (0,0))]):=Nd.pick V;refine JL.drop (B0++ [(r,.cells K e (0,0))]) (fun p am=>?_) V (h (some ⟨r,0,none⟩) Z _ (.inr ⟨r,K,rfl,rfl,aj,aL,ak.symm⟩) al);refine List.mem_iff_getElem?.1 ?_;rcases List.mem_append.1 am with q | q
  ·simp [q]
  ·exact List.mem_append_right _ q
 where
  Nd.left {E H : LH} {A C : List (Nat × Obj)} (h : Nd E H (A ++ C)) : Nd E H A := by
    induction A with
    | nil => trivial
    | cons p A ih =>
      obtain ⟨c, o⟩ := p
      obtain ⟨h1, h2, h3, h4⟩ := h
      exact ⟨h1, h2, fun q hq => h3 q (List.mem_append_left _ hq), ih h4⟩
  Nd.pick {E H : LH} {A C F : List (Nat × Obj)} {x : Nat × Obj} (h : Nd E H (A ++ C ++ F ++ [x])) : Nd E H (A ++ [x]) := by
    induction A with
    | nil =>
      have : ∀ (D : List (Nat × Obj)), Nd E H (D ++ [x]) → Nd E H [x] := by
        intro D
        induction D with
        | nil => exact fun h => h
        | cons p D ih => obtain ⟨c, o⟩ := p; exact fun h => ih h.2.2.2
      exact this _ h
    | cons p A ih =>
      obtain ⟨c, o⟩ := p
      obtain ⟨h1, h2, h3, h4⟩ := h
      refine ⟨h1, h2, fun q hq => h3 q ?_, ih h4⟩
      rcases List.mem_append.1 hq with hq | hq
      · simp [hq]
      · exact List.mem_append_right _ hq
theorem Uk{sz r:Nat}{e:TypeId}{v:Value}{A:List (Nat×Obj)}(K:v.cells.size=sz)(O:Nd E H (A++ [(r,.cells v.cells e (0,0))])):
  GJ (mk E H (A++ [(r,.cells v.cells e (0,0))])) (.slice (some ⟨r,0,none⟩) 1 1) sz v.cells.toList:=by
 refine⟨.inl rfl,by simp [K],Nat.le_refl _,fun j w U=>?_⟩;simp only [Nat.zero_add];refine QX (i:=A.length) O (c:=v.cells) (e:=e) (f:=(0,0)) (by simp) ?_;simpa using U
theorem Ud{e t t1 t2:TypeId}{sz K l c:Nat}{a:Option Addr}{blk:List (Nat×Obj)}{xs:Lv_}{i aa:Nat}{rest:List Nat}{d1:Tmp}{d:Option Tmp}{x y:Operand}{ats:Array TypeId}{ty O:TypeId}{p U:String}{af V:Ae_}{g g':On_}{z v:Value}
  (ak:ops[i]? =some ⟨some d1,.buildSlice t2 1 #[(0,y)],O,U,V,g'⟩) (hw:Bi L ops ⟨some d1,.buildSlice t2 1 #[(0,y)],O,U,V,g'⟩=some true) (al:CZ b n ⟨some d1,.buildSlice t2 1 #[(0,y)],O,U,V,g'⟩=true)
  (am:ops[aa]? =some ⟨d,.call ⟨.builtin .append,#[x,.tmp d1],ats⟩,ty,p,af,g⟩) (an:∀w,Bi (AF L (some d1) w) ops ⟨d,.call ⟨.builtin .append,#[x,.tmp d1],ats⟩,ty,p,af,g⟩=some true) (ao:CZ b n ⟨d,.call ⟨.builtin .append,#[x,.tmp d1],ats⟩,ty,p,af,g⟩=true)
  (ap:∀w,ev (AF L (some d1) w) x=some (.slice a l c)) (aq:ev L y=some v) (ar:ats[0]? =some t) (au:ats[1]? =some t1) (ht:P.underlying t=some (.slice e)) (av:P.underlying t1=some (.slice e)) (aw:P.underlying t2=some (.slice e)) (ab:BA P e=some sz) (hb:Ey P e=some K) (ae:zeroOf P e=some z) (ag:z.cells.size=sz)
  (ay:0<K) (az:K≤64) (W:v.cells.size=sz) (aE:0<sz) (aF:sz≤64) (aA:l+1≤2 ^ 40) (aB:∀w∈v.cells.toList,Cx w=true) (hg:GS e sz a l c blk xs) (aC:Nd E H (B0++blk))
  (h:∀w ah ai Z,GS e sz ah (l+1) ai Z (xs++v.cells.toList)→Nd E H (B0++Z)→JL J Q b n (AF (AF L (some d1) w) d (.slice ah (l+1) ai)) ds (.inRegion ops rest::k) cs (mk E H (B0++Z))):
  JL J Q b n L ds (.inRegion ops (i::aa::rest)::k) cs (mk E H (B0++blk)):=by
 refine JL.op ak hw al fun ρ aD=>?_;rw [Tr,aD y _ aq];refine AH _ _ (Tn (z:=z) (v:=v) aw (by rw [W];exact ab) ae (by rw [W];exact ag) (by omega) (by omega) aC fun r aj=>?_);refine Ih (B1:= [(r,.cells v.cells e (0,0))]) (m:=1) (cx:=1) (ax:=some ⟨r,0,none⟩) (y:= .tmp d1) (x:=x) (ys:=v.cells.toList) (l:=l) (c:=c) (a:=a) (blk:=blk) (xs:=xs) am (an _) ao (ap _) Yf ar au ht av ab hb ae ag ay az (by omega) aA aB hg aj ?_ (h _);exact Uk W aj
theorem TL{e:TypeId}{sz l c:Nat}{a:Option Addr}{blk:List (Nat×Obj)}{xs:Lv_}{todo:Li_}(hg:GS e sz a l c blk xs)(O:Nd E H (B0++blk))
  (h:∀E',Le E E'→ND E' sz (.slice a l c) l xs→Nd E' H B0→JL J Q b n L ds todo cs (mk E' H B0)):JL J Q b n L ds todo cs (mk E H (B0++blk)):=by
 rcases hg with⟨rfl,rfl,rfl,rfl,rfl⟩ | ⟨bk,f,rfl,rfl,W,U,rfl⟩
 ·simp only [List.append_nil] at O ⊢;exact h E (Le.refl _) .nil O
 ·have Z:(B0++ [(bk,Obj.cells f e (0,0))])[B0.length]? =some (bk,Obj.cells f e (0,0)):=by simp
  refine JL.freeze B0.length O Z fun E' hle aa V=>?_;have ab:(B0++ [(bk,Obj.cells f e (0,0))]).eraseIdx B0.length=B0:=by rw [List.eraseIdx_append_of_length_le (Nat.le_refl _)];simp
  rw [ab] at V ⊢;refine h E' hle ⟨_,c,rfl,U,?_,.inr ⟨bk,0,f,e,(0,0),rfl,aa,fun j w K=>?_⟩⟩ V
  ·have:l*sz≤c*sz:=Nat.mul_le_mul_right _ U;simp [W,Nat.min_eq_left this]
  ·rw [List.getElem?_take] at K;split at K
   ·simpa using K
   ·cases K
end
end Pal
namespace Pal
open Go Go.Conc
abbrev EG(s:Nat):Value:= .int .u16 (s:Int)
abbrev iV(n:Int):Value:= .int .i64 n
section
variable {P:Program}{s:St}{ρ:Operand→Value}{d:Option Tmp}{t u ty:TypeId}{x y:Operand}{p:String}{af:Ae_}{g:On_}{a c:Nat}
theorem OP{m:Nat}(h:m<65536):IntKind.u16.wrap (m:Int)=m:=by
 simp only [IntKind.wrap,IntKind.bits,IntKind.signed];simp;omega
theorem NB{m:Nat}(h:m<65536):(BitVec.ofInt IntKind.u16.bits (m:Int)).toNat=m:=by
 simp [IntKind.bits,BitVec.toNat_ofInt];omega
theorem Xn(K:ρ x=EG a)(O:ρ y=iV (c:Int))(U:c≤16):Yl P ⟨d,.binOp .shr t x y u,ty,p,af,g⟩ ρ s (EG (a>>>c)):=by
 have h:=Yl.shr (P:=P) (s:=s) (d:=d) (t:=t) (u:=u) (ty:=ty) (p:=p) (af:=af) (g:=g) K O (by omega);have e:((a:Int).fdiv (2 ^ (min (c:Int).toNat IntKind.u16.bits)))=((a>>>c:Nat):Int):=by
  have:min (c:Int).toNat IntKind.u16.bits=c:=by simp [IntKind.bits];omega
  rw [this,Nat.shiftRight_eq_div_pow,Int.fdiv_eq_ediv_of_nonneg _ (Int.pow_nonneg (by decide))];rw [Int.natCast_ediv]
  rfl
 rw [e] at h;exact h
theorem Wn(O:ρ x=EG a)(U:ρ y=EG c)(K:a<65536)(V:c<65536):Yl P ⟨d,.binOp .and t x y u,ty,p,af,g⟩ ρ s (EG (a&&& c)):=by
 have h:=Yl.and (P:=P) (s:=s) (d:=d) (t:=t) (u:=u) (ty:=ty) (p:=p) (af:=af) (g:=g) O U;rw [BitVec.toNat_and,NB K,NB V,OP (Nat.lt_of_le_of_lt Nat.and_le_left K)] at h;exact h
theorem YF(U:ρ x=EG a)(V:ρ y=EG c)(K:a<65536)(O:c<65536):Yl P ⟨d,.binOp .or t x y u,ty,p,af,g⟩ ρ s (EG (a ||| c)):=by
 have h:=Yl.or (P:=P) (s:=s) (d:=d) (t:=t) (u:=u) (ty:=ty) (p:=p) (af:=af) (g:=g) U V;rw [BitVec.toNat_or,NB K,NB O,OP (Nat.or_lt_two_pow (n:=16) K O)] at h;exact h
theorem V9(K:ρ x=EG 1)(O:ρ y=iV (c:Int))(U:c<16):Yl P ⟨d,.binOp .shl t x y u,ty,p,af,g⟩ ρ s (EG (1<<<c)):=by
 have h:=Yl.shl (P:=P) (s:=s) (d:=d) (t:=t) (u:=u) (ty:=ty) (p:=p) (af:=af) (g:=g) K O (by omega);have e:IntKind.u16.wrap (((1:Nat):Int)*2 ^ (min (c:Int).toNat IntKind.u16.bits))=((1<<<c:Nat):Int):=by
  have V:min (c:Int).toNat IntKind.u16.bits=c:=by simp [IntKind.bits];omega
  have W:(1<<<c)<65536:=by rw [Nat.one_shiftLeft];exact Nat.pow_lt_pow_right (n:=16) (by omega) U
  rw [V,← OP W,Nat.one_shiftLeft];simp
 rw [e] at h;exact h
end
theorem Ov{P:Program}{t:TypeId}{K:TypeInfo}(h:P.types[t]? =some K):P.info? t=some K:=by
 have:=(Array.getElem?_eq_some_iff.1 h).1;unfold Tables.info?;rw [if_pos this,h]
theorem Br{P:Program}{t:TypeId}{K:TypeInfo}(h:P.types[t]? =some K):BA P t=some K.size:=by simp [BA,Ov h]
theorem Cu{P:Program}{t:TypeId}{K:TypeInfo}(h:P.types[t]? =some K):Ey P t=some K.bytes:=by simp [Ey,Ov h]
theorem DZ{P:Program}{t:TypeId}{K:TypeInfo}(h:P.types[t]? =some K):zeroOf P t=K.zero:=by simp [zeroOf,Ov h]
def Xt:TypeDesc→Bool | .struct _=>true | .array _ _=>true | _=>false
theorem D1{P:Program}{t:TypeId}{d:TypeDesc}(h:P.underlying t=some d):Dl P t=some (Xt d):=by
 unfold Dl;rw [h];cases d <;> rfl
theorem A3{P:Program}{f:FuncId}{fn:Func}(h:P.funcs[f]? =some fn)(hb:(!(fn.name== "runtime.NumGoroutine")&&fn.body.isSome)=true):D9 P f=true:=by
 simp only [D9,h];exact hb
theorem V6(a c:Nat):decide (((a>>>c&&& 1:Nat):Int)=((1:Nat):Int))=a.testBit c:=by
 have:a.testBit c=decide ((a>>>c)&&& 1=1):=by
  rw [Nat.testBit,Nat.and_comm];rcases Nat.mod_two_eq_zero_or_one (a>>>c) with h | h <;> simp [Nat.and_one_is_mod,Nat.one_and_eq_mod_two,h]
 rw [this];congr 1;simp only [eq_iff_iff];omega
def Sp(a:Nat):Nat→List Nat
 | 0=> []
 | n+1=>Sp a n++(if a.testBit n then [n] else [])
abbrev NA(a:Nat):List Nat:=Sp a 16
end Pal
namespace Pal
end Pal
namespace Pal
open Go Go.Conc
end Pal
namespace Pal
open Go Go.Conc
def At(E:LH)(bk o:Nat)(ws:Lv_):Prop:=∃f e fr,E bk=some (.cells f e fr)∧∀j w,ws[j]? =some w→f[o+j]? =some w
theorem At.Ai{E E':LH}{bk o:Nat}{ws:Lv_}(h:At E bk o ws)(hle:Le E E'):At E' bk o ws:=let ⟨f,e,fr,K,O⟩:=h;⟨f,e,fr,hle _ _ K,O⟩
theorem At.cell{E H:LH}{B:List (Nat×Obj)}{bk o j:Nat}{ws:Lv_}{w:Value}(h:At E bk o ws)(K:ws[j]? =some w):(mk E H B).cell? ⟨bk,o+j,none⟩=some w:=
 let ⟨_,_,_,O,U⟩:=h;UJ O (U j w K)
theorem At.cells{E H:LH}{B:List (Nat×Obj)}{bk o:Nat}{ws:Lv_}(h:At E bk o ws):∀j v,ws[j]? =some v→(mk E H B).cell? (Addr.add ⟨bk,o,none⟩ j)=some v:=fun j v K=>by
 rw [El rfl];exact h.cell K
section
variable {P:Program}{J:Judge P}{Q:Gs_}{b:Frame}{n:Nat}{ds:Ld_}{ops:Ao_}{k:Li_}{cs:Lf_}{L:Env}{s:St}{E E' H:LH}{B B0:List (Nat×Obj)}
variable {d:Option Tmp}{x y:Operand}{t u ty e:TypeId}{p:String}{af:Ae_}{g:On_}{v:Value}{i:Nat}{rest:List Nat}{kd:IntKind}
theorem JL.put(h:look L i=some v)(O:JL J Q b n (AF L (some i) v) ds k cs s):JL J Q b n L ds k cs s:=fun T K=>
 O T ⟨K.size,fun t w e=>by
  simp only [AF,look] at e
  split at e
  ·rename_i U;subst U;cases e;exact K.at_ _ _ h
  ·exact K.at_ _ _ e⟩
theorem UP{q:Prop} [Decidable q] (h:look L i=some (.bool (decide q)))(O:q→JL J Q b n (AF L (some i) (.bool true)) ds k cs s)(U:¬q→JL J Q b n (AF L (some i) (.bool false)) ds k cs s):JL J Q b n L ds k cs s:=by
 by_cases K:q
 ·refine JL.put (i:=i) (v:= .bool true) ?_ (O K);rw [h,decide_eq_true K]
 ·refine JL.put (i:=i) (v:= .bool false) ?_ (U K);rw [h,decide_eq_false K]
theorem UU{c:Bool}(h:look L i=some (.bool c))(K:c=true→JL J Q b n (AF L (some i) (.bool true)) ds k cs s)(O:c=false→JL J Q b n (AF L (some i) (.bool false)) ds k cs s):JL J Q b n L ds k cs s:=by
 cases c
 ·exact JL.put h (O rfl)
 ·exact JL.put h (K rfl)
end
end Pal
namespace Pal
open Go Go.Conc
theorem Sv{P:Program}{s:St}{ρ:Operand→Value}{d:Option Tmp}{t ty ft:TypeId}{x:Operand}{p:String}{af:Ae_}{g:On_}{a:Addr}{fs:Array Field}{i:Nat}{fl:Field}(sz off:Nat)(ht:P.underlying t=some (.struct fs))(K:BA P ft=some (sz+1))(hi:fs[i]? =some fl)(O:fl.type=ft)(U:fl.offset=off)(V:ρ x= .pointer (some a)):
  Yl P ⟨d,.fieldAddr t x i,ty,p,af,g⟩ ρ s (.pointer (some (a.add off))):=by
 subst O U;exact Yl.fieldAddr ht hi K V
end Pal
namespace Pal
open Go Go.Conc
section
variable {P:Program}{J:Judge P}{Q:Gs_}{b:Frame}{n:Nat}{ds:Ld_}{ops:Ao_}{k:Li_}{cs:Lf_}{L:Env}{s:St}{E E' H:LH}{B B0:List (Nat×Obj)}
variable {d:Option Tmp}{x y:Operand}{t u ty e:TypeId}{p:String}{af:Ae_}{g:On_}{v:Value}{i:Nat}{rest:List Nat}{kd:IntKind}
theorem At.Pa{bk o j:Nat}{ws:Lv_}{w:Value}(h:At E bk o ws)(hs:∀x o,E x=some o→s.E x=some o)(K:ws[j]? =some w):s.cell? ⟨bk,o+j,none⟩=some w:=by
 obtain⟨f,e,fr,O,U⟩:=h;unfold St.cell? St.get;rw [hs _ _ O];exact U j w K
theorem At.O1{bk o:Nat}{ws:Lv_}(h:At E bk o ws)(hs:∀x o,E x=some o→s.E x=some o):∀j v,ws[j]? =some v→s.cell? (Addr.add ⟨bk,o,none⟩ j)=some v:=fun j v K=>by
 rw [El rfl];exact h.Pa hs K
end
section
variable {P:Program}{J:Judge P}{Q:Gs_}{b:Frame}{n:Nat}{ds:Ld_}{ops:Ao_}{k:Li_}{cs:Lf_}{m fuel:Nat}{listed:Array Bool}{L:Env}{E H:LH}{B:List (Nat×Obj)}
variable {d:Option Tmp}{x y:Operand}{t u ty e:TypeId}{p:String}{af:Ae_}{g:On_}{v:Value}{i:Nat}{kd:IntKind}
end
end Pal
namespace Pal
open Go Go.Conc
section
variable {P:Program}{J:Judge P}{Q:Gs_}{b:Frame}{n:Nat}{ds:Ld_}{ops:Ao_}{k:Li_}{cs:Lf_}{m fuel:Nat}{D:Nat→Bool}{listed:Array Bool}{L:Env}{s:St}{i:Nat}{v:Value}
theorem AV.put(h:look L i=some v)(O:AV J Q b n ds ops k cs m D fuel listed (AF L (some i) v) s):AV J Q b n ds ops k cs m D fuel listed L s:=fun T K=>
 O T ⟨K.size,fun t w e=>by
  simp only [AF,look] at e
  split at e
  ·rename_i U;subst U;cases e;exact K.at_ _ _ h
  ·exact K.at_ _ _ e⟩
theorem FO{q:Prop} [Decidable q] (h:look L i=some (.bool (decide q)))(O:q→AV J Q b n ds ops k cs m D fuel listed (AF L (some i) (.bool true)) s)(U:¬q→AV J Q b n ds ops k cs m D fuel listed (AF L (some i) (.bool false)) s):AV J Q b n ds ops k cs m D fuel listed L s:=by
 by_cases K:q
 ·refine AV.put (i:=i) (v:= .bool true) ?_ (O K);rw [h,decide_eq_true K]
 ·refine AV.put (i:=i) (v:= .bool false) ?_ (U K);rw [h,decide_eq_false K]
end
end Pal
namespace Pal
open Go Go.Conc
structure Rp (α:Type) where
 n:Nat
 r:LH→Lv_→α→Prop
 Ai:∀{E E':LH} {ws:Lv_} {x:α},Le E E'→r E ws x→r E' ws x
 len:∀{E:LH} {ws:Lv_} {x:α},r E ws x→ws.length=n
 one:∀{E:LH} {ws:Lv_} {x:α},r E ws x→∀w∈ws,Cx w=true
def rK(kd:IntKind):Rp Int:=⟨1,fun _ ws x=>ws= [.int kd x],fun _ h=>h,fun h=>by subst h;rfl,fun h w hw=>by subst h;simp at hw;subst hw;rfl⟩
abbrev rI:Rp Int:=rK .i64
def rN(kd:IntKind):Rp Nat:=⟨1,fun _ ws x=>ws= [.int kd ((x:Nat):Int)],fun _ h=>h,fun h=>by subst h;rfl,fun h w hw=>by subst h;simp at hw;subst hw;rfl⟩
def rB:Rp Bool:=⟨1,fun _ ws x=>ws= [.bool x],fun _ h=>h,fun h=>by subst h;rfl,fun h w hw=>by subst h;simp at hw;subst hw;rfl⟩
def rP{α β:Type}(p:Rp α)(q:Rp β):Rp (α×β):=⟨p.n+q.n,fun E ws x=>∃U V,ws=U++V∧p.r E U x.1∧q.r E V x.2,
 fun hle ⟨a,b,h,K,O⟩=>⟨a,b,h,p.Ai hle K,q.Ai hle O⟩,fun⟨a,b,h,K,O⟩=>by subst h;rw [List.length_append,p.len K,q.len O],
 fun⟨a,b,h,K,O⟩ w hw=>by
  subst h
  rcases List.mem_append.1 hw with hw | hw
  ·exact p.one K w hw
  ·exact q.one O w hw⟩
def Ap{α:Type}(p:Rp α)(E:LH)(a:Option Addr)(c:Nat)(xs:List α):Prop:=
 xs.length≤c∧((xs= []∧∀ad:Addr,a=some ad→ad.spot=none∨c=0)∨∃bk off,a=some ⟨bk,off,none⟩∧∀(i:Nat) x,xs[i]? =some x→∃ws,p.r E ws x∧At E bk (off+i*p.n) ws)
theorem Ap.Ai{α:Type}{p:Rp α}{E E':LH}{a:Option Addr}{c:Nat}{xs:List α}(h:Ap p E a c xs)(hle:Le E E'):Ap p E' a c xs:=
 ⟨h.1,h.2.imp id fun⟨bk,off,K,O⟩=>⟨bk,off,K,fun i x U=>let ⟨ws,V,W⟩:=O i x U;⟨ws,p.Ai hle V,W.Ai hle⟩⟩⟩
theorem Ap.nil{α:Type}{p:Rp α}{E:LH}{c:Nat}:Ap p E none c []:=⟨Nat.zero_le _,.inl ⟨rfl,fun _ h=>by cases h⟩⟩
def rL{α:Type}(p:Rp α):Rp (List α):=⟨1,fun E ws xs=>∃a c,ws= [.slice a xs.length c]∧Ap p E a c xs,
 fun hle ⟨a,c,h,K⟩=>⟨a,c,h,K.Ai hle⟩,fun⟨a,c,h,K⟩=>by subst h;rfl,fun⟨a,c,h,K⟩ w hw=>by subst h;simp at hw;subst hw;rfl⟩
def rV:Rp Value:=⟨1,fun _ ws x=>ws= [x]∧Cx x=true,fun _ h=>h,fun h=>by rw [h.1];rfl,fun h w hw=>by rw [h.1] at hw;simp at hw;subst hw;exact h.2⟩
def rA{α:Type}(k:Nat)(p:Rp α):Rp (List α):=⟨k*p.n,fun E ws xs=>xs.length=k∧∃wss:List (Lv_),ws=wss.flatten∧wss.length=k∧∀(i:Nat) x us,xs[i]? =some x→wss[i]? =some us→p.r E us x,
 fun hle ⟨U,wss,h,K,O⟩=>⟨U,wss,h,K,fun i x us a b=>p.Ai hle (O i x us a b)⟩,
 fun {E ws xs} ⟨U,wss,h,K,O⟩=>by
  subst h
  have:∀(wss:List (Lv_)) (xs:List α),xs.length=wss.length→(∀(i:Nat) x us,xs[i]? =some x→wss[i]? =some us→p.r E us x)→wss.flatten.length=wss.length*p.n:=by
   intro wss
   induction wss with
   | nil=>intro xs _ _;simp
   | cons us wss W=>
    intro xs V h
    cases xs with
    | nil=>simp at V
    | cons x xs=>
     rw [List.flatten_cons,List.length_append,p.len (h 0 x us rfl rfl),W xs (by simpa using V) (fun i y u a b=>h (i+1) y u a b),List.length_cons,Nat.succ_mul,Nat.add_comm]
  rw [this wss xs (by omega) O,K],
 fun {E ws xs} ⟨U,wss,h,K,O⟩ w hw=>by
  subst h
  obtain⟨us,Z,hw⟩:=List.mem_flatten.1 hw
  obtain⟨i,hi⟩:=List.mem_iff_getElem?.1 Z
  have aa:i<xs.length:=by rw [U,← K];exact(List.getElem?_eq_some_iff.1 hi).1
  exact p.one (O i _ us (List.getElem?_eq_getElem aa) hi) w hw⟩
def ix{α:Type}(xs:List α)(i:Int):Option α:=if 0≤i then xs[i.toNat]? else none
theorem GH{α:Type}{xs:List α}{i:Int}{x:α}(h:ix xs i=some x):∃m:Nat,i=m∧xs[m]? =some x:=by
 unfold ix at h;split at h
 ·exact⟨i.toNat,by omega,h⟩
 ·cases h
def Av(x:Int):Option Int:=if -9223372036854775808≤x∧x≤9223372036854775807 then some x else none
theorem Kr{x y:Int}(h:Av x=some y):y=x∧ -9223372036854775808≤x∧x≤9223372036854775807:=by
 unfold Av at h;split at h
 ·rename_i hb;exact⟨(Option.some.inj h).symm,hb⟩
 ·cases h
theorem bind_some{α β:Type}{o:Option α}{f:α→Option β}{r:β}(h:o.bind f=some r):∃x,o=some x∧f x=some r:=by
 cases o with
 | none=>cases h
 | some x=>exact⟨x,rfl,h⟩
inductive Bn (S A:Type) where
 | more (s:S)
 | done (a:A)
def iter{S A:Type}(body:S→Option (Bn S A)):Nat→S→Option A
 | 0,_=>none
 | f+1,s=>match body s with
  | none=>none
  | some (.done a)=>some a
  | some (.more s')=>iter body f s'
theorem Qn{S A:Type}{body:S→Option (Bn S A)}{f:Nat}{s:S}{a:A}(h:iter body (f+1) s=some a):∃st,body s=some st:=by
 simp only [iter] at h;cases hb:body s with
 | none=>rw [hb] at h;cases h
 | some st=>exact⟨st,rfl⟩
theorem P9{S A:Type}{body:S→Option (Bn S A)}{f:Nat}{s:S}{a K:A}(h:iter body (f+1) s=some a)(hb:body s=some (.done K)):K=a:=by
 simp only [iter,hb] at h;exact Option.some.inj h
theorem Qa{S A:Type}{body:S→Option (Bn S A)}{f:Nat}{s s':S}{a:A}(h:iter body (f+1) s=some a)(hb:body s=some (.more s')):iter body f s'=some a:=by
 simp only [iter,hb] at h;exact h
abbrev Seg:=List (Nat×Obj)
def Ak(E H:LH)(S:List Seg):St:=mk E H S.flatten
def Au(E H:LH)(S:List Seg):Prop:=Nd E H S.flatten
theorem Nd.mem{E H:LH}:∀{B:List (Nat×Obj)} {b:Nat} {o:Obj},Nd E H B→(b,o)∈B→∃i:Nat,B[i]? =some (b,o):=fun _ h=>List.mem_iff_getElem?.1 h
theorem Nd.iff{E H:LH}:∀{B:List (Nat×Obj)},Nd E H B↔(B.map (·.1)).Nodup∧∀p∈B,E p.1=none∧H p.1=none
 | []=>by simp [Nd]
 | (b,o)::B=>by
  simp only [Nd,List.map_cons,List.nodup_cons,List.mem_cons,forall_eq_or_imp,Nd.iff (B:=B),List.mem_map,not_exists,not_and]
  constructor
  ·rintro⟨K,O,U,V,W⟩;exact⟨⟨U,V⟩,⟨K,O⟩,W⟩
  ·rintro⟨⟨U,V⟩,⟨K,O⟩,W⟩;exact⟨K,O,U,V,W⟩
theorem Nd.perm{E H:LH}{B B':List (Nat×Obj)}(h:Nd E H B)(K:B.Perm B'):Nd E H B':=by
 rw [Nd.iff] at h ⊢;exact⟨(K.map _).nodup_iff.1 h.1,fun p O=>h.2 p (K.mem_iff.2 O)⟩
theorem Kn{E H:LH}{B B':List (Nat×Obj)}(h:Nd E H B)(K:B.Perm B'):Bm B H=Bm B' H:=by
 funext x;by_cases O:∃p∈B,p.1=x
 ·obtain⟨⟨b,o⟩,hm,rfl⟩:=O;obtain⟨i,hi⟩:=h.mem hm;obtain⟨j,U⟩:=(h.perm K).mem (K.mem_iff.1 hm);rw [HP h hi,HP (h.perm K) U]
 ·have key:∀{C:List (Nat×Obj)},(∀p∈C,p.1≠x)→Bm C H x=H x:=by
   intro C
   induction C with
   | nil=>intro _;rfl
   | cons p C V=>
    intro hC;obtain⟨c,u⟩:=p;have W:x≠c:=fun e=>hC (c,u) (by simp) e.symm;simp only [Bm,if_neg W];exact V fun p K=>hC p (List.mem_cons_of_mem _ K)
  rw [key fun p K e=>O ⟨p,K,e⟩,key fun p Z e=>O ⟨p,K.mem_iff.2 Z,e⟩]
theorem EX{E H:LH}{B B':List (Nat×Obj)}(h:Nd E H B)(K:B.Perm B'):mk E H B=mk E H B':=by unfold mk;rw [Kn h K]
theorem Du{S:List Seg}{j:Nat}{seg seg':Seg}(h:S[j]? =some seg):S.flatten.Perm ((S.set j []).flatten++seg)∧(S.set j seg').flatten.Perm ((S.set j []).flatten++seg'):=by
 induction S generalizing j with
 | nil=>simp at h
 | cons x S K=>
  cases j with
  | zero=>
   simp at h;subst h;simp only [List.set_cons_zero,List.flatten_cons,List.nil_append];exact⟨List.perm_append_comm,List.perm_append_comm⟩
  | succ j=>
   simp at h;obtain⟨O,U⟩:=K h;simp only [List.set_cons_succ,List.flatten_cons,List.append_assoc];exact⟨O.append_left x,U.append_left x⟩
theorem F8{E H:LH}{S:List Seg}{j:Nat}{seg:Seg}(K:Au E H S)(h:S[j]? =some seg):Ak E H S=mk E H ((S.set j []).flatten++seg)∧Nd E H ((S.set j []).flatten++seg):=
 ⟨EX K (Du (seg':=seg) h).1,Nd.perm K (Du (seg':=seg) h).1⟩
theorem Ho{E H:LH}{S:List Seg}{j:Nat}{seg seg':Seg}(h:S[j]? =some seg)(K:Nd E H ((S.set j []).flatten++seg')):mk E H ((S.set j []).flatten++seg')=Ak E H (S.set j seg')∧Au E H (S.set j seg'):=
 ⟨EX K (Du h).2.symm,Nd.perm K (Du h).2.symm⟩
theorem FT(S:List Seg)(seg:Seg):(S++ [seg]).flatten=S.flatten++seg:=by simp
theorem EB{E H:LH}{S:List Seg}{seg:Seg}(K:Nd E H (S.flatten++seg)):mk E H (S.flatten++seg)=Ak E H (S++ [seg])∧Au E H (S++ [seg]):=by
 unfold Ak Au;rw [FT];exact⟨rfl,K⟩
theorem EN{E H:LH}{S:List Seg}{j i bk:Nat}{seg:Seg}{o:Obj}(K:Au E H S)(O:S[j]? =some seg)(hi:seg[i]? =some (bk,o)):(Ak E H S).get bk=some o:=by
 have hm:(bk,o)∈S.flatten:=List.mem_flatten.2 ⟨seg,List.mem_of_getElem? O,List.mem_of_getElem? hi⟩;obtain⟨V,U⟩:=K.mem hm;exact N2 K U
theorem Db{E H:LH}{S:List Seg}{j bk off:Nat}{c:AA}{e:TypeId}{f:Nat×Nat}{v:Value}{seg:Seg}(K:Au E H S)(O:S[j]? =some ((bk,.cells c e f)::seg))(U:c[off]? =some v):(Ak E H S).cell? ⟨bk,off,none⟩=some v:=by
 unfold St.cell?;rw [EN (i:=0) K O rfl];exact U
theorem TU{E H:LH}{S:List Seg}{j bk off:Nat}{c:AA}{e:TypeId}{f:Nat×Nat}{vs:Lv_}{seg:Seg}(K:Au E H S)(O:S[j]? =some ((bk,.cells c e f)::seg))(U:∀i v,vs[i]? =some v→c[off+i]? =some v):∀i v,vs[i]? =some v→(Ak E H S).cell? (Addr.add ⟨bk,off,none⟩ i)=some v:=fun i v hi=>by
 rw [El rfl];exact Db K O (U i v hi)
def OL{α:Type}(e:TypeId)(p:Rp α)(E:LH)(a:Option Addr)(c:Nat)(seg:Seg)(xs:List α):Prop:=
 ∃wss:List (Lv_),GS e p.n a xs.length c seg wss.flatten∧wss.length=xs.length∧∀(i:Nat) x ws,xs[i]? =some x→wss[i]? =some ws→p.r E ws x
theorem OL.Ai{α:Type}{e:TypeId}{p:Rp α}{E E':LH}{a:Option Addr}{c:Nat}{seg:Seg}{xs:List α}(h:OL e p E a c seg xs)(hle:Le E E'):OL e p E' a c seg xs:=
 let ⟨wss,K,O,U⟩:=h;⟨wss,K,O,fun i x ws V hw=>p.Ai hle (U i x ws V hw)⟩
theorem OL.nil{α:Type}{e:TypeId}{p:Rp α}{E:LH}:OL e p E none 0 [] []:=⟨[],GS.nil,rfl,fun i x ws K=>by simp at K⟩
theorem HO{α:Type}{p:Rp α}{E:LH}{wss:List (Lv_)}{xs:List α}(K:wss.length=xs.length)(h:∀(i:Nat) x ws,xs[i]? =some x→wss[i]? =some ws→p.r E ws x):∀ws∈wss,ws.length=p.n:=fun ws hw=>by
 obtain⟨i,hi⟩:=List.mem_iff_getElem?.1 hw
 have O:i<xs.length:=by rw [← K];exact(List.getElem?_eq_some_iff.1 hi).1
 exact p.len (h i _ ws (List.getElem?_eq_getElem O) hi)
theorem IN{α:Type}{n:Nat}:∀{wss:List (List α)},(∀ws∈wss,ws.length=n)→∀{i:Nat} {ws:List α},wss[i]? =some ws→∀j w,ws[j]? =some w→wss.flatten[i*n+j]? =some w
 | [],_,_,_,h,_,_,_=>by simp at h
 | us::wss,O,0,ws,h,j,w,K=>by
  simp at h;subst h
  have:j<us.length:=(List.getElem?_eq_some_iff.1 K).1
  simp only [List.flatten_cons,Nat.zero_mul,Nat.zero_add]
  rw [List.getElem?_append_left this];exact K
 | us::wss,O,i+1,ws,h,j,w,K=>by
  simp at h
  have hu:us.length=n:=O us (by simp)
  simp only [List.flatten_cons]
  rw [List.getElem?_append_right (by rw [hu,Nat.succ_mul];omega)]
  have e:(i+1)*n+j - us.length=i*n+j:=by rw [hu,Nat.succ_mul];omega
  rw [e];exact IN (fun ws hw=>O ws (List.mem_cons_of_mem _ hw)) h j w K
end Pal
namespace Pal
open Go Go.Conc
section
variable {P:Program}{s:St}{ρ:Operand→Value}{x y z:Operand}{d:Option Tmp}{t u ty e:TypeId}{p:String}{af:Ae_}{g:On_}{v:Value}{kd kd':IntKind}{m m':Int}{a b:Nat}
theorem Pl{a:Nat}:IntKind.u64.wrap (a:Int)=((a % 2 ^ 64:Nat):Int):=by
 simp only [IntKind.wrap,IntKind.bits,IntKind.signed];simp
theorem WC(K:ρ x= .int .u64 (a:Int))(O:ρ y= .int .u64 (b:Int)):Yl P ⟨d,.binOp .add t x y u,ty,p,af,g⟩ ρ s (.int .u64 (((a+b) % 2 ^ 64:Nat):Int)):=by
 have h:=Yl.add (P:=P) (s:=s) (d:=d) (t:=t) (u:=u) (ty:=ty) (p:=p) (af:=af) (g:=g) K O;rw [show((a:Int)+(b:Int))=((a+b:Nat):Int) by omega,Pl] at h;exact h
theorem MF(K:ρ x= .int .u64 (a:Int))(O:ρ y= .int .u64 (b:Int)):Yl P ⟨d,.binOp .mul t x y u,ty,p,af,g⟩ ρ s (.int .u64 (((a*b) % 2 ^ 64:Nat):Int)):=by
 have h:=Yl.mul (P:=P) (s:=s) (d:=d) (t:=t) (u:=u) (ty:=ty) (p:=p) (af:=af) (g:=g) K O;rw [show((a:Int)*(b:Int))=((a*b:Nat):Int) by rw [Int.natCast_mul],Pl] at h;exact h
theorem Mv(K:ρ x= .int .u64 (a:Int))(O:ρ y= .int .u64 (b:Int)):Yl P ⟨d,.binOp .xor t x y u,ty,p,af,g⟩ ρ s (.int .u64 (((a ^^^ b) % 2 ^ 64:Nat):Int)):=by
 have h:=Yl.xor (P:=P) (s:=s) (d:=d) (t:=t) (u:=u) (ty:=ty) (p:=p) (af:=af) (g:=g) K O;have e:(BitVec.ofInt IntKind.u64.bits (a:Int) ^^^ BitVec.ofInt IntKind.u64.bits (b:Int)).toNat=(a ^^^ b) % 2 ^ 64:=by
  rw [Nat.xor_mod_two_pow];rw [BitVec.ofInt_natCast,BitVec.ofInt_natCast];show(BitVec.ofNat 64 a ^^^ BitVec.ofNat 64 b).toNat=_;rw [BitVec.toNat_xor,BitVec.toNat_ofNat,BitVec.toNat_ofNat]
 rw [e,Pl,Nat.mod_mod] at h;exact h
theorem WT(K:ρ x= .int .u64 (a:Int))(O:ρ y= .int .u64 (b:Int))(U:b≠0):Yl P ⟨d,.binOp .rem t x y u,ty,p,af,g⟩ ρ s (.int .u64 ((a % b:Nat):Int)):=by
 have h:=Yl.rem (P:=P) (s:=s) (d:=d) (t:=t) (u:=u) (ty:=ty) (p:=p) (af:=af) (g:=g) K O (by omega);rw [show(a:Int).tmod (b:Int)=((a % b:Nat):Int) from rfl] at h;exact h
theorem Jx(c:Nat)(K:ρ x= .int .u64 (a:Int))(O:ρ y= .int .u64 (c:Int))(U:c≤64):Yl P ⟨d,.binOp .shr t x y u,ty,p,af,g⟩ ρ s (.int .u64 ((a>>>c:Nat):Int)):=by
 have h:=Yl.shr (P:=P) (s:=s) (d:=d) (t:=t) (u:=u) (ty:=ty) (p:=p) (af:=af) (g:=g) K O (by omega);have e:min (c:Int).toNat IntKind.u64.bits=c:=by simp [IntKind.bits];omega
 rw [e,Int.fdiv_eq_ediv_of_nonneg _ (Int.pow_nonneg (by decide))] at h;have e2:(a:Int) / 2 ^ c=((a>>>c:Nat):Int):=by rw [Nat.shiftRight_eq_div_pow,Int.natCast_ediv];rfl
 rw [e2] at h;exact h
def Dm(m:Int):Nat:=(m % 2 ^ 64).toNat
def LF(a:Nat):Int:=IntKind.i64.wrap (a:Int)
theorem Yl.Dm(ht:P.underlying t=some (.int .i64))(hu:P.underlying u=some (.int .u64))(K:ρ x=iV m):Yl P ⟨d,.convert t u x,ty,p,af,g⟩ ρ s (.int .u64 ((Dm m:Nat):Int)):=by
 have h:=EC (P:=P) (s:=s) (d:=d) (ty:=ty) (p:=p) (af:=af) (g:=g) ht hu K
 have e:IntKind.u64.wrap m=((Pal.Dm m:Nat):Int):=by
  unfold Pal.Dm;simp only [IntKind.wrap,IntKind.bits,IntKind.signed];simp;omega
 rw [e] at h;exact h
theorem X4(ht:P.underlying t=some (.int .u64))(hu:P.underlying u=some (.int .i64))(K:ρ x= .int .u64 (a:Int)):Yl P ⟨d,.convert t u x,ty,p,af,g⟩ ρ s (iV (LF a)):=
 EC (P:=P) (s:=s) (d:=d) (ty:=ty) (p:=p) (af:=af) (g:=g) ht hu K
theorem Xg{r:Int}(K:ρ x=iV m)(O:ρ y=iV m')(h:Av (m+m')=some r):Yl P ⟨d,.binOp .add t x y u,ty,p,af,g⟩ ρ s (iV r):=by
 obtain⟨rfl,hb⟩:=Kr h;exact Wu K O hb
theorem Dc{r:Int}(K:ρ x=iV m)(O:ρ y=iV m')(h:Av (m - m')=some r):Yl P ⟨d,.binOp .sub t x y u,ty,p,af,g⟩ ρ s (iV r):=by
 obtain⟨rfl,hb⟩:=Kr h;exact W8 K O hb
theorem IW{r:Int}(K:ρ x=iV m)(O:ρ y=iV m')(h:Av (m*m')=some r):Yl P ⟨d,.binOp .mul t x y u,ty,p,af,g⟩ ρ s (iV r):=by
 obtain⟨rfl,hb⟩:=Kr h;exact WR K O hb
theorem IY{q:Prop} [Decidable q] (K:ρ x= .bool (decide q)):Yl P ⟨d,.unOp .not t x,ty,p,af,g⟩ ρ s (.bool (decide (¬q))):=by
 have h:=Yl.not (P:=P) (s:=s) (d:=d) (t:=t) (ty:=ty) (p:=p) (af:=af) (g:=g) K;simpa using h
theorem Up{K:Array (Nat×Operand)}:execOp ρ ⟨d,.build t K,ty,p,af,g⟩=(do pure (Next.value (← Instr.build t (K.map fun(j,x)=>(j,ρ x))))):=by
 simp only [execOp]
theorem Yl.build{z:Value}{fs:Array Field}{K:Array (Nat×Operand)}{vs:List (Nat×Value)}{places:Array (Nat×Nat)}{cells:AA}(V:zeroOf P t=some z)(ht:P.underlying t=some (.struct fs))(W:fs.toList.mapM (fun f=>(BA P f.type).map fun n=>(f.offset,n))=some places.toList)
  (Z:K.toList.map (fun(j,x)=>(j,ρ x))=vs) (aa:Instr.fill (places[·]?) z.cells vs=some cells):Yl P ⟨d,.build t K,ty,p,af,g⟩ ρ s (.agg cells):=by
 refine Fx Up ?_;unfold Instr.build;refine AH (x:=zeroValue t) _ (F5 V ?_);refine AH _ _ (Di ht ?_);simp only;have key:∀(l:List Field) (acc:List (Nat×Nat)) {Q:List (Nat×Nat)→St→Prop} {X:Halt→St→Prop} (K:List (Nat×Nat)),l.mapM (fun f=>(BA P f.type).map fun n=>(f.offset,n))=some K→Q (acc.reverse++K) s→lp P (List.mapM.loop (m:=Sem) (fun f=>do pure (f.offset,← Go.sizeOf f.type)) l acc) s Q X:=by
  intro l
  induction l with
  | nil=>
   intro acc Q X K h k;simp at h;subst h;simp only [List.append_nil] at k;exact k
  | cons f l ab=>
   intro acc Q X K h k;simp only [List.mapM_cons,bind] at h;cases O:BA P f.type with
   | none=>rw [O] at h;simp at h
   | some n=>
    rw [O] at h;simp only [Option.map_some,Option.bind_some] at h;obtain⟨ae,ag,U⟩:=bind_some h;simp at U;subst U;have:=ab ((f.offset,n)::acc) (Q:=Q) (X:=X) ae ag (by simpa using k);simp only [List.mapM.loop];exact AH _ _ (AH (x:=Go.sizeOf f.type) _ (EV O this))
 have e:(K.map fun(j,x)=>(j,ρ x)).toList=vs:=by rw [← Z,Array.toList_map]
 refine AH _ _ ?_;rw [Array.mapM_eq_mapM_toList];refine AH (x:=List.mapM.loop (m:=Sem) (fun f=>do pure (f.offset,← Go.sizeOf f.type)) fs.toList []) (f:=fun r=>pure r.toArray) (key fs.toList [] places.toList W ?_)
 simp only [List.reverse_nil,List.nil_append,lp,pure];rw [e,aa];exact⟨rfl,rfl⟩
end
end Pal
namespace Pal
open Go Go.Conc
section
variable {P:Program}{J:Judge P}{Q:Gs_}{b:Frame}{n:Nat}{ds:Ld_}{ops:Ao_}{k:Li_}{cs:Lf_}{L:Env}{s:St}{E E' H:LH}{S:List Seg}
variable {d:Option Tmp}{x y:Operand}{t u ty e:TypeId}{p:String}{af:Ae_}{g:On_}{v:Value}{i:Nat}{rest:List Nat}{kd:IntKind}
theorem JS.box(O:ops[i]? =some ⟨d,.box e x,ty,p,af,g⟩)(hw:Bi L ops ⟨d,.box e x,ty,p,af,g⟩=some true)(U:CZ b n ⟨d,.box e x,ty,p,af,g⟩=true)(V:Au E H S)(W:ev L x=some v)
  (h:∀r,Au E H (S++ [[(r,.cells v.cells e (0,0))]])→JL J Q b n (AF L d (.pointer (some ⟨r,0,none⟩))) ds (.inRegion ops rest::k) cs (Ak E H (S++ [[(r,.cells v.cells e (0,0))]]))):
  JL J Q b n L ds (.inRegion ops (i::rest)::k) cs (Ak E H S):=
 JL.box O hw U V W fun r K=>by rw [(EB K).1];exact h r (EB K).2
theorem JS.alloc{z:Value}(O:ops[i]? =some ⟨d,.alloc e,ty,p,af,g⟩)(hw:Bi L ops ⟨d,.alloc e,ty,p,af,g⟩=some true)(U:CZ b n ⟨d,.alloc e,ty,p,af,g⟩=true)(V:Au E H S)(W:zeroOf P e=some z)
  (h:∀r,Au E H (S++ [[(r,.cells z.cells e (0,0))]])→JL J Q b n (AF L d (.pointer (some ⟨r,0,none⟩))) ds (.inRegion ops rest::k) cs (Ak E H (S++ [[(r,.cells z.cells e (0,0))]]))):
  JL J Q b n L ds (.inRegion ops (i::rest)::k) cs (Ak E H S):=
 JL.alloc O hw U V W fun r K=>by rw [(EB K).1];exact h r (EB K).2
theorem JS.store{bk off:Nat}{c:AA}(j:Nat)(U:ops[i]? =some ⟨d,.store t x y,ty,p,af,g⟩)(hw:Bi L ops ⟨d,.store t x y,ty,p,af,g⟩=some true)(V:CZ b n ⟨d,.store t x y,ty,p,af,g⟩=true)(W:Au E H S)
  (Z:ev L x=some (.pointer (some ⟨bk,off,none⟩))) (aa:ev L y=some v) (ab:BA P t=some v.cells.size) (ae:∀u∈v.cells.toList,Cx u=true) (K:S[j]? =some [(bk,.cells c e (0,0))]) (hle:off+v.cells.size≤c.size)
  (h:Au E H (S.set j [(bk,.cells (A4 c off v.cells.toList) e (0,0))])→JL J Q b n (AF L d undef) ds (.inRegion ops rest::k) cs (Ak E H (S.set j [(bk,.cells (A4 c off v.cells.toList) e (0,0))]))):
  JL J Q b n L ds (.inRegion ops (i::rest)::k) cs (Ak E H S):=by
 obtain⟨ag,ah⟩:=F8 W K;rw [ag];refine JL.store (S.set j []).flatten.length U hw V ah Z aa ab ae (c:=c) (e:=e) (by simp) hle fun O=>?_;have ai:((S.set j []).flatten++ [(bk,Obj.cells c e (0,0))]).set (S.set j []).flatten.length (bk,.cells (A4 c off v.cells.toList) e (0,0))=(S.set j []).flatten++ [(bk,.cells (A4 c off v.cells.toList) e (0,0))]:=GD _ _ _ _;rw [ai] at O ⊢;obtain⟨aj,ak⟩:=Ho K O;rw [aj];exact h ak
theorem JS.drop{todo:Li_}{seg:Seg}(j:Nat)(V:Au E H S)(K:S[j]? =some seg)(h:Au E H (S.set j [])→JL J Q b n L ds todo cs (Ak E H (S.set j []))):JL J Q b n L ds todo cs (Ak E H S):=by
 obtain⟨W,O⟩:=F8 V K;rw [W];have Z:Nd E H ((S.set j []).flatten++ []):=by rw [List.append_nil];exact Ih.Nd.left O
 obtain⟨U,aa⟩:=Ho (seg':= []) K Z;refine JL.drop (S.set j []).flatten (fun q ab=>List.mem_iff_getElem?.1 (List.mem_append_left _ ab)) O ?_;have ae:(S.set j []).flatten++ []=(S.set j []).flatten:=List.append_nil _;rw [ae] at U;rw [U];exact h aa
theorem Dr{todo:Li_}{bk:Nat}{c:AA}{f:Nat×Nat}(j:Nat)(O:Au E H S)(U:S[j]? =some [(bk,.cells c e f)])
  (h:∀E',Le E E'→At E' bk 0 c.toList→Au E' H (S.set j [])→JL J Q b n L ds todo cs (Ak E' H (S.set j []))):JL J Q b n L ds todo cs (Ak E H S):=by
 obtain⟨V,W⟩:=F8 O U;rw [V];have Z:((S.set j []).flatten++ [(bk,Obj.cells c e f)])[(S.set j []).flatten.length]? =some (bk,Obj.cells c e f):=by simp
 refine JL.freeze (S.set j []).flatten.length W Z fun E' hle aa K=>?_;have ab:((S.set j []).flatten++ [(bk,Obj.cells c e f)]).eraseIdx (S.set j []).flatten.length=(S.set j []).flatten:=by rw [List.eraseIdx_append_of_length_le (Nat.le_refl _)];simp
 rw [ab] at K ⊢;exact h E' hle ⟨_,_,_,aa,fun i w hi=>by simpa using hi⟩ K
theorem Cc{α:Type}{pp:Rp α}{todo:Li_}{a:Option Addr}{c:Nat}{seg:Seg}{xs:List α}(j:Nat)(hg:OL e pp E a c seg xs)(ab:Au E H S)(ae:S[j]? =some seg)
  (h:∀E',Le E E'→Ap pp E' a c xs→Au E' H (S.set j [])→JL J Q b n L ds todo cs (Ak E' H (S.set j []))):JL J Q b n L ds todo cs (Ak E H S):=by
 obtain⟨wss,hg,W,Z⟩:=hg;have ag:∀ad:Addr,a=some ad→ad.spot=none:=fun ad K=>by
  rcases hg with⟨O,_⟩ | ⟨bk,f,O,_⟩
  ·rw [O] at K;cases K
  ·rw [O] at K;cases K;rfl
 obtain⟨O,ah⟩:=F8 ab ae;rw [O];refine TL hg ah fun E' hle ai aj=>h E' hle ?_ aj;obtain⟨ak,al,U,am,ar,V⟩:=ai;obtain⟨rfl,-,rfl⟩:a=ak∧xs.length=xs.length∧c=al:=by
  simp only [Value.slice.injEq] at U;exact⟨U.1,rfl,U.2.2⟩
 refine⟨am,?_⟩;rcases V with V | ⟨bk,off,f,an,fr,ao,g2,ap⟩
 ·exact .inl ⟨List.eq_nil_of_length_eq_zero V,fun ad K=> .inl (ag ad K)⟩
 ·refine .inr ⟨bk,off,ao,fun i x aa=>?_⟩;have aq:i<wss.length:=by rw [W];exact(List.getElem?_eq_some_iff.1 aa).1
  have hw:=List.getElem?_eq_getElem aq;refine⟨wss[i],pp.Ai hle (Z i x _ aa hw),f,an,fr,g2,fun m w hm=>?_⟩;rw [Nat.add_assoc];exact ap _ w (IN (HO W Z) hw m w hm)
theorem TI{α:Type}{pp:Rp α}{wss:List (Lv_)}{xs:List α}{x:α}{ws:Lv_}(O:wss.length=xs.length)(h:∀(i:Nat) x ws,xs[i]? =some x→wss[i]? =some ws→pp.r E ws x)(U:pp.r E ws x):
  ∀(i:Nat) y us,(xs++ [x])[i]? =some y→(wss++ [ws])[i]? =some us→pp.r E us y:=by
 intro i y us K hu;rcases Nat.lt_or_ge i xs.length with hi | hi
 ·rw [List.getElem?_append_left hi] at K;rw [List.getElem?_append_left (by omega)] at hu;exact h i y us K hu
 ·rw [List.getElem?_append_right hi] at K;rw [List.getElem?_append_right (by omega),O] at hu;cases hm:i - xs.length with
  | zero=>rw [hm] at K hu;simp at K hu;subst K hu;exact U
  | succ m=>rw [hm] at K;simp at K
theorem PR{α:Type}{pp:Rp α}{t1 t2:TypeId}{U c:Nat}{a:Option Addr}{seg:Seg}{xs:List α}{xv:α}{ab:Nat}{d1:Tmp}{ats:Array TypeId}{V:TypeId}{W:String}{Z:Ae_}{g':On_}{z:Value}(j:Nat)
  (ah:ops[i]? =some ⟨some d1,.buildSlice t2 1 #[(0,y)],V,W,Z,g'⟩) (hw:Bi L ops ⟨some d1,.buildSlice t2 1 #[(0,y)],V,W,Z,g'⟩=some true) (ai:CZ b n ⟨some d1,.buildSlice t2 1 #[(0,y)],V,W,Z,g'⟩=true)
  (aj:ops[ab]? =some ⟨d,.call ⟨.builtin .append,#[x,.tmp d1],ats⟩,ty,p,af,g⟩) (ak:∀w,Bi (AF L (some d1) w) ops ⟨d,.call ⟨.builtin .append,#[x,.tmp d1],ats⟩,ty,p,af,g⟩=some true) (al:CZ b n ⟨d,.call ⟨.builtin .append,#[x,.tmp d1],ats⟩,ty,p,af,g⟩=true)
  (am:∀w,ev (AF L (some d1) w) x=some (.slice a xs.length c)) (an:ev L y=some v) (ao:ats[0]? =some t) (ap:ats[1]? =some t1) (ht:P.underlying t=some (.slice e)) (aq:P.underlying t1=some (.slice e)) (ar:P.underlying t2=some (.slice e)) (au:BA P e=some pp.n) (hb:Ey P e=some U) (av:zeroOf P e=some z) (aw:z.cells.size=pp.n)
  (ay:0<U) (az:U≤64) (aA:0<pp.n) (aB:pp.n≤64) (aC:xs.length+1≤2 ^ 40) (hg:OL e pp E a c seg xs) (aa:pp.r E v.cells.toList xv) (aD:Au E H S) (ae:S[j]? =some seg)
  (h:∀w K O seg',OL e pp E K O seg' (xs++ [xv])→Au E H (S.set j seg')→JL J Q b n (AF (AF L (some d1) w) d (.slice K (xs++ [xv]).length O)) ds (.inRegion ops rest::k) cs (Ak E H (S.set j seg'))):
  JL J Q b n L ds (.inRegion ops (i::ab::rest)::k) cs (Ak E H S):=by
 obtain⟨wss,hg,ag,aE⟩:=hg;obtain⟨aF,aG⟩:=F8 aD ae;rw [aF];have aH:v.cells.size=pp.n:=by simpa using pp.len aa
 refine Ud ah hw ai aj ak al am an ao ap ht aq ar au hb av aw ay az aH aA aB aC (pp.one aa) hg aG fun w K O aI aJ aK=>?_;obtain⟨aL,aM⟩:=Ho ae aK;rw [aL];have hlen:(xs++ [xv]).length=xs.length+1:=by simp
 have:=h w K O aI ⟨wss++ [v.cells.toList],by rw [hlen,List.flatten_append];simpa using aJ,by simp [ag],TI ag aE aa⟩ aM;rw [hlen] at this;exact this
theorem Wb{α:Type}{pp:Rp α}{a:Option Addr}{c:Nat}{xs:List α}{xv:α}{m:Int}(O:Ap pp E a c xs)(hm:ix xs m=some xv)
  (U:ops[i]? =some ⟨d,.indexAddr t x y,ty,p,af,g⟩) (hw:Bi L ops ⟨d,.indexAddr t x y,ty,p,af,g⟩=some true) (V:CZ b n ⟨d,.indexAddr t x y,ty,p,af,g⟩=true)
  (W:ev L x=some (.slice a xs.length c)) (Z:ev L y=some (.int kd m)) (ht:P.underlying t=some (.slice e)) (aa:BA P e=some pp.n)
  (h:∀bk o ws,pp.r E ws xv→At E bk o ws→JL J Q b n (AF L d (.pointer (some ⟨bk,o,none⟩))) ds (.inRegion ops rest::k) cs (Ak E H S)):
  JL J Q b n L ds (.inRegion ops (i::rest)::k) cs (Ak E H S):=by
 obtain⟨m,rfl,hm⟩:=GH hm;have ab:m<xs.length:=(List.getElem?_eq_some_iff.1 hm).1;obtain⟨ai,⟨rfl,_⟩ | ⟨bk,off,rfl,ae⟩⟩:=O
 ·simp at ab
 obtain⟨ws,ag,ah⟩:=ae m xv hm;refine Bc (v:= .pointer (some ⟨bk,off+m*pp.n,none⟩)) U hw V (fun ρ K=>?_) (h bk _ ws ag ah);have:=Ma (P:=P) (s:=Ak E H S) (d:=d) (ty:=ty) (p:=p) (af:=af) (g:=g) ht aa (K x _ W) (K y _ Z) ⟨by omega,by omega⟩;rw [El rfl] at this;simpa using this
theorem At.Ll{bk o j:Nat}{ws:Lv_}{w:Value}(h:At E bk o ws)(K:ws[j]? =some w):(Ak E H S).cell? ⟨bk,o+j,none⟩=some w:=h.cell K
theorem At.Sb{bk o:Nat}{ws:Lv_}(h:At E bk o ws):∀j v,ws[j]? =some v→(Ak E H S).cell? (Addr.add ⟨bk,o,none⟩ j)=some v:=h.cells
theorem Bs{todo:Li_}(I:Env→St→Prop){c:Code}(K:∀L s,I L s→JL J Q b n L ds todo cs s)(h:(∀L s,I L s→JL J Q b n L ds todo cs s)→JL J Q b n L ds (.code c::todo) cs s):JL J Q b n L ds (.code c::todo) cs s:=h K
theorem FP{K:List Nat}{todo:Li_}(l:List Nat)(I:Env→St→Prop)(O:∀L s,I L s→JL J Q b n L ds (.inRegion ops l::todo) cs s)(h:(∀L s,I L s→JL J Q b n L ds (.inRegion ops l::todo) cs s)→JL J Q b n L ds (.inRegion ops K::todo) cs s):JL J Q b n L ds (.inRegion ops K::todo) cs s:=h O
theorem QH{K A:Type}{c:Code}{body:K→Option (Bn K A)}{f:Nat}{O:K}{a:A}(U:iter body f O=some a)(I:Env→St→K→Prop)(W:I L s O)
  (round:∀L s x,I L s x→(∀V,body x=some (.done V)→V=a)→(∃st,body x=some st)→(∀L' s' x',I L' s' x'→body x=some (.more x')→JL J Q b n L' ds (.inLoop c::k) cs s')→JL J Q b n L ds (.code c:: .inLoop c::k) cs s):
  JL J Q b n L ds (.code (.loop c)::k) cs s:=by
 refine Jl ?_
 induction f generalizing L s O with
 | zero=>cases U
 | succ f Z=>
  refine round L s O W (fun V h=>P9 U h) (Qn U) fun L' s' x' aa hb=>JL.again (Z (Qa U hb) aa)
def AU(J:Judge P)(f:FuncId)(args:Lv_)(E:LH)(B:Seg)(R:Value→LH→Seg→Prop):Prop:=
 ∀H,Nd E H B→Ei J f args.toArray (mk E H B) (fun v s'=>∃E' B',Le E E'∧R v E' B'∧Nd E' H B'∧s'=mk E' H B')
theorem AU.enter{f:FuncId}{fn:Func}{c:Code}{vs:Lv_}{B:Seg}{R:Value→LH→Seg→Prop}(O:P.funcs[f]? =some fn)(hb:fn.body=some c)(U:vs.length≤fn.ntmps)
  (h:∀(Q:Gs_) (K:Frame) (cs:Lf_) (H:LH),Au E H [B]→(∀v E' S' B',Le E E'→S'.flatten=B'→R v E' B'→Au E' H S'→J.ok Q (G (K.finish v) cs) (Ak E' H S'))→JL J Q (base f) fn.ntmps (FW 0 vs) [] [.code c] (K::cs) (Ak E H [B])):AU J f vs E B R:=fun H V=>
 Ei.enter O hb U fun Q K cs W=>by
  have Z:mk E H B=Ak E H [B]:=by unfold Ak;simp
  rw [Z];exact h Q K cs H (by unfold Au;simpa using V) fun v E' S' B' hle aa ab ae=>by
   subst aa;exact W v _ ⟨E',S'.flatten,hle,ab,ae,rfl⟩
theorem AU.Ai{f:FuncId}{vs:Lv_}{B:Seg}{R K:Value→LH→Seg→Prop}(h:AU J f vs E B R)(U:∀v E' B',Le E E'→R v E' B'→K v E' B'):AU J f vs E B K:=fun H V=>
 (h H V).Ai fun v s' ⟨E',B',O,W,Z,aa⟩=>⟨E',B',O,U v E' B' O W,Z,aa⟩
theorem F6{H:LH}:∀{A B:List (Nat×Obj)},Bm (A++B) H=Bm A (Bm B H)
 | [],_=>rfl
 | (c,o)::A,B=>by
  funext x
  simp only [List.cons_append,Bm]
  split
  ·rfl
  ·rw [F6]
theorem Ks{H:LH}{x:Nat}:∀{B:List (Nat×Obj)},(∀p∈B,p.1≠x)→Bm B H x=H x
 | [],_=>rfl
 | (c,u)::B,K=>by
  have O:x≠c:=fun e=>K (c,u) (by simp) e.symm
  simp only [Bm,if_neg O]
  exact Ks fun p U=>K p (List.mem_cons_of_mem _ U)
theorem Nd.front{A B:List (Nat×Obj)}(h:Nd E H (A++B)):Nd E (Bm B H) A:=by
 rw [Nd.iff] at h ⊢;obtain⟨K,U⟩:=h;rw [List.map_append,List.nodup_append] at K;refine⟨K.1,fun q O=>⟨(U q (List.mem_append_left _ O)).1,?_⟩⟩;rw [Ks fun r V e=>K.2.2 q.1 (List.mem_map_of_mem O) r.1 (List.mem_map_of_mem V) e.symm];exact(U q (List.mem_append_left _ O)).2
theorem Nd.glue{A B:List (Nat×Obj)}(h:Nd E (Bm B H) A)(U:Nd E H B):Nd E H (A++B):=by
 have V:=U;rw [Nd.iff] at h U ⊢;rw [List.map_append,List.nodup_append];have key:∀q∈A,∀r∈B,q.1≠r.1:=fun q K r O e=>by
  have:=(h.2 q K).2;rw [e] at this;obtain⟨i,hi⟩:=V.mem (b:=r.1) (o:=r.2) O;rw [HP V hi] at this;cases this
 refine⟨⟨h.1,U.1,fun x W y Z e=>?_⟩,fun q K=>?_⟩
 ·obtain⟨q,K,rfl⟩:=List.mem_map.1 W;obtain⟨r,O,rfl⟩:=List.mem_map.1 Z;exact key q K r O e
 ·rcases List.mem_append.1 K with K | K
  ·refine⟨(h.2 q K).1,?_⟩;have:=(h.2 q K).2
   rwa [Ks fun r O e=>key q K r O e.symm] at this
  ·exact U.2 q K
theorem Oi{f:FuncId}{args:Array Operand}{ats:Array TypeId}{vs:Lv_}{seg:Seg}{R:Value→LH→Seg→Prop}(j:Nat)
  (aa:AU J f vs E seg R) (ab:ops[i]? =some ⟨d,.call ⟨.value (.func f),args,ats⟩,ty,p,af,g⟩) (hw:Bi L ops ⟨d,.call ⟨.value (.func f),args,ats⟩,ty,p,af,g⟩=some true) (ae:((b.kind != .early)&&BE n d)=true) (hb:D9 P f=true)
  (ag:evs L args.toList=some vs) (K:Au E H S) (O:S[j]? =some seg) (ah:∀v E' seg',Le E E'→R v E' seg'→Au E' H (S.set j seg')→JL J Q b n (AF L d v) ds (.inRegion ops rest::k) cs (Ak E' H (S.set j seg'))):
  JL J Q b n L ds (.inRegion ops (i::rest)::k) cs (Ak E H S):=by
 have U:S.flatten.Perm (seg++(S.set j []).flatten):=(Du (seg':=seg) O).1.trans List.perm_append_comm;have V:Nd E H (seg++(S.set j []).flatten):=Nd.perm K U;have ai:Ak E H S=mk E (Bm (S.set j []).flatten H) seg:=by
  rw [show Ak E H S=mk E H S.flatten from rfl,EX K U];unfold mk;rw [F6]
 rw [ai];refine Vi ab hw ae hb ag (aa _ (Nd.front V)) ?_;rintro v s' ⟨E',B',hle,aj,ak,rfl⟩;have e2:mk E' (Bm (S.set j []).flatten H) B'=mk E' H (B'++(S.set j []).flatten):=by unfold mk;rw [F6]
 have al:Nd E H (S.set j []).flatten:=by
  have:=V;rw [Nd.iff] at this ⊢;rw [List.map_append,List.nodup_append] at this;exact⟨this.1.2.1,fun q am=>this.2 q (List.mem_append_right _ am)⟩
 refine RJ rfl fun⟨w,an⟩=>?_;have ao:Nd E' H (S.set j []).flatten:=al.grow fun x ap=>by
  have aq:=an.d x ap;have ar:Bm B' (Bm (S.set j []).flatten H) x=none:=aq;exact(GZ ar).1
 have W:Nd E' H (B'++(S.set j []).flatten):=Nd.glue ak ao;rw [e2];have Z:(B'++(S.set j []).flatten).Perm (S.set j B').flatten:=List.perm_append_comm.trans (Du O).2.symm;rw [EX W Z];exact ah v E' B' hle aj (Nd.perm W Z)
theorem JS.call{f:FuncId}{args:Array Operand}{ats:Array TypeId}{vs:Lv_}{R:Value→LH→Seg→Prop}
  (U:AU J f vs E [] R) (V:ops[i]? =some ⟨d,.call ⟨.value (.func f),args,ats⟩,ty,p,af,g⟩) (hw:Bi L ops ⟨d,.call ⟨.value (.func f),args,ats⟩,ty,p,af,g⟩=some true) (W:((b.kind != .early)&&BE n d)=true) (hb:D9 P f=true)
  (Z:evs L args.toList=some vs) (K:Au E H S) (aa:∀v E' seg',Le E E'→R v E' seg'→Au E' H (S++ [seg'])→JL J Q b n (AF L d v) ds (.inRegion ops rest::k) cs (Ak E' H (S++ [seg']))):
  JL J Q b n L ds (.inRegion ops (i::rest)::k) cs (Ak E H S):=by
 have ab:Ak E H S=Ak E H (S++ [[]]):=by unfold Ak;simp
 rw [ab];refine Oi S.length U V hw W hb Z (by unfold Au at K ⊢;rw [FT,List.append_nil];exact K) (by simp) fun v E' seg' hle ae O=>?_;have e2:(S++ [[]]).set S.length seg'=S++ [seg']:=GD _ _ _ _;rw [e2] at O ⊢;exact aa v E' seg' hle ae O
theorem DO{todo:Li_}{S':List Seg}(K:S'.flatten=S.flatten)(O:Au E H S)(h:Au E H S'→JL J Q b n L ds todo cs (Ak E H S')):JL J Q b n L ds todo cs (Ak E H S):=by
 unfold Ak Au at*;rw [K] at h;exact h O
end
end Pal
namespace Pal
open Go Go.Conc
def Ld(P:Program)(t:TypeId)(a:Addr)(s:St)(v:Value):Prop:=lp P (loadVar t a) s (fun u s'=>u=v∧s'=s) (fun _ _=>False)
theorem Ld.many{P:Program}{t:TypeId}{a:Addr}{s:St}{vs:Lv_}(ht:Dl P t=some true)(K:BA P t=some vs.length)(h:∀j v,vs[j]? =some v→s.cell? (a.add j)=some v):Ld P t a s (.agg vs.toArray):=PL ht K h ⟨rfl,rfl⟩
def RV(P:Program)(L:Env)(s:St):List ResultVar→Lv_→Prop
 | [],[]=>True
 | .tmp t::rs,v::vs=>look L t=some v∧RV P L s rs vs
 | .cell a t::rs,v::vs=>(∃ad,look L a=some (.pointer (some ad))∧Ld P t ad s v)∧RV P L s rs vs
 | _,_=>False
def Mm:Lv_→Value
 | [v]=>v
 | vs=> .tuple vs.toArray
theorem T1(vs:Lv_):(if h:vs.toArray.size=1 then vs.toArray[0] else Value.tuple vs.toArray)=Mm vs:=by
 match vs with
 | []=>rfl
 | [v]=>rfl
 | a::b::c=>simp [Mm]
theorem B6.list{P:Program}{f:FuncId}{fn:Func}{n:Nat}{L:Env}{s:St}{rs:List ResultVar}{vs:Lv_}(W:P.funcs[f]? =some fn)(Z:fn.results.toList=rs)(h:RV P L s rs vs):B6 P f L n s (Mm vs):=by
 refine⟨fn,W,fun T U=>?_⟩;unfold results;rw [Array.mapM_eq_mapM_toList,Z];have key:∀(rs:List ResultVar) (acc vs:Lv_) {Q:Lv_→St→Prop} {X:Halt→St→Prop},RV P L s rs vs→Q (acc.reverse++vs) s→lp P (List.mapM.loop (m:=Sem) (fun r=>match r with
   | .tmp t=>pure (T.getD t undef)
   | .cell a t=>do loadVar t (← asAddr (T.getD a undef))) rs acc) s Q X:=by
  intro rs
  induction rs with
  | nil=>
   intro acc vs Q X h k;cases vs with
   | nil=>simp only [List.append_nil] at k;exact k
   | cons v vs=>cases h
  | cons r rs V=>
   intro acc vs Q X h k;cases vs with
   | nil=>cases r <;> cases h
   | cons v vs=>
    cases r with
    | tmp t=>
     obtain⟨K,O⟩:=h;have:=U.at_ t v K;simp only [List.mapM.loop];rw [this];exact V (v::acc) vs O (by simpa using k)
    | cell a t=>
     obtain⟨⟨ad,K,aa⟩,O⟩:=h;have:=U.at_ a _ K;simp only [List.mapM.loop];rw [this];refine AH _ _ (Dv _ (show lp P (loadVar t ad) s _ _ from aa) ?_ (fun _ _ h=>h.elim));rintro u s' ⟨rfl,rfl⟩;exact V (u::acc) vs O (by simpa using k)
 refine AH _ _ (AH (x:=List.mapM.loop (m:=Sem) _ rs []) (f:=fun r=>pure r.toArray) ?_);refine key rs [] vs h ?_;simp only [List.reverse_nil,List.nil_append,lp,pure];exact⟨T1 vs,trivial⟩
section
variable {P:Program}{J:Judge P}{Q:Gs_}{g:Goroutine}{E H:LH}{S:List Seg}
theorem HR{seg:Seg}(j:Nat)(W:Au E H S)(U:S[j]? =some seg)(h:Au E H (S.set j [])→J.ok Q g (Ak E H (S.set j []))):J.ok Q g (Ak E H S):=by
 obtain⟨Z,K⟩:=F8 W U;have aa:Nd E H ((S.set j []).flatten++ []):=by rw [List.append_nil];exact Ih.Nd.left K
 obtain⟨ah,ab⟩:=Ho (seg':= []) U aa;refine J.ghost (s₀:=Ak E H (S.set j [])) ⟨fun _ _ h=>h,fun x o ae=>?_,fun _ _ h=> .inl h,rfl⟩ (h ab);have V:Bm (S.set j []).flatten H x=some o:=ae;show(Ak E H S).H x=some o;rw [Z];show Bm ((S.set j []).flatten++seg) H x=some o;rw [show Bm ((S.set j []).flatten++seg) H=Bm (seg++(S.set j []).flatten) H from Kn K List.perm_append_comm,F6];by_cases hm:∃p∈seg,p.1=x
 ·exfalso;obtain⟨p,O,e⟩:=hm;have ag:=Nd.front (Nd.perm K List.perm_append_comm);have:=((Nd.iff.1 ag).2 p O).2;rw [e,V] at this;cases this
 ·rw [Ks fun p O e=>hm ⟨p,O,e⟩];exact V
end
section
variable {P:Program}{J:Judge P}{Q:Gs_}{b:Frame}{n:Nat}{ds:Ld_}{ops:Ao_}{k:Li_}{cs:Lf_}{L:Env}{s:St}{E E' H:LH}{S:List Seg}
variable {d:Option Tmp}{x y:Operand}{t u ty e:TypeId}{p:String}{af:Ae_}{g:On_}{v:Value}{i:Nat}{rest:List Nat}{kd:IntKind}
theorem Qj{ρ:Operand→Value}{len:Nat}{K:Array (Nat×Operand)}:execOp ρ ⟨d,.buildSlice t len K,ty,p,af,g⟩=(do pure (Next.value (← Instr.buildSlice t len (K.map fun(j,x)=>(j,ρ x))))):=by
 simp only [execOp]
theorem T9(v:AA)(off:Nat)(c:AA):v.zipIdx.foldl (fun cs (x,j)=>cs.setIfInBounds (off+j) x) c=A4 c off v.toList:=by
 rw [← Array.foldl_toList,Array.toList_zipIdx];have key:∀(l:Lv_) (st:Nat) (c:AA),List.foldl (fun cs (p:Value×Nat)=>cs.setIfInBounds (off+p.2) p.1) c (l.zipIdx st)=A4 c (off+st) l:=by
  intro l
  induction l with
  | nil=>intro st c;rfl
  | cons x l K=>intro st c;simp only [List.zipIdx_cons,List.foldl_cons,A4];rw [K];rfl
 exact key v.toList 0 c
def JY(place:Nat→Option (Nat×Nat))(cells:AA):List (Nat×Value)→Option (AA)
 | []=>some cells
 | (i,v)::rest=>match place i with
  | none=>none
  | some (off,size)=>if v.cells.size=size∧off+v.cells.size≤cells.size then JY place (A4 cells off v.cells.toList) rest else none
theorem fill_eq{place:Nat→Option (Nat×Nat)}:∀{vs:List (Nat×Value)} {cells:AA},Instr.fill place cells vs=JY place cells vs
 | [],_=>rfl
 | (i,v)::rest,cells=>by
  simp only [Instr.fill,JY]
  cases place i with
  | none=>rfl
  | some q=>
   obtain⟨off,size⟩:=q
   simp only
   by_cases h:v.cells.size=size∧off+v.cells.size≤cells.size
   ·rw [if_pos h,if_neg (by simp only [Bool.or_eq_true,decide_eq_true_eq,ne_eq];omega),fill_eq,T9]
   ·rw [if_neg h,if_pos (by simp only [Bool.or_eq_true,decide_eq_true_eq,ne_eq];omega)]
theorem Q2{n:Nat}:∀(vs:Lv_) (st:Nat) (cells:AA),(∀v∈vs,v.cells.size=n)→cells.size=(st+vs.length)*n→
  ∃O,JY (fun i=>some (i*n,n)) cells ((vs.zipIdx st).map fun q=>(q.2,q.1))=some O∧O.toList=cells.toList.take (st*n)++(vs.map (·.cells.toList)).flatten
 | [],st,cells,_,hs=>⟨cells,rfl,by simp only [List.length_nil,Nat.add_zero] at hs;simp [← hs,List.take_of_length_le]⟩
 | v::vs,st,cells,U,hs=>by
  have K:=U v (by simp)
  have hle:st*n+n≤cells.size:=by
   rw [hs,List.length_cons];have:(st+1)*n≤(st+(vs.length+1))*n:=Nat.mul_le_mul_right _ (by omega);rw [Nat.succ_mul] at this;exact this
  obtain⟨V,W,Z⟩:=Q2 vs (st+1) (A4 cells (st*n) v.cells.toList) (fun u hu=>U u (List.mem_cons_of_mem _ hu)) (by rw [N1,hs,List.length_cons];congr 1;omega);refine⟨V,?_,?_⟩
  ·simp only [List.zipIdx_cons,List.map_cons,JY];rw [if_pos ⟨K,by omega⟩];exact W
  ·rw [Z,Nat.succ_mul];have:=PG cells (st*n) v.cells.toList (by simp [K];omega);rw [show v.cells.toList.length=n by simp [K]] at this;rw [this];simp
def IB{α:Type}(pp:Rp α)(E:LH):List α→Lv_→Prop
 | [],[]=>True
 | x::xs,v::vs=>pp.r E v.cells.toList x∧IB pp E xs vs
 | _,_=>False
theorem IB.at{E:LH}{α:Type}{pp:Rp α}:∀{xs:List α} {vs:Lv_},IB pp E xs vs→∀(i:Nat) x v,xs[i]? =some x→vs[i]? =some v→pp.r E v.cells.toList x
 | [],_,_,_,_,_,h,_=>by simp at h
 | _::_,[],h,_,_,_,_,_=>h.elim
 | x::xs,v::vs,h,0,y,u,K,hu=>by simp at K hu;subst K hu;exact h.1
 | x::xs,v::vs,h,i+1,y,u,K,hu=>IB.at h.2 i y u (by simpa using K) (by simpa using hu)
theorem OQ{E0:LH}{ρ:Operand→Value}{K:Next→St→Prop}(ak:EL L ρ){α:Type}{pp:Rp α}{len:Nat}{W:Array (Nat×Operand)}(vs:Lv_){z:Value}(xs:List α)
  (ht:P.underlying t=some (.slice e)) (al:BA P e=some pp.n) (am:zeroOf P e=some z) (an:decide (0<len*pp.n∧len*pp.n≤2 ^ 24)=true)
  (ao:W.toList.mapM (fun q=>(ev L q.2).map fun v=>(q.1,v))=some ((vs.zipIdx 0).map fun q=>(q.2,q.1)))
  (U:vs.length=len) (V:xs.length=len) (ap:IB pp E0 xs vs) (aq:Au E H S)
  (h:∀r seg,OL e pp E0 (some ⟨r,0,none⟩) len seg xs→Au E H (S++ [seg])→K (.value (.slice (some ⟨r,0,none⟩) xs.length len)) (Ak E H (S++ [seg]))):
  lp P (execOp ρ ⟨d,.buildSlice t len W,ty,p,af,g⟩) (Ak E H S) K (fun _ _=>False):=by
 have ae:=ap.at;have ar:(W.map fun(j,x)=>(j,ρ x)).toList=(vs.zipIdx 0).map fun q=>(q.2,q.1):=by
  have key:∀(l:List (Nat×Operand)) (vs:List (Nat×Value)),l.mapM (fun q=>(ev L q.2).map fun v=>(q.1,v))=some vs→l.map (fun(j,x)=>(j,ρ x))=vs:=by
   intro l
   induction l with
   | nil=>intro vs h;simp at h;subst h;rfl
   | cons q l Z=>
    intro vs h;simp only [List.mapM_cons,bind] at h;cases aa:ev L q.2 with
    | none=>rw [aa] at h;simp at h
    | some w=>
     rw [aa] at h;simp only [Option.map_some,Option.bind_some] at h;obtain⟨au,av,ag⟩:=bind_some h;simp at ag;subst ag;simp [Z au av,ak _ _ aa]
  rw [Array.toList_map];exact key _ _ ao
 have ah:∀v∈vs,v.cells.size=pp.n:=fun v O=>by
  obtain⟨i,hi⟩:=List.mem_iff_getElem?.1 O;have aw:i<xs.length:=by rw [V,← U];exact(List.getElem?_eq_some_iff.1 hi).1
  simpa using pp.len (ae i _ v (List.getElem?_eq_getElem aw) hi)
 rw [Qj];refine AH _ _ ?_;unfold Instr.buildSlice;refine AH _ _ (Di ht ?_);refine AH _ _ (EV al ?_);have aA:=of_decide_eq_true an;rw [if_neg (by omega),if_neg (by omega)];refine AH (x:=zeroValue e) _ (F5 am ?_);rw [G0,ar];obtain⟨cells,ay,ab⟩:=Q2 vs 0 ((Array.range (len*pp.n)).map (z.cells[· % z.cells.size]!)) ah (by simp [U]);simp only [fill_eq,ay];simp only [Nat.zero_mul,List.take_zero,List.nil_append] at ab;refine AH _ _ (G2 aq fun r ai=>?_);rw [(EB ai).1];have aj:cells.size=len*pp.n:=by
  have:cells.toList.length=len*pp.n:=by
   rw [ab];have:∀(vs:Lv_),(∀v∈vs,v.cells.size=pp.n)→(vs.map (·.cells.toList)).flatten.length=vs.length*pp.n:=by
    intro vs
    induction vs with
    | nil=>intro _;simp
    | cons v vs Z=>intro h;rw [List.map_cons,List.flatten_cons,List.length_append,Z fun w hw=>h w (List.mem_cons_of_mem _ hw),List.length_cons,Nat.succ_mul,Nat.add_comm];simp [h v (by simp)]
   rw [this vs ah,U]
  simpa using this
 have:=h r [(r,.cells cells e (0,0))] ⟨vs.map (·.cells.toList),.inr ⟨r,cells,rfl,rfl,aj,by omega,by rw [← ab,List.take_of_length_le (by simp [aj,V])]⟩,by simp [U,V],fun i x ws az hw=>by
  rw [List.getElem?_map] at hw
  cases O:vs[i]? with
  | none=>rw [O] at hw;cases hw
  | some v=>rw [O] at hw;cases hw;exact ae i x v az O⟩ (EB ai).2
 rw [V] at this;exact this
theorem JS.lit{α:Type}{pp:Rp α}{len:Nat}{K:Array (Nat×Operand)}(vs:Lv_){z:Value}(xs:List α)
  (O:ops[i]? =some ⟨d,.buildSlice t len K,ty,p,af,g⟩) (hw:Bi L ops ⟨d,.buildSlice t len K,ty,p,af,g⟩=some true) (U:CZ b n ⟨d,.buildSlice t len K,ty,p,af,g⟩=true)
  (ht:P.underlying t=some (.slice e)) (V:BA P e=some pp.n) (W:zeroOf P e=some z) (Z:decide (0<len*pp.n∧len*pp.n≤2 ^ 24)=true)
  (aa:K.toList.mapM (fun q=>(ev L q.2).map fun v=>(q.1,v))=some ((vs.zipIdx 0).map fun q=>(q.2,q.1)))
  (ab:vs.length=len) (ae:xs.length=len) (ag:IB pp E xs vs) (ah:Au E H S)
  (h:∀r seg,OL e pp E (some ⟨r,0,none⟩) len seg xs→Au E H (S++ [seg])→JL J Q b n (AF L d (.slice (some ⟨r,0,none⟩) xs.length len)) ds (.inRegion ops rest::k) cs (Ak E H (S++ [seg]))):
  JL J Q b n L ds (.inRegion ops (i::rest)::k) cs (Ak E H S):=by
 exact JL.op O hw U fun ρ ai=>OQ ai vs xs ht V W Z aa ab ae ag ah h
theorem OL.get{α:Type}{pp:Rp α}{a:Option Addr}{c:Nat}{seg:Seg}{xs:List α}{m:Nat}{x:α}(hg:OL e pp E a c seg xs)(hm:xs[m]? =some x):
  ∃bk f ws,a=some ⟨bk,0,none⟩∧seg= [(bk,.cells f e (0,0))]∧pp.r E ws x∧(∀j w,ws[j]? =some w→f[m*pp.n+j]? =some w)∧(m+1)*pp.n≤f.size∧
   ∀(x':α) (ws':Lv_),pp.r E ws' x'→OL e pp E a c [(bk,.cells (A4 f (m*pp.n) ws') e (0,0))] (xs.set m x'):=by
 obtain⟨wss,hg,ab,W⟩:=hg;have ae:m<xs.length:=(List.getElem?_eq_some_iff.1 hm).1;rcases hg with⟨Z,ag,_⟩ | ⟨bk,f,Z,ag,an,ah,ai⟩
 ·omega
 have hw:wss[m]? =some wss[m]:=List.getElem?_eq_getElem (by omega);have aj:=HO ab W;have hle:(m+1)*pp.n≤xs.length*pp.n:=Nat.mul_le_mul_right _ ae;have aq:xs.length*pp.n≤c*pp.n:=Nat.mul_le_mul_right _ ah;refine⟨bk,f,wss[m],Z,ag,W m x _ hm hw,fun j w K=>?_,by omega,fun x' ws' ak=>?_⟩
 ·have:=IN aj hw j w K;rw [ai,List.getElem?_take] at this;split at this
  ·simpa using this
  ·cases this
 ·have al:ws'.length=pp.n:=pp.len ak;refine⟨wss.set m ws',.inr ⟨bk,_,Z,rfl,by rw [N1];exact an,by simpa using ah,?_⟩,by simpa using ab,fun i y us V hu=>?_⟩
  ·simp only [List.length_set];have key:∀(wss:List (Lv_)) (m:Nat) (hm:m<wss.length),(∀ws∈wss,ws.length=pp.n)→∀j,(wss.set m ws').flatten[j]? =if m*pp.n≤j∧j<(m+1)*pp.n then ws'[j - m*pp.n]? else wss.flatten[j]? :=by
    intro wss
    induction wss with
    | nil=>intro m hm;simp at hm
    | cons us wss aa=>
     intro m hm am j;have hu:us.length=pp.n:=am us (by simp);cases m with
     | zero=>
      simp only [List.set_cons_zero,List.flatten_cons,Nat.zero_mul,Nat.zero_le,true_and,Nat.zero_add,Nat.one_mul,Nat.sub_zero];split
      ·rename_i K;rw [List.getElem?_append_left (by omega)]
      ·rename_i K;rw [List.getElem?_append_right (by omega),List.getElem?_append_right (by omega),al,hu]
     | succ m=>
      simp only [List.set_cons_succ,List.flatten_cons];have O:(m+1)*pp.n=m*pp.n+pp.n:=Nat.succ_mul _ _;have e2:(m+1+1)*pp.n=(m+1)*pp.n+pp.n:=Nat.succ_mul _ _;rcases Nat.lt_or_ge j us.length with K | K
      ·rw [List.getElem?_append_left K,List.getElem?_append_left K,if_neg (by omega)]
      ·rw [List.getElem?_append_right K,List.getElem?_append_right K,aa m (by simpa using hm) (fun ws ao=>am ws (List.mem_cons_of_mem _ ao))];by_cases U:m*pp.n≤j - us.length∧j - us.length<(m+1)*pp.n
       ·rw [if_pos U,if_pos (by omega)];congr 1;omega
       ·rw [if_neg U,if_neg (by omega)]
   have ap:∀(vs:Lv_) (c:AA) (off:Nat),off+vs.length≤c.size→∀j,(A4 c off vs)[j]? =if off≤j∧j<off+vs.length then vs[j - off]? else c[j]? :=by
    intro vs
    induction vs with
    | nil=>intro c off _ j;simp [A4];omega
    | cons w vs aa=>
     intro c off U j;simp only [A4,List.length_cons] at*;rw [aa _ _ (by simp;omega)];by_cases O:j=off
     ·subst O;rw [if_neg (by omega),if_pos (by omega),Nat.sub_self,List.getElem?_cons_zero,Array.getElem?_setIfInBounds_self_of_lt (by omega)]
     ·by_cases e2:off+1≤j∧j<off+1+vs.length
      ·rw [if_pos e2,if_pos (by omega)];have:j - off=(j - (off+1))+1:=by omega
       rw [this];simp
      ·rw [if_neg e2,if_neg (by omega),Array.getElem?_setIfInBounds_ne (by omega)]
   apply List.ext_getElem?;intro j;have O:(m+1)*pp.n=m*pp.n+pp.n:=Nat.succ_mul _ _;have t1:(A4 f (m*pp.n) ws').toList[j]? =(A4 f (m*pp.n) ws')[j]? :=Array.getElem?_toList;have t2:f.toList[j]? =f[j]? :=Array.getElem?_toList;rw [key wss m (by omega) aj,List.getElem?_take,t1,ap ws' f (m*pp.n) (by omega),ai,List.getElem?_take,t2,al];by_cases U:m*pp.n≤j∧j<(m+1)*pp.n
   ·rw [if_pos U,if_pos (by omega),if_pos (by omega)]
   ·rw [if_neg U,if_neg (show ¬(m*pp.n≤j∧j<m*pp.n+pp.n) by omega)]
  ·rw [List.getElem?_set] at V hu;by_cases O:m=i
   ·subst O;rw [if_pos rfl,if_pos ae] at V;rw [if_pos rfl,if_pos (by omega)] at hu;cases V;cases hu;exact ak
   ·rw [if_neg O] at hu V;exact W i y us V hu
theorem FU{α:Type}{pp:Rp α}{a:Option Addr}{c:Nat}{seg:Seg}{xs:List α}{xv:α}{m:Int}(j:Nat)(hg:OL e pp E a c seg xs)(hm:ix xs m=some xv)(O:S[j]? =some seg)
  (U:ops[i]? =some ⟨d,.indexAddr t x y,ty,p,af,g⟩) (hw:Bi L ops ⟨d,.indexAddr t x y,ty,p,af,g⟩=some true) (V:CZ b n ⟨d,.indexAddr t x y,ty,p,af,g⟩=true)
  (W:ev L x=some (.slice a xs.length c)) (Z:ev L y=some (.int kd m)) (ht:P.underlying t=some (.slice e)) (aa:BA P e=some pp.n)
  (h:∀bk o f ws,S[j]? =some [(bk,.cells f e (0,0))]→pp.r E ws xv→(∀j w,ws[j]? =some w→f[o+j]? =some w)→o+pp.n≤f.size→(∀(x':α) (ws':Lv_),pp.r E ws' x'→OL e pp E a c [(bk,.cells (A4 f o ws') e (0,0))] (xs.set m.toNat x'))→o=m.toNat*pp.n→a=some ⟨bk,0,none⟩→
   JL J Q b n (AF L d (.pointer (some ⟨bk,o,none⟩))) ds (.inRegion ops rest::k) cs (Ak E H S)):
  JL J Q b n L ds (.inRegion ops (i::rest)::k) cs (Ak E H S):=by
 obtain⟨m,rfl,hm⟩:=GH hm;have ak:m<xs.length:=(List.getElem?_eq_some_iff.1 hm).1;obtain⟨bk,f,ws,rfl,rfl,ab,ae,ag,ah⟩:=OL.get hg hm;have ai:(m+1)*pp.n=m*pp.n+pp.n:=Nat.succ_mul _ _;have aj:m*pp.n+pp.n≤f.size:=by rw [← ai];exact ag
 refine Bc (v:= .pointer (some ⟨bk,m*pp.n,none⟩)) U hw V (fun ρ K=>?_) (h bk (m*pp.n) f ws O ab ae aj (by simpa using ah) (by simp) rfl);have:=Ma (P:=P) (s:=Ak E H S) (d:=d) (ty:=ty) (p:=p) (af:=af) (g:=g) ht aa (K x _ W) (K y _ Z) ⟨by omega,by omega⟩;rw [El rfl] at this;simpa using this
end
end Pal
namespace Pal
open Go Go.Conc
section
variable {P:Program}{J:Judge P}{Q:Gs_}{b:Frame}{n:Nat}{ds:Ld_}{ops:Ao_}{k:Li_}{cs:Lf_}{L:Env}{s:St}{E E' H:LH}{S:List Seg}
variable {d:Option Tmp}{x y:Operand}{t u ty e:TypeId}{p:String}{af:Ae_}{g:On_}{v:Value}{i:Nat}{rest:List Nat}{kd:IntKind}
theorem JS.perm{todo:Li_}{S':List Seg}(K:S.flatten.Perm S'.flatten)(O:Au E H S)(h:Au E H S'→JL J Q b n L ds todo cs (Ak E H S')):JL J Q b n L ds todo cs (Ak E H S):=by
 have U:Au E H S':=Nd.perm O K;rw [show Ak E H S=Ak E H S' from EX O K];exact h U
theorem FA{todo:Li_}{A B:Seg}(j:Nat)(K:S[j]? =some (A++B))(O:Au E H S)(h:Au E H (S.set j A++ [B])→JL J Q b n L ds todo cs (Ak E H (S.set j A++ [B]))):JL J Q b n L ds todo cs (Ak E H S):=by
 refine JS.perm ?_ O h;have U:=(Du (seg':=A) K).1;have V:=(Du (seg':=A) K).2;rw [FT];refine U.trans ?_;have W:=V.symm.append_right B
 rwa [List.append_assoc] at W
theorem JS.swap{todo:Li_}{A B:Seg}(j l:Nat)(O:S[j]? =some A)(U:S[l]? =some B)(W:(j==l)=false)(Z:Au E H S)(h:Au E H ((S.set j B).set l A)→JL J Q b n L ds todo cs (Ak E H ((S.set j B).set l A))):JL J Q b n L ds todo cs (Ak E H S):=by
 have K:j≠l:=by simpa using W
 refine JS.perm ?_ Z h;have aa:=(Du (seg':=B) O).1;have ab:(S.set j [])[l]? =some B:=by rw [List.getElem?_set_ne K];exact U
 have ae:=(Du (seg':=A) ab).1;have ag:((S.set j B).set l A)[l]? =some A:=by
  have:l<(S.set j B).length:=by rw [List.length_set];exact(List.getElem?_eq_some_iff.1 U).1
  rw [List.getElem?_set,if_pos rfl,if_pos this]
 have V:=(Du (seg':=A) ag).1;rw [List.set_set] at V;have ah:((S.set j B).set l [])[j]? =some B:=by
  have:j<S.length:=(List.getElem?_eq_some_iff.1 O).1;rw [List.getElem?_set_ne (Ne.symm K)];simp [this]
 have c2:=(Du (seg':=B) ah).1;have ai:(((S.set j B).set l []).set j [])=((S.set j []).set l []):=by
  rw [List.set_comm _ _ K,List.set_set,List.set_comm _ _ K.symm]
 rw [ai] at c2;exact aa.trans ((ae.append_right A).trans ((c2.symm.append_right A).trans V.symm))
theorem FN{bk off:Nat}{c:AA}{f:Nat×Nat}{vs:Lv_}{seg:Seg}(j:Nat)(K:Au E H S)(O:S[j]? =some ((bk,.cells c e f)::seg))(U:(c.toList.drop off).take vs.length=vs):∀i v,vs[i]? =some v→(Ak E H S).cell? (Addr.add ⟨bk,off,none⟩ i)=some v:=
 TU K O fun i v hi=>by
  have V:i<vs.length:=(List.getElem?_eq_some_iff.1 hi).1
  rw [← U,List.getElem?_take_of_lt V,List.getElem?_drop,Array.getElem?_toList] at hi
  exact hi
theorem Md(vs:Lv_):∀(c:AA) (off:Nat),off+vs.length≤c.size→∀j,(A4 c off vs)[j]? =if off≤j∧j<off+vs.length then vs[j - off]? else c[j]? :=by
 induction vs with
 | nil=>intro c off _ j;simp [A4];omega
 | cons w vs K=>
  intro c off U j;simp only [A4,List.length_cons] at*;rw [K _ _ (by simp;omega)];by_cases O:j=off
  ·subst O;rw [if_neg (by omega),if_pos (by omega),Nat.sub_self,List.getElem?_cons_zero,Array.getElem?_setIfInBounds_self_of_lt (by omega)]
  ·by_cases e2:off+1≤j∧j<off+1+vs.length
   ·rw [if_pos e2,if_pos (by omega)];have:j - off=(j - (off+1))+1:=by omega
    rw [this];simp
   ·rw [if_neg e2,if_neg (by omega),Array.getElem?_setIfInBounds_ne (by omega)]
theorem Ue{f:AA}{o m:Nat}{ws us vs:Lv_}(hle:o+ws.length≤f.size)(W:∀j w,ws[j]? =some w→f[o+j]? =some w)(K:vs=ws.take m++us++ws.drop (m+us.length))(hm:m+us.length≤ws.length):A4 f (o+m) us=A4 f o vs:=by
 have Z:vs.length=ws.length:=by subst K;simp;omega
 apply Array.ext_getElem?;intro j;rw [Md us f (o+m) (by omega),Md vs f o (by omega),Z];by_cases O:o+m≤j∧j<o+m+us.length
 ·rw [if_pos O,if_pos (by omega)];subst K;rw [List.getElem?_append_left (by simp;omega),List.getElem?_append_right (by simp;omega)];congr 1;simp;omega
 ·rw [if_neg O];by_cases U:o≤j∧j<o+ws.length
  ·rw [if_pos U];have hw:ws[j - o]? =some ws[j - o]:=List.getElem?_eq_getElem (by omega);have:=W _ _ hw;rw [show o+(j - o)=j by omega] at this;rw [this,← hw];subst K;rcases Nat.lt_or_ge (j - o) m with V | V
   ·rw [List.getElem?_append_left (by simp;omega),List.getElem?_append_left (by simp;omega),List.getElem?_take_of_lt V]
   ·rw [List.getElem?_append_right (by simp;omega),List.getElem?_drop];congr 1;simp;omega
  ·rw [if_neg U]
end
end Pal
namespace Pal
open Go Go.Conc
theorem elim_inl{α β K:Type}{f:α→Option K}{g:β→Option K}{x:α}{r:K}(h:Sum.elim f g (.inl x)=some r):f x=some r:=h
theorem elim_inr{α β K:Type}{f:α→Option K}{g:β→Option K}{x:β}{r:K}(h:Sum.elim f g (.inr x)=some r):g x=some r:=h
def room{α:Type}(xs:List α)(x:α):Option (List α):=if xs.length+1≤2 ^ 40 then some (xs++ [x]) else none
theorem UZ{α:Type}{xs ys:List α}{x:α}(h:room xs x=some ys):xs.length+1≤2 ^ 40∧ys=xs++ [x]:=by
 unfold room at h;split at h
 ·rename_i hb;exact⟨hb,(Option.some.inj h).symm⟩
 ·cases h
def Ns(a b:Nat):Option Nat:=if b=0 then none else some (a % b)
def Jb(a b:Nat):Option Nat:=if a<65536∧b<65536 then some (a ||| b) else none
def J1(a b:Nat):Option Nat:=if a<65536∧b<65536 then some (a&&& b) else none
section
variable {P:Program}{s:St}{ρ:Operand→Value}{x y z:Operand}{d:Option Tmp}{t u ty e:TypeId}{p:String}{af:Ae_}{g:On_}{v:Value}{kd kd':IntKind}{m m':Int}{a b:Nat}
theorem VN{r:Nat}(K:ρ x= .int .u64 (a:Int))(O:ρ y= .int .u64 (b:Int))(h:Ns a b=some r):Yl P ⟨d,.binOp .rem t x y u,ty,p,af,g⟩ ρ s (.int .u64 (r:Int)):=by
 unfold Ns at h;split at h
 ·cases h
 ·rename_i U;cases h;exact WT K O U
theorem KF{r:Nat}(O:ρ x=EG a)(U:ρ y=EG b)(h:Jb a b=some r):Yl P ⟨d,.binOp .or t x y u,ty,p,af,g⟩ ρ s (EG r):=by
 unfold Jb at h;split at h
 ·rename_i K;cases h;exact YF O U K.1 K.2
 ·cases h
theorem N6{r:Nat}(O:ρ x=EG a)(U:ρ y=EG b)(h:J1 a b=some r):Yl P ⟨d,.binOp .and t x y u,ty,p,af,g⟩ ρ s (EG r):=by
 unfold J1 at h;split at h
 ·rename_i K;cases h;exact Wn O U K.1 K.2
 ·cases h
theorem Yl.min2{ats:Array TypeId}(K:ρ x=iV m)(O:ρ y=iV m'):Yl P ⟨d,.call ⟨.builtin .min,#[x,y],ats⟩,ty,p,af,g⟩ ρ s (iV (min m m')):=by
 have e:(if m'<m then m' else m)=min m m':=by split <;> omega
 simp [Yl,execOp,lp,pure,bind,Sem.bind,K,O,resolve,invoke,builtin,Builtin.min_,Builtin.min2,e]
theorem Yl.max2{ats:Array TypeId}(K:ρ x=iV m)(O:ρ y=iV m'):Yl P ⟨d,.call ⟨.builtin .max,#[x,y],ats⟩,ty,p,af,g⟩ ρ s (iV (max m m')):=by
 have e:(if m<m' then m' else m)=max m m':=by split <;> omega
 simp [Yl,execOp,lp,pure,bind,Sem.bind,K,O,resolve,invoke,builtin,Builtin.max_,Builtin.max2,e]
end
def Lw(P:Program):List Field→List (Nat×Nat)→Prop
 | f::fs,(o,n)::K=>f.offset=o∧BA P f.type=some n∧Lw P fs K
 | [],[]=>True
 | _,_=>False
theorem Lw.mapM{P:Program}:∀{fs:List Field} {K:List (Nat×Nat)},Lw P fs K→fs.mapM (fun f=>(BA P f.type).map fun n=>(f.offset,n))=some K
 | [],[],_=>rfl
 | [],_::_,h=>h.elim
 | _::_,[],h=>h.elim
 | f::fs,(o,n)::K,h=>by
  obtain⟨O,U,V⟩:=h
  simp only [List.mapM_cons,bind,U,Option.map_some,Option.bind_some,Lw.mapM V,O];rfl
theorem Qg{L:Env}{ρ:Operand→Value}(h:EL L ρ):∀{l:List (Nat×Operand)} {vs:List (Nat×Value)},l.mapM (fun q=>(ev L q.2).map fun v=>(q.1,v))=some vs→l.map (fun(j,x)=>(j,ρ x))=vs
 | [],vs,e=>by simp at e;subst e;rfl
 | q::l,vs,e=>by
  simp only [List.mapM_cons,bind] at e
  cases K:ev L q.2 with
  | none=>rw [K] at e;simp at e
  | some w=>
   rw [K] at e
   simp only [Option.map_some,Option.bind_some] at e
   obtain⟨V,U,O⟩:=bind_some e
   simp at O;subst O
   simp [Qg h U,h _ _ K]
theorem De{P:Program}{s:St}{ρ:Operand→Value}{L:Env}{d:Option Tmp}{t ty:TypeId}{p:String}{af:Ae_}{g:On_}{z:Value}{fs:Array Field}{K:Array (Nat×Operand)}{vs:List (Nat×Value)}{cells:AA}(places:List (Nat×Nat))(h:EL L ρ)(O:zeroOf P t=some z)(ht:P.underlying t=some (.struct fs))(U:Lw P fs.toList places)
  (V:K.toList.mapM (fun q=>(ev L q.2).map fun v=>(q.1,v))=some vs) (W:JY (places.toArray[·]?) z.cells vs=some cells):Yl P ⟨d,.build t K,ty,p,af,g⟩ ρ s (.agg cells):=
 Yl.build (places:=places.toArray) O ht (by simpa using U.mapM) (Qg h V) (by rw [fill_eq];exact W)
theorem OL.again{α:Type}{e:TypeId}{pp:Rp α}{E:LH}{a:Option Addr}{bk c o:Nat}{f:AA}{xs:List α}{m:Int}{x:α}(hg:OL e pp E a c [(bk,.cells f e (0,0))] xs)(hm:ix xs m=some x)(O:o=m.toNat*pp.n):
  ∃ws,pp.r E ws x∧(∀j w,ws[j]? =some w→f[o+j]? =some w)∧o+pp.n≤f.size∧∀(x':α) (ws':Lv_),pp.r E ws' x'→OL e pp E a c [(bk,.cells (A4 f o ws') e (0,0))] (xs.set m.toNat x'):=by
 obtain⟨m,rfl,hm⟩:=GH hm;obtain⟨ae,ag,ws,ah,K,U,V,W,Z⟩:=OL.get hg hm;simp only [List.cons.injEq,Prod.mk.injEq,Obj.cells.injEq,and_true] at K;obtain⟨rfl,rfl⟩:=K;have aa:(m+1)*pp.n=m*pp.n+pp.n:=Nat.succ_mul _ _;have ab:o=m*pp.n:=by simpa using O
 subst ab;exact⟨ws,U,V,by rw [← aa];exact W,by simpa using Z⟩
section
variable {P:Program}{J:Judge P}{Q:Gs_}{b:Frame}{n:Nat}{ds:Ld_}{ops:Ao_}{k:Li_}{cs:Lf_}{L:Env}{s:St}{E E' H:LH}{S:List Seg}
variable {d:Option Tmp}{x y:Operand}{t u ty e:TypeId}{p:String}{af:Ae_}{g:On_}{v:Value}{i:Nat}{rest:List Nat}{kd:IntKind}
theorem JS.app{α:Type}{pp:Rp α}{t1 t2:TypeId}{K c:Nat}{a:Option Addr}{seg:Seg}{xs ys:List α}{xv:α}{W:Nat}{d1:Tmp}{ats:Array TypeId}{O:TypeId}{U:String}{V:Ae_}{g':On_}{z:Value}(j:Nat)(ab:room xs xv=some ys)
  (ae:ops[i]? =some ⟨some d1,.buildSlice t2 1 #[(0,y)],O,U,V,g'⟩) (hw:Bi L ops ⟨some d1,.buildSlice t2 1 #[(0,y)],O,U,V,g'⟩=some true) (ag:CZ b n ⟨some d1,.buildSlice t2 1 #[(0,y)],O,U,V,g'⟩=true)
  (ah:ops[W]? =some ⟨d,.call ⟨.builtin .append,#[x,.tmp d1],ats⟩,ty,p,af,g⟩) (ai:∀w,Bi (AF L (some d1) w) ops ⟨d,.call ⟨.builtin .append,#[x,.tmp d1],ats⟩,ty,p,af,g⟩=some true) (aj:CZ b n ⟨d,.call ⟨.builtin .append,#[x,.tmp d1],ats⟩,ty,p,af,g⟩=true)
  (ak:∀w,ev (AF L (some d1) w) x=some (.slice a xs.length c)) (al:ev L y=some v) (am:ats[0]? =some t) (an:ats[1]? =some t1) (ht:P.underlying t=some (.slice e)) (ao:P.underlying t1=some (.slice e)) (ap:P.underlying t2=some (.slice e)) (aq:BA P e=some pp.n) (hb:Ey P e=some K) (ar:zeroOf P e=some z) (au:z.cells.size=pp.n)
  (av:0<K) (aw:K≤64) (ay:0<pp.n) (az:pp.n≤64) (hg:OL e pp E a c seg xs) (aA:pp.r E v.cells.toList xv) (aB:Au E H S) (aC:S[j]? =some seg)
  (h:∀w Z aa seg',OL e pp E Z aa seg' ys→Au E H (S.set j seg')→JL J Q b n (AF (AF L (some d1) w) d (.slice Z ys.length aa)) ds (.inRegion ops rest::k) cs (Ak E H (S.set j seg'))):
  JL J Q b n L ds (.inRegion ops (i::W::rest)::k) cs (Ak E H S):=by
 obtain⟨aD,rfl⟩:=UZ ab;exact PR j ae hw ag ah ai aj ak al am an ht ao ap aq hb ar au av aw ay az aD hg aA aB aC h
theorem CG{todo:Li_}{S':List Seg}(K:S=S')(O:Au E H S)(h:Au E H S'→JL J Q b n L ds todo cs (Ak E H S')):JL J Q b n L ds todo cs (Ak E H S):=by
 subst K;exact h O
end
end Pal
namespace Pal
open Go Go.Conc
theorem Ei.J7{P:Program}{J:Judge P}{f:FuncId}{args:AA}{s:St}{R:Value→St→Prop}(h:Ei J f args s R)(U:∀v s',R v s'→s'.q=false):Ei J f args s (fun v s'=>R v s'∧∃w,Fits s' w):=fun Q c cs V=>
 h Q c cs fun v s' K=>by
  by_cases O:∃w,Fits s' w
  ·exact V v s' ⟨K,O⟩
  ·exact J.step ⟨rfl,fun w f=>absurd ⟨w,f⟩ O,fun e=>by have:=U v s' K;subst e;cases this⟩
def Bb(l:List Nat):Nat→Bool:=fun x=>l.contains x
section
variable {P:Program}{J:Judge P}{Q:Gs_}{b:Frame}{n:Nat}{ds:Ld_}{ops:Ao_}{k:Li_}{cs:Lf_}{m fuel:Nat}{D:Nat→Bool}{listed:Array Bool}{L:Env}{s:St}{E E' H:LH}{S:List Seg}
variable {d:Option Tmp}{x y:Operand}{t u ty e:TypeId}{p:String}{af:Ae_}{g:On_}{v:Value}{i:Nat}{kd:IntKind}
def FC(ops:Ao_)(listed:Array Bool)(m i:Nat):Bool:=match ops[i]? with
 | some oi=>decide (i<m)&&Region.noSelect ops&& !Dx oi.op&&HS ops listed i oi&&G5 ops listed&&listed.size==ops.size&&(Region.ready .any ops listed).contains i
 | none=>false
theorem U2(m:Nat){id:Nat}(hm:P.follows .mixedOrders=true)(K:(b.kind != .early)=true)
  (ht:DG ops m=true) (h:DG ops m=true→AV J Q b n ds ops k cs m C9 ops.size (Array.replicate ops.size false) L (Ak E H S)):JL J Q b n L ds (.code (.region id ops true)::k) cs (Ak E H S):=
 Oh m C9 rfl hm K (h ht)
theorem Qi{oi:Oper}{i:Nat}(hi:ops[i]? =some oi)(K:FC ops listed m i=true):decide (i<m)=true∧Region.noSelect ops=true∧(!Dx oi.op)=true∧HS ops listed i oi=true∧G5 ops listed=true∧(listed.size==ops.size)=true∧(Region.ready .any ops listed).contains i=true:=by
 simp only [FC,hi,Bool.and_eq_true] at K;obtain⟨⟨⟨⟨⟨⟨O,U⟩,V⟩,W⟩,Z⟩,aa⟩,ab⟩:=K;exact⟨O,U,V,W,Z,aa,ab⟩
theorem OZ{oi:Oper}(i:Nat)(hi:ops[i]? =some oi)(K:DG ops m=true)(O:FC ops listed m i=true)(U:s.q=false)
  (hw:Bi L ops oi=some true) (V:BE n oi.dst=true) (W:∀ρ,EL L ρ→∀s':St,(∀x o,(BF D s).E x=some o→s'.E x=some o)→Yl P oi ρ s' v)
  (h:AV J Q b n ds ops k cs m D fuel (Bg listed i) (AF L oi.dst v) s):AV J Q b n ds ops k cs m D (fuel+1) listed L s:=
 let ⟨Z,aa,ab,ae,ag,ah,ai⟩:=Qi hi O
 UF hi Z K aa ab ae ag ah ai U hw V (fun ρ aj s' _ hs=>W ρ aj s' hs) h
theorem YO{oi:Oper}(i:Nat)(hi:ops[i]? =some oi)(K:DG ops m=true)(O:FC ops listed m i=true)(U:s.q=false)
  (hw:Bi L ops oi=some false) (V:BE n oi.dst=true)
  (h:AV J Q b n ds ops k cs m D fuel (Bg listed i) (AF L oi.dst undef) s):AV J Q b n ds ops k cs m D (fuel+1) listed L s:=
 let ⟨W,Z,aa,ab,ae,ag,ah⟩:=Qi hi O
 UK hi W K Z aa ab ae ag ah U hw V h
theorem XY{α:Type}{pp:Rp α}{a:Option Addr}{c:Nat}{xs:List α}{xv:α}{K:Int}(i:Nat)(V:Ap pp E a c xs)(O:ix xs K=some xv)
  (W:ops[i]? =some ⟨d,.indexAddr t x y,ty,p,af,g⟩) (Z:DG ops m=true) (aa:FC ops listed m i=true) (ab:s.q=false)
  (hw:Bi L ops ⟨d,.indexAddr t x y,ty,p,af,g⟩=some true) (ae:BE n d=true)
  (ag:ev L x=some (.slice a xs.length c)) (ah:ev L y=some (.int kd K)) (ht:P.underlying t=some (.slice e)) (ai:BA P e=some pp.n)
  (h:∀bk o ws,pp.r E ws xv→At E bk o ws→AV J Q b n ds ops k cs m D fuel (Bg listed i) (AF L d (.pointer (some ⟨bk,o,none⟩))) s):
  AV J Q b n ds ops k cs m D (fuel+1) listed L s:=by
 obtain⟨K,rfl,O⟩:=GH O;have aj:K<xs.length:=(List.getElem?_eq_some_iff.1 O).1;obtain⟨an,⟨rfl,_⟩ | ⟨bk,off,rfl,ak⟩⟩:=V
 ·simp at aj
 obtain⟨ws,al,am⟩:=ak K xv O;refine OZ (v:= .pointer (some ⟨bk,off+K*pp.n,none⟩)) i W Z aa ab hw ae (fun ρ U s' _=>?_) (h bk _ ws al am);have:=Ma (P:=P) (s:=s') (d:=d) (ty:=ty) (p:=p) (af:=af) (g:=g) ht ai (U x _ ag) (U y _ ah) ⟨by omega,by omega⟩;rw [El rfl] at this;simpa using this
theorem JG.call{f:FuncId}{args:Array Operand}{ats:Array TypeId}{vs:Lv_}{R:Value→LH→Seg→Prop}(V:AU J f vs E [] R)(W:Region.ready .any ops listed= [i])
  (Z:ops[i]? =some ⟨d,.call ⟨.value (.func f),args,ats⟩,ty,p,af,g⟩) (aa:BE n d=true) (hw:Bi L ops ⟨d,.call ⟨.value (.func f),args,ats⟩,ty,p,af,g⟩=some true) (hb:D9 P f=true) (ab:evs L args.toList=some vs) (ae:Au E H S)
  (ag:∀v E' seg',Le E E'→R v E' seg'→Au E' H (S++ [seg'])→AV J Q b n ds ops k cs m C9 fuel (Bg listed i) (AF L d v) (Ak E' H (S++ [seg']))):
  AV J Q b n ds ops k cs m C9 (fuel+1) listed L (Ak E H S):=by
 have ah:=Ei.J7 (V (Bm S.flatten H) trivial) (by rintro v s' ⟨E',B',_,_,_,rfl⟩;rfl);refine AV.call rfl W Z aa hw hb ab ah ?_;rintro v ao ⟨⟨E',B',hle,ai,aj,rfl⟩,w,ak⟩;have e2:mk E' (Bm S.flatten H) B'=mk E' H (B'++S.flatten):=by unfold mk;rw [F6]
 have al:Nd E' H S.flatten:=Nd.grow ae fun x K=>by
  have am:=ak.d x K;have an:Bm B' (Bm S.flatten H) x=none:=am;exact(GZ an).1
 have O:Nd E' H (B'++S.flatten):=Nd.glue aj al;have U:(B'++S.flatten).Perm (S++ [B']).flatten:=by rw [FT];exact List.perm_append_comm
 rw [e2,EX O U];exact⟨rfl,fun x o K=>hle x o K,ag v E' B' hle ai (Nd.perm O U)⟩
end
end Pal
namespace Pal
open Go Go.Conc
theorem MS{E H:LH}{S:List Seg}{j bk:Nat}{o:Obj}{seg:Seg}(K:Au E H S)(O:S[j]? =some ((bk,o)::seg)):E bk=none:=by
 have hm:(bk,o)∈S.flatten:=List.mem_flatten.2 ⟨_,List.mem_of_getElem? O,by simp⟩;exact((Nd.iff.1 K).2 _ hm).1
end Pal
namespace Pal
open Go Go.Conc
def Ls(a:Nat)(n:Int):Option Nat:=if 0≤n∧n≤16 then some (a>>>n.toNat) else none
def Li(n:Int):Option Nat:=if 0≤n∧n<16 then some (1<<<n.toNat) else none
def Eg{α:Type}(n:Int)(z:α):Option (List α):=if 0≤n∧n≤2 ^ 20 then some (List.replicate n.toNat z) else none
def Dy{α:Type}(xs ys:List α):Option (List α):=if xs.length+ys.length≤2 ^ 40 then some (xs++ys) else none
section
variable {P:Program}{s:St}{ρ:Operand→Value}{x y z:Operand}{d:Option Tmp}{t u ty e:TypeId}{p:String}{af:Ae_}{g:On_}{v:Value}{kd kd':IntKind}{m m':Int}{a b:Nat}
theorem WO{r:Nat}(K:ρ x=EG a)(O:ρ y=iV m)(h:Ls a m=some r):Yl P ⟨d,.binOp .shr t x y u,ty,p,af,g⟩ ρ s (EG r):=by
 unfold Ls at h;split at h
 ·rename_i U;cases h;refine Xn K (c:=m.toNat) ?_ (by omega);rw [O];congr 1;omega
 ·cases h
theorem WK{r:Nat}(K:ρ x=EG 1)(O:ρ y=iV m)(h:Li m=some r):Yl P ⟨d,.binOp .shl t x y u,ty,p,af,g⟩ ρ s (EG r):=by
 unfold Li at h;split at h
 ·rename_i U;cases h;refine V9 K (c:=m.toNat) ?_ (by omega);rw [O];congr 1;omega
 ·cases h
end
section
variable {P:Program}{J:Judge P}{Q:Gs_}{b:Frame}{n:Nat}{ds:Ld_}{ops:Ao_}{k:Li_}{cs:Lf_}{L L':Env}{s:St}{E E' H:LH}{S:List Seg}
variable {d:Option Tmp}{x y:Operand}{t u ty e:TypeId}{p:String}{af:Ae_}{g:On_}{v:Value}{i:Nat}{rest:List Nat}{kd:IntKind}
theorem P7{ρ:Operand→Value}:execOp ρ ⟨d,.makeSlice t x y,ty,p,af,g⟩=(do pure (Next.value (← Instr.makeSlice t (ρ x) (ρ y)))):=by
 simp only [execOp]
theorem L5{α:Type}(w:List α):∀m:Nat,((List.replicate m w).flatten).length=m*w.length
 | 0=>by simp
 | m+1=>by rw [List.replicate_succ,List.flatten_cons,List.length_append,L5 w m,Nat.succ_mul,Nat.add_comm]
theorem QV(z:AA)(O:0<z.size):∀m:Nat,((Array.range (m*z.size)).map (z[· % z.size]!)).toList=(List.replicate m z.toList).flatten:=by
 intro m;apply List.ext_getElem?;intro j;simp only [Array.toList_map,Array.toList_range,List.getElem?_map];by_cases K:j<m*z.size
 ·rw [List.getElem?_range K];have V:j / z.size<m:=(Nat.div_lt_iff_lt_mul O).2 K;have U:j % z.size<z.size:=Nat.mod_lt _ O;have hw:(List.replicate m z.toList)[j / z.size]? =some z.toList:=by simp [V]
  have:=IN (n:=z.size) (wss:=List.replicate m z.toList) (fun ws W=>by rw [List.eq_of_mem_replicate W];simp) hw (j % z.size) z[j % z.size] (by simp [U]);rw [show j / z.size*z.size+j % z.size=j from by rw [Nat.mul_comm];exact Nat.div_add_mod _ _] at this;rw [this];simp [U]
 ·have hlen:((List.replicate m z.toList).flatten).length=m*z.size:=by rw [L5];simp
  rw [List.getElem?_eq_none (by simpa using K),List.getElem?_eq_none (by rw [hlen];omega)];rfl
theorem JS.make{α:Type}{pp:Rp α}{z:Value}{W:α}{m:Int}{xs:List α}(U:Eg m W=some xs)
  (ai:ops[i]? =some ⟨d,.makeSlice t x y,ty,p,af,g⟩) (hw:Bi L ops ⟨d,.makeSlice t x y,ty,p,af,g⟩=some true) (aj:CZ b n ⟨d,.makeSlice t x y,ty,p,af,g⟩=true)
  (ak:ev L x=some (iV m)) (V:ev L y=some (iV m)) (ht:P.underlying t=some (.slice e)) (al:BA P e=some pp.n) {O:Nat} (hb:Ey P e=some O) (ay:O≤64) (am:zeroOf P e=some z) (az:0<pp.n) (Z:pp.r E z.cells.toList W) (an:Au E H S)
  (h:∀r seg,OL e pp E (some ⟨r,0,none⟩) xs.length seg xs→Au E H (S++ [seg])→JL J Q b n (AF L d (.slice (some ⟨r,0,none⟩) xs.length xs.length)) ds (.inRegion ops rest::k) cs (Ak E H (S++ [seg]))):
  JL J Q b n L ds (.inRegion ops (i::rest)::k) cs (Ak E H S):=by
 unfold Eg at U;split at U
 rotate_left
 ·cases U
 rename_i hm;cases U;refine JL.op ai hw aj fun ρ aa=>?_;rw [P7,aa x _ ak,aa y _ V];refine AH _ _ ?_;unfold Instr.makeSlice;refine AH _ _ (Di ht ?_);simp only [asInt,G0];obtain⟨inf,ao,ap⟩:=Kv hb;refine AH (x:=typeInfo e) _ (HH ao ?_);simp only [ap,Ii (show -9223372036854775808≤m∧m≤9223372036854775807 by omega)];have aA:(O:Int)*m≤64*2 ^ 20:=by
  have ab:(O:Int)*m≤64*m:=Int.mul_le_mul_of_nonneg_right (by omega) hm.1;omega
 have aq:((decide (m<0) || decide ((O:Int)*m>2 ^ 48)) || decide (m<0) || decide (m>m))=false:=by
  simp only [Bool.or_eq_false_iff,decide_eq_false_iff_not];omega
 rw [aq];simp only [Bool.false_eq_true,if_false];refine AH (x:=askRoom _) _ ?_;have ar:∀{Q:Unit→St→Prop} {X:Halt→St→Prop} (w:Nat),Q () (Ak E H S)→lp P (askRoom w) (Ak E H S) Q X:=by
  intro Q X w ae;unfold askRoom;split
  ·exact⟨.inl ⟨rfl,rfl⟩,ae⟩
  ·exact ae
 refine ar _ (AH (x:=Go.sizeOf e) _ (EV al ?_));have ag:z.cells.size=pp.n:=by simpa using pp.len Z
 have fin:∀K:AA,((Array.range (m.toNat*pp.n)).map (K[· % K.size]!)).toList=(List.replicate m.toNat z.cells.toList).flatten→lp P (do let a ← newRow e ((Array.range (m.toNat*pp.n)).map (K[· % K.size]!));pure (Value.slice (some a) m.toNat m.toNat)) (Ak E H S) (fun a s'=>lp P (pure (Next.value a)) s' (fun nx s'=>match nx with
   | .value v=>JL J Q b n (AF L d v) ds (.inRegion ops rest::k) cs s'
   | .skip=>JL J Q b n (AF L d undef) ds (.inRegion ops rest::k) cs s'
   | _=>False) (fun _ _=>False)) (fun _ _=>False):=by
  intro K au;refine AH _ _ (G2 an fun r ah=>?_);rw [(EB ah).1];have aB:((Array.range (m.toNat*pp.n)).map (K[· % K.size]!)).size=m.toNat*pp.n:=by simp
  have:=h r _ ⟨List.replicate m.toNat z.cells.toList,.inr ⟨r,_,rfl,rfl,by simp,by simp,by
   rw [au,List.take_of_length_le (by rw [L5];simp [ag])]⟩,by simp,fun i y us V hu=>by
    have:=List.mem_of_getElem? V;have av:=List.eq_of_mem_replicate this
    have:=List.mem_of_getElem? hu;have e2:=List.eq_of_mem_replicate this
    subst av e2;exact Z⟩ (EB ah).2
  simp only [List.length_replicate] at this;exact this
 split
 ·rename_i aw;have ab:m.toNat=0:=by rcases Nat.mul_eq_zero.1 aw with h | h <;> omega
  exact fin #[] (by simp [ab])
 ·refine AH (x:=zeroValue e) _ (F5 am ?_);refine fin z.cells ?_;rw [← ag];exact QV z.cells (by omega) _
theorem Ox{α:Type}{pp:Rp α}(O:ops[i]? =some ⟨d,.buildSlice t 0 #[],ty,p,af,g⟩)(hw:Bi L ops ⟨d,.buildSlice t 0 #[],ty,p,af,g⟩=some true)(U:CZ b n ⟨d,.buildSlice t 0 #[],ty,p,af,g⟩=true)
  (ht:P.underlying t=some (.slice e)) (V:BA P e=some pp.n) (W:Au E H S)
  (h:∀r seg,OL e pp E (some ⟨r,0,none⟩) 0 seg []→Au E H (S++ [seg])→JL J Q b n (AF L d (.slice (some ⟨r,0,none⟩) 0 0)) ds (.inRegion ops rest::k) cs (Ak E H (S++ [seg]))):
  JL J Q b n L ds (.inRegion ops (i::rest)::k) cs (Ak E H S):=by
 refine JL.op O hw U fun ρ aa=>?_;rw [Qj];refine AH _ _ ?_;unfold Instr.buildSlice;refine AH _ _ (Di ht ?_);refine AH _ _ (EV V ?_);rw [if_neg (by omega),if_pos (by omega)];refine AH (x:=pure #[]) _ ?_;simp only [lp,pure,List.map_toArray,List.map_nil,Instr.fill];refine AH _ _ (G2 W fun r K=>?_);rw [(EB K).1];exact h r _ ⟨[],.inr ⟨r,_,rfl,rfl,by simp,Nat.le_refl _,by simp⟩,rfl,fun i x ws Z=>by simp at Z⟩ (EB K).2
theorem Ap.rows{α:Type}{pp:Rp α}{a:Option Addr}{c:Nat}{xs:List α}(U:Ap pp E a c xs):∃wss:List (Lv_),wss.length=xs.length∧(∀(i:Nat) x ws,xs[i]? =some x→wss[i]? =some ws→pp.r E ws x)∧
  ((xs= []∧∀ad:Addr,a=some ad→ad.spot=none∨c=0)∨∃bk off,a=some ⟨bk,off,none⟩∧∀(i:Nat) ws,wss[i]? =some ws→At E bk (off+i*pp.n) ws):=by
 obtain⟨aa,U⟩:=U;rcases U with⟨rfl,W⟩ | ⟨bk,off,rfl,Z⟩
 ·exact⟨[],rfl,fun i x ws O=>by simp at O,.inl ⟨rfl,W⟩⟩
 ·have V:∀i:Fin xs.length,∃ws,pp.r E ws xs[i]∧At E bk (off+i*pp.n) ws:=fun i=>Z i xs[i] (List.getElem?_eq_getElem i.2);refine⟨List.ofFn fun i=>Classical.choose (V i),by simp,fun i x ws O hw=>?_,.inr ⟨bk,off,rfl,fun i ws hw=>?_⟩⟩
  ·have K:i<xs.length:=(List.getElem?_eq_some_iff.1 O).1;simp [K] at hw;subst hw;rw [List.getElem?_eq_getElem K] at O;cases O;exact(Classical.choose_spec (V ⟨i,K⟩)).1
  ·have K:i<xs.length:=by have:=(List.getElem?_eq_some_iff.1 hw).1;simpa using this
   simp [K] at hw;subst hw;exact(Classical.choose_spec (V ⟨i,K⟩)).2
theorem L3{n:Nat}:∀{wss:List (Lv_)},(∀ws∈wss,ws.length=n)→wss.flatten.length=wss.length*n
 | [],_=>by simp
 | ws::wss,h=>by rw [List.flatten_cons,List.length_append,h ws (by simp),L3 fun w hw=>h w (List.mem_cons_of_mem _ hw),List.length_cons,Nat.succ_mul,Nat.add_comm]
theorem NY{n:Nat}:∀{wss:List (Lv_)},(∀ws∈wss,ws.length=n)→∀{j:Nat} {w:Value},wss.flatten[j]? =some w→∃(i m:Nat) (ws:Lv_),wss[i]? =some ws∧ws[m]? =some w∧j=i*n+m
 | [],_,_,_,h=>by simp at h
 | us::wss,O,j,w,h=>by
  have hu:=O us (by simp)
  rw [List.flatten_cons] at h
  rcases Nat.lt_or_ge j us.length with K | K
  ·rw [List.getElem?_append_left K] at h
   exact⟨0,j,us,rfl,h,by simp⟩
  ·rw [List.getElem?_append_right K] at h;obtain⟨i,m,ws,U,V,W⟩:=NY (fun ws hw=>O ws (List.mem_cons_of_mem _ hw)) h;exact⟨i+1,m,ws,by simpa using U,V,by rw [Nat.succ_mul];omega⟩
theorem N3{α:Type}{pp:Rp α}{wss O:List (Lv_)}{xs ys:List α}(U:wss.length=xs.length)(h:∀(i:Nat) x ws,xs[i]? =some x→wss[i]? =some ws→pp.r E ws x)(V:∀(i:Nat) x ws,ys[i]? =some x→O[i]? =some ws→pp.r E ws x):
  ∀(i:Nat) y us,(xs++ys)[i]? =some y→(wss++O)[i]? =some us→pp.r E us y:=by
 intro i y us K hu;rcases Nat.lt_or_ge i xs.length with hi | hi
 ·rw [List.getElem?_append_left hi] at K;rw [List.getElem?_append_left (by omega)] at hu;exact h i y us K hu
 ·rw [List.getElem?_append_right hi] at K;rw [List.getElem?_append_right (by omega),U] at hu;exact V _ y us K hu
variable {B0:List (Nat×Obj)}
theorem T2{e t t1:TypeId}{sz aj l c m:Nat}{a:Option Addr}{blk:List (Nat×Obj)}{xs ys:Lv_}{i:Nat}{rest:List Nat}{d:Option Tmp}{x y:Operand}{ats:Array TypeId}{ty:TypeId}{p:String}{af:Ae_}{g:On_}{z:Value}{ax:Option Addr}{cx:Nat}{B1:List (Nat×Obj)}
  (ar:ops[i]? =some ⟨d,.call ⟨.builtin .append,#[x,y],ats⟩,ty,p,af,g⟩) (hw:Bi L ops ⟨d,.call ⟨.builtin .append,#[x,y],ats⟩,ty,p,af,g⟩=some true) (au:CZ b n ⟨d,.call ⟨.builtin .append,#[x,y],ats⟩,ty,p,af,g⟩=true)
  (av:ev L x=some (.slice a l c)) (aw:ev L y=some (.slice ax m cx)) (ay:ats[0]? =some t) (az:ats[1]? =some t1) (ht:P.underlying t=some (.slice e)) (aA:P.underlying t1=some (.slice e)) (aB:BA P e=some sz) (hb:Ey P e=some aj) (aC:zeroOf P e=some z) (aD:z.cells.size=sz)
  (aE:0<aj) (aF:aj≤64) (aG:l+m≤2 ^ 40) (aH:∀w∈ys,Cx w=true) (hg:GS e sz a l c blk xs) (ak:Nd E H (B0++blk++B1)) (hs:GJ (mk E H (B0++blk++B1)) (.slice ax m cx) sz ys)
  (h:∀ao ah al,GS e sz ao (l+m) ah al (xs++ys)→Nd E H (B0++al)→JL J Q b n (AF L d (.slice ao (l+m) ah)) ds (.inRegion ops rest::k) cs (mk E H (B0++al))):
  JL J Q b n L ds (.inRegion ops (i::rest)::k) cs (mk E H (B0++blk++B1)):=by
 refine JL.op ar hw au fun ρ ap=>?_;rw [LZ,ap x _ av,ap y _ aw];have aI:Nn (B0++blk++B1) B0.length e sz a l c xs:=by
  rcases hg with⟨K,V,aa,ab,W⟩ | ⟨bk,f,K,V,aa,ab,W⟩
  ·exact .inl ⟨K,V,aa,W⟩
  ·refine .inr ⟨bk,f,K,?_,aa,ab,W⟩;subst V;simp
 have hlen:=hg.length;refine AH _ _ (N8 (pl:=B0.length) ay az aA ht aB hb aC aD ak aI hs aH aE aG aF ?_ ?_ ?_)
 ·
  intro bk f O ai aO aP aJ am an Z;rcases hg with⟨K,_⟩ | ⟨U,f0,K,V,aa,ab,W⟩
  ·rw [K] at ai;cases ai
  ·subst V;have aK:U=bk:=by rw [K] at ai;simpa using ai
   subst aK;have aL:(B0++ [(U,Obj.cells f0 e (0,0))]++B1).set B0.length (U,.cells O e (0,0))=B0++ [(U,.cells O e (0,0))]++B1:=by
    rw [List.append_assoc,List.append_assoc];exact GD _ _ _ _
   rw [aL] at Z ⊢;have ae:Nd E H (B0++ [(U,.cells O e (0,0))]):=Ih.Nd.left Z;refine JL.drop (B0++ [(U,.cells O e (0,0))]) (fun p ag=>?_) Z (h a c _ (.inr ⟨U,O,K,rfl,am,aJ,an.symm⟩) ae);exact List.mem_iff_getElem?.1 (List.mem_append_left _ ag)
 ·intro aq hm;rcases hg with⟨K,V,aa,ab,W⟩ | ⟨U,f0,K,_⟩
  ·subst hm;have aM:ys= []:=by
    cases ax with
    | none=>exact hs.2
    | some ad=>have:=hs.2.1;simp at this;exact this
   subst V ab W aM;have ae:Nd E H (B0++ []):=Ih.Nd.left ak;exact JL.drop (B0++ []) (fun p ag=>List.mem_iff_getElem?.1 (List.mem_append_left _ ag)) ak (h none 0 [] (by simpa using GS.nil) ae)
  ·rw [K] at aq;cases aq
 ·
  intro r O ah aN am an Z;have ae:Nd E H (B0++ [(r,.cells O e (0,0))]):=Ih.Nd.pick Z;refine JL.drop (B0++ [(r,.cells O e (0,0))]) (fun p ag=>?_) Z (h (some ⟨r,0,none⟩) ah _ (.inr ⟨r,O,rfl,rfl,am,aN,an.symm⟩) ae);refine List.mem_iff_getElem?.1 ?_;rcases List.mem_append.1 ag with q | q
  ·simp [q]
  ·exact List.mem_append_right _ q
theorem KN{α:Type}{pp:Rp α}{t1:TypeId}{ab c cx:Nat}{a ax:Option Addr}{seg:Seg}{xs ys ae:List α}{ats:Array TypeId}{z:Value}(j:Nat)(V:Dy xs ys=some ae)
  (an:ops[i]? =some ⟨d,.call ⟨.builtin .append,#[x,y],ats⟩,ty,p,af,g⟩) (hw:Bi L ops ⟨d,.call ⟨.builtin .append,#[x,y],ats⟩,ty,p,af,g⟩=some true) (ao:CZ b n ⟨d,.call ⟨.builtin .append,#[x,y],ats⟩,ty,p,af,g⟩=true)
  (ap:ev L x=some (.slice a xs.length c)) (aq:ev L y=some (.slice ax ys.length cx)) (ar:ats[0]? =some t) (au:ats[1]? =some t1) (ht:P.underlying t=some (.slice e)) (av:P.underlying t1=some (.slice e)) (aw:BA P e=some pp.n) (hb:Ey P e=some ab) (ay:zeroOf P e=some z) (az:z.cells.size=pp.n)
  (aA:0<ab) (aB:ab≤64) (hg:OL e pp E a c seg xs) (ah:Ap pp E ax cx ys) (aC:Au E H S) (ai:S[j]? =some seg)
  (h:∀W Z seg',OL e pp E W Z seg' ae→Au E H (S.set j seg')→JL J Q b n (AF L d (.slice W ae.length Z)) ds (.inRegion ops rest::k) cs (Ak E H (S.set j seg'))):
  JL J Q b n L ds (.inRegion ops (i::rest)::k) cs (Ak E H S):=by
 unfold Dy at V;split at V
 rotate_left
 ·cases V
 rename_i aD;cases V;obtain⟨wss,hg,aj,aE⟩:=hg;obtain⟨aF,ak⟩:=F8 aC ai;obtain⟨aa,O,ag,U⟩:=ah.rows;have al:=HO O ag;rw [aF];have aG:∀w∈aa.flatten,Cx w=true:=fun w hw=>by
  obtain⟨us,aH,hw⟩:=List.mem_flatten.1 hw;obtain⟨q,K⟩:=List.mem_iff_getElem?.1 aH;have aI:q<ys.length:=by rw [← O];exact(List.getElem?_eq_some_iff.1 K).1
  exact pp.one (ag q _ us (List.getElem?_eq_getElem aI) K) w hw
 have hlen:(xs++ys).length=xs.length+ys.length:=by simp
 have am:GJ (mk E H ((S.set j []).flatten++seg)) (.slice ax ys.length cx) pp.n aa.flatten:=by
  rcases U with⟨U,aR⟩ | ⟨bk,off,rfl,U⟩
  ·subst U;have:aa= []:=List.eq_nil_of_length_eq_zero O;subst this;cases ax with
   | none=>exact⟨rfl,rfl⟩
   | some ad=>exact⟨.inr rfl,by simp,Nat.zero_le _,fun q w K=>by simp at K⟩
  ·refine⟨.inl rfl,by rw [L3 al,O],ah.1,fun q w K=>?_⟩;obtain⟨q1,m,ws,aJ,e2,aK⟩:=NY al K;have:=(U q1 ws aJ).cell (H:=H) (B:=(S.set j []).flatten++seg) e2;subst aK;rw [← Nat.add_assoc];exact this
 have aL:(S.set j []).flatten++seg=(S.set j []).flatten++seg++ []:=(List.append_nil _).symm;rw [aL] at ak am ⊢;refine T2 an hw ao ap aq ar au ht av aw hb ay az aA aB aD aG hg ak am fun W Z aM aN aO=>?_;obtain⟨aP,aQ⟩:=Ho ai aO;rw [aP];have:=h W Z aM ⟨wss++aa,by rw [hlen,List.flatten_append];exact aN,by simp [aj,O],N3 aj aE ag⟩ aQ;rw [hlen] at this;exact this
end
end Pal
namespace Pal
open Go Go.Conc
section
variable {P:Program}{J:Judge P}{Q:Gs_}{b:Frame}{n:Nat}{ds:Ld_}{ops:Ao_}{k:Li_}{cs:Lf_}{m fuel:Nat}{D:Nat→Bool}{listed:Array Bool}{L L':Env}{s:St}{E E' H:LH}{S:List Seg}
variable {d:Option Tmp}{x y:Operand}{t u ty e:TypeId}{p:String}{af:Ae_}{g:On_}{v:Value}{i:Nat}{rest:List Nat}{kd:IntKind}
theorem Dg(h:Sub L' L)(k':AV J Q b n ds ops k cs m D fuel listed L' s):AV J Q b n ds ops k cs m D fuel listed L s:=fun T K=>k' T (K.sub h)
theorem FR{K:Nat}{O:Array Bool}(fuel:Nat)(listed:Array Bool)(I:Env→St→Prop)(U:∀L s,I L s→AV J Q b n ds ops k cs m D fuel listed L s)(h:(∀L s,I L s→AV J Q b n ds ops k cs m D fuel listed L s)→AV J Q b n ds ops k cs m D K O L s):AV J Q b n ds ops k cs m D K O L s:=h U
end
def IE(t:TypeId)(v:Value):Option (Int×Int)→Prop
 | none=>v= .nilIface
 | some (c,a)=>v= .iface t (.agg #[iV c,iV a])
def Kc{α:Type}(p:Rp α)(E:LH)(v:Value):Option α→Prop
 | none=>v= .pointer none
 | some x=>∃bk o us,v= .pointer (some ⟨bk,o,none⟩)∧At E bk o us∧p.r E us x
theorem Kc.Ai{α:Type}{p:Rp α}{E E':LH}{v:Value}{d:Option α}(h:Kc p E v d)(hle:Le E E'):Kc p E' v d:=by
 cases d with
 | none=>exact h
 | some x=>obtain⟨bk,o,us,K,O,U⟩:=h;exact⟨bk,o,us,K,O.Ai hle,p.Ai hle U⟩
theorem At.tail{E:LH}{bk o:Nat}{l ws:Lv_}(h:At E bk o (l++ws)):At E bk (o+l.length) ws:=by
 obtain⟨f,e,fr,K,O⟩:=h;refine⟨f,e,fr,K,fun j w U=>?_⟩;rw [Nat.add_assoc];refine O _ _ ?_;rw [List.getElem?_append_right (by omega)];rw [show l.length+j - l.length=j by omega];exact U
theorem SX{α:Type}{kk:Nat}{pp:Rp α}{E:LH}{bk o:Nat}{ws:Lv_}{xs:List α}{m:Int}{x:α}(O:(rA kk pp).r E ws xs)(h:At E bk o ws)(hm:ix xs m=some x):∃us,pp.r E us x∧At E bk (o+m.toNat*pp.n) us∧0≤m∧m<kk:=by
 obtain⟨U,wss,rfl,V,K⟩:=O;obtain⟨m,rfl,hm⟩:=GH hm;have aa:m<xs.length:=(List.getElem?_eq_some_iff.1 hm).1;have hw:wss[m]? =some wss[m]:=List.getElem?_eq_getElem (by omega);refine⟨wss[m],K m x _ hm hw,?_,by omega,by omega⟩;obtain⟨f,e,fr,W,g2⟩:=h;refine⟨f,e,fr,W,fun j w Z=>?_⟩;rw [Nat.add_assoc];exact g2 _ _ (IN (HO (V.trans U.symm) K) hw j w Z)
section
variable {P:Program}{s:St}{ρ:Operand→Value}{x y z:Operand}{d:Option Tmp}{t u ty e:TypeId}{p:String}{af:Ae_}{g:On_}{v v':Value}
theorem P6{ms:Array (String×TypeId)}{K:TypeId}{o:Option (Int×Int)}{n:Nat}(O:P.underlying t=some (.interface ms))(he:IE K v o){Q:Bool→St→Prop}{X:Halt→St→Prop}(k:Q o.isNone s):lp P (Op.equalIn (n+1) t v .nilIface) s Q X:=by
 unfold Op.equalIn;refine AH _ _ (Di O ?_);cases o with
 | none=>obtain rfl:v= .nilIface:=he;exact k
 | some q=>obtain⟨c,a⟩:=q;obtain rfl:v= .iface K (.agg #[iV c,iV a]):=he;exact k
theorem Om{ms:Array (String×TypeId)}{K:TypeId}{o:Option (Int×Int)}(O:P.underlying t=some (.interface ms))(he:IE K v o)(U:ρ x=v)(V:ρ (.const .nilIface)= .nilIface):Yl P ⟨d,.binOp .neq t x (.const .nilIface) u,ty,p,af,g⟩ ρ s (.bool o.isSome):=by
 refine Fx (sm:=do eqGuard .neq t x (.const .nilIface) (ρ x) (ρ (.const .nilIface));binOp .neq t (ρ x) (ρ (.const .nilIface))) rfl ?_
 rw [U,V];have hg:lp P (eqGuard .neq t x (.const .nilIface) v .nilIface) s (fun _ s'=>s'=s) (fun _ _=>False):=by
  cases o with
  | none=>obtain rfl:v= .nilIface:=he;simp [eqGuard,lp,pure]
  | some q=>obtain⟨c,a⟩:=q;obtain rfl:v= .iface K (.agg #[iV c,iV a]):=he;simp [eqGuard,lp,pure]
 refine AH _ _ (Dv _ hg ?_ (fun _ _ h=>h));rintro _ _ rfl;have hb:binOp .neq t v .nilIface=(do pure (.bool (!(← Op.equal t v .nilIface)))):=by
  cases o with
  | none=>obtain rfl:v= .nilIface:=he;rfl
  | some q=>obtain⟨c,a⟩:=q;obtain rfl:v= .iface K (.agg #[iV c,iV a]):=he;rfl
 rw [hb];refine AH (x:=Op.equal t v .nilIface) _ ?_;unfold Op.equal Op.maxDepth;refine P6 O he ?_;refine⟨?_,rfl⟩;cases o <;> rfl
theorem V0{ms:Array (String×TypeId)}{K:TypeId}{o:Option (Int×Int)}(O:P.underlying t=some (.interface ms))(he:IE K v o)(U:ρ x=v)(V:ρ (.const .nilIface)= .nilIface):Yl P ⟨d,.binOp .eql t x (.const .nilIface) u,ty,p,af,g⟩ ρ s (.bool o.isNone):=by
 refine Fx (sm:=do eqGuard .eql t x (.const .nilIface) (ρ x) (ρ (.const .nilIface));binOp .eql t (ρ x) (ρ (.const .nilIface))) rfl ?_
 rw [U,V];have hg:lp P (eqGuard .eql t x (.const .nilIface) v .nilIface) s (fun _ s'=>s'=s) (fun _ _=>False):=by
  cases o with
  | none=>obtain rfl:v= .nilIface:=he;simp [eqGuard,lp,pure]
  | some q=>obtain⟨c,a⟩:=q;obtain rfl:v= .iface K (.agg #[iV c,iV a]):=he;simp [eqGuard,lp,pure]
 refine AH _ _ (Dv _ hg ?_ (fun _ _ h=>h));rintro _ _ rfl;have hb:binOp .eql t v .nilIface=(do pure (.bool (← Op.equal t v .nilIface))):=by
  cases o with
  | none=>obtain rfl:v= .nilIface:=he;rfl
  | some q=>obtain⟨c,a⟩:=q;obtain rfl:v= .iface K (.agg #[iV c,iV a]):=he;rfl
 rw [hb];refine AH (x:=Op.equal t v .nilIface) _ ?_;unfold Op.equal Op.maxDepth;refine P6 O he ?_;refine⟨?_,rfl⟩
 rfl
end
end Pal
namespace Pal
open Go Go.Conc
section
variable {P:Program}{J:Judge P}{Q:Gs_}{b:Frame}{n:Nat}{ds:Ld_}{ops:Ao_}{k:Li_}{cs:Lf_}{L:Env}{E H:LH}{S:List Seg}
variable {d:Option Tmp}{x y:Operand}{t u ty e:TypeId}{p:String}{af:Ae_}{g:On_}{i:Nat}{rest:List Nat}{kd:IntKind}
theorem OA{α:Type}{pp:Rp α}{kk bk o:Nat}{l ws:Lv_}{xs:List α}{xv:α}{m:Int}(O:At E bk o (l++ws))(U:(rA kk pp).r E ws xs)(hm:ix xs m=some xv)
  (V:ops[i]? =some ⟨d,.indexAddr t x y,ty,p,af,g⟩) (hw:Bi L ops ⟨d,.indexAddr t x y,ty,p,af,g⟩=some true) (W:CZ b n ⟨d,.indexAddr t x y,ty,p,af,g⟩=true)
  (Z:ev L x=some (.pointer (some ⟨bk,o+l.length,none⟩))) (aa:ev L y=some (.int kd m)) (ht:P.underlying t=some (.array kk e)) (ab:BA P e=some pp.n)
  (h:∀o' us,pp.r E us xv→At E bk o' us→JL J Q b n (AF L d (.pointer (some ⟨bk,o',none⟩))) ds (.inRegion ops rest::k) cs (Ak E H S)):
  JL J Q b n L ds (.inRegion ops (i::rest)::k) cs (Ak E H S):=by
 obtain⟨us,ae,ag,ah,ai⟩:=SX U O.tail hm;refine Bc (v:= .pointer (some ⟨bk,o+l.length+m.toNat*pp.n,none⟩)) V hw W (fun ρ K=>?_) (h _ us ae ag);have:=Qp (P:=P) (s:=Ak E H S) (d:=d) (ty:=ty) (p:=p) (af:=af) (g:=g) ht ab (K x _ Z) (K y _ aa) ⟨ah,ai⟩;rw [El rfl] at this;exact this
end
end Pal
namespace Pal
open Go Go.Conc
section
variable {P:Program}{s:St}{ρ:Operand→Value}{x y z:Operand}{d:Option Tmp}{t u ty e:TypeId}{p:String}{af:Ae_}{g:On_}{v v':Value}
theorem JI{t:TypeId}{cells:AA}{off:Nat}{v:Value}(ht:Dl P t=some false)(K:cells[off]? =some v){Q:Value→St→Prop}{X:Halt→St→Prop}(k:Q v s):lp P (part t cells off) s Q X:=by
 unfold part;refine AH _ _ (KB ht ?_);simp only [Bool.false_eq_true,if_false,K];exact k
theorem QI{n:Nat}{t:TypeId}{a b:Int}(ht:P.underlying t=some (.int .i64)){Q:Bool→St→Prop}{X:Halt→St→Prop}(k:Q (a==b) s):lp P (Op.equalIn (n+1) t (iV a) (iV b)) s Q X:=by
 unfold Op.equalIn;refine AH _ _ (Di ht ?_);simp only [if_true];exact k
theorem WB{n:Nat}{f1 f2:Field}{a b O U:Int}(ht:P.underlying t=some (.struct #[f1,f2]))(hs:P.stoodInHeld t=false)(n1:f1.name≠ "_")(n2:f2.name≠ "_")(u1:P.underlying f1.type=some (.int .i64))(u2:P.underlying f2.type=some (.int .i64))(o1:f1.offset=0)(o2:f2.offset=1)
  {Q:Bool→St→Prop} {X:Halt→St→Prop} (k:Q (decide (a=O∧b=U)) s):lp P (Op.equalIn (n+2) t (.agg #[iV a,iV b]) (.agg #[iV O,iV U])) s Q X:=by
 unfold Op.equalIn;refine AH _ _ (Di ht ?_);refine AH (x:=program) _ ?_;show lp P (if P.stoodInHeld t=true then _ else _) s _ _
 rw [if_neg (by rw [hs];exact Bool.false_ne_true)];have Z:Dl P f1.type=some false:=by unfold Dl;rw [u1]
 have aa:Dl P f2.type=some false:=by unfold Dl;rw [u2]
 let ab:Field→Option Bool×Unit→Sem (ForInStep (Option Bool×Unit)):=fun f _=>if f.name≠ "_" then do
   if !(← Op.equalIn (n+1) f.type (← part f.type #[iV a,iV b] f.offset) (← part f.type #[iV O,iV U] f.offset)) then pure (ForInStep.done (some false,())) else pure (ForInStep.yield (none,()))
  else pure (ForInStep.yield (none,()))
 have ae:∀{K:ForInStep (Option Bool×Unit)→St→Prop} (o:Option Bool×Unit),K (if a=O then .yield (none,()) else .done (some false,())) s→lp P (ab f1 o) s K X:=by
  intro K o V;show lp P (if f1.name≠ "_" then _ else _) s K X
  rw [if_pos n1,o1];refine AH _ _ (JI (v:=iV a) Z rfl ?_);refine AH _ _ (JI (v:=iV O) Z rfl ?_);refine AH _ _ (QI u1 ?_);by_cases h:a=O
  ·subst h;simpa [lp,pure] using V
  ·rw [if_neg h] at V;simpa [lp,pure,h] using V
 have ag:∀{K:ForInStep (Option Bool×Unit)→St→Prop} (o:Option Bool×Unit),K (if b=U then .yield (none,()) else .done (some false,())) s→lp P (ab f2 o) s K X:=by
  intro K o V;show lp P (if f2.name≠ "_" then _ else _) s K X
  rw [if_pos n2,o2];refine AH _ _ (JI (v:=iV b) aa rfl ?_);refine AH _ _ (JI (v:=iV U) aa rfl ?_);refine AH _ _ (QI u2 ?_);by_cases h:b=U
  ·subst h;simpa [lp,pure] using V
  ·rw [if_neg h] at V;simpa [lp,pure,h] using V
 dsimp only;rw [← Array.forIn_toList];simp only [List.forIn_cons,List.forIn_nil];refine AH _ _ (AH _ _ (ae (none,()) ?_));by_cases h:a=O
 ·rw [if_pos h];refine AH _ _ (ag (none,()) ?_);by_cases W:b=U
  ·rw [if_pos W];simpa [lp,pure,h,W] using k
  ·rw [if_neg W];simpa [lp,pure,h,W] using k
 ·rw [if_neg h];simpa [lp,pure,h] using k
structure Ze (P:Program) (t:TypeId) (f1 f2:Field):Prop where
 ht:P.underlying t=some (.struct #[f1,f2])
 hs:P.stoodInHeld t=false
 hg:P.eqGuardType P.depth t=false
 n1:f1.name≠ "_"
 n2:f2.name≠ "_"
 u1:P.underlying f1.type=some (.int .i64)
 u2:P.underlying f2.type=some (.int .i64)
 o1:f1.offset=0
 o2:f2.offset=1
def Ta(P:Program)(t:TypeId):Prop:=∃f1 f2,Ze P t f1 f2
theorem Qk{o:BinOp}{c K:AA}(O:o= .eql∨o= .neq)(hg:P.eqGuardType P.depth t=false){Q:Unit→St→Prop}{X:Halt→St→Prop}(k:Q () s):lp P (eqGuard o t x y (.agg c) (.agg K)) s Q X:=by
 rcases O with rfl | rfl <;> (simp [eqGuard,lp,bind,Sem.bind,program,pure,hg];exact k)
theorem Vv{a b K O:Int}(U:Ta P t)(V:ρ x= .agg #[iV a,iV b])(W:ρ y= .agg #[iV K,iV O]):Yl P ⟨d,.binOp .neq t x y u,ty,p,af,g⟩ ρ s (.bool (decide (¬(a=K∧b=O)))):=by
 obtain⟨f1,f2,h⟩:=U;refine Fx (sm:=do eqGuard .neq t x y (ρ x) (ρ y);binOp .neq t (ρ x) (ρ y)) rfl ?_
 rw [V,W];refine AH _ _ (Qk (.inr rfl) h.hg ?_);have hb:binOp .neq t (.agg #[iV a,iV b]) (.agg #[iV K,iV O])=(do pure (.bool (!(← Op.equal t (.agg #[iV a,iV b]) (.agg #[iV K,iV O]))))):=rfl
 rw [hb];refine AH (x:=Op.equal t _ _) _ ?_;unfold Op.equal Op.maxDepth;exact WB h.ht h.hs h.n1 h.n2 h.u1 h.u2 h.o1 h.o2 ⟨by simp,rfl⟩
end
end Pal
namespace Pal
open Go Go.Conc
section
variable {P:Program}(J:Judge P)(Q:Gs_)(b:Frame)(n:Nat)(ds:Ld_)(ops:Ao_)(k:Li_)(cs:Lf_)(m:Nat)(D:Nat→Bool)
def Take(fuel:Nat)(listed:Array Bool)(L:Env)(s:St)(i:Nat):Prop:=
 ∃o,ops[i]? =some o∧(!Dx o.op)=true∧BE n o.dst=true∧Bi L ops o=some true∧∀ρ,EL L ρ→lp P (execOp ρ o) (BF D s) (fun nx s'=>match nx with
  | .value v=>AV J Q b n ds ops k cs m D fuel (Bg listed i) (AF L o.dst v) (CL D s s')
  | .skip=>AV J Q b n ds ops k cs m D fuel (Bg listed i) (AF L o.dst undef) (CL D s s')
  | .enter f args=>∃R,Ei J f args (CL D s s') R∧∀v K,R v K→K.q=false∧(∀x o,(BF D s).E x=some o→(BF D K).E x=some o)∧AV J Q b n ds ops k cs m D fuel (Bg listed i) (AF L o.dst v) K
  | _=>False) (fun _ _=>False)
end
section
variable {P:Program}{J:Judge P}{Q:Gs_}{b:Frame}{n:Nat}{ds:Ld_}{ops:Ao_}{k:Li_}{cs:Lf_}{m fuel:Nat}{D:Nat→Bool}{listed:Array Bool}{L:Env}{s:St}{E E' H:LH}{S:List Seg}
variable {d:Option Tmp}{x y:Operand}{t u ty e:TypeId}{p:String}{af:Ae_}{g:On_}{v:Value}{i:Nat}{kd:IntKind}
theorem P1(U:s.q=false){l:List Nat}(K:Region.ready .any ops listed=l)(V:l≠ [])(h:∀i∈l,Take J Q b n ds ops k cs m D fuel listed L s i):AV J Q b n ds ops k cs m D (fuel+1) listed L s:=
 QP U (by rw [K];exact V) fun i hi o O=>by
  rw [K] at hi
  obtain⟨o',W,Z,aa,ab,ae⟩:=h i hi
  obtain rfl:o'=o:=by rw [W] at O;exact Option.some.inj O
  exact⟨Z,aa,true,ab,fun e=>(by cases e),fun _=>ae⟩
theorem JG.one(K:s.q=false)(O:Region.ready .any ops listed= [i])(h:Take J Q b n ds ops k cs m D fuel listed L s i):AV J Q b n ds ops k cs m D (fuel+1) listed L s:=
 P1 K O (by simp) (by simpa using h)
theorem I1{i j:Nat}(K:s.q=false)(O:Region.ready .any ops listed= [i,j])(hi:Take J Q b n ds ops k cs m D fuel listed L s i)(U:Take J Q b n ds ops k cs m D fuel listed L s j):AV J Q b n ds ops k cs m D (fuel+1) listed L s:=
 P1 K O (by simp) (by intro q K;simp at K;rcases K with rfl | rfl <;> assumption)
def plus(E:LH)(bk:Nat)(o:Obj):LH:=fun x=>if x=bk then Option.some o else E x
theorem W4{jp bk:Nat}{o:Obj}(Z:Au E H S)(aa:S[jp]? =Option.some [(bk,o)]):BF (Bb [bk]) (Ak E H S)=Ak (plus E bk o) H (S.set jp [])∧Au (plus E bk o) H (S.set jp []):=by
 obtain⟨ae,V⟩:=F8 Z aa;have W:=Nd.iff.1 V;have ak:E bk=Option.none:=(W.2 (bk,o) (by simp)).1;have ag:H bk=Option.none:=(W.2 (bk,o) (by simp)).2;have ab:∀q∈(S.set jp []).flatten,q.1≠bk:=fun q O e=>by
  have:=W.1;rw [List.map_append,List.nodup_append] at this;exact this.2.2 q.1 (List.mem_map_of_mem O) bk (by simp) e
 have ah:(Ak E H S).get bk=Option.some o:=EN (i:=0) Z aa rfl;have ai:∀x,x≠bk→Bm ((S.set jp []).flatten++ [(bk,o)]) H x=Bm (S.set jp []).flatten H x:=fun x K=>by
  rw [show Bm ((S.set jp []).flatten++ [(bk,o)]) H=Bm ([(bk,o)]++(S.set jp []).flatten) H from Kn V List.perm_append_comm];simp [Bm,K]
 refine⟨?_,?_⟩
 ·unfold BF;have aj:(fun x=>if Bb [bk] x=true then(Ak E H S).get x else(Ak E H S).E x)=plus E bk o:=by
   funext x;unfold plus;by_cases K:x=bk
   ·subst K;simp [Bb,ah]
   ·simp [Bb,K];rfl
  have e2:(fun x=>if Bb [bk] x=true then Option.none else(Ak E H S).H x)=Bm (S.set jp []).flatten H:=by
   funext x;by_cases K:x=bk
   ·subst K;simp [Bb];rw [Ks ab,ag]
   ·simp only [Bb,List.contains_cons,List.contains_nil,Bool.or_false,beq_iff_eq,if_neg K];rw [ae];exact ai x K
  rw [aj,e2];rfl
 ·have U:Nd E H (S.set jp []).flatten:=Ih.Nd.left V;show Nd _ H (S.set jp []).flatten;rw [Nd.iff] at U ⊢;exact⟨U.1,fun q O=>⟨by unfold plus;rw [if_neg (ab q O)];exact(U.2 q O).1,(U.2 q O).2⟩⟩
theorem UL{jp bk:Nat}{o:Obj}{S':List Seg}(ah:Au E H S)(ai:S[jp]? =Option.some [(bk,o)])(aj:Au (plus E bk o) H S')(V:S'[jp]? =Option.some []):CL (Bb [bk]) (Ak E H S) (Ak (plus E bk o) H S')=Ak E H (S'.set jp [(bk,o)])∧Au E H (S'.set jp [(bk,o)]):=by
 obtain⟨ak,aa⟩:=F8 ah ai;have ab:=Nd.iff.1 aa;have al:E bk=Option.none:=(ab.2 (bk,o) (by simp)).1;have am:H bk=Option.none:=(ab.2 (bk,o) (by simp)).2;have W:(S'.set jp []).flatten=S'.flatten:=by
  have:S'.set jp []=S':=by
   apply List.ext_getElem?;intro q;rw [List.getElem?_set];split
   ·rename_i e;subst e;rw [V,if_pos (List.getElem?_eq_some_iff.1 V).1]
   ·rfl
  rw [this]
 have U:=Nd.iff.1 (show Nd _ H S'.flatten from aj);have ae:∀q∈S'.flatten,q.1≠bk:=fun q K e=>by
  have:=(U.2 q K).1;unfold plus at this;rw [if_pos e] at this;cases this
 have Z:Nd E H ((S'.set jp []).flatten++ [(bk,o)]):=by
  rw [W,Nd.iff,List.map_append,List.nodup_append];refine⟨⟨U.1,by simp,fun x O y ag e=>?_⟩,fun q K=>?_⟩
  ·obtain⟨q,K,rfl⟩:=List.mem_map.1 O;simp at ag;subst ag;exact ae q K e
  ·rcases List.mem_append.1 K with K | K
   ·refine⟨?_,(U.2 q K).2⟩;have:=(U.2 q K).1;unfold plus at this
    rwa [if_neg (ae q K)] at this
   ·simp at K;subst K;exact⟨al,am⟩
 obtain⟨an,ao⟩:=Ho (seg':= [(bk,o)]) V Z;refine⟨?_,ao⟩;rw [← an,W];unfold CL Ak mk;congr 1
 ·funext x;show(if Bb [bk] x=true then E x else plus E bk o x)=E x
  by_cases O:x=bk
  ·subst O;simp [Bb]
  ·simp [Bb,O,plus]
 ·funext x;show(if Bb [bk] x=true then(Ak E H S).H x else Bm S'.flatten H x)=Bm (S'.flatten++ [(bk,o)]) H x
  have ap:Bm (S'.flatten++ [(bk,o)]) H=Bm ([(bk,o)]++S'.flatten) H:=Kn (by rw [W] at Z;exact Z) List.perm_append_comm;rw [ap];by_cases O:x=bk
  ·subst O;simp only [Bb,List.contains_cons,beq_self_eq_true,Bool.true_or,if_true,List.cons_append,List.nil_append,Bm];rw [ak];show Bm ((S.set jp []).flatten++ [(x,o)]) H x=_;rw [show Bm ((S.set jp []).flatten++ [(x,o)]) H=Bm ([(x,o)]++(S.set jp []).flatten) H from Kn aa List.perm_append_comm];simp [Bm]
  ·simp [Bb,O,Bm]
end
end Pal
namespace Pal
open Go Go.Conc
theorem OL.YZ{α:Type}{e:TypeId}{pp:Rp α}{E0 E H:LH}{S:List Seg}{a:Option Addr}{c j:Nat}{seg:Seg}{xs:List α}(hg:OL e pp E0 a c seg xs)(W:Au E H S)(Z:S[j]? =some seg):∃wss:List (Lv_),GJ (Ak E H S) (.slice a xs.length c) pp.n wss.flatten∧wss.length=xs.length∧∀(i:Nat) x ws,xs[i]? =some x→wss[i]? =some ws→pp.r E0 ws x:=by
 obtain⟨wss,hg,aa,ab⟩:=hg;refine⟨wss,?_,aa,ab⟩;rcases hg with⟨rfl,ae,V,U,K⟩ | ⟨bk,f,rfl,rfl,V,U,K⟩
 ·exact⟨ae,K⟩
 ·have hle:xs.length*pp.n≤f.size:=by rw [V];exact Nat.mul_le_mul_right _ U
  refine⟨.inl rfl,by rw [K];simp [hle],U,fun q w O=>?_⟩;rw [K,List.getElem?_take] at O;split at O
  ·refine Db W Z ?_;simpa using O
  ·cases O
section
variable {P:Program}{E H:LH}{S:List Seg}{d:Option Tmp}{x y:Operand}{t ty e:TypeId}{p:String}{af:Ae_}{g:On_}
theorem Ww{E0:LH}{ρ:Operand→Value}{K:Next→St→Prop}{α:Type}{pp:Rp α}{t1:TypeId}{ak c cx:Nat}{a ax:Option Addr}{seg:Seg}{xs ys al:List α}{ats:Array TypeId}{z:Value}(j:Nat)(ah:Dy xs ys=some al)
  (az:ρ x= .slice a xs.length c) (aA:ρ y= .slice ax ys.length cx) (aB:ats[0]? =some t) (aC:ats[1]? =some t1) (ht:P.underlying t=some (.slice e)) (aD:P.underlying t1=some (.slice e)) (aE:BA P e=some pp.n) (hb:Ey P e=some ak) (aF:zeroOf P e=some z) (aG:z.cells.size=pp.n)
  (aH:0<ak) (aI:ak≤64) (hg:OL e pp E0 a c seg xs) (aJ:∃V:List (Lv_),GJ (Ak E H S) (.slice ax ys.length cx) pp.n V.flatten∧V.length=ys.length∧∀(i:Nat) x ws,ys[i]? =some x→V[i]? =some ws→pp.r E0 ws x) (aK:Au E H S) (ar:S[j]? =some seg)
  (h:∀U O g seg',OL e pp E0 U O seg' al→Au E H (S.set j (g++seg'))→K (.value (.slice U al.length O)) (Ak E H (S.set j (g++seg')))):
  lp P (execOp ρ ⟨d,.call ⟨.builtin .append,#[x,y],ats⟩,ty,p,af,g⟩) (Ak E H S) K (fun _ _=>False):=by
 unfold Dy at ah;split at ah
 rotate_left
 ·cases ah
 rename_i aL;cases ah;obtain⟨V,au,ai,am⟩:=aJ;obtain⟨wss,hg,av,aM⟩:=hg;obtain⟨aN,an⟩:=F8 aK ar;have aO:=HO ai am;have aP:∀w∈V.flatten,Cx w=true:=fun w hw=>by
  obtain⟨us,aQ,hw⟩:=List.mem_flatten.1 hw;obtain⟨q,aw⟩:=List.mem_iff_getElem?.1 aQ;have aR:q<ys.length:=by rw [← ai];exact(List.getElem?_eq_some_iff.1 aw).1
  exact pp.one (am q _ us (List.getElem?_eq_getElem aR) aw) w hw
 have hlen:(xs++ys).length=xs.length+ys.length:=by simp
 rw [aN] at au ⊢;rw [LZ,az,aA];have ao:∀{U O seg'},GS e pp.n U (xs.length+ys.length) O seg' (wss.flatten++V.flatten)→OL e pp E0 U O seg' (xs++ys):=fun aS=>
  ⟨wss++V,by rw [hlen,List.flatten_append];exact aS,by simp [av,ai],N3 av aM am⟩
 have fin:∀U O g seg',OL e pp E0 U O seg' (xs++ys)→Nd E H ((S.set j []).flatten++(g++seg'))→K (.value (.slice U (xs.length+ys.length) O)) (mk E H ((S.set j []).flatten++(g++seg'))):=fun U O g seg' aT W=>by
  obtain⟨aU,aV⟩:=Ho ar W;rw [aU];have:=h U O g seg' aT aV;rw [hlen] at this;exact this
 have aW:Nn ((S.set j []).flatten++seg) (S.set j []).flatten.length e pp.n a xs.length c wss.flatten:=by
  rcases hg with⟨q1,q2,ag,aa,ab⟩ | ⟨bk,f,q1,q2,ag,aa,ab⟩
  ·exact .inl ⟨q1,q2,ag,ab⟩
  ·refine .inr ⟨bk,f,q1,?_,ag,aa,ab⟩;subst q2;simp
 refine AH _ _ (N8 (pl:=(S.set j []).flatten.length) aB aC aD ht aE hb aF aG an aW au aP aH aL aI ?_ ?_ ?_)
 ·intro bk f Z aj a3 a4 aX ap aq W;rcases hg with⟨q1,_⟩ | ⟨ae,f0,q1,q2,ag,aa,ab⟩
  ·rw [q1] at aj;cases aj
  ·subst q2;have aY:ae=bk:=by rw [q1] at aj;simpa using aj
   subst aY;have aZ:((S.set j []).flatten++ [(ae,Obj.cells f0 e (0,0))]).set (S.set j []).flatten.length (ae,.cells Z e (0,0))=(S.set j []).flatten++ [(ae,.cells Z e (0,0))]:=GD _ _ _ _;rw [aZ] at W ⊢;exact fin a c [] _ (ao (.inr ⟨ae,Z,q1,rfl,ap,aX,aq.symm⟩)) W
 ·intro ay hm;rcases hg with⟨q1,q2,ag,aa,ab⟩ | ⟨ae,f0,q1,_⟩
  ·have a0:V.flatten= []:=List.eq_nil_of_length_eq_zero (by rw [L3 aO,ai,hm];simp);have:=fin none 0 [] [] (ao (by rw [q2,hm,ab,a0];exact GS.nil)) (by rw [aa] at an;simpa using an);rw [q2,hm] at this;rw [aa];simp only [List.append_nil] at this ⊢;exact this
  ·rw [q1] at ay;cases ay
 ·intro r Z O a1 ap aq W;have a2:(S.set j []).flatten++seg++ [(r,Obj.cells Z e (0,0))]=(S.set j []).flatten++(seg++ [(r,.cells Z e (0,0))]):=List.append_assoc _ _ _;rw [a2] at W ⊢;exact fin (some ⟨r,0,none⟩) O seg _ (ao (.inr ⟨r,Z,rfl,rfl,ap,a1,aq.symm⟩)) W
theorem Rg{E0:LH}{ρ:Operand→Value}{K:Next→St→Prop}{α:Type}{pp:Rp α}{t1:TypeId}{O c cx:Nat}{a ax:Option Addr}{seg V:Seg}{xs ys U:List α}{ats:Array TypeId}{z:Value}(j ab:Nat)(ae:Dy xs ys=some U)
  (ag:ρ x= .slice a xs.length c) (ah:ρ y= .slice ax ys.length cx) (ai:ats[0]? =some t) (aj:ats[1]? =some t1) (ht:P.underlying t=some (.slice e)) (ak:P.underlying t1=some (.slice e)) (al:BA P e=some pp.n) (hb:Ey P e=some O) (am:zeroOf P e=some z) (an:z.cells.size=pp.n)
  (ao:0<O) (ap:O≤64) (hg:OL e pp E0 a c seg xs) (aq:OL e pp E0 ax cx V ys) (W:Au E H S) (ar:S[j]? =some seg) (au:S[ab]? =some V)
  (h:∀Z aa g seg',OL e pp E0 Z aa seg' U→Au E H (S.set j (g++seg'))→K (.value (.slice Z U.length aa)) (Ak E H (S.set j (g++seg')))):
  lp P (execOp ρ ⟨d,.call ⟨.builtin .append,#[x,y],ats⟩,ty,p,af,g⟩) (Ak E H S) K (fun _ _=>False):=
 Ww j ae ag ah ai aj ht ak al hb am an ao ap hg (aq.YZ W au) W ar h
end
section
variable {P:Program}{J:Judge P}{Q:Gs_}{b:Frame}{n:Nat}{ds:Ld_}{ops:Ao_}{k:Li_}{cs:Lf_}{m fuel:Nat}{D:Nat→Bool}{listed:Array Bool}{L:Env}{s:St}{E E' H:LH}{S:List Seg}
variable {d:Option Tmp}{x y:Operand}{t u ty e:TypeId}{p:String}{af:Ae_}{g:On_}{v:Value}{i:Nat}{kd:IntKind}
theorem Take.BF{jp bk:Nat}{o:Obj}{oi:Oper}(O:Au E H S)(U:S[jp]? =some [(bk,o)])(hi:ops[i]? =some oi)(K:(!Dx oi.op&&BE n oi.dst)=true)(hw:Bi L ops oi=some true)
  (h:∀ρ,EL L ρ→Au (plus E bk o) H (S.set jp [])→lp P (execOp ρ oi) (Ak (plus E bk o) H (S.set jp [])) (fun nx s'=>∃v S',nx= .value v∧s'=Ak (plus E bk o) H S'∧Au (plus E bk o) H S'∧S'[jp]? =some []∧
   (Au E H (S'.set jp [(bk,o)])→AV J Q b n ds ops k cs m (Bb [bk]) fuel (Bg listed i) (AF L oi.dst v) (Ak E H (S'.set jp [(bk,o)])))) (fun _ _=>False)):
  Take J Q b n ds ops k cs m (Bb [bk]) fuel listed L (Ak E H S) i:=by
 simp only [Bool.and_eq_true] at K;refine⟨oi,hi,K.1,K.2,hw,fun ρ V=>?_⟩;obtain⟨W,Z⟩:=W4 O U;rw [W];refine Dv _ (h ρ V Z) ?_ (fun _ _ h=>h);rintro nx s' ⟨v,S',rfl,rfl,aa,ab,ae⟩;obtain⟨ag,ah⟩:=UL O U aa ab;show AV J Q b n ds ops k cs m (Bb [bk]) fuel (Bg listed i) (AF L oi.dst v) (CL (Bb [bk]) (Ak E H S) (Ak (plus E bk o) H S'));rw [ag];exact ae ah
theorem Take.lit{jp bk:Nat}{o:Obj}{α:Type}{pp:Rp α}{len:Nat}{K:Array (Nat×Operand)}(vs:Lv_){z:Value}(xs:List α)(W:Au E H S)(O:S[jp]? =some [(bk,o)])
  (Z:ops[i]? =some ⟨d,.buildSlice t len K,ty,p,af,g⟩) (hw:Bi L ops ⟨d,.buildSlice t len K,ty,p,af,g⟩=some true) (aa:BE n d=true)
  (ht:P.underlying t=some (.slice e)) (ab:BA P e=some pp.n) (ae:zeroOf P e=some z) (ag:decide (0<len*pp.n∧len*pp.n≤2 ^ 24)=true)
  (ah:K.toList.mapM (fun q=>(ev L q.2).map fun v=>(q.1,v))=some ((vs.zipIdx 0).map fun q=>(q.2,q.1)))
  (ai:vs.length=len) (aj:xs.length=len) (ak:IB pp E xs vs)
  (h:∀r seg,OL e pp E (some ⟨r,0,none⟩) len seg xs→Au E H (S++ [seg])→AV J Q b n ds ops k cs m (Bb [bk]) fuel (Bg listed i) (AF L d (.slice (some ⟨r,0,none⟩) xs.length len)) (Ak E H (S++ [seg]))):
  Take J Q b n ds ops k cs m (Bb [bk]) fuel listed L (Ak E H S) i:=by
 have U:jp<S.length:=(List.getElem?_eq_some_iff.1 O).1;refine Take.BF W O Z (by simp [Dx,aa]) hw fun ρ al am=>OQ al vs xs ht ab ae ag ah ai aj ak am fun r seg an ao=>⟨_,S.set jp []++ [seg],rfl,rfl,ao,by rw [List.getElem?_append_left (by simpa using U)];simp [U],fun V=>?_⟩;have ap:(S.set jp []++ [seg]).set jp [(bk,o)]=S++ [seg]:=by
  rw [List.set_append_left _ _ (by simpa using U),List.set_set];congr 1;apply List.ext_getElem?;intro q;rw [List.getElem?_set];split
  ·rename_i e;subst e;rw [O]
  ·rfl
 rw [ap] at V ⊢;exact h r seg an V
theorem Take.app{jp bk:Nat}{o:Obj}{α:Type}{pp:Rp α}{t1:TypeId}{W c cx:Nat}{a ax:Option Addr}{seg ae:Seg}{xs ys Z:List α}{ats:Array TypeId}{z:Value}(j K:Nat)(ai:Au E H S)(aa:S[jp]? =some [(bk,o)])(aj:Dy xs ys=some Z)
  (ak:ops[i]? =some ⟨d,.call ⟨.builtin .append,#[x,y],ats⟩,ty,p,af,g⟩) (hw:Bi L ops ⟨d,.call ⟨.builtin .append,#[x,y],ats⟩,ty,p,af,g⟩=some true) (al:BE n d=true)
  (am:ev L x=some (.slice a xs.length c)) (an:ev L y=some (.slice ax ys.length cx)) (ao:ats[0]? =some t) (ap:ats[1]? =some t1) (ht:P.underlying t=some (.slice e)) (aq:P.underlying t1=some (.slice e)) (ar:BA P e=some pp.n) (hb:Ey P e=some W) (au:zeroOf P e=some z) (av:z.cells.size=pp.n)
  (aw:0<W) (ay:W≤64) (hg:OL e pp E a c seg xs) (az:OL e pp E ax cx ae ys) (aA:S[j]? =some seg) (aB:S[K]? =some ae) (aC:(j==jp)=false) (aD:(K==jp)=false)
  (h:∀O U g seg',OL e pp E O U seg' Z→Au E H (S.set j (g++seg'))→AV J Q b n ds ops k cs m (Bb [bk]) fuel (Bg listed i) (AF L d (.slice O Z.length U)) (Ak E H (S.set j (g++seg')))):
  Take J Q b n ds ops k cs m (Bb [bk]) fuel listed L (Ak E H S) i:=by
 have aE:jp<S.length:=(List.getElem?_eq_some_iff.1 aa).1;have ab:j≠jp:=by simpa using aC
 have aF:K≠jp:=by simpa using aD
 refine Take.BF ai aa ak (by simp [Dx,al]) hw fun ρ ag aG=>Rg j K aj (ag _ _ am) (ag _ _ an) ao ap ht aq ar hb au av aw ay hg az aG (by rw [List.getElem?_set_ne (Ne.symm ab)];exact aA) (by rw [List.getElem?_set_ne (Ne.symm aF)];exact aB) fun O U V seg' aH aI=>⟨_,(S.set jp []).set j (V++seg'),rfl,rfl,aI,by rw [List.getElem?_set_ne ab];simp [aE],fun ah=>?_⟩;have aJ:((S.set jp []).set j (V++seg')).set jp [(bk,o)]=S.set j (V++seg'):=by
  rw [List.set_comm _ _ ab,List.set_set];congr 1;apply List.ext_getElem?;intro q;rw [List.getElem?_set];split
  ·rename_i e;subst e;rw [aa]
  ·rfl
 rw [aJ] at ah ⊢;exact h O U V seg' aH ah
end
end Pal
namespace Pal
open Go Go.Conc
section
variable {P:Program}{J:Judge P}{Q:Gs_}{b:Frame}{n:Nat}{ds:Ld_}{ops:Ao_}{k:Li_}{cs:Lf_}{m fuel:Nat}{D:Nat→Bool}{listed:Array Bool}{L:Env}{s:St}{E E' H:LH}{S:List Seg}
variable {d:Option Tmp}{x y:Operand}{t u ty e:TypeId}{p:String}{af:Ae_}{g:On_}{v:Value}{i:Nat}{kd:IntKind}
theorem Take.Ka{oi:Oper}(hi:ops[i]? =some oi)(K:(!Dx oi.op&&BE n oi.dst)=true)(hw:Bi L ops oi=some true)
  (h:∀ρ,EL L ρ→lp P (execOp ρ oi) s (fun nx s'=>match nx with
   | .value v=>AV J Q b n ds ops k cs m C9 fuel (Bg listed i) (AF L oi.dst v) s'
   | .skip=>AV J Q b n ds ops k cs m C9 fuel (Bg listed i) (AF L oi.dst undef) s'
   | _=>False) (fun _ _=>False)):Take J Q b n ds ops k cs m C9 fuel listed L s i:=by
 simp only [Bool.and_eq_true] at K
 refine⟨oi,hi,K.1,K.2,hw,fun ρ U=>Dv _ (h ρ U) ?_ (fun _ _ h=>h)⟩
 intro nx s' O
 cases nx with
 | value v=>exact O
 | skip=>exact O
 | _=>exact O.elim
theorem Take.J3{α:Type}{pp:Rp α}{len:Nat}{K:Array (Nat×Operand)}(vs:Lv_){z:Value}(xs:List α)(O:Au E H S)
  (U:ops[i]? =some ⟨d,.buildSlice t len K,ty,p,af,g⟩) (hw:Bi L ops ⟨d,.buildSlice t len K,ty,p,af,g⟩=some true) (V:BE n d=true)
  (ht:P.underlying t=some (.slice e)) (W:BA P e=some pp.n) (Z:zeroOf P e=some z) (aa:decide (0<len*pp.n∧len*pp.n≤2 ^ 24)=true)
  (ab:K.toList.mapM (fun q=>(ev L q.2).map fun v=>(q.1,v))=some ((vs.zipIdx 0).map fun q=>(q.2,q.1)))
  (ae:vs.length=len) (ag:xs.length=len) (ah:IB pp E xs vs)
  (h:∀r seg,OL e pp E (some ⟨r,0,none⟩) len seg xs→Au E H (S++ [seg])→AV J Q b n ds ops k cs m C9 fuel (Bg listed i) (AF L d (.slice (some ⟨r,0,none⟩) xs.length len)) (Ak E H (S++ [seg]))):
  Take J Q b n ds ops k cs m C9 fuel listed L (Ak E H S) i:=
 Take.Ka U (by simp [Dx,V]) hw fun ρ ai=>OQ ai vs xs ht W Z aa ab ae ag ah O fun r seg aj ak=>h r seg aj ak
theorem Take.app0{α:Type}{pp:Rp α}{t1:TypeId}{U c cx:Nat}{a ax:Option Addr}{seg W:Seg}{xs ys V:List α}{ats:Array TypeId}{z:Value}(j Z:Nat)(ab:Au E H S)(ae:Dy xs ys=some V)
  (ag:ops[i]? =some ⟨d,.call ⟨.builtin .append,#[x,y],ats⟩,ty,p,af,g⟩) (hw:Bi L ops ⟨d,.call ⟨.builtin .append,#[x,y],ats⟩,ty,p,af,g⟩=some true) (ah:BE n d=true)
  (ai:ev L x=some (.slice a xs.length c)) (aj:ev L y=some (.slice ax ys.length cx)) (ak:ats[0]? =some t) (al:ats[1]? =some t1) (ht:P.underlying t=some (.slice e)) (am:P.underlying t1=some (.slice e)) (an:BA P e=some pp.n) (hb:Ey P e=some U) (ao:zeroOf P e=some z) (ap:z.cells.size=pp.n)
  (aq:0<U) (ar:U≤64) (hg:OL e pp E a c seg xs) (au:OL e pp E ax cx W ys) (av:S[j]? =some seg) (aw:S[Z]? =some W)
  (h:∀K O g seg',OL e pp E K O seg' V→Au E H (S.set j (g++seg'))→AV J Q b n ds ops k cs m C9 fuel (Bg listed i) (AF L d (.slice K V.length O)) (Ak E H (S.set j (g++seg')))):
  Take J Q b n ds ops k cs m C9 fuel listed L (Ak E H S) i:=
 Take.Ka ag (by simp [Dx,ah]) hw fun ρ aa=>Rg j Z ae (aa _ _ ai) (aa _ _ aj) ak al ht am an hb ao ap aq ar hg au ab av aw fun K O ay seg' az aA=>h K O ay seg' az aA
theorem Take.Sy{z:Value}(O:Au E H S)(U:ops[i]? =some ⟨d,.alloc e,ty,p,af,g⟩)(hw:Bi L ops ⟨d,.alloc e,ty,p,af,g⟩=some true)(V:BE n d=true)(W:zeroOf P e=some z)
  (h:∀r,Au E H (S++ [[(r,.cells z.cells e (0,0))]])→AV J Q b n ds ops k cs m C9 fuel (Bg listed i) (AF L d (.pointer (some ⟨r,0,none⟩))) (Ak E H (S++ [[(r,.cells z.cells e (0,0))]]))):
  Take J Q b n ds ops k cs m C9 fuel listed L (Ak E H S) i:=
 Take.Ka U (by simp [Dx,V]) hw fun ρ _=>by
  show lp P (do pure (Next.value (← Instr.alloc e true (.tuple #[])))) _ _ _
  refine AH _ _ ?_
  unfold Instr.alloc
  refine AH _ _ (F5 W ?_)
  refine AH _ _ (G2 O fun r K=>?_)
  rw [(EB K).1]
  exact h r (EB K).2
end
end Pal
namespace Pal
open Go Go.Conc
theorem Gr{α:Type}{kk:Nat}{pp:Rp α}{E:LH}{ws:Lv_}{xs:List α}(K:(rA kk pp).r E ws xs):ws.length=kk*pp.n:=(rA kk pp).len K
theorem Il{α:Type}{kk:Nat}{pp:Rp α}{E:LH}{ws:Lv_}{xs:List α}{m:Int}{x:α}(O:(rA kk pp).r E ws xs)(hm:ix xs m=some x):∃us,pp.r E us x∧0≤m∧m<kk∧(∀j w,us[j]? =some w→ws[m.toNat*pp.n+j]? =some w):=by
 obtain⟨U,wss,rfl,V,K⟩:=O;obtain⟨m,rfl,hm⟩:=GH hm;have Z:m<xs.length:=(List.getElem?_eq_some_iff.1 hm).1;have hw:wss[m]? =some wss[m]:=List.getElem?_eq_getElem (by omega);exact⟨wss[m],K m x _ hm hw,by omega,by omega,fun j w W=>IN (HO (V.trans U.symm) K) hw j w W⟩
section
variable {P:Program}{J:Judge P}{Q:Gs_}{b:Frame}{n:Nat}{ds:Ld_}{ops:Ao_}{k:Li_}{cs:Lf_}{L:Env}{E H:LH}{S:List Seg}
variable {d:Option Tmp}{x y:Operand}{t u ty e:TypeId}{p:String}{af:Ae_}{g:On_}{i:Nat}{rest:List Nat}{kd:IntKind}{s:St}{ρ:Operand→Value}
theorem KE{α:Type}{kk:Nat}{pp:Rp α}{a:Addr}{ws:Lv_}{xs:List α}(K:(rA kk pp).r E ws xs)(ht:Dl P t=some true)(O:BA P t=some (kk*pp.n))(U:ρ x= .pointer (some a))(h:∀j v,ws[j]? =some v→s.cell? (a.add j)=some v):Yl P ⟨d,.load t x,ty,p,af,g⟩ ρ s (.agg ws.toArray):=
 FQ ht (by rw [Gr K];exact O) U h
theorem YH{α:Type}{pp:Rp α}{kk:Nat}{ws:Lv_}{xs:List α}{xv:α}{m:Int}{O:Bool}(V:(rA kk pp).r E ws xs)(hm:ix xs m=some xv)
  (ah:ops[i]? =some ⟨d,.index t x y,ty,p,af,g⟩) (hw:Bi L ops ⟨d,.index t x y,ty,p,af,g⟩=some true) (ai:CZ b n ⟨d,.index t x y,ty,p,af,g⟩=true)
  (aj:ev L x=some (.agg ws.toArray)) (ak:ev L y=some (.int kd m)) (ht:P.underlying t=some (.array kk e)) (W:BA P e=some pp.n) (al:Dl P e=some O)
  (h:∀us,pp.r E us xv→JL J Q b n (AF L d (if O then .agg us.toArray else us.headD undef)) ds (.inRegion ops rest::k) cs s) (am:O=false→pp.n=1):
  JL J Q b n L ds (.inRegion ops (i::rest)::k) cs s:=by
 obtain⟨us,Z,an,ao,aa⟩:=Il V hm;have hlen:=pp.len Z;have ap:=Gr V;refine Bc ah hw ai (fun ρ ab=>?_) (h us Z);refine Fx (sm:=Instr.index t (ρ x) (ρ y)) rfl ?_;rw [ab _ _ aj,ab _ _ ak];unfold Instr.index;simp only [asIntOf,G0];refine AH (x:=underlying t) _ (Di ht ?_);simp only [an,ao,and_self,if_true];refine AH (x:=Go.sizeOf e) _ (EV W ?_);unfold Go.part;refine AH (x:=isAgg e) _ (KB al ?_);have ar:m.toNat*pp.n+pp.n≤ws.length:=by
  rw [ap];have:(m.toNat+1)*pp.n≤kk*pp.n:=Nat.mul_le_mul_right _ (by omega);rw [Nat.succ_mul] at this;exact this
 cases O with
 | true=>
  simp only [if_true];refine AH (x:=Go.sizeOf e) _ (EV W ?_);have aq:ws.toArray.extract (m.toNat*pp.n) (m.toNat*pp.n+pp.n)=us.toArray:=by
   apply Array.ext_getElem?;intro j;by_cases ae:j<us.length
   ·have U:=aa j us[j] (List.getElem?_eq_getElem ae);simp only [Array.getElem?_extract,List.size_toArray,List.getElem?_toArray];rw [if_pos (by omega),U];simp [ae]
   ·rw [Array.getElem?_eq_none (by simp;omega),Array.getElem?_eq_none (by simp;omega)]
  rw [aq];exact⟨rfl,rfl⟩
 | false=>
  have ag:=am rfl;obtain⟨w,rfl⟩:∃w,us= [w]:=by
   match us,hlen with
   | [w],_=>exact⟨w,rfl⟩
   | [],K=>rw [ag] at K;cases K
   | _::_::_,K=>rw [ag] at K;simp at K
  have U:=aa 0 w rfl;simp only [Bool.false_eq_true,if_false,List.getElem?_toArray];rw [Nat.add_zero] at U;rw [U];exact⟨rfl,rfl⟩
end
end Pal
namespace Pal
open Go Go.Conc
theorem OL.Zo{α:Type}{e:TypeId}{pp:Rp α}{E:LH}{a:Option Addr}{c:Nat}{seg:Seg}{xs:List α}{m:Int}{x:α}(hg:OL e pp E a c seg xs)(hm:ix xs m=some x):
  ∃bk f ws,a=some ⟨bk,0,none⟩∧seg= [(bk,.cells f e (0,0))]∧pp.r E ws x∧(∀j w,ws[j]? =some w→f[m.toNat*pp.n+j]? =some w):=by
 obtain⟨m,rfl,hm⟩:=GH hm;obtain⟨bk,f,ws,K,O,U,V,_⟩:=OL.get hg hm;exact⟨bk,f,ws,K,O,U,V⟩
def Gu(S:List Seg):List Nat→Prop
 | []=>True
 | bk::bks=>(∃(j:Nat) (o:Obj),S[j]? =some [(bk,o)])∧Gu S bks
theorem Gu.mem{S:List Seg}:∀{bks:List Nat},Gu S bks→∀bk∈bks,∃(j:Nat) (o:Obj),S[j]? =some [(bk,o)]
 | [],_,_,h=>by cases h
 | b::bks,h,bk,hb=>by
  rcases List.mem_cons.1 hb with rfl | hb
  ·exact h.1
  ·exact h.2.mem bk hb
theorem Gu.free{E H:LH}{S:List Seg}{bks:List Nat}(h:Gu S bks)(K:Au E H S):∀x,Bb bks x=true→E x=none:=fun x O=>by
 obtain⟨j,o,U⟩:=h.mem x (by simpa [Bb] using O)
 exact MS K U
section
variable {P:Program}{J:Judge P}{Q:Gs_}{b:Frame}{n:Nat}{ds:Ld_}{ops:Ao_}{k:Li_}{cs:Lf_}{m fuel:Nat}{D:Nat→Bool}{listed:Array Bool}{L:Env}{s:St}{E E' H:LH}{S:List Seg}
variable {d:Option Tmp}{x y:Operand}{t u ty e:TypeId}{p:String}{af:Ae_}{g:On_}{v:Value}{i:Nat}{kd:IntKind}
theorem QN{bks:List Nat}{f:FuncId}{args:Array Operand}{ats:Array TypeId}{vs:Lv_}{R:Value→LH→Seg→Prop}(ae:Gu S bks)(ag:AU J f vs E [] R)(ah:Region.ready .any ops listed= [i])
  (ai:ops[i]? =some ⟨d,.call ⟨.value (.func f),args,ats⟩,ty,p,af,g⟩) (aj:BE n d=true) (hw:Bi L ops ⟨d,.call ⟨.value (.func f),args,ats⟩,ty,p,af,g⟩=some true) (hb:D9 P f=true) (ak:evs L args.toList=some vs) (W:Au E H S)
  (al:∀v E' seg',Le E E'→R v E' seg'→Au E' H (S++ [seg'])→AV J Q b n ds ops k cs m (Bb bks) fuel (Bg listed i) (AF L d v) (Ak E' H (S++ [seg']))):
  AV J Q b n ds ops k cs m (Bb bks) (fuel+1) listed L (Ak E H S):=by
 have am:=Ei.J7 (ag (Bm S.flatten H) trivial) (by rintro v s' ⟨E',B',_,_,_,rfl⟩;rfl);refine AV.call rfl ah ai aj hw hb ak am ?_;rintro v aw ⟨⟨E',B',hle,an,ao,rfl⟩,w,ap⟩;have e2:mk E' (Bm S.flatten H) B'=mk E' H (B'++S.flatten):=by unfold mk;rw [F6]
 have aq:Nd E' H S.flatten:=Nd.grow W fun x O=>by
  have ar:=ap.d x O;have U:Bm B' (Bm S.flatten H) x=none:=ar;exact(GZ U).1
 have Z:Nd E' H (B'++S.flatten):=Nd.glue ao aq;have aa:(B'++S.flatten).Perm (S++ [B']).flatten:=by rw [FT];exact List.perm_append_comm
 have ab:Au E' H (S++ [B']):=Nd.perm Z aa;rw [e2,EX Z aa];refine⟨rfl,fun x o O=>?_,al v E' B' hle an ab⟩;by_cases hd:Bb bks x=true
 ·obtain⟨j,o',V⟩:=ae.mem x (by simpa [Bb] using hd);have U:(Ak E H S).get x=some o':=EN (i:=0) W V rfl;have au:j<S.length:=(List.getElem?_eq_some_iff.1 V).1;have av:(Ak E' H (S++ [B'])).get x=some o':=EN (i:=0) ab (by rw [List.getElem?_append_left au];exact V) rfl;have K:(if Bb bks x then(Ak E H S).get x else E x)=some o:=O
  show(if Bb bks x then(Ak E' H (S++ [B'])).get x else E' x)=some o
  rw [if_pos hd] at K ⊢;rw [av,← U];exact K
 ·have K:(if Bb bks x then(Ak E H S).get x else E x)=some o:=O
  show(if Bb bks x then(Ak E' H (S++ [B'])).get x else E' x)=some o
  rw [if_neg hd] at K ⊢;exact hle _ _ K
theorem Vu(m:Nat)(bks:List Nat){id:Nat}(O:Gu S bks)(U:Au E H S)(hm:P.follows .mixedOrders=true)(K:(b.kind != .early)=true)(ht:DG ops m=true)
  (h:DG ops m=true→AV J Q b n ds ops k cs m (Bb bks) ops.size (Array.replicate ops.size false) L (Ak E H S)):JL J Q b n L ds (.code (.region id ops true)::k) cs (Ak E H S):=
 Oh m (Bb bks) rfl hm K (h ht)
theorem Kw{bks:List Nat}{bk o:Nat}{c:AA}{f:Nat×Nat}{w:Value}{s':St}(j:Nat)(K:Au E H S)(O:S[j]? =some [(bk,.cells c e f)])(U:Bb bks bk=true)(hs:∀x o,(BF (Bb bks) (Ak E H S)).E x=some o→s'.E x=some o)(hw:c[o]? =some w):s'.cell? ⟨bk,o,none⟩=some w:=by
 have V:(BF (Bb bks) (Ak E H S)).E bk=some (.cells c e f):=by
  show(if Bb bks bk then(Ak E H S).get bk else E bk)=_
  rw [if_pos U];exact EN (i:=0) K O rfl
 have W:=hs _ _ V;unfold St.cell? St.get;rw [W];exact hw
theorem UN{bks:List Nat}{bk o:Nat}{c:AA}{f:Nat×Nat}{ws:Lv_}{s':St}(j:Nat)(O:Au E H S)(U:S[j]? =some [(bk,.cells c e f)])(V:Bb bks bk=true)(hs:∀x o,(BF (Bb bks) (Ak E H S)).E x=some o→s'.E x=some o)(hw:(c.toList.drop o).take ws.length=ws):∀q w,ws[q]? =some w→s'.cell? (Addr.add ⟨bk,o,none⟩ q)=some w:=fun q w K=>by
 rw [El rfl]
 refine Kw j O U V hs ?_
 have W:q<ws.length:=(List.getElem?_eq_some_iff.1 K).1
 rw [← hw,List.getElem?_take_of_lt W,List.getElem?_drop,Array.getElem?_toList] at K
 exact K
theorem O9{bks:List Nat}{s':St}(O:Au E H S)(hs:∀x o,(BF (Bb bks) (Ak E H S)).E x=some o→s'.E x=some o)(U:Gu S bks):∀x o,E x=some o→s'.E x=some o:=fun x o K=>hs x o (by
 show(if Bb bks x then(Ak E H S).get x else E x)=some o
 rw [if_neg (fun hd=>by rw [U.free O x hd] at K;cases K)];exact K)
end
end Pal
namespace Pal
open Go Go.Conc
theorem QA{P:Program}{s:St}{ρ:Operand→Value}{x y:Operand}{d:Option Tmp}{t ty e:TypeId}{p:String}{af:Ae_}{g:On_}{kd:IntKind}{α:Type}{xs:List α}{xv:α}{m:Int}{bk c sz:Nat}(hm:ix xs m=some xv)(ht:P.underlying t=some (.slice e))(K:BA P e=some sz)(O:ρ x= .slice (some ⟨bk,0,none⟩) xs.length c)(U:ρ y= .int kd m):
  Yl P ⟨d,.indexAddr t x y,ty,p,af,g⟩ ρ s (.pointer (some ⟨bk,m.toNat*sz,none⟩)):=by
 obtain⟨m,rfl,hm⟩:=GH hm;have V:m<xs.length:=(List.getElem?_eq_some_iff.1 hm).1;have:=Ma (P:=P) (s:=s) (d:=d) (ty:=ty) (p:=p) (af:=af) (g:=g) ht K O U ⟨by omega,by omega⟩;rw [El rfl] at this;simpa using this
end Pal
namespace Pal
open Go Go.Conc
def Hz(ws:Lv_)(q:Nat)(us:Lv_):Lv_:=(A4 ws.toArray q us).toList
theorem Mk{ws us:Lv_}{q:Nat}(h:q+us.length≤ws.length)(j:Nat):(Hz ws q us)[j]? =if q≤j∧j<q+us.length then us[j - q]? else ws[j]? :=by
 unfold Hz;rw [Array.getElem?_toList,Md us _ q (by simpa using h)];simp
theorem T7{l ws us:Lv_}{q:Nat}(h:q+us.length≤ws.length):A4 (l++ws).toArray (l.length+q) us=(l++Hz ws q us).toArray:=by
 apply Array.ext_getElem?;intro j;rw [Md us _ _ (by simp;omega)];simp only [List.getElem?_toArray];by_cases O:l.length+q≤j∧j<l.length+q+us.length
 ·rw [if_pos O,List.getElem?_append_right (by omega),Mk h,if_pos (by omega)];congr 1;omega
 ·rw [if_neg O];rcases Nat.lt_or_ge j l.length with K | K
  ·rw [List.getElem?_append_left K,List.getElem?_append_left K]
  ·rw [List.getElem?_append_right K,List.getElem?_append_right K,Mk h,if_neg (by omega)]
theorem QE{ws us:Lv_}(h:us.length=ws.length):Hz ws 0 us=us:=by
 apply List.ext_getElem?;intro j;rw [Mk (by omega)];split
 ·simp
 ·rename_i K;rw [List.getElem?_eq_none (by omega),List.getElem?_eq_none (by omega)]
theorem Mi{E H:LH}{S:List Seg}{bk:Nat}{l ws:Lv_}{e:TypeId}{f:Nat×Nat}(j:Nat)(K:Au E H S)(O:S[j]? =some [(bk,.cells (l++ws).toArray e f)]):∀q v,ws[q]? =some v→(Ak E H S).cell? (Addr.add ⟨bk,l.length,none⟩ q)=some v:=fun q v U=>by
 rw [El rfl]
 refine Db K O ?_
 simp only [List.getElem?_toArray]
 rw [List.getElem?_append_right (by omega)]
 rw [show l.length+q - l.length=q by omega];exact U
theorem Ux{E H:LH}{S:List Seg}{bk o:Nat}{l ws:Lv_}{e:TypeId}{f:Nat×Nat}{w:Value}(j:Nat)(K:Au E H S)(O:S[j]? =some [(bk,.cells (l++ws).toArray e f)])(U:ws[o]? =some w):(Ak E H S).cell? ⟨bk,l.length+o,none⟩=some w:=by
 have:=Mi j K O o w U
 rwa [El rfl] at this
theorem OW{α:Type}{kk:Nat}{pp:Rp α}{E:LH}{ws us:Lv_}{xs:List α}{m:Int}{x y:α}(W:(rA kk pp).r E ws xs)(hm:ix xs m=some x)(hu:pp.r E us y):(rA kk pp).r E (Hz ws (m.toNat*pp.n) us) (xs.set m.toNat y)∧m.toNat*pp.n+us.length≤ws.length:=by
 have aj:=Gr W;obtain⟨Z,wss,rfl,aa,ab⟩:=W;obtain⟨m,rfl,hm⟩:=GH hm;have ak:m<xs.length:=(List.getElem?_eq_some_iff.1 hm).1;have ae:=pp.len hu;have al:=HO (aa.trans Z.symm) ab;have ag:m*pp.n+us.length≤wss.flatten.length:=by
  rw [aj,ae];have:(m+1)*pp.n≤kk*pp.n:=Nat.mul_le_mul_right _ (by omega);rw [Nat.succ_mul] at this;exact this
 simp only [Int.toNat_natCast];refine⟨⟨by simpa using Z,wss.set m us,?_,by simpa using aa,fun i am an O U=>?_⟩,ag⟩
 ·apply List.ext_getElem?;intro j;rw [Mk ag];have key:∀(wss:List (Lv_)) (m:Nat) (hm:m<wss.length),(∀ws∈wss,ws.length=pp.n)→∀j,(wss.set m us).flatten[j]? =if m*pp.n≤j∧j<m*pp.n+us.length then us[j - m*pp.n]? else wss.flatten[j]? :=by
   intro wss
   induction wss with
   | nil=>intro m hm;simp at hm
   | cons vs wss ao=>
    intro m hm ah j;have ap:vs.length=pp.n:=ah vs (by simp);cases m with
    | zero=>
     simp only [List.set_cons_zero,List.flatten_cons,Nat.zero_mul,Nat.zero_le,true_and,Nat.zero_add,Nat.sub_zero];split
     ·rename_i K;rw [List.getElem?_append_left K]
     ·rename_i K;rw [List.getElem?_append_right (by omega),List.getElem?_append_right (by omega),ae,ap]
    | succ m=>
     simp only [List.set_cons_succ,List.flatten_cons];have V:(m+1)*pp.n=m*pp.n+pp.n:=Nat.succ_mul _ _;rcases Nat.lt_or_ge j vs.length with K | K
     ·rw [List.getElem?_append_left K,List.getElem?_append_left K,if_neg (by omega)]
     ·rw [List.getElem?_append_right K,List.getElem?_append_right K,ao m (by simpa using hm) (fun ws aq=>ah ws (List.mem_cons_of_mem _ aq))];by_cases ai:m*pp.n≤j - vs.length∧j - vs.length<m*pp.n+us.length
      ·rw [if_pos ai,if_pos (by omega)];congr 1;omega
      ·rw [if_neg ai,if_neg (by omega)]
  exact(key wss m (by omega) al j).symm
 ·rw [List.getElem?_set] at O U;by_cases V:m=i
  ·subst V;rw [if_pos rfl,if_pos ak] at O;rw [if_pos rfl,if_pos (by omega)] at U;cases O;cases U;exact hu
  ·rw [if_neg V] at O U;exact ab i am an O U
theorem JM{α:Type}{kk:Nat}{pp:Rp α}{E:LH}{w:Value}{x:α}(h:pp.r E [w] x):(rA kk pp).r E (List.replicate kk w) (List.replicate kk x):=by
 refine⟨by simp,List.replicate kk [w],?_,by simp,fun i y us K hu=>?_⟩
 ·induction kk with
  | zero=>rfl
  | succ k O=>rw [List.replicate_succ,List.replicate_succ,List.flatten_cons,← O];rfl
 ·have U:=List.eq_of_mem_replicate (List.mem_of_getElem? K);have e2:=List.eq_of_mem_replicate (List.mem_of_getElem? hu);subst U e2;exact h
section
variable {P:Program}{J:Judge P}{Q:Gs_}{b:Frame}{n:Nat}{ds:Ld_}{ops:Ao_}{k:Li_}{cs:Lf_}{L:Env}{E H:LH}{S:List Seg}
variable {d:Option Tmp}{x y:Operand}{t u ty e:TypeId}{p:String}{af:Ae_}{g:On_}{i:Nat}{rest:List Nat}{kd:IntKind}{s:St}{ρ:Operand→Value}
theorem Jq{α:Type}{kk:Nat}{pp:Rp α}{ws:Lv_}{xs:List α}{xv:α}{m:Int}{bk o:Nat}(K:(rA kk pp).r E ws xs)(hm:ix xs m=some xv)(ht:P.underlying t=some (.array kk e))(O:BA P e=some pp.n)(U:ρ x= .pointer (some ⟨bk,o,none⟩))(V:ρ y= .int kd m):
  Yl P ⟨d,.indexAddr t x y,ty,p,af,g⟩ ρ s (.pointer (some ⟨bk,o+m.toNat*pp.n,none⟩)):=by
 obtain⟨us,aa,W,Z,ab⟩:=Il K hm;have:=Qp (P:=P) (s:=s) (d:=d) (ty:=ty) (p:=p) (af:=af) (g:=g) ht O U V ⟨W,Z⟩;rw [El rfl] at this;exact this
theorem Kt{bk o:Nat}{l ws us:Lv_}{v:Value}(j:Nat)(U:ops[i]? =some ⟨d,.store t x y,ty,p,af,g⟩)(hw:Bi L ops ⟨d,.store t x y,ty,p,af,g⟩=some true)(V:CZ b n ⟨d,.store t x y,ty,p,af,g⟩=true)(W:Au E H S)
  (Z:ev L x=some (.pointer (some ⟨bk,l.length+o,none⟩))) (aa:ev L y=some v) (K:v.cells.toList=us) (ab:BA P t=some us.length) (ae:∀u∈us,Cx u=true) (ag:S[j]? =some [(bk,.cells (l++ws).toArray e (0,0))]) (hle:o+us.length≤ws.length)
  (h:Au E H (S.set j [(bk,.cells (l++Hz ws o us).toArray e (0,0))])→JL J Q b n (AF L d undef) ds (.inRegion ops rest::k) cs (Ak E H (S.set j [(bk,.cells (l++Hz ws o us).toArray e (0,0))]))):
  JL J Q b n L ds (.inRegion ops (i::rest)::k) cs (Ak E H S):=by
 have ah:v.cells.size=us.length:=by rw [← K];simp
 refine JS.store (v:=v) (off:=l.length+o) j U hw V W Z aa (by rw [ah];exact ab) (by rw [K];exact ae) ag (by simp;omega) fun O=>?_;rw [K,T7 hle] at O ⊢;exact h O
theorem VD{todo:Li_}{K A:Type}{body:K→Option (Bn K A)}{f:Nat}{O:K}{a:A}(U:iter body f O=some a)(I:Env→St→K→Prop)(W:I L s O)
  (round:∀L s x,I L s x→(∀V,body x=some (.done V)→V=a)→(∃st,body x=some st)→(∀L' s' x',I L' s' x'→body x=some (.more x')→JL J Q b n L' ds todo cs s')→JL J Q b n L ds todo cs s):
  JL J Q b n L ds todo cs s:=by
 induction f generalizing L s O with
 | zero=>cases U
 | succ f Z=>
  exact round L s O W (fun V h=>P9 U h) (Qn U) fun L' s' x' aa hb=>Z (Qa U hb) aa
end
end Pal
namespace Pal
open Go Go.Conc
section
variable {P:Program}{s:St}{ρ:Operand→Value}{x y z:Operand}{d:Option Tmp}{t u ty e:TypeId}{p:String}{af:Ae_}{g:On_}{v v':Value}{E:LH}
structure Pk (P:Program) (e:TypeId) (kd:IntKind) (f:Field):Prop where
 ht:P.underlying e=some (.struct #[f])
 hs:P.stoodInHeld e=false
 n1:f.name≠ "_"
 u1:P.underlying f.type=some (.int kd)
 o1:f.offset=0
theorem XX{n:Nat}{kd:IntKind}{a b:Int}(ht:P.underlying t=some (.int kd)){Q:Bool→St→Prop}{X:Halt→St→Prop}(k:Q (a==b) s):lp P (Op.equalIn (n+1) t (.int kd a) (.int kd b)) s Q X:=by
 unfold Op.equalIn;refine AH _ _ (Di ht ?_);simp only [if_true];exact k
theorem U8{n:Nat}{kd:IntKind}{f:Field}{a b:Int}(h:Pk P e kd f){Q:Bool→St→Prop}{X:Halt→St→Prop}(k:Q (decide (a=b)) s):lp P (Op.equalIn (n+2) e (.agg #[.int kd a]) (.agg #[.int kd b])) s Q X:=by
 unfold Op.equalIn;refine AH _ _ (Di h.ht ?_);refine AH (x:=program) _ ?_;show lp P (if P.stoodInHeld e=true then _ else _) s _ _
 rw [if_neg (by rw [h.hs];exact Bool.false_ne_true)];have K:Dl P f.type=some false:=by unfold Dl;rw [h.u1]
 dsimp only;rw [← Array.forIn_toList];simp only [List.forIn_cons,List.forIn_nil];refine AH _ _ (AH _ _ ?_);rw [if_pos h.n1,h.o1];refine AH _ _ (JI (v:= .int kd a) K rfl ?_);refine AH _ _ (JI (v:= .int kd b) K rfl ?_);refine AH _ _ (XX h.u1 ?_);by_cases h:a=b
 ·subst h;simpa [lp,pure] using k
 ·simpa [lp,pure,h] using k
theorem Q6{c:AA}{off:Nat}{w:Value}(ht:Dl P e=some true)(K:BA P e=some 1)(hw:c[off]? =some w){Q:Value→St→Prop}{X:Halt→St→Prop}(k:Q (.agg #[w]) s):lp P (part e c off) s Q X:=by
 unfold Go.part;refine AH (x:=isAgg e) _ (KB ht ?_);simp only [if_true];refine AH (x:=Go.sizeOf e) _ (EV K ?_);have O:c.extract off (off+1)= #[w]:=by
  have U:off<c.size:=(Array.getElem?_eq_some_iff.1 hw).1;apply Array.ext_getElem?;intro j;simp only [Array.getElem?_extract];cases j with
  | zero=>rw [if_pos (by omega)];simpa using hw
  | succ j=>rw [if_neg (by omega)];simp
 show Q (.agg (c.extract off (off+1))) s;rw [O];exact k
theorem VB{n kk:Nat}{kd:IntKind}{f:Field}{ws ws':Lv_}{xs O:List Nat}(ht:P.underlying t=some (.array kk e))(h:Pk P e kd f)(Z:BA P e=some 1)(W:(rA kk (rN kd)).r E ws xs)(ag:(rA kk (rN kd)).r E ws' O)
  {Q:Bool→St→Prop} {X:Halt→St→Prop} (k:Q (decide (xs=O)) s):lp P (Op.equalIn (n+3) t (.agg ws.toArray) (.agg ws'.toArray)) s Q X:=by
 have ah:Dl P e=some true:=by unfold Dl;rw [h.ht]
 have ay:=W.1;have az:=ag.1;have at_:∀{ws:Lv_} {xs:List Nat},(rA kk (rN kd)).r E ws xs→∀i,i<kk→∃a,xs[i]? =some a∧ws[i]? =some (.int kd ((a:Nat):Int)):=by
  intro ws xs W i hi;obtain⟨a,ai⟩:∃a,xs[i]? =some a:=⟨_,List.getElem?_eq_getElem (by rw [W.1];exact hi)⟩;obtain⟨us,al,_,_,am⟩:=Il (m:=(i:Int)) W (by unfold ix;simp;exact ai);have an:us= [.int kd ((a:Nat):Int)]:=al;subst an;have:=am 0 _ rfl;simp [rN] at this;exact⟨_,ai,this⟩
 unfold Op.equalIn;refine AH _ _ (Di ht ?_);refine AH (x:=Go.sizeOf e) _ (EV Z ?_)
 dsimp only;simp only [Std.Legacy.Range.forIn_eq_forIn_range',Std.Legacy.Range.size,Nat.sub_zero,Nat.add_one_sub_one,Nat.div_one];let ao:Nat→Option Bool×Unit→Sem (ForInStep (Option Bool×Unit)):=fun i _=>do
  if !(← Op.equalIn (n+2) e (← Go.part e ws.toArray (i*1)) (← Go.part e ws'.toArray (i*1))) then pure (ForInStep.done (some false,())) else pure (ForInStep.yield (none,()))
 have key:∀(m st:Nat),st+m=kk→(∀i,i<st→xs[i]? =O[i]?)→∀{K:Option Bool×Unit→St→Prop},K (if xs=O then(none,()) else(some false,())) s→lp P (forIn (List.range' st m) (none,()) ao:Sem _) s K X:=by
  intro m
  induction m with
  | zero=>
   intro st ap aa K U;have V:xs=O:=by
    apply List.ext_getElem?;intro i;rcases Nat.lt_or_ge i st with hi | hi
    ·exact aa i hi
    ·rw [List.getElem?_eq_none (by omega),List.getElem?_eq_none (by omega)]
   rw [if_pos V] at U;simp only [List.range'_zero,List.forIn_nil];exact U
  | succ m aq=>
   intro st ap aa K U;simp only [List.range'_succ,List.forIn_cons];obtain⟨a,ab,ar⟩:=at_ W st (by omega);obtain⟨c,ae,au⟩:=at_ ag st (by omega);refine AH _ _ (AH _ _ (Q6 ah Z (by rw [Nat.mul_one];simpa using ar) ?_));refine AH _ _ (Q6 ah Z (by rw [Nat.mul_one];simpa using au) ?_);refine AH _ _ (U8 h ?_);by_cases aj:a=c
   ·subst aj;simp only [decide_true,Bool.not_true,Bool.false_eq_true,if_false,lp,pure];exact aq (st+1) (by omega) (fun i hi=>by
     rcases Nat.lt_or_ge i st with ak | ak
     ·exact aa i ak
     ·obtain rfl:i=st:=by omega
      rw [ab,ae]) U
   ·have av:¬xs=O:=fun q=>aj (by rw [q] at ab;rw [ab] at ae;exact Option.some.inj ae);rw [if_neg av] at U;have aw:¬((a:Nat):Int)=((c:Nat):Int):=by omega
    simp only [aw,decide_false,Bool.not_false,if_true,lp,pure];exact U
 refine AH _ _ (key kk 0 (by omega) (fun i hi=>by omega) ?_);by_cases V:xs=O
 ·rw [if_pos V];simpa [lp,pure,V] using k
 ·rw [if_neg V];simpa [lp,pure,V] using k
def S7(P:Program)(e:TypeId)(kd:IntKind):Prop:=∃f,Pk P e kd f
theorem Vk{kk:Nat}{kd:IntKind}{ws ws':Lv_}{xs K:List Nat}(ht:P.underlying t=some (.array kk e))(hg:P.eqGuardType P.depth t=false)(O:S7 P e kd)(U:BA P e=some 1)(V:(rA kk (rN kd)).r E ws xs)(W:(rA kk (rN kd)).r E ws' K)
  (Z:ρ x= .agg ws.toArray) (aa:ρ y= .agg ws'.toArray):Yl P ⟨d,.binOp .neq t x y u,ty,p,af,g⟩ ρ s (.bool (decide (xs≠K))):=by
 obtain⟨f,h⟩:=O;refine Fx (sm:=do eqGuard .neq t x y (ρ x) (ρ y);binOp .neq t (ρ x) (ρ y)) rfl ?_
 rw [Z,aa];refine AH _ _ (Qk (.inr rfl) hg ?_);have hb:binOp .neq t (.agg ws.toArray) (.agg ws'.toArray)=(do pure (.bool (!(← Op.equal t (.agg ws.toArray) (.agg ws'.toArray))))):=rfl
 rw [hb];refine AH (x:=Op.equal t _ _) _ ?_;unfold Op.equal Op.maxDepth;exact VB ht h U V W ⟨by simp,rfl⟩
end
theorem U6{E H:LH}{S:List Seg}{bk o:Nat}{l ws:Lv_}{e:TypeId}{f:Nat×Nat}{w:Value}(j:Nat)(O:Au E H S)(U:S[j]? =some [(bk,.cells (l++ws).toArray e f)])(K:l[o]? =some w):(Ak E H S).cell? ⟨bk,o,none⟩=some w:=by
 refine Db O U ?_;simp only [List.getElem?_toArray];rw [List.getElem?_append_left (List.getElem?_eq_some_iff.1 K).1];exact K
theorem On{E H:LH}{S:List Seg}{bks:List Nat}{bk:Nat}{l ws:Lv_}{e:TypeId}{f:Nat×Nat}{s':St}(j:Nat)(K:Au E H S)(O:S[j]? =some [(bk,.cells (l++ws).toArray e f)])(U:Bb bks bk=true)(hs:∀x o,(BF (Bb bks) (Ak E H S)).E x=some o→s'.E x=some o):∀q v,ws[q]? =some v→s'.cell? (Addr.add ⟨bk,l.length,none⟩ q)=some v:=fun q v V=>by
 rw [El rfl]
 refine Kw j K O U hs ?_
 simp only [List.getElem?_toArray]
 rw [List.getElem?_append_right (by omega)]
 rw [show l.length+q - l.length=q by omega];exact V
end Pal
namespace Pal
open Go Go.Conc
def Pn(t1 t2:TypeId)(v:Value):Option (Int×Option Int)→Prop
 | none=>v= .nilIface
 | some (m,none)=>v= .iface t1 (.agg #[iV m])
 | some (m,some a)=>v= .iface t2 (.agg #[iV m,iV a])
def Ps:Option (Int×Option Int)→Value
 | some (m,none)=> .agg #[iV m]
 | _=> .agg #[iV 0]
def Pr:Option (Int×Option Int)→Value
 | some (m,some a)=> .agg #[iV m,iV a]
 | _=> .agg #[iV 0,iV 0]
def J8:Option (Int×Option Int)→Bool
 | some (_,none)=>true
 | _=>false
def LB:Option (Int×Option Int)→Bool
 | some (_,some _)=>true
 | _=>false
section
variable {P:Program}{s:St}{ρ:Operand→Value}{x y z:Operand}{d:Option Tmp}{t u ty e xt t1 t2:TypeId}{p:String}{af:Ae_}{g:On_}{v v':Value}{o:Option (Int×Option Int)}
theorem Ua{f1:Array Field}(O:P.underlying t1=some (.struct f1))(K:zeroOf P t1=some (.agg #[iV 0]))(U:t2≠t1)(he:Pn t1 t2 v o)(V:ρ x=v):Yl P ⟨d,.typeAssert x xt t1 true,ty,p,af,g⟩ ρ s (.tuple #[Ps o,.bool (J8 o)]):=by
 refine Fx (sm:=Instr.typeAssert (ρ x) xt t1 true) rfl ?_;rw [V];unfold Instr.typeAssert;refine AH _ _ (Di O ?_)
 match o,he with
 | none,he=>obtain rfl:v= .nilIface:=he;exact AH (x:=zeroValue t1) _ (F5 K ⟨rfl,rfl⟩)
 | some (m,none),he=>obtain rfl:v= .iface t1 (.agg #[iV m]):=he;simp [lp,pure,Ps,J8]
 | some (m,some a),he=>
  obtain rfl:v= .iface t2 (.agg #[iV m,iV a]):=he;simp only [if_neg U];exact AH (x:=zeroValue t1) _ (F5 K ⟨rfl,rfl⟩)
theorem TZ{f1:Array Field}(O:P.underlying t2=some (.struct f1))(K:zeroOf P t2=some (.agg #[iV 0,iV 0]))(U:t1≠t2)(he:Pn t1 t2 v o)(V:ρ x=v):Yl P ⟨d,.typeAssert x xt t2 true,ty,p,af,g⟩ ρ s (.tuple #[Pr o,.bool (LB o)]):=by
 refine Fx (sm:=Instr.typeAssert (ρ x) xt t2 true) rfl ?_;rw [V];unfold Instr.typeAssert;refine AH _ _ (Di O ?_)
 match o,he with
 | none,he=>obtain rfl:v= .nilIface:=he;exact AH (x:=zeroValue t2) _ (F5 K ⟨rfl,rfl⟩)
 | some (m,none),he=>
  obtain rfl:v= .iface t1 (.agg #[iV m]):=he;simp only [if_neg U];exact AH (x:=zeroValue t2) _ (F5 K ⟨rfl,rfl⟩)
 | some (m,some a),he=>obtain rfl:v= .iface t2 (.agg #[iV m,iV a]):=he;simp [lp,pure,Pr,LB]
end
def Tc{P:Program}(J:Judge P)(v:Value)(args:AA)(s:St)(R:Value→St→Prop):Prop:=
 ∀(Q:Gs_) (c:Frame) (cs:Lf_),(∀w s',R w s'→J.ok Q (G (c.finish w) cs) s')→
  lp P (do let d ← Deferred.ofValue v args;invoke d.target d.args) s (fun nx s'=>match nx with
   | .enter f a=>J.ok Q (G (Frame.enter P f a .normal) (c::cs)) s'
   | .round l f K as O=>J.ok Q (G (Frame.round l f K as O .normal) (c::cs)) s'
   | _=>False) (fun _ _=>False)
def EZ{P:Program}(J:Judge P)(v:Value)(args:Lv_)(E:LH)(B:Seg)(R:Value→LH→Seg→Prop):Prop:=
 ∀H,Nd E H B→Tc J v args.toArray (mk E H B) (fun v s'=>∃E' B',Le E E'∧R v E' B'∧Nd E' H B'∧s'=mk E' H B')
section
variable {P:Program}{J:Judge P}{Q:Gs_}{b:Frame}{n:Nat}{L:Env}{ds:Ld_}{k:Li_}{cs:Lf_}{E:LH}{H:LH}{S:List Seg}{i:Nat}{rest:List Nat}{d:Option Tmp}{ty e t:TypeId}{p:String}{af:Ae_}{g:On_}{ops:Ao_}
theorem EZ.ofFn{f:FuncId}{caps vs:Lv_}{B:Seg}{R:Value→LH→Seg→Prop}(hb:D9 P f=true)(h:AU J f (vs++caps) E B R):EZ J (.func (.func f) #[] caps.toArray) vs E B R:=fun H K Q c cs O=>by
 simp only [Deferred.ofValue,bind,Sem.bind,pure,invoke]
 have e: #[]++vs.toArray++caps.toArray=(vs++caps).toArray:=by simp
 rw [e];exact Jh hb (h H K Q c cs O)
theorem UY{x:Operand}{O:Value}{args:Array Operand}{ats:Array TypeId}{s:St}{vs:Lv_}{R:Value→St→Prop}
  (V:ops[i]? =some ⟨d,.call ⟨.value x,args,ats⟩,ty,p,af,g⟩) (hw:Bi L ops ⟨d,.call ⟨.value x,args,ats⟩,ty,p,af,g⟩=some true) (U:((b.kind != .early)&&BE n d)=true)
  (W:ev L x=some O) (Z:evs L args.toList=some vs) (aa:Tc J O vs.toArray s R) (ab:∀v s',R v s'→JL J Q b n (AF L d v) ds (.inRegion ops rest::k) cs s'):
  JL J Q b n L ds (.inRegion ops (i::rest)::k) cs s:=fun T K=>by
 simp only [Bool.and_eq_true] at U
 have ae:args.map (BO T)=vs.toArray:=by
  rw [← Gy K.Gs Z];apply Array.ext';simp
 refine Judge.oper V (Dj K hw) (by simpa using U.1) (.inr fun c ag=>by cases ag) ?_;have hd:lp P (execOp (BO T) ⟨d,.call ⟨.value x,args,ats⟩,ty,p,af,g⟩) s (upon J Q b T ds ops i rest k cs d) (Nk J Q b T ds ops i rest k cs):=by
  have ah:execOp (BO T) ⟨d,.call ⟨.value x,args,ats⟩,ty,p,af,g⟩=(do let d ← Deferred.ofValue O vs.toArray;invoke d.target d.args):=by
   simp only [execOp,resolve,ae,K.Gs _ _ W]
  rw [ah];refine Dv _ (aa Q (fr b T ds (.inRegion ops (i::rest)::k)) cs fun v s' ai=>?_) (fun nx s' h=>?_) (fun _ _ h=>h.elim)
  ·rw [Gm (o:=⟨d,.call ⟨.value x,args,ats⟩,ty,p,af,g⟩) _ _ _ _ _ V];exact ab v s' ai _ (K.put U.2 v)
  ·cases nx <;> first | exact h | exact h.elim
 exact hd
theorem Jo{x:Operand}{O:Value}{args:Array Operand}{ats:Array TypeId}{vs:Lv_}{seg:Seg}{R:Value→LH→Seg→Prop}(j:Nat)
  (ae:EZ J O vs E seg R) (ag:ops[i]? =some ⟨d,.call ⟨.value x,args,ats⟩,ty,p,af,g⟩) (hw:Bi L ops ⟨d,.call ⟨.value x,args,ats⟩,ty,p,af,g⟩=some true) (ah:((b.kind != .early)&&BE n d)=true)
  (K:ev L x=some O) (ai:evs L args.toList=some vs) (U:Au E H S) (V:S[j]? =some seg) (aj:∀v E' seg',Le E E'→R v E' seg'→Au E' H (S.set j seg')→JL J Q b n (AF L d v) ds (.inRegion ops rest::k) cs (Ak E' H (S.set j seg'))):
  JL J Q b n L ds (.inRegion ops (i::rest)::k) cs (Ak E H S):=by
 have W:S.flatten.Perm (seg++(S.set j []).flatten):=(Du (seg':=seg) V).1.trans List.perm_append_comm;have Z:Nd E H (seg++(S.set j []).flatten):=Nd.perm U W;have ak:Ak E H S=mk E (Bm (S.set j []).flatten H) seg:=by
  rw [show Ak E H S=mk E H S.flatten from rfl,EX U W];unfold mk;rw [F6]
 rw [ak];refine UY ag hw ah K ai (ae _ (Nd.front Z)) ?_;rintro v s' ⟨E',B',hle,al,am,rfl⟩;have e2:mk E' (Bm (S.set j []).flatten H) B'=mk E' H (B'++(S.set j []).flatten):=by unfold mk;rw [F6]
 have an:Nd E H (S.set j []).flatten:=by
  have:=Z;rw [Nd.iff] at this ⊢;rw [List.map_append,List.nodup_append] at this;exact⟨this.1.2.1,fun q ao=>this.2 q (List.mem_append_right _ ao)⟩
 refine RJ rfl fun⟨w,ap⟩=>?_;have aq:Nd E' H (S.set j []).flatten:=an.grow fun x K=>by
  have ar:=ap.d x K;have au:Bm B' (Bm (S.set j []).flatten H) x=none:=ar;exact(GZ au).1
 have aa:Nd E' H (B'++(S.set j []).flatten):=Nd.glue am aq;rw [e2];have ab:(B'++(S.set j []).flatten).Perm (S.set j B').flatten:=List.perm_append_comm.trans (Du V).2.symm;rw [EX aa ab];exact aj v E' B' hle al (Nd.perm aa ab)
theorem Qf{bks:List Nat}{m fuel:Nat}{listed:Array Bool}{f:FuncId}{args:Array Operand}{ats:Array TypeId}{vs:Lv_}{seg:Seg}{R:Value→LH→Seg→Prop}(j:Nat)(ai:Gu S bks)(aj:AU J f vs E seg R)(ak:∀v E' B',R v E' B'→B'=seg)(al:Region.ready .any ops listed= [i])
  (am:ops[i]? =some ⟨d,.call ⟨.value (.func f),args,ats⟩,ty,p,af,g⟩) (an:BE n d=true) (hw:Bi L ops ⟨d,.call ⟨.value (.func f),args,ats⟩,ty,p,af,g⟩=some true) (hb:D9 P f=true) (ao:evs L args.toList=some vs) (V:Au E H S) (ap:S[j]? =some seg)
  (aq:∀v E',Le E E'→R v E' seg→Au E' H S→AV J Q b n ds ops k cs m (Bb bks) fuel (Bg listed i) (AF L d v) (Ak E' H S)):
  AV J Q b n ds ops k cs m (Bb bks) (fuel+1) listed L (Ak E H S):=by
 have O:S.flatten.Perm (seg++(S.set j []).flatten):=(Du (seg':=seg) ap).1.trans List.perm_append_comm;have Z:Nd E H (seg++(S.set j []).flatten):=Nd.perm V O;have ar:Ak E H S=mk E (Bm (S.set j []).flatten H) seg:=by
  rw [show Ak E H S=mk E H S.flatten from rfl,EX V O];unfold mk;rw [F6]
 have aa:=Ei.J7 (aj (Bm (S.set j []).flatten H) (Nd.front Z)) (by rintro v s' ⟨E',B',_,_,_,rfl⟩;rfl);rw [← ar] at aa;refine AV.call rfl al am an hw hb ao aa ?_;rintro v aC ⟨⟨E',B',hle,ab,au,rfl⟩,w,av⟩;obtain rfl:=ak _ _ _ ab;have e2:mk E' (Bm (S.set j []).flatten H) B'=mk E' H (B'++(S.set j []).flatten):=by unfold mk;rw [F6]
 have aw:Nd E H (S.set j []).flatten:=by
  have:=Z;rw [Nd.iff] at this ⊢;rw [List.map_append,List.nodup_append] at this;exact⟨this.1.2.1,fun q ay=>this.2 q (List.mem_append_right _ ay)⟩
 have az:Nd E' H (S.set j []).flatten:=aw.grow fun x U=>by
  have aA:=av.d x U;have W:Bm B' (Bm (S.set j []).flatten H) x=none:=aA;exact(GZ W).1
 have ae:Nd E' H (B'++(S.set j []).flatten):=Nd.glue au az;have ag:Au E' H S:=Nd.perm ae O.symm;rw [e2,EX ae O.symm];refine⟨rfl,fun x o U=>?_,aq v E' hle ab ag⟩;by_cases hd:Bb bks x=true
 ·obtain⟨aD,o',ah⟩:=ai.mem x (by simpa [Bb] using hd);have W:(Ak E H S).get x=some o':=EN (i:=0) V ah rfl;have aB:(Ak E' H S).get x=some o':=EN (i:=0) ag ah rfl;have K:(if Bb bks x then(Ak E H S).get x else E x)=some o:=U
  show(if Bb bks x then(Ak E' H S).get x else E' x)=some o
  rw [if_pos hd] at K ⊢;rw [aB,← W];exact K
 ·have K:(if Bb bks x then(Ak E H S).get x else E x)=some o:=U
  show(if Bb bks x then(Ak E' H S).get x else E' x)=some o
  rw [if_neg hd] at K ⊢;exact hle _ _ K
theorem Take.YU{bks:List Nat}{m fuel:Nat}{listed:Array Bool}{f:FuncId}{args:Array Operand}{ats:Array TypeId}{vs:Lv_}{R:Value→LH→Seg→Prop}(ag:Gu S bks)(W:Au E H S)(ah:AU J f vs E [] R)
  (ai:ops[i]? =some ⟨d,.call ⟨.value (.func f),args,ats⟩,ty,p,af,g⟩) (hw:Bi L ops ⟨d,.call ⟨.value (.func f),args,ats⟩,ty,p,af,g⟩=some true) (aj:BE n d=true) (hb:D9 P f=true) (ak:evs L args.toList=some vs)
  (al:∀v E' seg',Le E E'→R v E' seg'→Au E' H (S++ [seg'])→AV J Q b n ds ops k cs m (Bb bks) fuel (Bg listed i) (AF L d v) (Ak E' H (S++ [seg']))):
  Take J Q b n ds ops k cs m (Bb bks) fuel listed L (Ak E H S) i:=by
 have am:=Ei.J7 (ah (Bm S.flatten H) trivial) (by rintro v s' ⟨E',B',_,_,_,rfl⟩;rfl);refine⟨_,ai,by simp [Dx],aj,hw,fun ρ Z=>?_⟩;have an:args.map ρ=vs.toArray:=by
  rw [← Gy Z ak];apply Array.ext';simp
 have ao:ρ (.func f)= .func (.func f) #[] #[]:=Z _ _ rfl;simp only [execOp,resolve,bind,Sem.bind,Deferred.ofValue,ao,pure,invoke];have e: #[]++args.map ρ++ #[]=vs.toArray:=by rw [an];simp
 rw [e];refine Jh hb ?_;rw [Ku];refine⟨_,am,?_⟩;rintro v az ⟨⟨E',B',hle,ap,aq,rfl⟩,w,ar⟩;have e2:mk E' (Bm S.flatten H) B'=mk E' H (B'++S.flatten):=by unfold mk;rw [F6]
 have au:Nd E' H S.flatten:=Nd.grow W fun x O=>by
  have av:=ar.d x O;have U:Bm B' (Bm S.flatten H) x=none:=av;exact(GZ U).1
 have aa:Nd E' H (B'++S.flatten):=Nd.glue aq au;have ab:(B'++S.flatten).Perm (S++ [B']).flatten:=by rw [FT];exact List.perm_append_comm
 have ae:Au E' H (S++ [B']):=Nd.perm aa ab;rw [e2,EX aa ab];refine⟨rfl,fun x o O=>?_,al v E' B' hle ap ae⟩;by_cases hd:Bb bks x=true
 ·obtain⟨j,o',V⟩:=ag.mem x (by simpa [Bb] using hd);have U:(Ak E H S).get x=some o':=EN (i:=0) W V rfl;have aw:j<S.length:=(List.getElem?_eq_some_iff.1 V).1;have ay:(Ak E' H (S++ [B'])).get x=some o':=EN (i:=0) ae (by rw [List.getElem?_append_left aw];exact V) rfl;have K:(if Bb bks x then(Ak E H S).get x else E x)=some o:=O
  show(if Bb bks x then(Ak E' H (S++ [B'])).get x else E' x)=some o
  rw [if_pos hd] at K ⊢;rw [ay,← U];exact K
 ·have K:(if Bb bks x then(Ak E H S).get x else E x)=some o:=O
  show(if Bb bks x then(Ak E' H (S++ [B'])).get x else E' x)=some o
  rw [if_neg hd] at K ⊢;exact hle _ _ K
theorem Take.Np{m fuel:Nat}{listed:Array Bool}{f:FuncId}{args:Array Operand}{ats:Array TypeId}{vs:Lv_}{R:Value→LH→Seg→Prop}(O:Au E H S)(U:AU J f vs E [] R)
  (V:ops[i]? =some ⟨d,.call ⟨.value (.func f),args,ats⟩,ty,p,af,g⟩) (hw:Bi L ops ⟨d,.call ⟨.value (.func f),args,ats⟩,ty,p,af,g⟩=some true) (W:BE n d=true) (hb:D9 P f=true) (Z:evs L args.toList=some vs)
  (K:∀v E' seg',Le E E'→R v E' seg'→Au E' H (S++ [seg'])→AV J Q b n ds ops k cs m C9 fuel (Bg listed i) (AF L d v) (Ak E' H (S++ [seg']))):
  Take J Q b n ds ops k cs m C9 fuel listed L (Ak E H S) i:=by
 have e:Bb []=C9:=by funext x;rfl
 rw [← e] at K ⊢;exact Take.YU (bks:= []) trivial O U V hw W hb Z K
end
end Pal
